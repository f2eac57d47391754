import PyProof.Rows.All
import PyFlatLaws
import Wide.All
import OpenK.AllK
import Wide.FinOn
import PyProof.EqAt
import PyProof.EqKinds
import PyProof.TupleCall
import KE.SortData
import HandS.ForSpec
import HandS.Comp
import HandS.Iter
import HandS.Deep
import HandS.Style
import HandS.Conv
import KE.GoesComp
import KE.GoesRaise
import HandS.ExcInit
import HandS.ExcField
import HandS.HeadHook1
import HandS.Walk
import HandS.Head4
import HandS.HeadHook2
import Open.SpecLaws
import KE.OsGo
import PySem.Challenge.RW_oneindex_s01_answers
set_option linter.all false
set_option Elab.async false
set_option maxRecDepth 10000
/-! Plain laws: the specification's words as the program's loops reckon them. -/
namespace One
open VaidxBase (Group Table Filter Question Index Gone Work)
open Vaidxb (Done)

theorem drop_cons {α : Type} : ∀ {l : List α} {i : Nat} {x : α}, l[i]? = some x → l.drop i = x :: l.drop (i + 1)
  | [], i, x, h => by simp at h
  | a :: l, 0, x, h => by
    have e : a = x := Option.some.inj h
    subst e
    rfl
  | a :: l, i + 1, x, h => drop_cons (l := l) (i := i) (x := x) h

theorem take_more {α : Type} : ∀ {l : List α} {i : Nat} {x : α}, l[i]? = some x → l.take (i + 1) = l.take i ++ [x]
  | [], i, x, h => by simp at h
  | a :: l, 0, x, h => by
    have e : a = x := Option.some.inj h
    subst e
    rfl
  | a :: l, i + 1, x, h => by
    have ih := take_more (l := l) (i := i) (x := x) h
    show a :: l.take (i + 1) = a :: l.take i ++ [x]
    rw [ih]
    rfl

/-! ### how many rows -/
theorem foldl_add (l : List Nat) : ∀ a : Nat, l.foldl (fun a b => a + b) a = a + l.sum := by
  induction l with
  | nil => intro a; simp
  | cons x r ih => intro a; rw [List.foldl_cons, ih, List.sum_cons]; omega
theorem rowsOf_sum (l : List Group) : VaidxBase.rowsOf l = (l.map fun g => g.count).sum := by
  unfold VaidxBase.rowsOf
  rw [foldl_add]
  omega
theorem rowsOf_nil : VaidxBase.rowsOf [] = 0 := rfl
theorem rowsOf_cons (g : Group) (l : List Group) : VaidxBase.rowsOf (g :: l) = g.count + VaidxBase.rowsOf l := by
  rw [rowsOf_sum, rowsOf_sum, List.map_cons, List.sum_cons]

/-! ### equal keys -/
theorem equalKeys_cons (q : Question) (c : Nat) (l : List Nat) : VaidxBase.equalKeys q (c :: l) = if VaidxBase.equalOn q c = true then VaidxBase.equalKeys q l + 1 else 0 := rfl
theorem equalKeys_le (q : Question) : ∀ l : List Nat, VaidxBase.equalKeys q l ≤ l.length
  | [] => Nat.le_refl _
  | c :: l => by
    rw [equalKeys_cons, List.length_cons]
    have := equalKeys_le q l
    split <;> omega

/-! ### what's needed, each column once -/
def once (l : List Nat) : List Nat := l.foldl (fun a c => if a.contains c then a else a ++ [c]) []
theorem once_more {l : List Nat} {i c : Nat} (h : l[i]? = some c) : once (l.take (i + 1)) = if (once (l.take i)).contains c then once (l.take i) else once (l.take i) ++ [c] := by
  unfold once
  rw [take_more h, List.foldl_append]
  rfl
theorem once_find_aux (p : Nat → Bool) : ∀ (l a : List Nat), (l.foldl (fun a c => if a.contains c then a else a ++ [c]) a).find? p = (a ++ l).find? p
  | [], a => by simp
  | c :: r, a => by
    rw [List.foldl_cons, once_find_aux p r]
    by_cases h : a.contains c = true
    · rw [if_pos h]
      have hm : c ∈ a := by simpa using h
      rw [List.find?_append, List.find?_append, List.find?_cons]
      cases e : a.find? p with
      | some x => rfl
      | none =>
        have hc := List.find?_eq_none.mp e c hm
        cases hp : p c with
        | true => exact absurd hp hc
        | false => rfl
    · rw [if_neg h, List.append_assoc]
      rfl
theorem once_find (p : Nat → Bool) (l : List Nat) : (once l).find? p = l.find? p := by
  unfold once
  rw [once_find_aux]
  rfl
theorem once_len_aux : ∀ (l a : List Nat), (l.foldl (fun a c => if a.contains c then a else a ++ [c]) a).length ≤ a.length + l.length
  | [], a => Nat.le_refl _
  | c :: r, a => by
    rw [List.foldl_cons]
    have := once_len_aux r (if a.contains c then a else a ++ [c])
    refine Nat.le_trans this ?_
    split
    · rw [List.length_cons]; omega
    · rw [List.length_append, List.length_cons, List.length_cons, List.length_nil]; omega
theorem once_len (l : List Nat) : (once l).length ≤ l.length := by
  have := once_len_aux l []
  simpa [once] using this
theorem covers_lacking (i : Index) (q : Question) : VaidxBase.covers i q = (Vaidxb.lacking i q).isNone := by
  unfold VaidxBase.covers Vaidxb.lacking
  induction VaidxBase.needed q with
  | nil => rfl
  | cons c l ih =>
    rw [List.all_cons, List.find?_cons, ih]
    cases (VaidxBase.columnsOf i).contains c <;> rfl

/-! ### whether the order is free -/
theorem starts_off : ∀ l m : List Nat, VaidxBase.startsWith l m = (Vaidxb.firstOff l m).isNone
  | [], m => by simp [VaidxBase.startsWith, Vaidxb.firstOff]
  | c :: l, [] => by simp [VaidxBase.startsWith, Vaidxb.firstOff]
  | c :: l, d :: m => by
    have ih := starts_off l m
    unfold VaidxBase.startsWith at ih ⊢
    unfold Vaidxb.firstOff
    by_cases h : c = d
    · subst h
      rw [if_pos rfl, ← ih, List.length_cons, List.take_succ_cons]
      show (c == c && (List.take l.length m == l)) = _
      rw [beq_self_eq_true, Bool.true_and]
    · rw [if_neg h, List.length_cons, List.take_succ_cons]
      show (d == c && (List.take l.length m == l)) = _
      have : (d == c) = false := beq_eq_false_iff_ne.mpr fun e => h e.symm
      rw [this, Bool.false_and]
      rfl
theorem free_unfree (i : Index) (q : Question) : VaidxBase.isFree i q = (Vaidxb.unfree i q).isNone := starts_off _ _
theorem firstOff_step {l m : List Nat} {i c : Nat} (h : l[i]? = some c) : Vaidxb.firstOff (l.drop i) (m.drop i) = if m[i]? = some c then Vaidxb.firstOff (l.drop (i + 1)) (m.drop (i + 1)) else some c := by
  rw [drop_cons h]
  cases e : m[i]? with
  | none =>
    have : m.drop i = [] := List.drop_eq_nil_iff.mpr (List.getElem?_eq_none_iff.mp e)
    rw [this, if_neg (by simp)]
    rfl
  | some d =>
    rw [drop_cons e]
    show (if c = d then _ else _) = _
    by_cases hd : c = d
    · rw [if_pos hd, if_pos (by rw [hd])]
    · rw [if_neg hd, if_neg (fun z => hd (Option.some.inj z).symm)]
theorem firstOff_nil (m : List Nat) : Vaidxb.firstOff [] m = none := by cases m <;> rfl

/-! ### whether the index serves: which column, if not -/
theorem unserved_eq (i : Index) (q : Question) : Vaidxb.unserved i q = if VaidxBase.serves i q then none else i.only.map fun f => f.col := rfl
theorem only_of_not_serves {i : Index} {q : Question} (h : VaidxBase.serves i q = false) : ∃ f, i.only = some f := by
  cases e : i.only with
  | some f => exact ⟨f, rfl⟩
  | none =>
    unfold VaidxBase.serves at h
    rw [e] at h
    cases h
end One
set_option Elab.async false
set_option maxRecDepth 10000
/-! Sorting: the specification's insertions against the one list that is in order. -/
namespace One
open VaidxBase (Group Table Filter Question Index Gone Work)
open Vaidxb (Done)

/-! ### lists of numbers in their order -/
def lexI : List Int → List Int → Bool
  | [], [] => false
  | [], _ :: _ => true
  | _ :: _, [] => false
  | x :: xs, y :: ys => decide (x < y) || (decide (x = y) && lexI xs ys)
theorem lexI_irrefl : ∀ a : List Int, lexI a a = false
  | [] => rfl
  | x :: xs => by
    have := lexI_irrefl xs
    simp [lexI, this]
theorem lexI_trans : ∀ {a b c : List Int}, lexI a b = true → lexI b c = true → lexI a c = true
  | [], [], c, h, _ => by cases h
  | [], y :: ys, [], _, h => by cases h
  | [], y :: ys, z :: zs, _, _ => rfl
  | x :: xs, [], c, h, _ => by cases h
  | x :: xs, y :: ys, [], _, h => by cases h
  | x :: xs, y :: ys, z :: zs, h1, h2 => by
    simp only [lexI, Bool.or_eq_true, Bool.and_eq_true, decide_eq_true_eq] at h1 h2 ⊢
    rcases h1 with h1 | ⟨h1, h1'⟩
    · rcases h2 with h2 | ⟨h2, _⟩
      · exact .inl (by omega)
      · exact .inl (by omega)
    · rcases h2 with h2 | ⟨h2, h2'⟩
      · exact .inl (by omega)
      · exact .inr ⟨by omega, lexI_trans h1' h2'⟩
theorem lexI_tri : ∀ a b : List Int, lexI a b = true ∨ a = b ∨ lexI b a = true
  | [], [] => .inr (.inl rfl)
  | [], _ :: _ => .inl rfl
  | _ :: _, [] => .inr (.inr rfl)
  | x :: xs, y :: ys => by
    simp only [lexI, Bool.or_eq_true, Bool.and_eq_true, decide_eq_true_eq]
    rcases Int.lt_trichotomy x y with h | h | h
    · exact .inl (.inl h)
    · subst h
      rcases lexI_tri xs ys with h | h | h
      · exact .inl (.inr ⟨rfl, h⟩)
      · exact .inr (.inl (by rw [h]))
      · exact .inr (.inr (.inr ⟨rfl, h⟩))
    · exact .inr (.inr (.inl h))
theorem lexI_asymm {a b : List Int} (h : lexI a b = true) : lexI b a = false := by
  cases e : lexI b a with
  | false => rfl
  | true =>
    have := lexI_trans h e
    rw [lexI_irrefl] at this
    cases this

/-- by the key, then by the place -/
def before2 (a b : List Int × Nat) : Prop := lexI a.1 b.1 = true ∨ (a.1 = b.1 ∧ a.2 < b.2)
theorem before2_asymm {a b : List Int × Nat} (h : before2 a b) : ¬ before2 b a := by
  rintro (h' | ⟨h', h''⟩)
  · rcases h with h | ⟨h, _⟩
    · rw [lexI_asymm h] at h'; cases h'
    · rw [h, lexI_irrefl] at h'; cases h'
  · rcases h with h | ⟨_, h⟩
    · rw [h', lexI_irrefl] at h; cases h
    · omega

/-- one list alone is in order -/
theorem one_order {α : Type} {R : α → α → Prop} (asy : ∀ a b, R a b → ¬ R b a) : ∀ {l m : List α}, l.Perm m → l.Pairwise R → m.Pairwise R → l = m
  | [], m, p, _, _ => (List.nil_perm.mp p).symm
  | a :: l, [], p, _, _ => by have := p.length_eq; simp at this
  | a :: l, b :: m, p, h1, h2 => by
    rw [List.pairwise_cons] at h1 h2
    have e : a = b := by
      have ma : a ∈ b :: m := p.subset List.mem_cons_self
      have mb : b ∈ a :: l := p.symm.subset List.mem_cons_self
      rcases List.mem_cons.mp ma with e | ma
      · exact e
      · rcases List.mem_cons.mp mb with e | mb
        · exact e.symm
        · exact absurd (h1.1 b mb) (asy _ _ (h2.1 a ma))
    subst e
    have p' := List.Perm.cons_inv p
    rw [one_order asy p' h1.2 h2.2]

/-! ### put in one after the other -/
def ins {α : Type} (lt : α → α → Bool) (x : α) : List α → List α
  | [] => [x]
  | h :: l => if lt x h then x :: h :: l else h :: ins lt x l
def insAll {α : Type} (lt : α → α → Bool) (l : List α) : List α := l.foldl (fun k g => ins lt g k) []
theorem ins_perm {α : Type} (lt : α → α → Bool) (x : α) : ∀ l : List α, (ins lt x l).Perm (x :: l)
  | [] => List.Perm.refl _
  | h :: l => by
    unfold ins
    split
    · exact List.Perm.refl _
    · exact ((ins_perm lt x l).cons h).trans (List.Perm.swap x h l)
theorem insAll_perm_aux {α : Type} (lt : α → α → Bool) : ∀ (l a : List α), (l.foldl (fun k g => ins lt g k) a).Perm (a ++ l)
  | [], a => by simp
  | x :: r, a => by
    rw [List.foldl_cons]
    refine (insAll_perm_aux lt r _).trans ?_
    refine ((ins_perm lt x a).append_right r).trans ?_
    exact (List.perm_middle (l₁ := a) (a := x) (l₂ := r)).symm
theorem insAll_perm {α : Type} (lt : α → α → Bool) (l : List α) : (insAll lt l).Perm l := by
  have := insAll_perm_aux lt l []
  simpa [insAll] using this
section
variable {α : Type} {key : α → List Int} {ix : α → Nat}
/-- what comes in has the greatest place so far -/
theorem ins_order (x : α) : ∀ l : List α, l.Pairwise (fun a b => before2 (key a, ix a) (key b, ix b)) → (∀ y ∈ l, ix y < ix x) →
    (ins (fun a b => lexI (key a) (key b)) x l).Pairwise (fun a b => before2 (key a, ix a) (key b, ix b))
  | [], _, _ => by simp [ins]
  | h :: l, p, hx => by
    rw [List.pairwise_cons] at p
    unfold ins
    by_cases c : lexI (key x) (key h) = true
    · rw [if_pos c]
      refine List.pairwise_cons.mpr ⟨fun y hy => ?_, List.pairwise_cons.mpr p⟩
      rcases List.mem_cons.mp hy with e | hy
      · rw [e]; exact .inl c
      · rcases p.1 y hy with q | ⟨q, _⟩
        · exact .inl (lexI_trans c q)
        · left
          show lexI (key x) (key y) = true
          have q : key h = key y := q
          rw [← q]; exact c
    · rw [if_neg c]
      have hh := hx h List.mem_cons_self
      refine List.pairwise_cons.mpr ⟨fun y hy => ?_, ins_order x l p.2 fun y hy => hx y (List.mem_cons_of_mem _ hy)⟩
      rcases List.mem_cons.mp ((ins_perm _ x l).subset hy) with e | hy
      · rw [e]
        rcases lexI_tri (key h) (key x) with q | q | q
        · exact .inl q
        · exact .inr ⟨q, hh⟩
        · exact absurd q c
      · exact p.1 y hy
theorem insAll_order_aux : ∀ (l a : List α), a.Pairwise (fun a b => before2 (key a, ix a) (key b, ix b)) → l.Pairwise (fun a b => ix a < ix b) → (∀ y ∈ a, ∀ x ∈ l, ix y < ix x) →
    (l.foldl (fun k g => ins (fun a b => lexI (key a) (key b)) g k) a).Pairwise (fun a b => before2 (key a, ix a) (key b, ix b))
  | [], a, p, _, _ => p
  | x :: r, a, p, h, hx => by
    rw [List.pairwise_cons] at h
    rw [List.foldl_cons]
    refine insAll_order_aux r _ (ins_order x a p fun y hy => hx y hy x List.mem_cons_self) h.2 fun y hy z hz => ?_
    rcases List.mem_cons.mp ((ins_perm _ x a).subset hy) with e | hy
    · rw [e]; exact h.1 z hz
    · exact hx y hy z (List.mem_cons_of_mem _ hz)
theorem insAll_order {l : List α} (h : l.Pairwise (fun a b => ix a < ix b)) : (insAll (fun a b => lexI (key a) (key b)) l).Pairwise (fun a b => before2 (key a, ix a) (key b, ix b)) :=
  insAll_order_aux l [] List.Pairwise.nil h fun _ hy => by cases hy
/-- THE LAW: what is in order by key and place, and has the same items, is what the insertions make -/
theorem order_is {l m : List α} (h : l.Pairwise (fun a b => ix a < ix b)) (p : m.Perm l) (s : m.Pairwise (fun a b => before2 (key a, ix a) (key b, ix b))) : m = insAll (fun a b => lexI (key a) (key b)) l :=
  one_order (R := fun a b => before2 (key a, ix a) (key b, ix b)) (fun a b => before2_asymm) (p.trans (insAll_perm _ l).symm) s (insAll_order h)
end
theorem ins_map {α β : Type} {lt : α → α → Bool} {lt' : β → β → Bool} (f : α → β) (h : ∀ a b, lt' (f a) (f b) = lt a b) (x : α) : ∀ l : List α, (ins lt x l).map f = ins lt' (f x) (l.map f)
  | [] => rfl
  | y :: l => by
    unfold ins
    rw [List.map_cons]
    show _ = if lt' (f x) (f y) = true then _ else _
    rw [h]
    by_cases c : lt x y = true
    · rw [if_pos c, if_pos c]; rfl
    · rw [if_neg c, if_neg c, List.map_cons, ins_map f h x l]
theorem insAll_map_aux {α β : Type} {lt : α → α → Bool} {lt' : β → β → Bool} (f : α → β) (h : ∀ a b, lt' (f a) (f b) = lt a b) : ∀ l a : List α, (l.foldl (fun k g => ins lt g k) a).map f = (l.map f).foldl (fun k g => ins lt' g k) (a.map f)
  | [], a => rfl
  | x :: r, a => by rw [List.foldl_cons, insAll_map_aux f h r, ins_map f h]; rfl
theorem insAll_map {α β : Type} {lt : α → α → Bool} {lt' : β → β → Bool} (f : α → β) (h : ∀ a b, lt' (f a) (f b) = lt a b) (l : List α) : (insAll lt l).map f = insAll lt' (l.map f) := insAll_map_aux f h l []

/-! ### the specification's own words -/
def keyOf (cs : List Nat) (r : List Nat) : List Int := cs.map fun c => ((VaidxBase.valueAt r c : Nat) : Int)
theorem less_key : ∀ (cs r s : List Nat), VaidxBase.less cs r s = lexI (keyOf cs r) (keyOf cs s)
  | [], r, s => rfl
  | c :: cs, r, s => by
    have ih := less_key cs r s
    unfold VaidxBase.less
    show _ = (decide (((VaidxBase.valueAt r c : Nat) : Int) < ((VaidxBase.valueAt s c : Nat) : Int)) || (decide (((VaidxBase.valueAt r c : Nat) : Int) = ((VaidxBase.valueAt s c : Nat) : Int)) && lexI (keyOf cs r) (keyOf cs s)))
    rw [ih]
    have e1 : decide (((VaidxBase.valueAt r c : Nat) : Int) < ((VaidxBase.valueAt s c : Nat) : Int)) = decide (VaidxBase.valueAt r c < VaidxBase.valueAt s c) := by
      by_cases h : VaidxBase.valueAt r c < VaidxBase.valueAt s c
      · rw [decide_eq_true h, decide_eq_true (by omega)]
      · rw [decide_eq_false h, decide_eq_false (by omega)]
    have e2 : decide (((VaidxBase.valueAt r c : Nat) : Int) = ((VaidxBase.valueAt s c : Nat) : Int)) = (VaidxBase.valueAt r c == VaidxBase.valueAt s c) := by
      by_cases h : VaidxBase.valueAt r c = VaidxBase.valueAt s c
      · rw [decide_eq_true (by omega), h, beq_self_eq_true]
      · rw [decide_eq_false (by omega)]; exact (beq_eq_false_iff_ne.mpr h).symm
    rw [e1, e2]
theorem putGroup_ins (cs : List Nat) (g : Group) : ∀ l : List Group, VaidxBase.putGroup cs g l = ins (fun a b => lexI (keyOf cs a.row) (keyOf cs b.row)) g l
  | [] => rfl
  | h :: l => by
    unfold VaidxBase.putGroup ins
    rw [less_key, putGroup_ins cs g l]
theorem sortedBy_ins (cs : List Nat) (l : List Group) : VaidxBase.sortedBy cs l = insAll (fun a b => lexI (keyOf cs a.row) (keyOf cs b.row)) l := by
  unfold VaidxBase.sortedBy insAll
  have : (fun (k : List Group) (g : Group) => VaidxBase.putGroup cs g k) = fun k g => ins (fun a b => lexI (keyOf cs a.row) (keyOf cs b.row)) g k := by
    funext k g; exact putGroup_ins cs g k
  rw [this]
theorem takeWhile_ins {α : Type} (lt : α → α → Bool) (d : α) : ∀ k : List α, (let rec_ := k.takeWhile fun e => !lt d e; rec_ ++ (d :: k.drop rec_.length)) = ins lt d k
  | [] => rfl
  | h :: l => by
    have ih := takeWhile_ins lt d l
    unfold ins
    by_cases c : lt d h = true
    · simp [c]
    · have c' : lt d h = false := by simpa using c
      simp only [List.takeWhile_cons, c', Bool.not_false, if_true, List.length_cons, List.drop_succ_cons, List.cons_append]
      rw [← ih]
      simp
/-- the key by which rows answered are put in order -/
def keyBy (q : Question) (r : List Nat) : List Int := if q.back then (keyOf q.order r).map (fun v => 0 - v) else keyOf q.order r
theorem lexI_neg : ∀ {a b : List Int}, a.length = b.length → lexI (a.map fun v => 0 - v) (b.map fun v => 0 - v) = lexI b a
  | [], [], _ => rfl
  | x :: xs, y :: ys, h => by
    have ih := lexI_neg (a := xs) (b := ys) (by simpa using h)
    simp only [List.map_cons, lexI, ih]
    have e1 : decide (0 - x < 0 - y) = decide (y < x) := by
      by_cases h : y < x
      · rw [decide_eq_true h, decide_eq_true (by omega)]
      · rw [decide_eq_false h, decide_eq_false (by omega)]
    have e2 : decide (0 - x = 0 - y) = decide (y = x) := by
      by_cases h : y = x
      · rw [decide_eq_true h, decide_eq_true (by omega)]
      · rw [decide_eq_false h, decide_eq_false (by omega)]
    rw [e1, e2]
def rowIn (t : Table) (g : Nat) : List Nat := ((t.groups[g]?).map fun g => g.row).getD []
theorem inOrder_ins (t : Table) (q : Question) (l : List Done) : Vaidxb.inOrder t q l = insAll (fun a b => lexI (keyBy q (rowIn t a.group)) (keyBy q (rowIn t b.group))) l := by
  unfold Vaidxb.inOrder insAll
  have : ∀ (k : List Done) (d : Done), (let rec_ := k.takeWhile fun e => !(if q.back then VaidxBase.less q.order (rowIn t e.group) (rowIn t d.group) else VaidxBase.less q.order (rowIn t d.group) (rowIn t e.group)); rec_ ++ (d :: k.drop rec_.length)) = ins (fun a b => lexI (keyBy q (rowIn t a.group)) (keyBy q (rowIn t b.group))) d k := fun k d => by
    rw [← takeWhile_ins]
    have e : (fun e : Done => !(if q.back then VaidxBase.less q.order (rowIn t e.group) (rowIn t d.group) else VaidxBase.less q.order (rowIn t d.group) (rowIn t e.group))) = fun e => !lexI (keyBy q (rowIn t d.group)) (keyBy q (rowIn t e.group)) := by
      funext e
      unfold keyBy
      cases q.back with
      | true =>
        simp only [if_true]
        rw [lexI_neg (by simp [keyOf]), less_key]
      | false =>
        simp only [Bool.false_eq_true, if_false]
        rw [less_key]
    rw [e]
  have e2 : (fun (k : List Done) (d : Done) => let rec_ := k.takeWhile fun e => !(if q.back then VaidxBase.less q.order (rowIn t e.group) (rowIn t d.group) else VaidxBase.less q.order (rowIn t d.group) (rowIn t e.group)); rec_ ++ (d :: k.drop rec_.length)) = fun k d => ins (fun a b => lexI (keyBy q (rowIn t a.group)) (keyBy q (rowIn t b.group))) d k := by
    funext k d; exact this k d
  exact congrArg (fun f => l.foldl f []) e2
end One
set_option Elab.async false
set_option maxRecDepth 10000
set_option linter.unusedVariables false
/-! The groups of a range with their places; the steps; what they come to. -/
namespace One
open VaidxBase (Group Table Filter Question Index Gone Work)
open Vaidxb (Done)

/-! ### groups with their places -/
abbrev GN := Group × Nat
def placed (t : Table) : List GN := t.groups.zipIdx
theorem placed_get {t : Table} {p : GN} (h : p ∈ placed t) : t.groups[p.2]? = some p.1 := by
  obtain ⟨g, n⟩ := p
  have := List.mem_zipIdx_iff_getElem?.mp h
  simpa using this
theorem zipIdx_order {α : Type} : ∀ (l : List α) (k : Nat), (l.zipIdx k).Pairwise (fun a b => a.2 < b.2)
  | [], _ => List.Pairwise.nil
  | x :: l, k => by
    rw [List.zipIdx_cons]
    refine List.pairwise_cons.mpr ⟨fun p hp => ?_, zipIdx_order l (k + 1)⟩
    have := List.le_snd_of_mem_zipIdx hp
    show k < p.2
    omega
theorem placed_order (t : Table) : (placed t).Pairwise (fun a b => a.2 < b.2) := zipIdx_order _ _
theorem placed_fst (t : Table) : (placed t).map (·.1) = t.groups := by
  unfold placed
  simp
theorem placed_snd (t : Table) : (placed t).map (·.2) = List.range t.groups.length := by
  unfold placed
  rw [List.range_eq_range']
  exact List.zipIdx_map_snd 0 t.groups

def inTest (i : Index) (q : Question) (r : List Nat) : Bool := VaidxBase.isIn i r && (VaidxBase.rangeFilters i q).all (VaidxBase.passes r)
def cand (t : Table) (i : Index) (q : Question) : List GN := (placed t).filter fun p => inTest i q p.1.row
def byKey (cs : List Nat) (a b : GN) : Bool := lexI (keyOf cs a.1.row) (keyOf cs b.1.row)
def ranged (t : Table) (i : Index) (q : Question) : List GN := if q.back then (insAll (byKey i.keys) (cand t i q)).reverse else insAll (byKey i.keys) (cand t i q)
theorem cand_order (t : Table) (i : Index) (q : Question) : (cand t i q).Pairwise (fun a b => a.2 < b.2) := (placed_order t).filter _
theorem ranged_mem {t : Table} {i : Index} {q : Question} {p : GN} (h : p ∈ ranged t i q) : p ∈ cand t i q := by
  unfold ranged at h
  split at h
  · exact (insAll_perm _ _).subset (List.mem_reverse.mp h)
  · exact (insAll_perm _ _).subset h
theorem ranged_get {t : Table} {i : Index} {q : Question} {p : GN} (h : p ∈ ranged t i q) : t.groups[p.2]? = some p.1 :=
  placed_get (List.mem_filter.mp (ranged_mem h)).1
theorem ranged_len (t : Table) (i : Index) (q : Question) : (ranged t i q).length ≤ t.groups.length := by
  have h1 : (ranged t i q).length = (cand t i q).length := by
    unfold ranged
    split
    · rw [List.length_reverse]; exact (insAll_perm _ _).length_eq
    · exact (insAll_perm _ _).length_eq
  rw [h1]
  refine Nat.le_trans (List.length_filter_le _ _) ?_
  unfold placed
  simp
theorem insAll_filter (cs : List Nat) (p : GN → Bool) {l : List GN} (h : l.Pairwise (fun a b => a.2 < b.2)) : (insAll (byKey cs) l).filter p = insAll (byKey cs) (l.filter p) := by
  refine order_is (key := fun g => keyOf cs g.1.row) (ix := fun g => g.2) (h.filter _) ((insAll_perm _ l).filter p) ?_
  exact (insAll_order (key := fun g : GN => keyOf cs g.1.row) (ix := fun g => g.2) h).filter _
theorem ranged_entries (t : Table) (i : Index) (q : Question) : VaidxBase.entries t i q = (ranged t i q).map (·.1) := by
  have e1 : t.groups.filter (fun g => VaidxBase.isIn i g.row) = ((placed t).filter fun p => VaidxBase.isIn i p.1.row).map (·.1) := by
    conv => lhs; rw [← placed_fst t]
    rw [List.filter_map]
    rfl
  have e2 : (VaidxBase.sortedBy i.keys (t.groups.filter fun g => VaidxBase.isIn i g.row)).filter (fun g => (VaidxBase.rangeFilters i q).all (VaidxBase.passes g.row)) = (insAll (byKey i.keys) (cand t i q)).map (·.1) := by
    rw [sortedBy_ins, e1, ← insAll_map (lt := byKey i.keys) (fun p : GN => p.1) (fun a b => rfl), List.filter_map]
    show List.map _ (List.filter (fun p : GN => (VaidxBase.rangeFilters i q).all (VaidxBase.passes p.1.row)) _) = _
    rw [insAll_filter _ _ ((placed_order t).filter _), List.filter_filter]
    unfold cand
    have : (fun p : GN => (VaidxBase.rangeFilters i q).all (VaidxBase.passes p.1.row) && VaidxBase.isIn i p.1.row) = fun p : GN => inTest i q p.1.row := by
      funext p
      exact Bool.and_comm _ _
    rw [this]
  unfold VaidxBase.entries ranged
  dsimp only
  rw [e2]
  cases q.back with
  | true => simp
  | false => rfl

/-! ### the steps of a way -/
/-- how a group's rows are told by the program -/
def stepM (q : Question) (lk : Option (List Filter)) (free : Bool) (p : GN) (left : Nat) : Done :=
  let fnd := VaidxBase.found q p.1.row
  let k := if fnd = true ∧ free = true ∧ 0 < q.limit then min p.1.count left else p.1.count
  ⟨p.2, k, match lk with | none => 0 | some fs => if fs.all (VaidxBase.passes p.1.row) then k else 0, if fnd then k else 0⟩
def leftM (q : Question) (free : Bool) (p : GN) (left : Nat) : Nat :=
  if VaidxBase.found q p.1.row = true ∧ free = true ∧ 0 < q.limit then left - min p.1.count left else left
def endM (q : Question) (free : Bool) (left : Nat) : Bool := free && decide (0 < q.limit) && decide (left = 0)
def stepsM (q : Question) (lk : Option (List Filter)) (free : Bool) : List GN → Nat → List Done
  | [], _ => []
  | p :: r, left => stepM q lk free p left :: if endM q free (leftM q free p left) then [] else stepsM q lk free r (leftM q free p left)
theorem stepsM_cons (q : Question) (lk : Option (List Filter)) (free : Bool) (p : GN) (r : List GN) (left : Nat) :
    stepsM q lk free (p :: r) left = stepM q lk free p left :: if endM q free (leftM q free p left) then [] else stepsM q lk free r (leftM q free p left) := rfl
theorem stepsM_len (q : Question) (lk : Option (List Filter)) (free : Bool) : ∀ (l : List GN) (left : Nat), (stepsM q lk free l left).length ≤ l.length
  | [], _ => Nat.le_refl _
  | p :: r, left => by
    rw [stepsM_cons, List.length_cons, List.length_cons]
    split
    · simp
    · have := stepsM_len q lk free r (leftM q free p left)
      omega
/-- the limit that ends a way -/
def lim (q : Question) (free : Bool) : Nat := if free then q.limit else 0

def cutK (last : Bool) (limit n count : Nat) : Nat := if limit ≠ 0 ∧ last = true ∧ limit - n < count then limit - n else count
theorem traced_go {t : Table} {own last : List Nat → Bool} {covers : Bool} {limit n : Nat} {h : Group} {l : List Group} (c : ¬ (limit ≠ 0 ∧ limit - n = 0)) :
    Vaidxb.traced t own last covers limit (h :: l) n = ⟨Vaidxb.placeOf t h, cutK (last h.row) limit n h.count, if own h.row && !covers then cutK (last h.row) limit n h.count else 0, if last h.row then cutK (last h.row) limit n h.count else 0⟩ ::
      Vaidxb.traced t own last covers limit l (n + if last h.row then cutK (last h.row) limit n h.count else 0) := by
  conv => lhs; unfold Vaidxb.traced
  exact if_neg c
theorem traced_stop {t : Table} {own last : List Nat → Bool} {covers : Bool} {limit n : Nat} (c : limit ≠ 0 ∧ limit - n = 0) : ∀ l : List Group, Vaidxb.traced t own last covers limit l n = []
  | [] => rfl
  | h :: l => by
    conv => lhs; unfold Vaidxb.traced
    exact if_pos c
theorem stepsM_traced {t : Table} {q : Question} {own : List Nat → Bool} {covers free : Bool} {lk : Option (List Filter)}
    (hlk : ∀ r k, (match lk with | none => 0 | some fs => if fs.all (VaidxBase.passes r) then k else 0) = (if own r && !covers then k else 0 : Nat)) :
    ∀ (l : List GN) (n left : Nat), (∀ p ∈ l, Vaidxb.placeOf t p.1 = p.2) → (lim q free ≠ 0 → n < lim q free ∧ left = lim q free - n) →
      stepsM q lk free l left = Vaidxb.traced t own (VaidxBase.found q) covers (lim q free) (l.map (·.1)) n
  | [], n, left, _, _ => rfl
  | p :: r, n, left, hp, hn => by
    have pl := hp p List.mem_cons_self
    rw [stepsM_cons, List.map_cons, traced_go (fun z => by have := hn z.1; omega), pl]
    by_cases hl : lim q free = 0
    · -- no limit
      have hF : ¬ (free = true ∧ 0 < q.limit) := fun ⟨a, b⟩ => by
        unfold lim at hl; rw [if_pos a] at hl; omega
      have ek : cutK (VaidxBase.found q p.1.row) (lim q free) n p.1.count = p.1.count := if_neg fun z => z.1 hl
      have e1 : stepM q lk free p left = ⟨p.2, p.1.count, if own p.1.row && !covers then p.1.count else 0, if VaidxBase.found q p.1.row then p.1.count else 0⟩ := by
        have : (if VaidxBase.found q p.1.row = true ∧ free = true ∧ 0 < q.limit then min p.1.count left else p.1.count) = p.1.count := if_neg fun z => hF z.2
        unfold stepM
        dsimp only
        rw [this, hlk]
      have e2 : leftM q free p left = left := if_neg fun z => hF z.2
      have e3 : endM q free left = false := by
        unfold endM
        cases hf : free with
        | false => rfl
        | true =>
          have : ¬ 0 < q.limit := fun z => hF ⟨hf, z⟩
          simp [this]
      have ih := stepsM_traced hlk r (n + if VaidxBase.found q p.1.row then p.1.count else 0) left (fun x hx => hp x (List.mem_cons_of_mem _ hx)) (fun z => absurd hl z)
      rw [e1, e2, e3, ek, ← ih]
      rfl
    · obtain ⟨hnl, rfl⟩ := hn hl
      have hF : free = true ∧ 0 < q.limit := by
        unfold lim at hl
        cases hf : free with
        | false => rw [hf] at hl; simp at hl
        | true => rw [hf] at hl; simp at hl; exact ⟨rfl, by omega⟩
      cases hfo : VaidxBase.found q p.1.row with
      | false =>
        have ek : cutK false (lim q free) n p.1.count = p.1.count := if_neg fun z => Bool.false_ne_true z.2.1
        have e1 : stepM q lk free p (lim q free - n) = ⟨p.2, p.1.count, if own p.1.row && !covers then p.1.count else 0, 0⟩ := by
          have : (if VaidxBase.found q p.1.row = true ∧ free = true ∧ 0 < q.limit then min p.1.count (lim q free - n) else p.1.count) = p.1.count := if_neg fun z => by rw [hfo] at z; exact Bool.false_ne_true z.1
          unfold stepM
          dsimp only
          rw [this, hlk, hfo]
          rfl
        have e2 : leftM q free p (lim q free - n) = lim q free - n := if_neg (by rw [hfo]; simp)
        have e3 : endM q free (lim q free - n) = false := by
          have : decide (lim q free - n = 0) = false := decide_eq_false (show ¬ lim q free - n = 0 by omega)
          unfold endM
          rw [this, Bool.and_false]
        have ih := stepsM_traced hlk r n (lim q free - n) (fun x hx => hp x (List.mem_cons_of_mem _ hx)) (fun _ => ⟨hnl, rfl⟩)
        rw [e1, e2, e3, ek]
        show _ :: stepsM q lk free r (lim q free - n) = _ :: Vaidxb.traced t own (VaidxBase.found q) covers (lim q free) (r.map (·.1)) (n + 0)
        rw [ih]
        rfl
      | true =>
        have ek : cutK true (lim q free) n p.1.count = min p.1.count (lim q free - n) := by
          unfold cutK
          by_cases c : lim q free - n < p.1.count
          · rw [if_pos ⟨hl, rfl, c⟩]; omega
          · rw [if_neg (fun z => c z.2.2)]; omega
        have e1 : stepM q lk free p (lim q free - n) = ⟨p.2, min p.1.count (lim q free - n), if own p.1.row && !covers then min p.1.count (lim q free - n) else 0, min p.1.count (lim q free - n)⟩ := by
          have : (if VaidxBase.found q p.1.row = true ∧ free = true ∧ 0 < q.limit then min p.1.count (lim q free - n) else p.1.count) = min p.1.count (lim q free - n) := if_pos ⟨hfo, hF⟩
          unfold stepM
          dsimp only
          rw [this, hlk, hfo]
          rfl
        have e2 : leftM q free p (lim q free - n) = lim q free - n - min p.1.count (lim q free - n) := if_pos ⟨hfo, hF⟩
        rw [e1, e2, ek]
        show _ :: (if endM q free (lim q free - n - min p.1.count (lim q free - n)) = true then [] else stepsM q lk free r (lim q free - n - min p.1.count (lim q free - n))) = _ :: Vaidxb.traced t own (VaidxBase.found q) covers (lim q free) (r.map (·.1)) (n + min p.1.count (lim q free - n))
        have e4 : (if endM q free (lim q free - n - min p.1.count (lim q free - n)) = true then [] else stepsM q lk free r (lim q free - n - min p.1.count (lim q free - n))) = Vaidxb.traced t own (VaidxBase.found q) covers (lim q free) (r.map (·.1)) (n + min p.1.count (lim q free - n)) := by
          by_cases c : lim q free - n - min p.1.count (lim q free - n) = 0
          · have e3 : endM q free (lim q free - n - min p.1.count (lim q free - n)) = true := by
              unfold endM
              rw [decide_eq_true c, decide_eq_true hF.2, hF.1] <;> rfl
            rw [if_pos e3, traced_stop ⟨hl, by omega⟩]
          · have e3 : endM q free (lim q free - n - min p.1.count (lim q free - n)) = false := by
              unfold endM
              rw [decide_eq_false c, Bool.and_false]
            rw [e3, if_neg Bool.false_ne_true]
            exact stepsM_traced hlk r (n + min p.1.count (lim q free - n)) _ (fun x hx => hp x (List.mem_cons_of_mem _ hx)) (fun _ => ⟨by omega, by omega⟩)
        rw [e4]
        rfl

/-! ### sums over the steps -/
def sumT (l : List Done) : Nat := (l.map fun d => d.touched).sum
def sumL (l : List Done) : Nat := (l.map fun d => d.looked).sum
def sumF (l : List Done) : Nat := (l.map fun d => d.found).sum
theorem traced_sums (t : Table) (own last first : List Nat → Bool) (covers : Bool) (limit : Nat) : ∀ (l : List Group) (a b n : Nat),
    (VaidxBase.goThrough first last limit l ⟨a, b, n⟩).touched = a + sumT (Vaidxb.traced t own last covers limit l n) ∧
    (VaidxBase.goThrough first last limit l ⟨a, b, n⟩).found = n + sumF (Vaidxb.traced t own last covers limit l n)
  | [], a, b, n => ⟨rfl, rfl⟩
  | h :: l, a, b, n => by
    unfold VaidxBase.goThrough Vaidxb.traced
    dsimp only
    by_cases c : limit ≠ 0 ∧ limit - n = 0
    · rw [if_pos c, if_pos c]; exact ⟨rfl, rfl⟩
    · rw [if_neg c, if_neg c]
      generalize (if limit ≠ 0 ∧ last h.row = true ∧ limit - n < h.count then limit - n else h.count) = k
      have e : (if last h.row = true then n + k else n) = n + (if last h.row = true then k else 0) := by split <;> omega
      rw [e]
      have ih := traced_sums t own last first covers limit l (a + k) (if first h.row = true then b + k else b) (n + if last h.row = true then k else 0)
      refine ⟨ih.1.trans ?_, ih.2.trans ?_⟩
      · unfold sumT; rw [List.map_cons, List.sum_cons, ← Nat.add_assoc]
      · unfold sumF; rw [List.map_cons, List.sum_cons, ← Nat.add_assoc]
theorem traced_looked (t : Table) (own last : List Nat → Bool) (limit : Nat) : ∀ (l : List Group) (a b n : Nat),
    (VaidxBase.goThrough own last limit l ⟨a, b, n⟩).passed = b + sumL (Vaidxb.traced t own last false limit l n)
  | [], a, b, n => rfl
  | h :: l, a, b, n => by
    unfold VaidxBase.goThrough Vaidxb.traced
    dsimp only
    by_cases c : limit ≠ 0 ∧ limit - n = 0
    · rw [if_pos c, if_pos c]; rfl
    · rw [if_neg c, if_neg c]
      generalize (if limit ≠ 0 ∧ last h.row = true ∧ limit - n < h.count then limit - n else h.count) = k
      have e : (if last h.row = true then n + k else n) = n + (if last h.row = true then k else 0) := by split <;> omega
      have e2 : (if own h.row = true then b + k else b) = b + (if own h.row = true then k else 0) := by split <;> omega
      rw [e, e2]
      have ih := traced_looked t own last limit l (a + k) (b + if own h.row = true then k else 0) (n + if last h.row = true then k else 0)
      refine ih.trans ?_
      unfold sumL
      rw [List.map_cons, List.sum_cons]
      simp only [Bool.not_false, Bool.and_true]
      omega
theorem traced_looked0 (t : Table) (own last : List Nat → Bool) (limit : Nat) : ∀ (l : List Group) (n : Nat), sumL (Vaidxb.traced t own last true limit l n) = 0
  | [], n => rfl
  | h :: l, n => by
    unfold Vaidxb.traced
    dsimp only
    split
    · rfl
    · unfold sumL
      rw [List.map_cons, List.sum_cons]
      simp only [Bool.not_true, Bool.and_false, Bool.false_eq_true, if_false, Nat.zero_add]
      exact traced_looked0 t own last limit l _

/-- what a way comes to -/
def sortedOf (free : Bool) (l : List Done) : Nat := if free then 0 else sumF l
theorem indexWork_is (t : Table) (i : Index) (q : Question) :
    VaidxBase.indexWork t i q = ⟨sumT (Vaidxb.indexTrace t i q), sumL (Vaidxb.indexTrace t i q), sortedOf (VaidxBase.isFree i q) (Vaidxb.indexTrace t i q)⟩ := by
  have h1 := traced_sums t (fun r => (VaidxBase.ownFilters i q).all (VaidxBase.passes r)) (VaidxBase.found q) (fun r => (VaidxBase.ownFilters i q).all (VaidxBase.passes r)) (VaidxBase.covers i q) (if VaidxBase.isFree i q then q.limit else 0) (VaidxBase.entries t i q) 0 0 0
  unfold VaidxBase.indexWork Vaidxb.indexTrace sortedOf
  dsimp only
  rw [h1.1, h1.2, Nat.zero_add, Nat.zero_add]
  have h2 : (if VaidxBase.covers i q = true then 0 else (VaidxBase.goThrough (fun r => (VaidxBase.ownFilters i q).all (VaidxBase.passes r)) (VaidxBase.found q) (if VaidxBase.isFree i q then q.limit else 0) (VaidxBase.entries t i q) ⟨0, 0, 0⟩).passed) =
      sumL (Vaidxb.traced t (fun r => (VaidxBase.ownFilters i q).all (VaidxBase.passes r)) (VaidxBase.found q) (VaidxBase.covers i q) (if VaidxBase.isFree i q then q.limit else 0) (VaidxBase.entries t i q) 0) := by
    cases VaidxBase.covers i q with
    | true => rw [if_pos rfl, traced_looked0]
    | false => rw [if_neg Bool.false_ne_true, traced_looked t, Nat.zero_add]
  rw [h2]
theorem wholeWork_is (t : Table) (q : Question) :
    VaidxBase.wholeWork t q = ⟨sumT (Vaidxb.wholeTrace t q), 0, sortedOf (VaidxBase.orderLeft q).isEmpty (Vaidxb.wholeTrace t q)⟩ := by
  have h1 := traced_sums t (fun _ => true) (VaidxBase.found q) (VaidxBase.found q) true (if (VaidxBase.orderLeft q).isEmpty then q.limit else 0) t.groups 0 0 0
  unfold VaidxBase.wholeWork Vaidxb.wholeTrace sortedOf
  dsimp only
  rw [h1.1, h1.2, Nat.zero_add, Nat.zero_add]
end One
set_option Elab.async false
set_option maxRecDepth 10000
set_option linter.unusedVariables false
/-! Reading: the program's order of looks against the specification's. -/
namespace One
open VaidxBase (Group Table Filter Question Index readNat readPair readTimes readListed readFilter readColumns readTable readQuestion readIndex)

/-! ### one number -/
theorem readNat_some {lo hi : Nat} {x r : List Int} {n : Nat} (h : readNat lo hi x = some (n, r)) : x = (n : Int) :: r ∧ lo ≤ n ∧ n ≤ hi := by
  cases x with
  | nil => cases h
  | cons z t =>
    have h' : (if VaidxBase.int lo ≤ z ∧ z ≤ VaidxBase.int hi then some (z.toNat, t) else none) = some (n, r) := h
    by_cases c : VaidxBase.int lo ≤ z ∧ z ≤ VaidxBase.int hi
    · rw [if_pos c] at h'
      obtain ⟨e1, e2⟩ := Prod.mk.inj (Option.some.inj h')
      have c1 : (lo : Int) ≤ z := c.1
      have c2 : z ≤ (hi : Int) := c.2
      subst e1 e2
      have : ((z.toNat : Nat) : Int) = z := by omega
      refine ⟨by rw [this], by omega, by omega⟩
    · rw [if_neg c] at h'
      cases h'
theorem readNat_yes {lo hi : Nat} {z : Int} {r : List Int} (h1 : (lo : Int) ≤ z) (h2 : z ≤ (hi : Int)) : readNat lo hi (z :: r) = some (z.toNat, r) := if_pos ⟨h1, h2⟩
theorem readNat_no {lo hi : Nat} {z : Int} {r : List Int} (h : ¬ ((lo : Int) ≤ z ∧ z ≤ (hi : Int))) : readNat lo hi (z :: r) = none := if_neg h
theorem readNat_nil {lo hi : Nat} : readNat lo hi [] = none := rfl

/-! ### columns -/
def colsLoop (n : Nat) (known : List Nat) : Nat → List Nat → List Int → Option (List Nat × List Int)
  | 0, found, x => some (found, x)
  | k + 1, found, x => (readNat 0 (n - 1) x).bind fun u => if found.contains u.1 || known.contains u.1 then none else colsLoop n known k (found ++ [u.1]) u.2
def colsM (n : Nat) (known : List Nat) (x : List Int) : Option (List Nat × List Int) := (readNat 0 n x).bind fun c => colsLoop n known c.1 [] c.2
/-- each is apart from those ahead and from the known ones -/
def fresh (known found : List Nat) : List Nat → Bool
  | [] => true
  | c :: l => !(found.contains c || known.contains c) && fresh known (found ++ [c]) l
theorem colsLoop_eq (n : Nat) (known : List Nat) : ∀ (k : Nat) (found : List Nat) (x : List Int), colsLoop n known k found x = (readTimes (readNat 0 (n - 1)) k x).bind fun u => if fresh known found u.1 then some (found ++ u.1, u.2) else none
  | 0, found, x => by simp [colsLoop, readTimes, fresh]
  | k + 1, found, x => by
    unfold colsLoop readTimes
    cases e : readNat 0 (n - 1) x with
    | none => rfl
    | some u =>
      show (if found.contains u.1 || known.contains u.1 then none else colsLoop n known k (found ++ [u.1]) u.2) = _
      rw [colsLoop_eq n known k]
      cases e2 : readTimes (readNat 0 (n - 1)) k u.2 with
      | none =>
        simp [e2]
      | some v =>
        show (if found.contains u.1 || known.contains u.1 then none else if fresh known (found ++ [u.1]) v.1 then some (found ++ [u.1] ++ v.1, v.2) else none) = _
        simp only [Option.bind_some, e2, Option.map_some]
        show _ = (if (!(found.contains u.1 || known.contains u.1) && fresh known (found ++ [u.1]) v.1) = true then some (found ++ u.1 :: v.1, v.2) else none)
        by_cases hc : (found.contains u.1 || known.contains u.1) = true
        · rw [if_pos hc, if_neg (by rw [hc]; simp)]
        · have hc' : (found.contains u.1 || known.contains u.1) = false := by simpa using hc
          rw [if_neg hc]
          by_cases hf : fresh known (found ++ [u.1]) v.1 = true
          · rw [if_pos hf, if_pos (by rw [hc', hf]; rfl), List.append_assoc]
            rfl
          · rw [if_neg hf, if_neg (by rw [hc']; simpa using hf)]
theorem fresh_iff (known : List Nat) : ∀ (l found : List Nat), fresh known found l = true ↔ (∀ c ∈ l, c ∉ known ∧ c ∉ found) ∧ l.Pairwise (fun a b => a ≠ b)
  | [], found => by simp [fresh]
  | c :: l, found => by
    have ih := fresh_iff known l (found ++ [c])
    unfold fresh
    rw [Bool.and_eq_true, ih, List.pairwise_cons]
    simp only [Bool.not_eq_true', Bool.or_eq_false_iff, List.contains_eq_mem, decide_eq_false_iff_not, List.mem_append, List.mem_singleton, List.mem_cons, not_or]
    constructor
    · rintro ⟨⟨h1, h2⟩, h3, h4⟩
      refine ⟨fun x hx => ?_, fun x hx => ?_, h4⟩
      · rcases hx with rfl | hx
        · exact ⟨h2, h1⟩
        · exact ⟨(h3 x hx).1, (h3 x hx).2.1⟩
      · exact fun z => (h3 x hx).2.2.1 z.symm
    · rintro ⟨h1, h2, h3⟩
      refine ⟨⟨(h1 c (.inl rfl)).2, (h1 c (.inl rfl)).1⟩, fun x hx => ⟨(h1 x (.inr hx)).1, (h1 x (.inr hx)).2, fun z => h2 x hx z.symm, by simp⟩, h3⟩
theorem apart_iff : ∀ l : List Nat, VaidxBase.apart l = true ↔ l.Pairwise (fun a b => a ≠ b)
  | [] => by simp [VaidxBase.apart]
  | c :: l => by
    have ih := apart_iff l
    unfold VaidxBase.apart
    rw [Bool.and_eq_true, ih, List.pairwise_cons]
    simp only [Bool.not_eq_true', List.contains_eq_mem, decide_eq_false_iff_not]
    constructor
    · rintro ⟨h1, h2⟩
      exact ⟨fun x hx z => h1 (z ▸ hx), h2⟩
    · rintro ⟨h1, h2⟩
      exact ⟨fun z => h1 c z rfl, h2⟩
theorem readTimes_len {A : Type} {a : VaidxBase.Reader A} : ∀ {k : Nat} {x r : List Int} {l : List A}, readTimes a k x = some (l, r) → l.length = k
  | 0, x, r, l, h => by
    obtain ⟨e1, e2⟩ := Prod.mk.inj (Option.some.inj (show some (([] : List A), x) = some (l, r) from h))
    rw [← e1]
    rfl
  | k + 1, x, r, l, h => by
    have h' : ((a x).bind fun u => (readTimes a k u.2).map fun v => (u.1 :: v.1, v.2)) = some (l, r) := h
    cases e : a x with
    | none => rw [e] at h'; cases h'
    | some u =>
      rw [e] at h'
      have h2 : ((readTimes a k u.2).map fun v => (u.1 :: v.1, v.2)) = some (l, r) := h'
      cases e2 : readTimes a k u.2 with
      | none => rw [e2] at h2; cases h2
      | some v =>
        rw [e2] at h2
        obtain ⟨e3, e4⟩ := Prod.mk.inj (Option.some.inj h2)
        have := readTimes_len e2
        rw [← e3, List.length_cons, this]
theorem readTimes_mem {A : Type} {a : VaidxBase.Reader A} {p : A → Prop} (hp : ∀ x u r, a x = some (u, r) → p u) : ∀ {k : Nat} {x r : List Int} {l : List A}, readTimes a k x = some (l, r) → ∀ u ∈ l, p u
  | 0, x, r, l, h => by
    obtain ⟨e1, e2⟩ := Prod.mk.inj (Option.some.inj (show some (([] : List A), x) = some (l, r) from h))
    rw [← e1]
    intro u hu
    cases hu
  | k + 1, x, r, l, h => by
    have h' : ((a x).bind fun u => (readTimes a k u.2).map fun v => (u.1 :: v.1, v.2)) = some (l, r) := h
    cases e : a x with
    | none => rw [e] at h'; cases h'
    | some u =>
      rw [e] at h'
      have h2 : ((readTimes a k u.2).map fun v => (u.1 :: v.1, v.2)) = some (l, r) := h'
      cases e2 : readTimes a k u.2 with
      | none => rw [e2] at h2; cases h2
      | some v =>
        rw [e2] at h2
        obtain ⟨e3, e4⟩ := Prod.mk.inj (Option.some.inj h2)
        rw [← e3]
        intro z hz
        rcases List.mem_cons.mp hz with rfl | hz
        · exact hp x _ _ e
        · exact readTimes_mem hp e2 z hz

/-! ### tables -/
def groupsLoop (n : Nat) : Nat → List Group → List Int → Option (List Group × List Int)
  | 0, gs, x => some (gs, x)
  | k + 1, gs, x => (readTimes (readNat 0 9) n x).bind fun u => if (gs.map fun g => g.row).contains u.1 then none else (readNat 1 1000000 u.2).bind fun c => groupsLoop n k (gs ++ [⟨u.1, c.1⟩]) c.2
def tableM (ns : List Int) : Option Table := (readNat 1 4 ns).bind fun n => (readNat 0 12 n.2).bind fun k => (groupsLoop n.1 k.1 [] k.2).bind fun g => if g.2 = [] then some ⟨n.1, g.1⟩ else none
def freshR (gs : List Group) : List Group → Bool
  | [] => true
  | g :: l => !(gs.map fun g => g.row).contains g.row && freshR (gs ++ [g]) l
def mkG (y : List Nat × Nat) : Group := ⟨y.1, y.2⟩
theorem groupsLoop_eq (n : Nat) : ∀ (k : Nat) (gs : List Group) (x : List Int), groupsLoop n k gs x = (readTimes (readPair (readTimes (readNat 0 9) n) (readNat 1 1000000)) k x).bind fun u => if freshR gs (u.1.map mkG) then some (gs ++ u.1.map mkG, u.2) else none
  | 0, gs, x => by simp [groupsLoop, readTimes, freshR]
  | k + 1, gs, x => by
    unfold groupsLoop
    conv => rhs; unfold readTimes
    unfold readPair
    cases e : readTimes (readNat 0 9) n x with
    | none => rfl
    | some u =>
      simp only [Option.bind_some]
      cases e1 : readNat 1 1000000 u.2 with
      | none =>
        simp
      | some c =>
        simp only [Option.bind_some, Option.map_some]
        rw [groupsLoop_eq n k]
        unfold readPair
        cases e2 : readTimes (fun x => (readTimes (readNat 0 9) n x).bind fun u => (readNat 1 1000000 u.2).map fun v => ((u.1, v.1), v.2)) k c.2 with
        | none =>
          simp [e2]
        | some v =>
          simp only [e2, Option.bind_some, Option.map_some, List.map_cons, freshR]
          show (if (gs.map fun g => g.row).contains u.1 = true then none else if freshR (gs ++ [⟨u.1, c.1⟩]) (v.1.map mkG) = true then some (gs ++ [⟨u.1, c.1⟩] ++ v.1.map mkG, v.2) else none) =
            if (!(gs.map fun g => g.row).contains u.1 && freshR (gs ++ [⟨u.1, c.1⟩]) (v.1.map mkG)) = true then some (gs ++ ⟨u.1, c.1⟩ :: v.1.map mkG, v.2) else none
          cases (gs.map fun g => g.row).contains u.1 with
          | true => simp
          | false => simp
theorem freshR_iff : ∀ (l gs : List Group), freshR gs l = true ↔ (∀ g ∈ l, ∀ h ∈ gs, h.row ≠ g.row) ∧ l.Pairwise (fun a b => a.row ≠ b.row)
  | [], gs => by simp [freshR]
  | g :: l, gs => by
    have ih := freshR_iff l (gs ++ [g])
    unfold freshR
    rw [Bool.and_eq_true, ih, List.pairwise_cons]
    simp only [Bool.not_eq_true', List.contains_eq_mem, decide_eq_false_iff_not, List.mem_map, not_exists, not_and]
    constructor
    · rintro ⟨h1, h2, h3⟩
      refine ⟨fun x hx h hh => ?_, fun x hx => h2 x hx g (by simp), h3⟩
      rcases List.mem_cons.mp hx with rfl | hx
      · exact h1 h hh
      · exact h2 x hx h (by simp [hh])
    · rintro ⟨h1, h2, h3⟩
      refine ⟨fun x hx => h1 g List.mem_cons_self x hx, fun x hx h hh => ?_, h3⟩
      rcases List.mem_append.mp hh with hh | hh
      · exact h1 x (List.mem_cons_of_mem _ hx) h hh
      · rw [List.mem_singleton.mp hh]
        exact h2 x hx
theorem rowsApart_iff : ∀ l : List Group, VaidxBase.rowsApart l = true ↔ l.Pairwise (fun a b => a.row ≠ b.row)
  | [] => by simp [VaidxBase.rowsApart]
  | g :: l => by
    have ih := rowsApart_iff l
    unfold VaidxBase.rowsApart
    rw [Bool.and_eq_true, ih, List.pairwise_cons]
    simp only [Bool.not_eq_true', List.any_eq_false, beq_iff_eq]
    constructor
    · rintro ⟨h1, h2⟩
      exact ⟨fun x hx z => h1 x hx z.symm, h2⟩
    · rintro ⟨h1, h2⟩
      exact ⟨fun x hx z => h1 x hx z.symm, h2⟩
theorem pair_read {n : Nat} (x : List Int) (u : List Nat × Nat) (r : List Int) (h : readPair (readTimes (readNat 0 9) n) (readNat 1 1000000) x = some (u, r)) : u.1.length = n ∧ (∀ v ∈ u.1, v ≤ 9) ∧ 1 ≤ u.2 ∧ u.2 ≤ 1000000 := by
  unfold readPair at h
  cases e : readTimes (readNat 0 9) n x with
  | none => rw [e] at h; cases h
  | some a =>
    rw [e] at h
    simp only [Option.bind_some] at h
    cases e1 : readNat 1 1000000 a.2 with
    | none => rw [e1] at h; cases h
    | some c =>
      rw [e1] at h
      obtain ⟨e3, e4⟩ := Prod.mk.inj (Option.some.inj h)
      rw [← e3]
      obtain ⟨_, h1, h2⟩ := readNat_some e1
      exact ⟨readTimes_len e, readTimes_mem (p := fun v => v ≤ 9) (fun x u r hh => (readNat_some hh).2.2) e, h1, h2⟩
theorem whole_eq {A : Type} (a : VaidxBase.Reader A) (x : List Int) : VaidxBase.whole a x = (a x).bind fun u => if u.2 = [] then some u.1 else none := by
  unfold VaidxBase.whole
  cases e : a x with
  | none => rfl
  | some u =>
    obtain ⟨v, r⟩ := u
    cases r <;> rfl
theorem readTable_eq (x : List Int) : readTable x = (readNat 1 4 x).bind fun n => ((readNat 0 12 n.2).bind fun k => readTimes (readPair (readTimes (readNat 0 9) n.1) (readNat 1 1000000)) k.1 k.2).bind fun g => if VaidxBase.okTable ⟨n.1, g.1.map mkG⟩ = true then some ((⟨n.1, g.1.map mkG⟩ : Table), g.2) else none := rfl
theorem tableM_is (ns : List Int) : tableM ns = VaidxBase.whole readTable ns := by
  rw [whole_eq, readTable_eq]
  unfold tableM
  cases e1 : readNat 1 4 ns with
  | none => rfl
  | some n =>
    obtain ⟨_, n1, n4⟩ := readNat_some e1
    simp only [Option.bind_some]
    cases e2 : readNat 0 12 n.2 with
    | none => rfl
    | some k =>
      obtain ⟨_, _, k12⟩ := readNat_some e2
      simp only [Option.bind_some]
      rw [groupsLoop_eq]
      cases e3 : readTimes (readPair (readTimes (readNat 0 9) n.1) (readNat 1 1000000)) k.1 k.2 with
      | none => rfl
      | some g =>
        simp only [Option.bind_some, List.nil_append]
        have hl := readTimes_len e3
        have hm := readTimes_mem (p := fun u : List Nat × Nat => u.1.length = n.1 ∧ (∀ v ∈ u.1, v ≤ 9) ∧ 1 ≤ u.2 ∧ u.2 ≤ 1000000) pair_read e3
        have ok : VaidxBase.okTable ⟨n.1, g.1.map mkG⟩ = freshR [] (g.1.map mkG) := by
          have a : VaidxBase.okTable ⟨n.1, g.1.map mkG⟩ = VaidxBase.rowsApart (g.1.map mkG) := by
            unfold VaidxBase.okTable
            have h1 : decide (1 ≤ n.1) = true := decide_eq_true n1
            have h2 : decide (n.1 ≤ VaidxBase.COLS) = true := decide_eq_true n4
            have h3 : decide ((g.1.map mkG).length ≤ VaidxBase.GROUPS) = true := decide_eq_true (by rw [List.length_map, hl]; exact k12)
            have h4 : ((g.1.map mkG).all fun g => g.row.length == n.1 && (g.row.all (fun v => decide (v ≤ VaidxBase.VALUE)) && (decide (1 ≤ g.count) && decide (g.count ≤ VaidxBase.COUNT)))) = true := by
              rw [List.all_eq_true]
              intro y hy
              obtain ⟨u, hu, rfl⟩ := List.mem_map.mp hy
              obtain ⟨b1, b2, b3, b4⟩ := hm u hu
              simp only [mkG, Bool.and_eq_true, beq_iff_eq, List.all_eq_true, decide_eq_true_eq]
              exact ⟨b1, b2, decide_eq_true b3, decide_eq_true b4⟩
            simp only [h1, h2, h3, h4, Bool.true_and]
          rw [a, Bool.eq_iff_iff, rowsApart_iff, freshR_iff]
          simp
        rw [ok]
        cases freshR [] (g.1.map mkG) with
        | false => rfl
        | true => rfl
/-! ### filters, questions -/
theorem readFilter_eq {n : Nat} (hn : 1 ≤ n) (x : List Int) : readFilter n x = (readNat 0 (n - 1) x).bind fun c => (readNat 0 9 c.2).bind fun l => (readNat l.1 9 l.2).bind fun h => some (⟨c.1, l.1, h.1⟩, h.2) := by
  unfold readFilter readPair
  cases e1 : readNat 0 (n - 1) x with
  | none => rfl
  | some c =>
    obtain ⟨_, _, hc⟩ := readNat_some e1
    simp only [Option.bind_some]
    show (Option.map _ ((readNat 0 9 c.2).bind _)).bind _ = _
    cases e2 : readNat 0 9 c.2 with
    | none => rfl
    | some l =>
      simp only [Option.bind_some]
      show (Option.map _ (Option.map _ (readNat 0 9 l.2))).bind _ = _
      cases e3 : l.2 with
      | nil => rfl
      | cons z r =>
        by_cases h1 : (0 : Int) ≤ z ∧ z ≤ (9 : Int)
        · rw [readNat_yes (lo := 0) (hi := 9) h1.1 h1.2]
          simp only [Option.map_some, Option.bind_some]
          by_cases h2 : (l.1 : Int) ≤ z
          · rw [readNat_yes (lo := l.1) (hi := 9) h2 h1.2]
            have ok : VaidxBase.okFilter n ⟨c.1, l.1, z.toNat⟩ = true := by
              unfold VaidxBase.okFilter
              simp only [Bool.and_eq_true, decide_eq_true_eq]
              refine ⟨by omega, by omega, ?_⟩
              show z.toNat ≤ 9
              omega
            rw [if_pos ok]
            rfl
          · rw [readNat_no (lo := l.1) (hi := 9) (fun h => h2 h.1)]
            have ok : ¬ VaidxBase.okFilter n ⟨c.1, l.1, z.toNat⟩ = true := by
              unfold VaidxBase.okFilter
              simp only [Bool.and_eq_true, decide_eq_true_eq]
              rintro ⟨_, h3, _⟩
              omega
            rw [if_neg ok]
            rfl
        · rw [readNat_no (lo := 0) (hi := 9) h1]
          rw [readNat_no (lo := l.1) (hi := 9) (fun h => h1 ⟨by omega, h.2⟩)]
          rfl
theorem readFilter_ok {n : Nat} {x r : List Int} {f : Filter} (h : readFilter n x = some (f, r)) : VaidxBase.okFilter n f = true := by
  unfold readFilter at h
  cases e : readPair (readNat 0 (n - 1)) (readPair (readNat 0 VaidxBase.VALUE) (readNat 0 VaidxBase.VALUE)) x with
  | none => rw [e] at h; cases h
  | some u =>
    rw [e] at h
    simp only [Option.bind_some] at h
    split at h
    · rename_i ok
      obtain ⟨e3, _⟩ := Prod.mk.inj (Option.some.inj h)
      rw [← e3]
      exact ok
    · cases h
def filtersLoop (n : Nat) : Nat → List Filter → List Int → Option (List Filter × List Int)
  | 0, fs, x => some (fs, x)
  | k + 1, fs, x => (readFilter n x).bind fun u => if (fs.map fun f => f.col).contains u.1.col then none else filtersLoop n k (fs ++ [u.1]) u.2
theorem filtersLoop_eq (n : Nat) : ∀ (k : Nat) (fs : List Filter) (x : List Int), filtersLoop n k fs x = (readTimes (readFilter n) k x).bind fun u => if fresh [] (fs.map fun f => f.col) (u.1.map fun f => f.col) then some (fs ++ u.1, u.2) else none
  | 0, fs, x => by simp [filtersLoop, readTimes, fresh]
  | k + 1, fs, x => by
    unfold filtersLoop readTimes
    cases e : readFilter n x with
    | none => rfl
    | some u =>
      simp only [Option.bind_some]
      rw [filtersLoop_eq n k]
      cases e2 : readTimes (readFilter n) k u.2 with
      | none => simp [e2]
      | some v =>
        simp only [e2, Option.bind_some, Option.map_some, List.map_cons, fresh, List.map_append, List.map_nil]
        cases (fs.map fun f => f.col).contains u.1.col with
        | true => simp
        | false => simp
def questionM (n : Nat) (ns : List Int) : Option Question := (readNat 0 n ns).bind fun k => (filtersLoop n k.1 [] k.2).bind fun f => (colsM n [] f.2).bind fun o => (readNat 0 1 o.2).bind fun b => (colsM n [] b.2).bind fun w =>
  (readNat 0 1000000 w.2).bind fun l => (readNat 0 1000 l.2).bind fun t => if t.2 = [] then some ⟨f.1, o.1, b.1 == 1, w.1, l.1, t.1⟩ else none
theorem colsM_eq (n : Nat) (known : List Nat) (x : List Int) : colsM n known x = (readColumns 0 n x).bind fun u => if fresh known [] u.1 then some u else none := by
  unfold colsM readColumns readListed
  cases e : readNat 0 n x with
  | none => rfl
  | some c =>
    simp only [Option.bind_some]
    rw [colsLoop_eq]
    rfl
theorem readColumns_mem {least n : Nat} (hn : 1 ≤ n) {x r : List Int} {l : List Nat} (h : readColumns least n x = some (l, r)) : (∀ c ∈ l, c < n) ∧ l.length ≤ n ∧ least ≤ l.length := by
  unfold readColumns readListed at h
  cases e : readNat least n x with
  | none => rw [e] at h; cases h
  | some c =>
    rw [e] at h
    have h : readTimes (readNat 0 (n - 1)) c.1 c.2 = some (l, r) := h
    obtain ⟨_, h1, h2⟩ := readNat_some e
    have hl := readTimes_len h
    refine ⟨fun z hz => ?_, by omega, by omega⟩
    have := readTimes_mem (p := fun v => v ≤ n - 1) (fun x u r hh => (readNat_some hh).2.2) h z hz
    omega
theorem okColumns_iff {n : Nat} {l : List Nat} (h : ∀ c ∈ l, c < n) : VaidxBase.okColumns n l = fresh [] [] l := by
  unfold VaidxBase.okColumns
  have : (l.all fun c => decide (c < n)) = true := by
    rw [List.all_eq_true]
    intro c hc
    exact decide_eq_true (h c hc)
  rw [this, Bool.true_and, Bool.eq_iff_iff, apart_iff, fresh_iff]
  simp
theorem bind_if {A B C : Type} (x : Option A) (p : A → Bool) (h : A → B) (g : B → Option C) : (x.bind fun u => if p u = true then some (h u) else none).bind g = x.bind fun u => if p u = true then g (h u) else none := by
  cases x with
  | none => rfl
  | some u =>
    simp only [Option.bind_some]
    cases p u <;> rfl
theorem questionM_is {n : Nat} (hn : 1 ≤ n) (ns : List Int) : questionM n ns = VaidxBase.whole (readQuestion n) ns := by
  have cols : ∀ {C : Type} (x : List Int) (g : List Nat × List Int → Option C), (colsM n [] x).bind g = (readColumns 0 n x).bind fun u => if fresh [] [] u.1 = true then g u else none := fun x g => by
    rw [colsM_eq]
    exact bind_if (readColumns 0 n x) (fun u => fresh [] [] u.1) (fun u => u) g
  have fils : ∀ {C : Type} (k : Nat) (x : List Int) (g : List Filter × List Int → Option C), (filtersLoop n k [] x).bind g = (readTimes (readFilter n) k x).bind fun u => if fresh [] [] (u.1.map fun f => f.col) = true then g (u.1, u.2) else none := fun k x g => by
    rw [filtersLoop_eq]
    exact bind_if (readTimes (readFilter n) k x) (fun u => fresh [] [] (u.1.map fun f => f.col)) (fun u => ([] ++ u.1, u.2)) g
  rw [whole_eq]
  unfold questionM readQuestion readPair readListed
  simp only [cols, fils]
  cases e1 : readNat 0 n ns with
  | none => rfl
  | some k =>
    simp only [Option.bind_some]
    cases e2 : readTimes (readFilter n) k.1 k.2 with
    | none => rfl
    | some f =>
      have okf : (f.1.all (VaidxBase.okFilter n)) = true := by
        rw [List.all_eq_true]
        exact readTimes_mem (p := fun f => VaidxBase.okFilter n f = true) (fun x u r hh => readFilter_ok hh) e2
      simp only [Option.bind_some]
      cases e3 : readColumns 0 n f.2 with
      | none => simp only [Option.bind_none, Option.map_none, ite_self]
      | some o =>
        have oko := okColumns_iff (readColumns_mem hn e3).1
        simp only [Option.bind_some]
        cases e4 : readNat 0 1 o.2 with
        | none => simp only [Option.bind_none, Option.map_none, ite_self]
        | some b =>
          simp only [Option.bind_some]
          cases e5 : readColumns 0 n b.2 with
          | none => simp only [Option.bind_none, Option.map_none, ite_self]
          | some w =>
            have okw := okColumns_iff (readColumns_mem hn e5).1
            simp only [Option.bind_some]
            show _ = (((((((readNat 0 1000000 w.2).bind _).map _).map _).map _).map _).bind _).bind _
            cases e6 : readNat 0 1000000 w.2 with
            | none => simp only [Option.bind_none, Option.map_none, ite_self]
            | some l =>
              simp only [Option.bind_some]
              show _ = (((((((readNat 0 1000 l.2).map _).map _).map _).map _).map _).bind _).bind _
              cases e7 : readNat 0 1000 l.2 with
              | none => simp only [Option.bind_none, Option.map_none, ite_self]
              | some t =>
                have okq : VaidxBase.okQuestion n ⟨f.1, o.1, b.1 == 1, w.1, l.1, t.1⟩ = (fresh [] [] (f.1.map fun f => f.col) && (fresh [] [] o.1 && fresh [] [] w.1)) := by
                  unfold VaidxBase.okQuestion
                  have h1 : decide (l.1 ≤ VaidxBase.LIMIT) = true := decide_eq_true (readNat_some e6).2.2
                  have h2 : decide (t.1 ≤ VaidxBase.TIMES) = true := decide_eq_true (readNat_some e7).2.2
                  have h3 : VaidxBase.apart (f.1.map fun f => f.col) = fresh [] [] (f.1.map fun f => f.col) := by
                    rw [Bool.eq_iff_iff, apart_iff, fresh_iff]
                    simp
                  simp only [okf, h1, h2, h3, oko, okw, Bool.true_and, Bool.and_true]
                simp only [Option.map_some, Option.bind_some, okq]
                cases fresh [] [] (f.1.map fun f => f.col) <;> cases fresh [] [] o.1 <;> cases fresh [] [] w.1 <;> simp
/-! ### indexes -/
def indexM (n : Nat) (ns : List Int) : Option Index := (colsM n [] ns).bind fun k => if k.1 = [] then none else (colsM n k.1 k.2).bind fun o => (readNat 0 1 o.2).bind fun b =>
  if b.1 = 1 then (readFilter n b.2).bind fun f => if f.2 = [] then some ⟨k.1, o.1, some f.1⟩ else none else if b.2 = [] then some ⟨k.1, o.1, none⟩ else none
theorem readColumns_one (n : Nat) (x : List Int) : readColumns 1 n x = (readColumns 0 n x).bind fun u => if u.1 = [] then none else some u := by
  unfold readColumns readListed
  cases x with
  | nil => rfl
  | cons z r =>
    by_cases h0 : (0 : Int) ≤ z ∧ z ≤ (n : Int)
    · rw [readNat_yes (lo := 0) h0.1 h0.2]
      by_cases h1 : (1 : Int) ≤ z
      · rw [readNat_yes (lo := 1) h1 h0.2]
        simp only [Option.bind_some]
        cases e : readTimes (readNat 0 (n - 1)) z.toNat r with
        | none => rfl
        | some u =>
          have hl := readTimes_len e
          have : ¬ u.1 = [] := fun q => by
            rw [q] at hl
            have : z.toNat = 0 := hl.symm
            omega
          simp only [Option.bind_some]
          rw [if_neg this]
      · rw [readNat_no (lo := 1) (fun q => h1 q.1)]
        have e : z.toNat = 0 := by omega
        simp only [Option.bind_some, Option.bind_none, e]
        rfl
    · rw [readNat_no (lo := 0) h0, readNat_no (lo := 1) (fun q => h0 ⟨by have := q.1; omega, q.2⟩)]
      rfl
theorem fresh_append (l m : List Nat) : fresh [] [] (l ++ m) = (fresh [] [] l && fresh l [] m) := by
  rw [Bool.eq_iff_iff, Bool.and_eq_true, fresh_iff, fresh_iff, fresh_iff, List.pairwise_append]
  simp only [List.not_mem_nil, not_false_eq_true, and_self, implies_true, true_and, and_true]
  constructor
  · rintro ⟨h1, h2, h3⟩
    exact ⟨h1, fun c hc z => h3 c z c hc rfl, h2⟩
  · rintro ⟨h1, h2, h3⟩
    exact ⟨h1, h3, fun a ha b hb z => h2 b hb (z ▸ ha)⟩
theorem indexM_is {n : Nat} (hn : 1 ≤ n) (ns : List Int) : indexM n ns = VaidxBase.whole (readIndex n) ns := by
  have cols : ∀ {C : Type} (kn : List Nat) (x : List Int) (g : List Nat × List Int → Option C), (colsM n kn x).bind g = (readColumns 0 n x).bind fun u => if fresh kn [] u.1 = true then g u else none := fun kn x g => by
    rw [colsM_eq]
    exact bind_if (readColumns 0 n x) (fun u => fresh kn [] u.1) (fun u => u) g
  rw [whole_eq]
  unfold indexM readIndex readPair
  simp only [cols, readColumns_one]
  cases e1 : readColumns 0 n ns with
  | none => rfl
  | some k =>
    have hk := (readColumns_mem hn e1).1
    simp only [Option.bind_some]
    by_cases hk0 : k.1 = []
    · rw [if_pos hk0, if_pos hk0]
      simp
    · rw [if_neg hk0, if_neg hk0]
      simp only [Option.bind_some]
      cases e2 : readColumns 0 n k.2 with
      | none => simp only [Option.bind_none, Option.map_none, ite_self]
      | some o =>
        have ho := (readColumns_mem hn e2).1
        simp only [Option.bind_some]
        unfold readListed
        cases e3 : readNat 0 1 o.2 with
        | none => simp only [Option.bind_none, Option.map_none, ite_self]
        | some b =>
          obtain ⟨_, _, hb⟩ := readNat_some e3
          have okc : VaidxBase.okColumns n (k.1 ++ o.1) = (fresh [] [] k.1 && fresh k.1 [] o.1) := by
            rw [okColumns_iff (fun c hc => (List.mem_append.mp hc).elim (hk c) (ho c)), fresh_append]
          have hke : k.1.isEmpty = false := by
            cases h : k.1 with
            | nil => exact absurd h hk0
            | cons a r => rfl
          simp only [Option.bind_some]
          by_cases h1 : b.1 = 1
          · rw [if_pos h1, h1]
            unfold readTimes
            cases e4 : readFilter n b.2 with
            | none => simp only [Option.bind_none, Option.map_none, ite_self]
            | some f =>
              have okf := readFilter_ok e4
              have ok : VaidxBase.okIndex n ⟨k.1, o.1, some f.1⟩ = (fresh [] [] k.1 && fresh k.1 [] o.1) := by
                unfold VaidxBase.okIndex VaidxBase.columnsOf
                show (!k.1.isEmpty && (VaidxBase.okColumns n (k.1 ++ o.1) && VaidxBase.okFilter n f.1)) = _
                rw [hke, okc, okf]
                simp
              simp only [readTimes, Option.bind_some, Option.map_some, List.head?_cons, ok]
              cases fresh [] [] k.1 <;> cases fresh k.1 [] o.1 <;> simp
          · have h0 : b.1 = 0 := by omega
            rw [if_neg h1, h0]
            have ok : VaidxBase.okIndex n ⟨k.1, o.1, none⟩ = (fresh [] [] k.1 && fresh k.1 [] o.1) := by
              unfold VaidxBase.okIndex VaidxBase.columnsOf
              show (!k.1.isEmpty && (VaidxBase.okColumns n (k.1 ++ o.1) && true)) = _
              rw [hke, okc]
              simp
            simp only [readTimes, Option.bind_some, Option.map_some, List.head?_nil, ok]
            cases fresh [] [] k.1 <;> cases fresh k.1 [] o.1 <;> simp
/-! ### well made: what the readers let through -/
structure WfT (t : Table) : Prop where
  one : 1 ≤ t.cols
  cols : t.cols ≤ 4
  few : t.groups.length ≤ 12
  wide : ∀ g ∈ t.groups, g.row.length = t.cols
  many : ∀ g ∈ t.groups, 1 ≤ g.count ∧ g.count ≤ 1000000
  apart : ∀ (i j : Nat) (g h : Group), t.groups[i]? = some g → t.groups[j]? = some h → g.row = h.row → i = j
structure WfQ (n : Nat) (q : Question) : Prop where
  fcol : ∀ f ∈ q.filters, f.col < n
  ocol : ∀ c ∈ q.order, c < n
  wcol : ∀ c ∈ q.wants, c < n
  fl : q.filters.length ≤ 4
  ol : q.order.length ≤ 4
  wl : q.wants.length ≤ 4
structure WfI (n : Nat) (i : Index) : Prop where
  kcol : ∀ c ∈ i.keys, c < n
  ccol : ∀ f, i.only = some f → f.col < n
  kl : i.keys.length ≤ 4
  il : i.others.length ≤ 4
theorem bind_out {A B : Type} {x : Option A} {g : A → Option B} {b : B} (h : x.bind g = some b) : ∃ a, x = some a ∧ g a = some b := by
  cases x with
  | none => cases h
  | some a => exact ⟨a, rfl, h⟩
theorem if_out {B : Type} {p : Prop} [Decidable p] {x : B} {b : B} (h : (if p then some x else none) = some b) : p ∧ x = b := by
  by_cases c : p
  · rw [if_pos c] at h
    exact ⟨c, Option.some.inj h⟩
  · rw [if_neg c] at h
    cases h
theorem wf_table {ns : List Int} {t : Table} (h : tableM ns = some t) : WfT t := by
  have h0 := h
  rw [tableM_is, whole_eq, readTable_eq] at h
  obtain ⟨u, h1, h2⟩ := bind_out h
  obtain ⟨n, h3, h4⟩ := bind_out h1
  obtain ⟨g, h5, h6⟩ := bind_out h4
  obtain ⟨ok, h7⟩ := if_out h6
  obtain ⟨_, h8⟩ := if_out h2
  rw [← h7] at h8
  have h8 : (⟨n.1, g.1.map mkG⟩ : Table) = t := h8
  rw [h8] at ok
  unfold VaidxBase.okTable at ok
  simp only [Bool.and_eq_true, decide_eq_true_eq, List.all_eq_true, beq_iff_eq] at ok
  obtain ⟨o1, o2, o3, o4, o5⟩ := ok
  refine ⟨o1, o2, o3, fun g hg => (o4 g hg).1, fun g hg => (o4 g hg).2.2, fun i j a b hi hj e => ?_⟩
  have pw := (rowsApart_iff _).mp o5
  rcases Nat.lt_trichotomy i j with l | l | l
  · obtain ⟨li, ei⟩ := List.getElem?_eq_some_iff.mp hi
    obtain ⟨lj, ej⟩ := List.getElem?_eq_some_iff.mp hj
    have := List.pairwise_iff_getElem.mp pw i j li lj l
    rw [ei, ej] at this
    exact absurd e this
  · exact l
  · obtain ⟨li, ei⟩ := List.getElem?_eq_some_iff.mp hi
    obtain ⟨lj, ej⟩ := List.getElem?_eq_some_iff.mp hj
    have := List.pairwise_iff_getElem.mp pw j i lj li l
    rw [ei, ej] at this
    exact absurd e.symm this
theorem colsM_out {n : Nat} (hn : 1 ≤ n) {kn : List Nat} {x : List Int} {u : List Nat × List Int} (h : colsM n kn x = some u) : (∀ c ∈ u.1, c < n) ∧ u.1.length ≤ n := by
  rw [colsM_eq] at h
  obtain ⟨v, h1, h2⟩ := bind_out h
  obtain ⟨_, h3⟩ := if_out h2
  rw [← h3]
  have := readColumns_mem hn h1
  exact ⟨this.1, this.2.1⟩
theorem okFilter_col {n : Nat} {f : Filter} (h : VaidxBase.okFilter n f = true) : f.col < n := by
  unfold VaidxBase.okFilter at h
  simp only [Bool.and_eq_true, decide_eq_true_eq] at h
  exact h.1
theorem wf_question {n : Nat} (hn : 1 ≤ n) (hn4 : n ≤ 4) {ns : List Int} {q : Question} (h : questionM n ns = some q) : WfQ n q := by
  unfold questionM at h
  obtain ⟨k, h1, h⟩ := bind_out h
  obtain ⟨f, h2, h⟩ := bind_out h
  obtain ⟨o, h3, h⟩ := bind_out h
  obtain ⟨b, h4, h⟩ := bind_out h
  obtain ⟨w, h5, h⟩ := bind_out h
  obtain ⟨l, h6, h⟩ := bind_out h
  obtain ⟨t, h7, h⟩ := bind_out h
  obtain ⟨_, h⟩ := if_out h
  rw [← h]
  rw [filtersLoop_eq] at h2
  obtain ⟨v, g1, g2⟩ := bind_out h2
  obtain ⟨_, g3⟩ := if_out g2
  have lf := readTimes_len g1
  have hk := (readNat_some h1).2.2
  have mf := readTimes_mem (p := fun f => VaidxBase.okFilter n f = true) (fun x u r hh => readFilter_ok hh) g1
  have c3 := colsM_out hn h3
  have c5 := colsM_out hn h5
  have ef : f.1 = v.1 := by
    rw [← g3]
    rfl
  refine ⟨fun x hx => ?_, c3.1, c5.1, ?_, Nat.le_trans c3.2 hn4, Nat.le_trans c5.2 hn4⟩
  · have hx : x ∈ f.1 := hx
    rw [ef] at hx
    exact okFilter_col (mf x hx)
  · show f.1.length ≤ 4
    rw [ef, lf]
    omega
theorem wf_index {n : Nat} (hn : 1 ≤ n) (hn4 : n ≤ 4) {ns : List Int} {i : Index} (h : indexM n ns = some i) : WfI n i := by
  unfold indexM at h
  obtain ⟨k, h1, h⟩ := bind_out h
  have c1 := colsM_out hn h1
  by_cases hk : k.1 = []
  · rw [if_pos hk] at h
    cases h
  · rw [if_neg hk] at h
    obtain ⟨o, h2, h⟩ := bind_out h
    have c2 := colsM_out hn h2
    obtain ⟨b, h3, h⟩ := bind_out h
    by_cases hb : b.1 = 1
    · rw [if_pos hb] at h
      obtain ⟨f, h4, h⟩ := bind_out h
      obtain ⟨_, h⟩ := if_out h
      rw [← h]
      exact ⟨c1.1, fun g hg => by cases hg; exact okFilter_col (readFilter_ok h4), Nat.le_trans c1.2 hn4, Nat.le_trans c2.2 hn4⟩
    · rw [if_neg hb] at h
      obtain ⟨_, h⟩ := if_out h
      rw [← h]
      exact ⟨c1.1, fun g hg => (by cases hg), Nat.le_trans c1.2 hn4, Nat.le_trans c2.2 hn4⟩
end One
set_option Elab.async false
set_option maxRecDepth 10000
set_option linter.unusedVariables false
/-! Answers: the program's cut against the specification's. -/
namespace One
open VaidxBase (Group Table Filter Question Index)
open Vaidxb (Done)
def many1 (limit : Nat) (d : Done) (left : Nat) : Nat := if 0 < limit then min d.found left else d.found
def ansM (limit : Nat) : List Done → Nat → List (Nat × Nat)
  | [], _ => []
  | d :: r, left => (if 0 < many1 limit d left then [(d.group, many1 limit d left)] else []) ++ ansM limit r (if 0 < limit then left - many1 limit d left else left)
theorem ansM_cons (limit : Nat) (d : Done) (r : List Done) (left : Nat) : ansM limit (d :: r) left = (if 0 < many1 limit d left then [(d.group, many1 limit d left)] else []) ++ ansM limit r (if 0 < limit then left - many1 limit d left else left) := rfl
theorem ansM_all {limit : Nat} (h : limit = 0) : ∀ (l : List Done) (left : Nat), (∀ d ∈ l, d.found ≠ 0) → ansM limit l left = l.map fun d => (d.group, d.found)
  | [], _, _ => rfl
  | d :: r, left, hd => by
    have h0 : ¬ 0 < limit := by omega
    have hf := hd d List.mem_cons_self
    rw [ansM_cons, ansM_all h r _ (fun x hx => hd x (List.mem_cons_of_mem _ hx))]
    unfold many1
    rw [if_neg h0, if_pos (Nat.pos_of_ne_zero hf)]
    rfl
theorem ansM_none {limit : Nat} (h : 0 < limit) : ∀ (l : List Done), ansM limit l 0 = []
  | [] => rfl
  | d :: r => by
    rw [ansM_cons]
    unfold many1
    rw [if_pos h, Nat.min_zero, if_neg (Nat.lt_irrefl 0), if_pos h, ansM_none h r]
    rfl
theorem ansM_cut {limit : Nat} (h : 0 < limit) : ∀ (l : List Done) (left : Nat), (∀ d ∈ l, d.found ≠ 0) → ansM limit l left = Vaidxb.cut left (l.map fun d => (d.group, d.found))
  | [], _, _ => rfl
  | d :: r, left, hd => by
    have hf := hd d List.mem_cons_self
    rw [ansM_cons, List.map_cons]
    show _ = if d.found < left then (d.group, d.found) :: Vaidxb.cut (left - d.found) (r.map fun d => (d.group, d.found)) else if left = 0 then [] else [(d.group, left)]
    have em : many1 limit d left = min d.found left := if_pos h
    rw [em, if_pos h]
    by_cases c : d.found < left
    · have e : min d.found left = d.found := Nat.min_eq_left (by omega)
      rw [e, if_pos c, if_pos (Nat.pos_of_ne_zero hf), ansM_cut h r _ (fun x hx => hd x (List.mem_cons_of_mem _ hx))]
      rfl
    · have e : min d.found left = left := Nat.min_eq_right (by omega)
      rw [e, if_neg c, Nat.sub_self, ansM_none h r, List.append_nil]
      by_cases c0 : left = 0
      · rw [if_pos c0, if_neg (by omega)]
      · rw [if_neg c0, if_pos (by omega)]
def hitsOf (l : List Done) : List Done := l.filter fun d => d.found != 0
def putOf (t : Table) (q : Question) (free : Bool) (l : List Done) : List Done := if free then hitsOf l else Vaidxb.inOrder t q (hitsOf l)
theorem inOrder_perm (t : Table) (q : Question) (l : List Done) : (Vaidxb.inOrder t q l).Perm l := by
  rw [inOrder_ins]
  exact insAll_perm _ l
theorem putOf_found {t : Table} {q : Question} {free : Bool} {l : List Done} : ∀ d ∈ putOf t q free l, d.found ≠ 0 := fun d hd => by
  have h : d ∈ hitsOf l := by
    unfold putOf at hd
    split at hd
    · exact hd
    · exact (inOrder_perm t q _).subset hd
  have := (List.mem_filter.mp h).2
  simpa using this
theorem putOf_len (t : Table) (q : Question) (free : Bool) (l : List Done) : (putOf t q free l).length ≤ l.length := by
  unfold putOf
  split
  · exact List.length_filter_le _ _
  · rw [(inOrder_perm t q _).length_eq]
    exact List.length_filter_le _ _
theorem answer_is (t : Table) (q : Question) (free : Bool) (l : List Done) : Vaidxb.answerOf t q free l = ansM q.limit (putOf t q free l) q.limit := by
  show (if q.limit = 0 then (putOf t q free l).map (fun d => (d.group, d.found)) else Vaidxb.cut q.limit ((putOf t q free l).map fun d => (d.group, d.found))) = _
  by_cases h : q.limit = 0
  · rw [if_pos h, ansM_all h _ _ putOf_found]
  · rw [if_neg h, ansM_cut (Nat.pos_of_ne_zero h) _ _ putOf_found]
theorem ansM_len (limit : Nat) : ∀ (l : List Done) (left : Nat), (ansM limit l left).length ≤ l.length
  | [], _ => Nat.le_refl _
  | d :: r, left => by
    rw [ansM_cons, List.length_append, List.length_cons]
    have := ansM_len limit r (if 0 < limit then left - many1 limit d left else left)
    split <;> simp only [List.length_cons, List.length_nil] <;> omega
/-! ### the order by places -/
def pairD (t : Table) (q : Question) (x : Done × Nat) : List Int × Nat := (keyBy q (rowIn t x.1.group), x.2)
def byD (t : Table) (q : Question) (a b : Done × Nat) : Bool := lexI (keyBy q (rowIn t a.1.group)) (keyBy q (rowIn t b.1.group))
theorem inOrder_zip (t : Table) (q : Question) (l : List Done) : Vaidxb.inOrder t q l = (insAll (byD t q) l.zipIdx).map (·.1) := by
  rw [inOrder_ins]
  have e := insAll_map (lt := byD t q) (lt' := fun a b => lexI (keyBy q (rowIn t a.group)) (keyBy q (rowIn t b.group))) (fun x : Done × Nat => x.1) (fun _ _ => rfl) l.zipIdx
  rw [e, List.zipIdx_map_fst]
end One
set_option Elab.async false
set_option maxRecDepth 10000
set_option linter.unusedVariables false
/-! Row by row: the machine against the groups' steps. -/
namespace One
open VaidxBase (Group Table Filter Question Index)
open Vaidxb (Done Machine runRows stepRow traced)
theorem run_more (t : Table) (own last : List Nat → Bool) (covers : Bool) (limit f : Nat) (m : Machine) :
    runRows t own last covers limit (f + 1) m = if m.left.isEmpty || (limit != 0 && decide (limit ≤ m.hits.length)) then m else runRows t own last covers limit f (stepRow t own last covers m) := rfl
theorem run_stop {t : Table} {own last : List Nat → Bool} {covers : Bool} {limit : Nat} {m : Machine} (h : limit ≠ 0 ∧ limit ≤ m.hits.length) : ∀ f, runRows t own last covers limit f m = m
  | 0 => rfl
  | f + 1 => by
    rw [run_more, if_pos]
    rw [decide_eq_true h.2, bne_iff_ne.mpr h.1]
    simp
theorem cutK_zero (last : Bool) (limit n : Nat) : cutK last limit n 0 = 0 := by
  unfold cutK
  split
  · omega
  · rfl
theorem cutK_le (last : Bool) (limit n k : Nat) : cutK last limit n k ≤ k := by
  unfold cutK
  split
  · omega
  · exact Nat.le_refl _
theorem run_one {t : Table} {own last : List Nat → Bool} {covers : Bool} {limit g : Nat} {rest : List Nat} : ∀ (k f a b c : Nat) (hits : List Nat), ¬ (limit ≠ 0 ∧ limit ≤ hits.length) →
    runRows t own last covers limit (k + f) ⟨List.replicate k g ++ rest, ⟨a, b, c⟩, hits⟩ =
      runRows t own last covers limit (k - cutK (last (Vaidxb.rowAt t g)) limit hits.length k + f) ⟨List.replicate (k - cutK (last (Vaidxb.rowAt t g)) limit hits.length k) g ++ rest,
        ⟨a + cutK (last (Vaidxb.rowAt t g)) limit hits.length k, b + if own (Vaidxb.rowAt t g) && !covers then cutK (last (Vaidxb.rowAt t g)) limit hits.length k else 0, c⟩,
        hits ++ if last (Vaidxb.rowAt t g) then List.replicate (cutK (last (Vaidxb.rowAt t g)) limit hits.length k) g else []⟩
  | 0, f, a, b, c, hits, h => by
    rw [cutK_zero]
    simp
  | k + 1, f, a, b, c, hits, h => by
    have e0 : (limit != 0 && decide (limit ≤ hits.length)) = false := by
      by_cases h0 : limit = 0
      · subst h0
        rfl
      · rw [decide_eq_false (fun z => h ⟨h0, z⟩), Bool.and_false]
    rw [show k + 1 + f = (k + f) + 1 by omega, run_more]
    show (if (List.replicate (k + 1) g ++ rest).isEmpty || (limit != 0 && decide (limit ≤ hits.length)) then _ else _) = _
    rw [e0, List.replicate_succ]
    show runRows t own last covers limit (k + f) ⟨List.replicate k g ++ rest, ⟨a + 1, if own (Vaidxb.rowAt t g) && !covers then b + 1 else b, c⟩, if last (Vaidxb.rowAt t g) then hits ++ [g] else hits⟩ = _
    cases hl : last (Vaidxb.rowAt t g) with
    | false =>
      have ih := run_one (t := t) (own := own) (last := last) (covers := covers) (limit := limit) (g := g) (rest := rest) k f (a + 1) (if own (Vaidxb.rowAt t g) && !covers then b + 1 else b) c hits h
      have e1 : ∀ m, cutK false limit hits.length m = m := fun m => by
        unfold cutK
        exact if_neg (fun z => by simp at z)
      rw [hl] at ih
      simp only [e1, Bool.false_eq_true, if_false, Nat.sub_self, List.append_nil] at ih ⊢
      rw [ih]
      congr 2
      cases own (Vaidxb.rowAt t g) && !covers with
      | true => simp; omega
      | false => simp; omega
    | true =>
      by_cases hs : limit ≠ 0 ∧ limit ≤ hits.length + 1
      · have e1 : cutK true limit hits.length (k + 1) = 1 := by
          have hh : hits.length < limit := by
            have := h
            by_cases q : limit ≤ hits.length
            · exact absurd ⟨hs.1, q⟩ h
            · omega
          unfold cutK
          by_cases q : limit ≠ 0 ∧ true = true ∧ limit - hits.length < k + 1
          · rw [if_pos q]
            omega
          · rw [if_neg q]
            have : ¬ limit - hits.length < k + 1 := fun z => q ⟨hs.1, rfl, z⟩
            omega
        rw [e1]
        simp only [if_true, Nat.add_sub_cancel]
        congr 2
        cases own (Vaidxb.rowAt t g) && !covers <;> simp
      · have ih := run_one (t := t) (own := own) (last := last) (covers := covers) (limit := limit) (g := g) (rest := rest) k f (a + 1) (if own (Vaidxb.rowAt t g) && !covers then b + 1 else b) c (hits ++ [g]) (by simpa using hs)
        have e1 : cutK true limit hits.length (k + 1) = cutK true limit (hits.length + 1) k + 1 := by
          unfold cutK
          by_cases h0 : limit = 0
          · rw [if_neg (fun z => z.1 h0), if_neg (fun z => z.1 h0)]
          · have hh : hits.length + 1 < limit := by
              by_cases q : limit ≤ hits.length + 1
              · exact absurd ⟨h0, q⟩ hs
              · omega
            by_cases q : limit - hits.length < k + 1
            · rw [if_pos ⟨h0, rfl, q⟩, if_pos ⟨h0, rfl, by omega⟩]
              omega
            · rw [if_neg (fun z => q z.2.2), if_neg (fun z => q (by have := z.2.2; omega))]
        rw [hl, List.length_append, List.length_singleton] at ih
        rw [e1]
        simp only [if_true] at ih ⊢
        rw [ih, show k + 1 - (cutK true limit (hits.length + 1) k + 1) = k - cutK true limit (hits.length + 1) k by omega]
        congr 2
        · cases own (Vaidxb.rowAt t g) && !covers with
          | true => simp; omega
          | false => simp; omega
        · rw [List.append_assoc, List.replicate_succ]
          rfl
theorem run_all {t : Table} {own last : List Nat → Bool} {covers : Bool} {limit : Nat} : ∀ (l : List Group) (a b c : Nat) (hits : List Nat), (∀ g ∈ l, Vaidxb.rowAt t (Vaidxb.placeOf t g) = g.row) →
    (runRows t own last covers limit (Vaidxb.spread t l).length ⟨Vaidxb.spread t l, ⟨a, b, c⟩, hits⟩).work = ⟨a + sumT (traced t own last covers limit l hits.length), b + sumL (traced t own last covers limit l hits.length), c⟩ ∧
    (runRows t own last covers limit (Vaidxb.spread t l).length ⟨Vaidxb.spread t l, ⟨a, b, c⟩, hits⟩).hits = hits ++ (traced t own last covers limit l hits.length).flatMap fun d => List.replicate d.found d.group
  | [], a, b, c, hits, _ => by
    refine ⟨rfl, ?_⟩
    show hits = hits ++ []
    rw [List.append_nil]
  | g :: l, a, b, c, hits, h => by
    by_cases hs : limit ≠ 0 ∧ limit ≤ hits.length
    · rw [run_stop hs, traced_stop ⟨hs.1, by omega⟩]
      refine ⟨rfl, ?_⟩
      show hits = hits ++ []
      rw [List.append_nil]
    · have hgo : ¬ (limit ≠ 0 ∧ limit - hits.length = 0) := fun z => hs ⟨z.1, by omega⟩
      have hr := h g List.mem_cons_self
      have esp : Vaidxb.spread t (g :: l) = List.replicate g.count (Vaidxb.placeOf t g) ++ Vaidxb.spread t l := by
        unfold Vaidxb.spread
        rw [List.flatMap_cons]
      have ro := run_one (t := t) (own := own) (last := last) (covers := covers) (limit := limit) (g := Vaidxb.placeOf t g) (rest := Vaidxb.spread t l) g.count (Vaidxb.spread t l).length a b c hits hs
      rw [hr] at ro
      rw [esp, List.length_append, List.length_replicate, ro, traced_go hgo]
      have hk := cutK_le (last g.row) limit hits.length g.count
      have hle : (hits ++ if last g.row then List.replicate (cutK (last g.row) limit hits.length g.count) (Vaidxb.placeOf t g) else []).length = hits.length + if last g.row then cutK (last g.row) limit hits.length g.count else 0 := by
        rw [List.length_append]
        cases last g.row <;> simp
      by_cases hc : cutK (last g.row) limit hits.length g.count = g.count
      · have ih := run_all (t := t) (own := own) (last := last) (covers := covers) (limit := limit) l (a + cutK (last g.row) limit hits.length g.count) (b + if own g.row && !covers then cutK (last g.row) limit hits.length g.count else 0) c
          (hits ++ if last g.row then List.replicate (cutK (last g.row) limit hits.length g.count) (Vaidxb.placeOf t g) else []) (fun x hx => h x (List.mem_cons_of_mem _ hx))
        rw [hle] at ih
        have e0 : g.count - cutK (last g.row) limit hits.length g.count = 0 := by omega
        rw [e0, Nat.zero_add, List.replicate_zero, List.nil_append]
        refine ⟨?_, ?_⟩
        · rw [ih.1]
          unfold sumT sumL
          rw [List.map_cons, List.map_cons, List.sum_cons, List.sum_cons]
          dsimp only
          congr 1 <;> omega
        · rw [ih.2, List.flatMap_cons, ← List.append_assoc]
          congr 2
          cases last g.row <;> rfl
      · have hlast : limit ≠ 0 ∧ last g.row = true ∧ cutK (last g.row) limit hits.length g.count = limit - hits.length := by
          unfold cutK at hc ⊢
          by_cases q : limit ≠ 0 ∧ last g.row = true ∧ limit - hits.length < g.count
          · exact ⟨q.1, q.2.1, if_pos q⟩
          · rw [if_neg q] at hc
            exact absurd rfl hc
        obtain ⟨l0, l1, l2⟩ := hlast
        have hlen : hits.length + (limit - hits.length) = limit := by
          have : ¬ limit ≤ hits.length := fun z => hs ⟨l0, z⟩
          omega
        rw [run_stop (by
          refine ⟨l0, ?_⟩
          show limit ≤ (hits ++ _).length
          rw [hle, if_pos l1, l2, hlen]
          exact Nat.le_refl _)]
        have e1 : traced t own last covers limit l (hits.length + if last g.row then cutK (last g.row) limit hits.length g.count else 0) = [] := by
          rw [if_pos l1, l2, hlen]
          exact traced_stop ⟨l0, by omega⟩ l
        rw [e1]
        refine ⟨?_, ?_⟩
        · unfold sumT sumL
          simp
        · show (hits ++ _) = hits ++ _
          congr 1
          rw [List.flatMap_cons, List.flatMap_nil, List.append_nil]
          dsimp only
          rw [if_pos l1, if_pos l1]
theorem machine_is (t : Table) (i : Index) (q : Question) (h : ∀ g ∈ VaidxBase.entries t i q, Vaidxb.rowAt t (Vaidxb.placeOf t g) = g.row) :
    (Vaidxb.indexMachine t i q).work.touched = sumT (Vaidxb.indexTrace t i q) ∧ (Vaidxb.indexMachine t i q).work.looked = sumL (Vaidxb.indexTrace t i q) ∧
    (Vaidxb.indexMachine t i q).work.sorted = sortedOf (VaidxBase.isFree i q) (Vaidxb.indexTrace t i q) ∧ (Vaidxb.indexMachine t i q).hits = (Vaidxb.indexTrace t i q).flatMap (fun d => List.replicate d.found d.group) := by
  have r := run_all (t := t) (own := fun r => (VaidxBase.ownFilters i q).all (VaidxBase.passes r)) (last := VaidxBase.found q) (covers := VaidxBase.covers i q) (limit := if VaidxBase.isFree i q then q.limit else 0) (VaidxBase.entries t i q) 0 0 0 [] h
  obtain ⟨r1, r2⟩ := r
  have e : (Vaidxb.indexTrace t i q) = traced t (fun r => (VaidxBase.ownFilters i q).all (VaidxBase.passes r)) (VaidxBase.found q) (VaidxBase.covers i q) (if VaidxBase.isFree i q then q.limit else 0) (VaidxBase.entries t i q) ([] : List Nat).length := rfl
  rw [← e] at r1 r2
  unfold Vaidxb.indexMachine
  dsimp only
  rw [r1, r2]
  refine ⟨?_, ?_, ?_, List.nil_append _⟩
  · exact Nat.zero_add _
  · exact Nat.zero_add _
  · unfold sortedOf
    cases VaidxBase.isFree i q with
    | true => rfl
    | false =>
      simp only [Bool.false_eq_true, if_false, List.nil_append]
      unfold sumF
      rw [List.length_flatMap]
      simp
/-! ### sizes of the steps -/
theorem traced_sumF_le (t : Table) (own last : List Nat → Bool) (covers : Bool) (limit : Nat) : ∀ (l : List Group) (n : Nat), sumF (traced t own last covers limit l n) ≤ VaidxBase.rowsOf l
  | [], n => Nat.le_refl _
  | g :: l, n => by
    by_cases h : limit ≠ 0 ∧ limit - n = 0
    · rw [traced_stop h]
      exact Nat.zero_le _
    · rw [traced_go h, rowsOf_cons]
      have ih := traced_sumF_le t own last covers limit l (n + if last g.row then cutK (last g.row) limit n g.count else 0)
      have hk := cutK_le (last g.row) limit n g.count
      unfold sumF at ih ⊢
      rw [List.map_cons, List.sum_cons]
      have : (if last g.row then cutK (last g.row) limit n g.count else 0) ≤ g.count := by split <;> omega
      show (if last g.row then cutK (last g.row) limit n g.count else 0) + _ ≤ _
      omega
theorem traced_len (t : Table) (own last : List Nat → Bool) (covers : Bool) (limit : Nat) : ∀ (l : List Group) (n : Nat), (traced t own last covers limit l n).length ≤ l.length
  | [], n => Nat.le_refl _
  | g :: l, n => by
    by_cases h : limit ≠ 0 ∧ limit - n = 0
    · rw [traced_stop h]
      exact Nat.zero_le _
    · rw [traced_go h, List.length_cons, List.length_cons]
      have := traced_len t own last covers limit l (n + if last g.row then cutK (last g.row) limit n g.count else 0)
      omega
theorem traced_group (t : Table) (own last : List Nat → Bool) (covers : Bool) (limit : Nat) : ∀ (l : List Group) (n : Nat), ∀ d ∈ traced t own last covers limit l n, ∃ g ∈ l, d.group = Vaidxb.placeOf t g
  | [], n, d, h => by cases h
  | g :: l, n, d, hd => by
    by_cases h : limit ≠ 0 ∧ limit - n = 0
    · rw [traced_stop h] at hd
      cases hd
    · rw [traced_go h] at hd
      rcases List.mem_cons.mp hd with rfl | hd
      · exact ⟨g, List.mem_cons_self, rfl⟩
      · obtain ⟨x, hx, e⟩ := traced_group t own last covers limit l _ d hd
        exact ⟨x, List.mem_cons_of_mem _ hx, e⟩
end One
set_option Elab.async false
set_option maxRecDepth 10000
set_option linter.unusedVariables false
/-! The calls as one list of numbers. -/
namespace One
def callNo : Vaidxb.Call → Nat
  | .table _ => 0 | .question _ => 1 | .index _ => 2 | .plan => 3 | .why => 4 | .work => 5 | .whole => 6 | .best => 7 | .trace _ => 8 | .answer _ => 9 | .rows => 10 | .prefixes => 11
def callNs : Vaidxb.Call → List Int
  | .trace k => [k] | .answer k => [k] | _ => []
def callRow : Vaidxb.Call → List Int
  | .table l => l | .question l => l | .index l => l | _ => []
def callZ : Vaidxb.Call → Int
  | .trace k => k | .answer k => k | _ => 0
def rowPart (c : Vaidxb.Call) : List Int := if callNo c < 3 then ((callRow c).length : Int) :: callRow c else []
def flatC (c : Vaidxb.Call) : List Int := (callNo c : Int) :: (callNs c ++ rowPart c)
def toldAll : Vaidxb.State → List Vaidxb.Call → List Int
  | _, [] => []
  | s, c :: r => ((Vaidxb.step s c).2.length : Int) :: ((Vaidxb.step s c).2 ++ toldAll (Vaidxb.step s c).1 r)
theorem whole_id (c : List (List Int)) : PyVaidxb.whole c = c := by
  unfold PyVaidxb.whole
  split <;> rfl
theorem asked_form {c : List (List Int)} (h : VaidxbNeutral.asked1 c = true) : ∃ k : Vaidxb.Call, VaidxbNeutral.callOf c = some k ∧ PyFlat.put1 c = flatC k ∧ (callRow k).length ≤ 1000 := by
  unfold VaidxbNeutral.asked1 at h
  split at h
  · rename_i a
    have l : a.length ≤ 80 := by
      unfold VaidxbNeutral.allWhole at h
      exact of_decide_eq_true (Bool.and_eq_true_iff.mp h).2
    exact ⟨.table a, rfl, by simp [PyFlat.put1, PyFlat.putRows, PyFlat.putRow, flatC, rowPart, callNo, callNs, callRow], by show a.length ≤ 1000; omega⟩
  · rename_i a
    have l : a.length ≤ 40 := by
      unfold VaidxbNeutral.allWhole at h
      exact of_decide_eq_true (Bool.and_eq_true_iff.mp h).2
    exact ⟨.question a, rfl, by simp [PyFlat.put1, PyFlat.putRows, PyFlat.putRow, flatC, rowPart, callNo, callNs, callRow], by show a.length ≤ 1000; omega⟩
  · rename_i a
    have l : a.length ≤ 20 := by
      unfold VaidxbNeutral.allWhole at h
      exact of_decide_eq_true (Bool.and_eq_true_iff.mp h).2
    exact ⟨.index a, rfl, by simp [PyFlat.put1, PyFlat.putRows, PyFlat.putRow, flatC, rowPart, callNo, callNs, callRow], by show a.length ≤ 1000; omega⟩
  · exact ⟨.plan, rfl, rfl, by decide⟩
  · exact ⟨.why, rfl, rfl, by decide⟩
  · exact ⟨.work, rfl, rfl, by decide⟩
  · exact ⟨.whole, rfl, rfl, by decide⟩
  · exact ⟨.best, rfl, rfl, by decide⟩
  · rename_i k
    exact ⟨.trace k, rfl, rfl, Nat.zero_le _⟩
  · rename_i k
    exact ⟨.answer k, rfl, rfl, Nat.zero_le _⟩
  · exact ⟨.rows, rfl, rfl, by decide⟩
  · exact ⟨.prefixes, rfl, rfl, by decide⟩
  · cases h
theorem all_form : ∀ {raw : List (List (List Int))}, raw.all VaidxbNeutral.asked1 = true → ∃ cs : List Vaidxb.Call, PyFlat.put raw = cs.flatMap flatC ∧ (∀ c ∈ cs, (callRow c).length ≤ 1000) ∧
    (∀ s : Vaidxb.State, PyFlat.told (PyFlat.played VaidxbNeutral.step s raw) = toldAll s cs) ∧ (cs = [] → raw = [])
  | [], _ => ⟨[], rfl, (fun _ h => by cases h), fun _ => rfl, fun _ => rfl⟩
  | c :: raw, h => by
    rw [List.all_cons, Bool.and_eq_true] at h
    obtain ⟨k, e1, e2, e3⟩ := asked_form h.1
    obtain ⟨cs, f1, f2, f3, f4⟩ := all_form h.2
    refine ⟨k :: cs, ?_, ?_, ?_, (fun z => by cases z)⟩
    · show PyFlat.put1 c ++ PyFlat.put raw = _
      rw [e2, f1, List.flatMap_cons]
    · intro x hx
      rcases List.mem_cons.mp hx with rfl | hx
      · exact e3
      · exact f2 x hx
    · intro s
      have es : VaidxbNeutral.step s c = Vaidxb.step s k := by
        unfold VaidxbNeutral.step
        rw [e1]
      show PyFlat.told ((VaidxbNeutral.step s c).2 :: PyFlat.played VaidxbNeutral.step (VaidxbNeutral.step s c).1 raw) = _
      rw [es]
      unfold PyFlat.told
      rw [List.flatMap_cons]
      have := f3 (Vaidxb.step s k).1
      unfold PyFlat.told at this
      rw [this]
      rfl
theorem asked_calls {ns : List Int} (h : PyVaidxb.answers_asked ns = true) : ∃ cs : List Vaidxb.Call, ns = cs.flatMap flatC ∧ (∀ c ∈ cs, (callRow c).length ≤ 1000) ∧ PyVaidxb.answers ns = toldAll Vaidxb.start cs ∧ (PyVaidxb.answers ns).length ≤ 10000000 := by
  unfold PyVaidxb.answers_asked at h
  cases e : PyFlat.calls PyVaidxb.shape ns.length ns with
  | none =>
    rw [e] at h
    cases h
  | some raw =>
    rw [e] at h
    simp only [Bool.and_eq_true] at h
    obtain ⟨⟨⟨⟨h1, h2⟩, h3⟩, h4⟩, h5⟩ := h
    have em : raw.map PyVaidxb.whole = raw := by
      conv => rhs; rw [← List.map_id raw]
      exact List.map_congr_left fun c _ => whole_id c
    rw [em] at h4
    unfold VaidxbNeutral.asked at h4
    obtain ⟨cs, f1, f2, f3, f4⟩ := all_form (Bool.and_eq_true_iff.mp h4).1
    have ea : PyVaidxb.answers ns = toldAll Vaidxb.start cs := by
      unfold PyVaidxb.answers PyVaidxb.calls
      rw [e]
      dsimp only
      rw [em]
      exact f3 _
    refine ⟨cs, ?_, f2, ea, of_decide_eq_true h5⟩
    rw [← f1]
    exact (PyFlat.put_calls _ _ _ e).1
end One
set_option Elab.async false
set_option linter.all false
set_option maxRecDepth 100000
set_option maxHeartbeats 2000000
/-! Rules that the layer lacks: a list of anything against []; sorted of pairs (list of ints, int). -/
namespace L2
open PySem PySem.Spec PyProof.Rows
section
variable {X : Cx}
/-- xs == [] whatever stands in xs -/
def rEqE (K : PySem.W.Frag) : R2 := fun x y H Q => ∃ (a b : Addr) (xs : List V), x = .ref a ∧ y = .ref b ∧ SqL K H a xs ∧ SqL K H b [] ∧ Q (.bl xs.isEmpty) H
theorem op_eqE (hu : X.A.units < cLine) : OpR X (compareOp .Eq) (rEqE X.K) := by
  intro pins s σ H x y v u Q I rx ry h
  obtain ⟨a, b, xs, rfl, rfl, ha, hb, q⟩ := h
  cases rx
  cases ry
  obtain ⟨its, r, pl, hz⟩ := I.list ha
  obtain ⟨its2, r2, pl2, hz2⟩ := I.list hb
  cases r2
  cases xs with
  | nil =>
    cases r
    refine SeqAt.eq_listAt (e := fun _ => true) pl.isList pl2.isList rfl hu (fun j h1 _ => absurd h1 (by simp)) ⟨.bl _, H, I, rfl, q⟩
  | cons x0 xr =>
    cases r with
    | cons ru rr =>
      exact SeqAt.eq_list_lengthsAt pl.isList pl2.isList (by simp) hu ⟨.bl _, H, I, rfl, q⟩
/-! ### sorted(..) of pairs (a list of ints, an int) whose ints grow -/
abbrev KN := Addr × List Int × Nat
def encKN (b : KN) : PyData := .tuple [.list (b.2.1.map .int), .int ((b.2.2 : Nat) : Int)]
def TupKN (K : PySem.W.Frag) (H : Hp) (b : KN) : Prop := ∃ kp : Addr, SqT K H b.1 [.ref kp, .int ((b.2.2 : Nat) : Int)] ∧ SqL K H kp (b.2.1.map V.int)
def byKN (a b : KN) : Bool := One.lexI a.2.1 b.2.1
def rSortKN (K : PySem.W.Frag) : List V → Hp → VK → Prop := fun vs H Q => ∃ (a : Addr) (bs : List KN), vs = [V.ref a] ∧ SqL K H a (bs.map fun b => V.ref b.1) ∧ (∀ b ∈ bs, TupKN K H b) ∧ bs.Pairwise (fun a b => a.2.2 < b.2.2) ∧
  ∀ p, H p = none → Q (.ref p) (upd H p (.lst ((One.insAll byKN bs).map fun b => V.ref b.1)))
theorem dp_ints {K : PySem.W.Frag} {H : Hp} : ∀ ns : List Int, DpAll K H (ns.map V.int) (ns.map PyData.int)
  | [] => .nil
  | n :: r => .cons (.int n) (dp_ints r)
theorem TupKN.dp {K : PySem.W.Frag} {H : Hp} {b : KN} (h : TupKN K H b) : Dp K H (.ref b.1) (encKN b) := by
  obtain ⟨kp, h1, h2⟩ := h
  exact .tup h1 (.cons (.lst h2 (dp_ints _)) (.cons (.int _) .nil))
theorem each_refs : ∀ {bs : List KN} {its : List Value}, Vals (bs.map fun b => V.ref b.1) its → PySem.W.EachIs (fun (v : Value) (b : KN) => v = .ref b.1) its bs
  | [], its, r => by
    cases r
    exact .nil
  | b :: bs, its, r => by
    cases r with
    | cons r1 r2 => exact .cons r1 (each_refs r2)
theorem refs_each : ∀ {bs : List KN} {its : List Value}, PySem.W.EachIs (fun (v : Value) (b : KN) => v = .ref b.1) its bs → Vals (bs.map fun b => V.ref b.1) its
  | _, _, .nil => .nil
  | _, _, .cons e t => .cons (show RelV (.ref _) _ from e) (refs_each t)
theorem each_reads {pins : List (Addr × Obj)} {s : Shared} {σ : St} {H : Hp} (I : Inv X pins σ H s) : ∀ {bs : List KN} {its : List Value}, PySem.W.EachIs (fun (v : Value) (b : KN) => v = .ref b.1) its bs → (∀ b ∈ bs, TupKN X.K H b) →
    PySem.W.EachIs (fun (v : Value) (b : KN) => ∃ as, Reads s.heap v (encKN b) as) its bs
  | _, _, .nil, _ => .nil
  | _, _, .cons e t, h => by
    subst e
    refine .cons ?_ (each_reads I t fun b hb => h b (List.mem_cons_of_mem _ hb))
    exact Dp.reads I _ _ _ (h _ List.mem_cons_self).dp rfl
theorem alikeKN (b c : KN) : PySem.W.alike (encKN b) (encKN c) = true := by
  unfold encKN
  simp only [PySem.W.alike, PySem.W.alikeAll, PySem.W.alike_ints, Bool.and_true]
theorem depthKN (b : KN) : (encKN b).depth ≤ 2 := by
  unfold encKN
  simp only [PyData.depth, PyData.depthAll, PySem.W.depth_ints]
  omega
theorem lt_lexI : ∀ xs ys : List Int, decide (xs < ys) = One.lexI xs ys
  | [], [] => by simp [One.lexI]
  | [], _ :: _ => by simp [One.lexI]
  | _ :: _, [] => by simp [One.lexI]
  | x :: xs, y :: ys => by
    have ih := lt_lexI xs ys
    unfold One.lexI
    rw [← ih]
    by_cases h1 : x < y
    · simp [h1, List.cons_lt_cons_iff]
    · by_cases h2 : x = y
      · simp [h2, List.cons_lt_cons_iff]
      · simp [h1, h2, List.cons_lt_cons_iff]
theorem eqv_ints : ∀ xs ys : List Int, PyData.eqvAll (xs.map .int) (ys.map .int) = decide (xs = ys)
  | [], [] => by simp [PyData.eqvAll]
  | [], _ :: _ => by simp [PyData.eqvAll]
  | _ :: _, [] => by simp [PyData.eqvAll]
  | x :: xs, y :: ys => by
    simp only [List.map_cons, PyData.eqvAll, PyData.eqv, eqv_ints xs ys]
    by_cases h1 : x = y
    · by_cases h2 : xs = ys
      · simp [h1, h2]
      · simp [h1, h2]
    · simp [h1]
theorem dataLt_KN (b c : KN) : PySem.W.dataLt (encKN b) (encKN c) = (One.lexI b.2.1 c.2.1 || (decide (b.2.1 = c.2.1) && decide (b.2.2 < c.2.2))) := by
  have a1 : PySem.W.alike (.list (b.2.1.map .int)) (.list (c.2.1.map .int)) = true := by
    simp only [PySem.W.alike, PySem.W.alike_ints]
  have a2 : PySem.W.alike (.int ((b.2.2 : Nat) : Int)) (.int ((c.2.2 : Nat) : Int)) = true := rfl
  unfold encKN
  rw [PySem.W.dataLt_pair a1 a2]
  have e1 : PyData.eqv (.list (b.2.1.map .int)) (.list (c.2.1.map .int)) = decide (b.2.1 = c.2.1) := by
    simp only [PyData.eqv, eqv_ints]
  have e2 : PySem.W.dataLt (.list (b.2.1.map .int)) (.list (c.2.1.map .int)) = One.lexI b.2.1 c.2.1 := by
    have q := congrFun (congrFun (PySem.W.dataLe_rows (fun b : KN => b.2.1)) c) b
    rw [PySem.W.dataLe_eq] at q
    have q' : (!PySem.W.dataLt (.list (b.2.1.map .int)) (.list (c.2.1.map .int))) = decide (c.2.1 ≤ b.2.1) := q
    have q2 : PySem.W.dataLt (.list (b.2.1.map .int)) (.list (c.2.1.map .int)) = !decide (c.2.1 ≤ b.2.1) := by rw [← q', Bool.not_not]
    rw [q2, ← lt_lexI]
    by_cases h : b.2.1 < c.2.1
    · rw [decide_eq_true h, decide_eq_false (List.not_le.mpr h)]
      rfl
    · rw [decide_eq_false h, decide_eq_true (List.not_lt.mp h)]
      rfl
  have e3 : PySem.W.dataLt (.int ((b.2.2 : Nat) : Int)) (.int ((c.2.2 : Nat) : Int)) = decide (b.2.2 < c.2.2) := by
    rw [PySem.W.dataLt_int]
    by_cases h : b.2.2 < c.2.2
    · rw [decide_eq_true h, decide_eq_true (by omega)]
    · rw [decide_eq_false h, decide_eq_false (by omega)]
  rw [e1, e2, e3]
  have e4 : PyData.eqv (.int ((b.2.2 : Nat) : Int)) (.int ((c.2.2 : Nat) : Int)) = decide (b.2.2 = c.2.2) := by
    simp only [PyData.eqv]
    by_cases h : b.2.2 = c.2.2
    · simp [h]
    · rw [decide_eq_false h]
      exact beq_eq_false_iff_ne.mpr (by omega)
  rw [e4]
  by_cases h1 : b.2.1 = c.2.1
  · rw [if_pos (decide_eq_true h1), h1, One.lexI_irrefl, Bool.false_or, decide_eq_true rfl, Bool.true_and]
    by_cases h2 : b.2.2 = c.2.2
    · rw [if_pos (decide_eq_true h2), decide_eq_false (by omega)]
    · rw [if_neg (by simp [h2])]
  · rw [if_neg (by simp [h1]), decide_eq_false h1, Bool.false_and, Bool.or_false]
theorem leKN (b c : KN) : PySem.W.dataLe false encKN b c = !(One.lexI c.2.1 b.2.1 || (decide (c.2.1 = b.2.1) && decide (c.2.2 < b.2.2))) := by
  rw [PySem.W.dataLe_eq]
  show (!PySem.W.dataLt (encKN c) (encKN b)) = _
  rw [dataLt_KN]
theorem leKN_trans (a b c : KN) (h1 : PySem.W.dataLe false encKN a b = true) (h2 : PySem.W.dataLe false encKN b c = true) : PySem.W.dataLe false encKN a c = true := by
  rw [leKN] at h1 h2 ⊢
  simp only [Bool.not_eq_true', Bool.or_eq_false_iff, Bool.and_eq_false_iff, decide_eq_false_iff_not] at h1 h2 ⊢
  obtain ⟨l1, k1⟩ := h1
  obtain ⟨l2, k2⟩ := h2
  have tri : ∀ x y : List Int, One.lexI y x = false → One.lexI x y = true ∨ x = y := fun x y h => by
    rcases One.lexI_tri x y with q | q | q
    · exact .inl q
    · exact .inr q
    · rw [h] at q; cases q
  rcases tri _ _ l1 with q1 | q1 <;> rcases tri _ _ l2 with q2 | q2
  · have t := One.lexI_trans q1 q2
    refine ⟨One.lexI_asymm t, .inl fun e => ?_⟩
    rw [e, One.lexI_irrefl] at t
    cases t
  · rw [← q2]
    refine ⟨One.lexI_asymm q1, .inl fun e => ?_⟩
    rw [e, One.lexI_irrefl] at q1
    cases q1
  · rw [q1]
    refine ⟨One.lexI_asymm q2, .inl fun e => ?_⟩
    rw [e, One.lexI_irrefl] at q2
    cases q2
  · rw [q1, q2]
    refine ⟨One.lexI_irrefl _, .inr ?_⟩
    have a1 : ¬ b.2.2 < a.2.2 := k1.resolve_left fun z => z q1.symm
    have a2 : ¬ c.2.2 < b.2.2 := k2.resolve_left fun z => z q2.symm
    omega
theorem leKN_total (a b : KN) : (PySem.W.dataLe false encKN a b || PySem.W.dataLe false encKN b a) = true := by
  rw [leKN, leKN]
  cases e : One.lexI b.2.1 a.2.1 with
  | true =>
    have h1 := One.lexI_asymm e
    have h2 : ¬ a.2.1 = b.2.1 := fun z => by rw [z, One.lexI_irrefl] at e; cases e
    rw [h1]
    simp [h2]
  | false =>
    cases e2 : One.lexI a.2.1 b.2.1 with
    | true =>
      have h2 : ¬ b.2.1 = a.2.1 := fun z => by rw [z, One.lexI_irrefl] at e2; cases e2
      simp [h2]
    | false =>
      by_cases h : b.2.2 < a.2.2
      · have : ¬ a.2.2 < b.2.2 := by omega
        simp [this]
      · simp [h]
theorem mergeKN {bs : List KN} (ho : bs.Pairwise (fun a b => a.2.2 < b.2.2)) : bs.mergeSort (PySem.W.dataLe false encKN) = One.insAll byKN bs := by
  have hp : (bs.mergeSort (PySem.W.dataLe false encKN)).Perm bs := List.mergeSort_perm _ _
  refine One.order_is (key := fun b : KN => b.2.1) (ix := fun b => b.2.2) ho hp ?_
  have hs := List.pairwise_mergeSort (le := PySem.W.dataLe false encKN) leKN_trans leKN_total bs
  have hn : (bs.mergeSort (PySem.W.dataLe false encKN)).Pairwise (fun a b => a.2.2 ≠ b.2.2) := (List.Perm.pairwise_iff (fun {a b} (h : a.2.2 ≠ b.2.2) => Ne.symm h) hp).mpr (ho.imp fun h => Nat.ne_of_lt h)
  refine (hs.and hn).imp fun {a b} ⟨h1, h2⟩ => ?_
  rw [leKN] at h1
  simp only [Bool.not_eq_true', Bool.or_eq_false_iff, Bool.and_eq_false_iff, decide_eq_false_iff_not] at h1
  rcases One.lexI_tri a.2.1 b.2.1 with q | q | q
  · exact .inl q
  · refine .inr ⟨q, ?_⟩
    have : ¬ b.2.2 < a.2.2 := h1.2.resolve_left fun z => z q.symm
    show a.2.2 < b.2.2
    omega
  · rw [h1.1] at q
    cases q
theorem cr_sortKN (hu : X.A.units + 64 < cLine) : CallR X (.builtin "sorted") (rSortKN X.K) := by
  intro pins s σ H vs us Q I r h
  obtain ⟨a, bs, rfl, hs, hb, ho, q⟩ := h
  obtain ⟨its, rv, hl, hz⟩ := I.list hs
  rw [Vals.ref1 r]
  have e := each_refs rv
  refine PySem.W.sorted_data (enc := encKN) (R := fun (v : Value) (b : KN) => v = .ref b.1) hl.isList e (each_reads I e hb) (PySem.W.AllAlike.of alikeKN) (PySem.W.Sortable.tuples fun b => ⟨_, _, rfl⟩) (by rw [List.length_map] at hz; exact hz) (fun b _ => by have := depthKN b; omega) fun out hlen hR => ?_
  obtain ⟨ep, he'⟩ := PyProof.Rows.sortedAll_at s.heap its out.toArray
  rw [mergeKN ho] at hR
  have hlen2 : ((One.insAll byKN bs).map fun b => V.ref b.1).length ≤ sizeLine := by
    rw [List.length_map, (One.insAll_perm byKN bs).length_eq]
    rw [List.length_map] at hz
    exact hz
  exact ⟨.ref _, upd H (s.heap.objs.size + 1) (.lst ((One.insAll byKN bs).map fun b => V.ref b.1)), I.laid (t' := s.toks) (fun _ _ => PyProof.Rows.sortedAll_old) (Nat.le_succ _) ⟨hlen2, out, ep, refs_each hR, he'⟩, rfl, q _ (I.hok.fresh (Nat.le_succ _))⟩
end
theorem huOf {A : Around} {k : Nat} (hr : Room k A) : A.units + 64 < cLine := hr.units
theorem huOf0 {A : Around} {k : Nat} (hr : Room k A) : A.units < cLine := by have := hr.un; omega
theorem huOf5 {A : Around} {k : Nat} (hr : Room k A) : A.units + 65 < cLine := by have := hr.un; omega
section
variable {X : Cx}
/-- the same rules where the written part is told apart (within a comprehension's block) -/
theorem pe_fldK {K : PySem.W.Frag} {e : Expr} {f : Str} {ta : TE} {pos : Pos} (hK : X.K = K) (he : PE X e ta) (hb : attributeBase e f X.env (eval e X.env) = eval e X.env) : PE X (.Attribute e f pos) (tFld K ta f) := by
  subst hK
  exact pe_fld he hb
theorem op_in_seqK {K : PySem.W.Frag} (hK : X.K = K) : OpR X (compareOp .In) (rIn K false) := by
  subst hK
  exact op_in_seq
theorem ix_listK {K : PySem.W.Frag} (hK : X.K = K) : IxR X (rIxL K) := by
  subst hK
  exact ix_list
theorem pg_tupK {K : PySem.W.Frag} {es : List Expr} {k : Nat} {t : TGs} {n : Nat} {pos : Pos} (hK : X.K = K) (hc : X.calm = true) (h : PGs X es t)
    (hn : (assignEach es X.env).length = n := by rfl) (hst : (assignEach es X.env).findIdx? (·.1) = none := by rfl) : PG X (.Tuple es k pos) (gTup K n t) := by
  subst hK
  exact pg_tup hc h hn hst
/-- a name of the module that holds a whole number -/
theorem pe_gint {x : Str} {n : Int} {pos : Pos} (hg : Gl X x) (hm : ∃ t, X.mg x = some (.int n t)) (hd : (x == ("__debug__" : Str)) = false := by decide) : PE X (.Name x pos) (tC (.int n)) := by
  obtain ⟨t, e⟩ := hm
  exact pe_glob hg e ⟨t, rfl⟩ hd
end
end L2
set_option Elab.async false
set_option linter.all false
set_option maxRecDepth 100000
set_option maxHeartbeats 2000000
/-! A rule that the layer lacks: name = [e for x in ..] where a call in e may raise; what it raises goes on in the def's own frame. -/
namespace L2
open PySem PySem.Spec PyProof.Rows
/-- the block's context where what its element lets out goes on in the def's own frame -/
abbrev Cx.blkX (X : Cx) (s : Shared) (H : Hp) (scope : Scope) (cenv : Env) (fp : List Addr) : Cx :=
  (X.blk s H scope cenv fp).wish (notedBy (model X.prog X.w) X.A cenv (CompFails (model X.prog X.w) X.A X.xe cenv))
theorem traced_but {h h' B : Heap} {a C : Addr} {Z : Obj → Prop} {fl : Value} {m : Str → Option Value} (hn : h.Ns C m) (sb : Heap.SameBut C h h') (t : HandSPX.TracedZ h B a Z fl) : HandSPX.TracedZ h' (PySem.W.hideAll B [C]) a Z fl := by
  obtain ⟨oe, vs, T, oT, ts, he, hz, hd, h1, hnT, hTe, hT, hdT, h3⟩ := t
  obtain ⟨oC, es, ep, hC, dC, _⟩ := hn
  have n1 : a ≠ C := fun z => by
    rw [z, hC] at he
    cases he
    rw [dC] at hd
    cases hd
  have n2 : T ≠ C := fun z => by
    rw [z, hC] at hT
    cases hT
    rw [dC] at hdT
    cases hdT
  refine ⟨oe, vs, T, oT, ts, (sb.2 a n1).trans he, hz, hd, h1, ?_, hTe, (sb.2 T n2).trans hT, hdT, h3⟩
  cases q : (PySem.W.hideAll B [C]).get? T with
  | none => rfl
  | some u =>
    rw [PySem.W.of_hideAll _ q] at hnT
    cases hnT
section
variable {X : Cx} {E : XK} {pins : List (Addr × Obj)} {σ0 : St} {H3 : Hp} {s3 : Shared} {scope : Scope} {cl : List (Str × Addr)} {C : Addr} {fp : List Addr}
/-- what a call in the block lets out -/
theorem comp_lets (hs : X.stack = X.env :: X.outer) (hf : X.env.frame = some X.env.locals) (tk : Takes X fun cls d _ H => E cls d H) (I3 : Inv X pins σ0 H3 s3) (hC : s3.heap.objs.size ≤ C) (hfp : ∀ b ∈ fp, FpOk X pins H3 b) :
    Passes (L2.CX X.prog X.w) (X.blkX s3 H3 scope (compEnvC scope cl C X.env) fp) E := by
  intro pins' σ H s e s' I c
  obtain ⟨a, B, H', cls, d, rfl, fl, hok, ub, na, os, ag, hE⟩ := c
  have hfr : X.A.frames = some (X.env :: X.outer) := by rw [I3.ok.frames, hs]
  have base : Un (frs X.stack) fp H3 H s3.heap s.heap := I.base
  have nofr : C ∉ frs X.stack := fun hm => by
    obtain ⟨_, o, ho, _⟩ := I3.stack.mem hm
    exact absurd (Nat.lt_of_lt_of_le (Heap.lt_size ho) hC) (Nat.lt_irrefl _)
  have below : ∀ {b : Addr} {o : Obj}, s3.heap.get? b = some o → b ≠ C := fun {b o} q z => by
    rw [z] at q
    exact absurd (Nat.lt_of_lt_of_le (Heap.lt_size q) hC) (Nat.lt_irrefl _)
  have fC : H C = none := I.free
  have lo : ∃ m, s.heap.Ns C m := let ⟨m, hn, _⟩ := I.loc; ⟨m, hn⟩
  obtain ⟨m, oC, es, ep, eC, dC, rC⟩ := lo
  have BC : B.get? C = some oC := ub.keep C oC eC fC nofr
  have HC : H' C = none := ub.free C oC eC fC
  show wpAny (model X.prog X.w) X.A (noteFrame (.ref a) (compEnvC scope cl C X.env)) (fun _ s'' => CompFails (model X.prog X.w) X.A X.xe (compEnvC scope cl C X.env) (.ref a) s'') (CompFails (model X.prog X.w) X.A X.xe (compEnvC scope cl C X.env)) s'
  have hfl : HandSPX.FlyingZ B (X.env :: X.outer) a (Zc cls d) s'.heap := by
    rw [← hs]
    exact fl
  rw [noteFrame_env _ (show (compEnvC scope cl C X.env).frame = X.env.frame from rfl)]
  refine HandSPX.looks_onZ Zc.steady hfr hf hfl fun h1 hh up1 => ?_
  have n1 : h1.Ns C m := ⟨oC, es, ep, hh.1 C oC BC, dC, rC⟩
  refine ⟨m, n1, fun h2 m2 n2 sb0 => ?_⟩
  have n2 : h2.Ns C m2 := n2
  have sb : Heap.SameBut C h1 h2 := sb0
  -- the ground without the block
  have B1 : ∀ {b : Addr} {o : Obj}, B.get? b = some o → b ≠ C → (PySem.W.hideAll B [C]).get? b = some o := fun q n => PySem.W.hideAll_get [C] q (by simpa using n)
  have B2 : ∀ {b : Addr} {o : Obj}, (PySem.W.hideAll B [C]).get? b = some o → B.get? b = some o ∧ b ≠ C := fun {b o} q => ⟨PySem.W.of_hideAll [C] q, fun z => by
    rw [z, PySem.W.hideAll_none [C] (by simp)] at q
    cases q⟩
  have B0 : ∀ {b : Addr}, B.get? b = none → (PySem.W.hideAll B [C]).get? b = none := fun {b} q => by
    cases e : (PySem.W.hideAll B [C]).get? b with
    | none => rfl
    | some o =>
      rw [(B2 e).1] at q
      cases q
  have ff2 : h2.FunFrames B (X.env :: X.outer) := Heap.FunFrames.sameBut sb n2 hh.2.2.1
  have held : HandSPX.HeldZ (PySem.W.hideAll B [C]) (X.env :: X.outer) a (Zc cls d) X.env.locals h2 :=
    ⟨fun b o q => (sb.2 b (B2 q).2).trans (hh.1 b o (B2 q).1), B0 hh.2.1, funFrames_none ff2 fun L hL => B0 (ff2.mem hL).1, traced_but n1 sb hh.2.2.2⟩
  obtain ⟨oe, vs, T, oT, ts, he, hz, hd, hv1, r⟩ := held.2.2.2
  unfold PySem.passOn
  refine wpAny_bind (wpAny_field he hd hv1 ?_)
  rw [if_neg (show ¬ ((Value.ref T == Value.none) = true) from by simp)]
  show wpAny _ _ (setFlight (.ref a) X.env.frame >>= fun _ => throw (.ref a)) _ _ _
  rw [hf]
  refine wpAny_bind (HandSPX.setFlight_onZ held fun h3 hh3 up3 => wpAny_throw ?_)
  -- the state without the exception
  obtain ⟨G, g1, g2⟩ := restrict h3 fun b => ((PySem.W.hideAll B [C]).get? b).isSome || decide (b ∈ frs X.stack)
  have gB : ∀ b o, (PySem.W.hideAll B [C]).get? b = some o → G.get? b = some o := fun b o q => by
    rw [g1 b (by simp [q])]
    exact hh3.1 b o q
  have gF : ∀ b, b ∈ frs X.stack → G.get? b = h3.get? b := fun b hb => g1 b (by simp [hb])
  have og : ∀ b o, G.get? b = some o → h3.get? b = some o ∧ (((PySem.W.hideAll B [C]).get? b).isSome = true ∨ b ∈ frs X.stack) := fun b o q => by
    cases z : (((PySem.W.hideAll B [C]).get? b).isSome || decide (b ∈ frs X.stack)) with
    | false =>
      rw [g2 b z] at q
      cases q
    | true =>
      rw [g1 b z] at q
      exact ⟨q, by simpa [Bool.or_eq_true] using z⟩
  have slots : ∀ b o, s.heap.get? b = some o → b ∈ frs X.stack → (∀ vs, o.data ≠ .fields vs) → ∃ sl, G.get? b = some { o with slots := sl } := fun b o q hb nf => by
    obtain ⟨l1, q1⟩ := ub.slot b o q hb
    obtain ⟨l2, q2⟩ := up1 b _ q1 nf
    have q3 : h2.get? b = _ := (sb.2 b fun z => nofr (z ▸ hb)).trans q2
    obtain ⟨l4, q4⟩ := up3 b _ q3 nf
    exact ⟨l4, by rw [gF b hb]; exact q4⟩
  have un : Un (frs X.stack) fp H3 H' s3.heap G := by
    refine ⟨fun b o q n hb hx => gB b o (B1 (ub.keep b o (base.keep b o q n hb hx) (base.free b o q n hx) hb) (below q)), fun b o q n hb hx => ?_, fun b o q n hx => ?_, fun b o q hx => ?_,
      fun b xs q => ub.tups b xs (base.tups b xs q), fun b o u q => ub.frzs b o u (base.frzs b o u q), fun b ps q => ?_⟩
    · obtain ⟨l0, q0⟩ := base.slot b o q n hb hx
      obtain ⟨_, o', e', nf⟩ := I3.stack.mem hb
      rw [q] at e'
      cases e'
      obtain ⟨l1, q1⟩ := slots b _ q0 hb nf
      exact ⟨l1, q1⟩
    · obtain ⟨o', q'⟩ := base.there b o q hx
      exact ub.free b o' q' (base.free b o q n hx)
    · obtain ⟨o', q'⟩ := base.there b o q hx
      by_cases hb : b ∈ frs X.stack
      · obtain ⟨_, o2, e2, nf⟩ := (show s.heap.FunFrames X.base X.stack from I.funs).mem hb
        obtain ⟨l1, q1⟩ := slots b _ e2 hb nf
        exact ⟨_, q1⟩
      · obtain ⟨o2, q2⟩ := ub.there b o' q' hb
        exact ⟨o2, gB b o2 (B1 q2 (below q))⟩
    · obtain ⟨m1, e1⟩ := base.tbls b ps q
      obtain ⟨m2, e2⟩ := ub.tbls b _ e1
      exact ⟨m1 ++ m2, by rw [e2, Array.append_assoc]⟩
  have hokG : HOk X.prog X.w H' G := fun b o q => (hok b o q).stay (fun c u hc z => gB c u (B1 z fun y => by
    rcases hc with hc | hc
    · rw [← hc, y, HC] at q
      cases q
    · rw [y, HC] at hc
      cases hc)) (fun _ z => z) fun _ _ z => z
  have J : Inv X pins σ0 H' { s3 with heap := G, gens := s'.gens, drawn := s'.drawn, toks := s'.toks } :=
    I3.call' (s' := { s3 with heap := G, gens := s'.gens, drawn := s'.drawn, toks := s'.toks }) (ch := fp) rfl un hokG ag fun b hb => ⟨(hfp b hb).2.2.2.1, (hfp b hb).2.1, (hfp b hb).2.2.2.2.1, (hfp b hb).2.2.2.2.2⟩
  have oss : s'.os = s3.os := os.trans I.os
  refine tk _ _ ⟨a, PySem.W.hideAll B [C], _, pins, σ0, H', cls, d, rfl, J, fun b o q hb => ?_, Heap.UpToSlots.of_keeps fun b o q => (og b o q).1, .inr (.inr ?_), na, oss, ag, hE⟩
  · obtain ⟨e', z⟩ := og b o q
    rcases z with z | z
    · obtain ⟨o', q'⟩ := Option.isSome_iff_exists.mp z
      have y := hh3.1 b o' q'
      rw [e'] at y
      cases y
      exact q'
    · exact absurd z hb
  · rw [hs]
    exact hh3
end
section
variable {X : Cx}
/-- name = [e for x in ..] on one line, no test, the name a local; a call in e may raise -/
theorem ps_setLcX {E : XK} {i : Nat} {y : Str} {py : Pos} {elt tg iter : Expr} {scope : Scope} {own : List (Str × Nat)} {pos spos : Pos} {wi : TI} {g : TG} {te : TE} (hs : X.stack = X.env :: X.outer) (hf : X.env.frame = some X.env.locals) (tk : Takes X fun cls d _ H => E cls d H)
    (hc : X.calm = true) (hN : X.N.Nodup) (hy : X.N[i]? = some y) (hyl : X.env.scope.names.lookup y = some .local)
    (hsw : swapsWith (.ListComp elt [⟨tg, iter, [], 0⟩] scope pos) (some (.Name y py)) spos.line X.env = pure true) (hi : PI X tg iter wi) (ok : BlkOk X.N X.env.scope scope own)
    (hg : ∀ (s : Shared) (H : Hp) (C : Addr) (cl : List (Str × Addr)) (fp : List Addr), PG (X.blkX s H scope (compEnvC scope cl C X.env) fp) tg g)
    (he : ∀ (s : Shared) (H : Hp) (C : Addr) (cl : List (Str × Addr)) (fp : List Addr), Passes (L2.CX X.prog X.w) (X.blkX s H scope (compEnvC scope cl C X.env) fp) E → PE (X.blkX s H scope (compEnvC scope cl C X.env) fp) elt te)
    (hfo : ∀ x, foldedSetIterable iter X.env x = pure x := by intro _; rfl) :
    PS X (.Assign [.Name y py] (.ListComp elt [⟨tg, iter, [], 0⟩] scope pos) spos) (tAsg (tLc wi g tYes te (own.map (·.2))) (gName i)) := by
  refine ⟨fun pins s σ H D I h => ?_⟩
  rw [exec_Assign_Name_used _ _ _ _ hsw]
  refine wpAny_bind (wpAny_standAt (wpAny_bind ?_))
  show wpAny _ X.A (do let _ ← comprehension (.ListComp elt [⟨tg, iter, [], 0⟩] scope pos) scope X.env _ (newList []) false (eval iter X.env) (some (assign (.Name y py) X.env))) _ _ s
  have free : ∀ z ∈ scope.names, z.2 = .free → ∃ c, X.env.cells.lookup z.1 = some c := fun z hz e => (ok.free z hz e).elim (fun k => I.ok.has _ (.inl k)) fun k => I.ok.has _ (.inr k)
  have h0 : tLc wi g tYes te (own.map (·.2)) σ H (fun x H1 => D.nx (σ.set i (some x)) H1) := h
  refine wpAny_bind (thn (comprehension_at (use := some (assign (.Name y py) X.env)) (Q := fun _ s' => SP X pins D .next s') rfl hfo (closure_ok free) ok.kind (fun z hz e => by rw [ok.uniq z hz, e]) ?_) fun _ s' hq => wpAny_pure (wpAny_pure hq))
  refine thn (hi.run pins s σ H _ I h0) fun xv s1 hx => thn hx fun itv s2 h2 => ?_
  obtain ⟨it, fp, tn, J, H2, rfl, I2, T, st2, f2, q⟩ := h2
  refine wpAny_newObj_type (newEnv_comp ?_) (by show 0 ≤ sizeLine; decide)
  -- the new list at L, the block behind it
  have hLn : H2 s2.heap.objs.size = none := I2.hok.fresh (Nat.le_refl _)
  obtain ⟨W, ⟨m0, w0⟩, turn⟩ := q _ hLn
  generalize hs3 : ({ s2 with heap := s2.heap.push { cls := .type "list", data := .seq ([] : List Value).toArray } } : Shared) = s3
  have e3 : s3.heap = s2.heap.push { cls := .type "list", data := .seq ([] : List Value).toArray } := by rw [← hs3]
  have I3 : Inv X pins σ (upd H2 s2.heap.objs.size (.lst [])) s3 := by
    rw [← hs3]
    exact I2.laid (t' := s2.toks) (fun b o e => Heap.get?_push_of_some _ e) (Nat.le_refl _) ⟨Nat.zero_le _, [], 0, .nil, Heap.get?_push_size _ rfl⟩
  have old : ∀ b ∈ fp, b < s2.heap.objs.size := fun b hb => let ⟨_, e, _⟩ := T.obj _ _ st2 b hb; Heap.lt_size e
  generalize s2.heap.objs.size = L at hLn w0 turn I3 old ⊢
  generalize hH3 : upd H2 L (.lst []) = H3 at I3 w0
  have f3 : ∀ b ∈ fp, FpOk X pins H3 b ∧ b < s3.heap.objs.size := fun b hb => by
    obtain ⟨_, e, _⟩ := T.obj _ _ st2 b hb
    refine ⟨⟨?_, (f2 b hb).2⟩, by rw [e3, Heap.size_push]; exact Nat.lt_succ_of_lt (Heap.lt_size e)⟩
    rw [← hH3, upd_ne (Nat.ne_of_lt (old b hb))]
    exact (f2 b hb).1
  have st3 : tn 0 s3.heap := T.keep _ _ _ st2 fun b _ o e => by
    rw [e3]
    exact Heap.get?_push_of_some _ e
  have B4 := block_start I3 ok hN f3
  have lets := comp_lets (cl := cellsFrom (s3.heap.objs.size + 1) scope.names (cloFrom X.env.cells scope.names [])) (scope := scope) hs hf tk I3 (Nat.le_refl _) fun b hb => (f3 b hb).1
  have pg := hg s3 H3 s3.heap.objs.size (cellsFrom (s3.heap.objs.size + 1) scope.names (cloFrom X.env.cells scope.names [])) fp
  have pe := he s3 H3 s3.heap.objs.size (cellsFrom (s3.heap.objs.size + 1) scope.names (cloFrom X.env.cells scope.names [])) fp lets
  show codeAny _ _ (.compStart (.ListComp elt [⟨tg, iter, [], 0⟩] scope pos) 0 (.ref it) (.ref L) (compEnvC scope (cellsFrom (s3.heap.objs.size + 1) scope.names (cloFrom X.env.cells scope.names [])) s3.heap.objs.size X.env))
    (compEnds (model X.prog X.w) X.A X.xe (some (assign (.Name y py) X.env)) (fun _ s' => SP X pins D .next s') (.ref L) (compEnvC scope (cellsFrom (s3.heap.objs.size + 1) scope.names (cloFrom X.env.cells scope.names [])) s3.heap.objs.size X.env))
    { s3 with heap := pushCells (s3.heap.push { cls := .type "dict", data := .dict #[] }) scope.names }
  generalize hce : compEnvC scope (cellsFrom (s3.heap.objs.size + 1) scope.names (cloFrom X.env.cells scope.names [])) s3.heap.objs.size X.env = ce at B4 pg pe ⊢
  have cL : ce.locals = s3.heap.objs.size := by subst hce; rfl
  generalize hs4 : ({ s3 with heap := pushCells (s3.heap.push { cls := .type "dict", data := .dict #[] }) scope.names } : Shared) = s4 at B4 ⊢
  have st4 : tn 0 s4.heap := T.keep _ _ _ st3 fun b _ o e => by
    rw [← hs4]
    exact pushCells_keeps _ _ _ _ (Heap.get?_push_of_some _ e)
  have I4 : Inv (X.blkX s3 H3 scope ce fp) [] (wipe σ (own.map (·.2))) H3 s4 := B4.wish _
  have stat : ∀ {σ' : St} {H' : Hp} {s' : Shared}, Inv (X.blkX s3 H3 scope ce fp) [] σ' H' s' → (∀ b ∈ fp, H' b = none) → ∀ b ∈ fp, FpOk (X.blkX s3 H3 scope ce fp) [] H' b := fun {σ' H' s'} I' hn b hb =>
    ⟨hn b hb, (I'.ok.exf b hb).1, I'.ok.exfs b hb, .inl hb, fun x c e => (I'.ok.exf b hb).2 x c e, fun p hp => absurd (show p ∈ ([] : List (Addr × Obj)) ++ [] from hp) (by simp)⟩
  have loop : codeAny (model X.prog X.w) X.A (.compLoop (.ListComp elt [⟨tg, iter, [], 0⟩] scope pos) 0 (.ref it) (.ref L) ce)
      (compEnds (model X.prog X.w) X.A X.xe (some (assign (.Name y py) X.env)) (fun _ s' => SP X pins D .next s') (.ref L) ce) s4 := by
    refine compLoop_any (fun n s' => ∃ k H', Inv (X.blkX s3 H3 scope ce fp) [] (wipe σ (own.map (·.2))) H' s' ∧ tn k s'.heap ∧ (∀ b ∈ fp, H' b = none) ∧ W k n H') ?_ m0 ⟨0, H3, I4, st4, fun b hb => (f3 b hb).1.1, w0⟩
    rintro n s5 ⟨k, H5, I5, st5, n5, w5⟩
    rcases turn k n H5 w5 with ⟨stop, qq⟩ | ⟨go, Nx, hNx, step⟩
    · -- the end: the name takes the list
      refine thnF (T.done (X.blkX s3 H3 scope ce fp) rfl rfl rfl hc k [] s5 _ H5 (fun _ _ => False) I5 (stat I5 n5) st5 stop) fun r s6 ⟨hr, I6⟩ => ?_
      subst hr
      have I7 : Inv X pins σ H5 s6 := I3.call' (ch := fp) I6.os I6.base I6.hok I6.bare fun b hb => ⟨(f3 b hb).1.2.2.2.1, (f3 b hb).1.2.1, (f3 b hb).1.2.2.2.2.1, (f3 b hb).1.2.2.2.2.2⟩
      have nC : H5 s3.heap.objs.size = none := by
        have z : H5 ce.locals = none := I6.free
        rw [cL] at z
        exact z
      obtain ⟨mc, hn, _⟩ := I6.loc
      have hn : s6.heap.Ns ce.locals mc := hn
      obtain ⟨f0, f1, _, f3', f4, f5⟩ := I3.fpOk (Nat.le_refl _) nC
      show wpAny _ _ (assign (.Name y py) X.env (.ref L)) _ _ _
      refine wpAny_assign_Name (store_ok2 (v := V.ref L) I7 hN hy (.inl hyl) rfl (fun s7 I8 ⟨c, sb, hc'⟩ => ?_) (.inr hyl))
      have hCc : ce.locals ≠ c := by
        rw [cL]
        rcases hc' with z | z
        · rw [z]; exact f1
        · exact fun e => f4 y c z e.symm
      refine ⟨mc, hn.sameBut sb hCc, fun h3 sb3 => ?_⟩
      rw [cL] at sb3
      exact ⟨_, H5, I8.turned (t' := s7.toks) (fun b o hb e => (sb3.2 b hb).trans e) f0 f1 f3' f4 f5, qq⟩
    · refine thnF (T.item (X.blkX s3 H3 scope ce fp) rfl rfl rfl hc k [] s5 _ H5 (fun _ _ => False) I5 (stat I5 n5) st5 go) fun r s6 ⟨u, hr, h6⟩ => ?_
      subst hr
      refine thnF h6 fun _ s7 ⟨x, H7, I7, r7, y7, st7, n7⟩ => ?_
      have I7' := I7.pinned (stat I7 n7) (T.obj _ _ st7)
      refine thn (pg.run _ s7 _ H7 x u _ I7' r7 (step x H7 y7)) fun _ s8 ⟨σ8, H8, I8, hw8, q8⟩ => ?_
      have q9 : te σ8 H8 (fun yv H4 => ∃ acc, H4 L = some (.lst acc) ∧ acc.length < sizeLine ∧ Nx (upd H4 L (.lst (acc ++ [yv])))) := q8
      refine wpAny_tests_nil ?_
      show wpAny _ _ (eval elt ce) _ _ s8
      refine thn (pe.run _ s8 σ8 H8 _ I8 q9) fun z s10 ⟨yv, H10, I10, r10, acc, hL10, hz10, nx⟩ => ?_
      refine app_ok (X := X.blkX s3 H3 scope ce fp) I10 hL10 hz10 r10 fun s11 I11 => ?_
      obtain ⟨m', hm, w'⟩ := hNx _ nx
      have pin' : ∀ b ∈ fp, ∀ o, s7.heap.get? b = some o → s11.heap.get? b = some o ∧ (upd H10 L (.lst (acc ++ [yv]))) b = none := fun b hb o e =>
        let z := I11.pin (b, o) (List.mem_append_right _ (List.mem_append_right _ (mem_pinsAt hb e)))
        ⟨z.1, z.2.1⟩
      refine ⟨m', hm, k + 1, _, (I11.unpinned (pins := [])).weak (by rw [← hw8, wipe_length]) (fun j v e => by rw [← hw8] at e; exact (wipe_some e).1), T.keep _ _ _ st7 fun b hb o e => (pin' b hb o e).1, fun b hb => ?_, w'⟩
      obtain ⟨o, e, _⟩ := T.obj _ _ st7 b hb
      exact (pin' b hb o e).2
  exact codeAny_compStart_list loop (T.self X.A 0 _ _ _ st4 loop)
end
end L2
set_option Elab.async false
set_option linter.all false
set_option maxRecDepth 100000
set_option maxHeartbeats 4000000
/-! What the program's text is by places, what its top has written (printed by gen.py). -/
namespace One
open PySem PySem.Spec PyProof.Rows L2
open He (ga ma)
/-! ### the text by places -/
def top (i : Nat) : Stmt := PySem.Challenge.pw_oneindex_s01_answers.main.body.getD i (.Pass ⟨0, 0, 0, 0⟩)
abbrev s_Filter_init : Stmt := inClass (top 8) 0
abbrev s_Filter_passes : Stmt := inClass (top 8) 1
abbrev s_Filter_is_equal : Stmt := inClass (top 8) 2
abbrev s_Filter_is_within : Stmt := inClass (top 8) 3
abbrev s_Group_init : Stmt := inClass (top 9) 0
abbrev s_Table_init : Stmt := inClass (top 10) 0
abbrev s_Table_all_rows : Stmt := inClass (top 10) 1
abbrev s_Question_init : Stmt := inClass (top 11) 0
abbrev s_Question_filter_of : Stmt := inClass (top 11) 1
abbrev s_Question_is_equal : Stmt := inClass (top 11) 2
abbrev s_Question_finds : Stmt := inClass (top 11) 3
abbrev s_Question_needed : Stmt := inClass (top 11) 4
abbrev s_Question_without_equal : Stmt := inClass (top 11) 5
abbrev s_Index_init : Stmt := inClass (top 12) 0
abbrev s_Index_own : Stmt := inClass (top 12) 1
abbrev s_Index_has : Stmt := inClass (top 12) 2
abbrev s_Index_entries : Stmt := inClass (top 12) 3
abbrev s_Index_first_keys : Stmt := inClass (top 12) 4
abbrev s_NumberReader_init : Stmt := inClass (top 13) 0
abbrev s_NumberReader_number : Stmt := inClass (top 13) 1
abbrev s_NumberReader_end : Stmt := inClass (top 13) 2
abbrev s_NumberReader_some_columns : Stmt := inClass (top 13) 3
abbrev s_NumberReader_a_filter : Stmt := inClass (top 13) 4
abbrev s_table_of : Stmt := top 14
abbrev s_question_of : Stmt := top 15
abbrev s_index_of : Stmt := top 16
abbrev s_Step_init : Stmt := inClass (top 22) 0
abbrev s_Step_told : Stmt := inClass (top 22) 1
abbrev s_Way_init : Stmt := inClass (top 23) 0
abbrev s_Way_touched : Stmt := inClass (top 23) 1
abbrev s_Way_looked : Stmt := inClass (top 23) 2
abbrev s_Way_found : Stmt := inClass (top 23) 3
abbrev s_Way_sorted_rows : Stmt := inClass (top 23) 4
abbrev s_Way_cost_by_index : Stmt := inClass (top 23) 5
abbrev s_Way_cost_by_table : Stmt := inClass (top 23) 6
abbrev s_Way_trace : Stmt := inClass (top 23) 7
abbrev s_Way_rows : Stmt := inClass (top 23) 8
abbrev s_serves : Stmt := top 24
abbrev s_first_not_covered : Stmt := top 25
abbrev s_first_not_free : Stmt := top 26
abbrev s_count_equal : Stmt := top 27
abbrev s_next_has_filter : Stmt := top 28
abbrev s_range_filters : Stmt := top 29
abbrev s_all_pass : Stmt := top 30
abbrev s_in_range : Stmt := top 31
abbrev s_entries_in_range : Stmt := top 32
abbrev s_steps_of : Stmt := top 33
abbrev s_way_by_index : Stmt := top 34
abbrev s_way_by_table : Stmt := top 35
abbrev s_put_in_order : Stmt := top 36
abbrev s_answered : Stmt := top 37
abbrev s_Refused_init : Stmt := inClass (top 53) 0
abbrev s_refuse_if : Stmt := top 54
abbrev s_Desk_init : Stmt := inClass (top 55) 0
abbrev s_Desk_put_table : Stmt := inClass (top 55) 1
abbrev s_Desk_put_question : Stmt := inClass (top 55) 2
abbrev s_Desk_put_index : Stmt := inClass (top 55) 3
abbrev s_Desk_does_serve : Stmt := inClass (top 55) 4
abbrev s_Desk_by_index : Stmt := inClass (top 55) 5
abbrev s_Desk_by_table : Stmt := inClass (top 55) 6
abbrev s_Desk_plan : Stmt := inClass (top 55) 7
abbrev s_Desk_why_not : Stmt := inClass (top 55) 8
abbrev s_Desk_work : Stmt := inClass (top 55) 9
abbrev s_Desk_whole : Stmt := inClass (top 55) 10
abbrev s_Desk_best : Stmt := inClass (top 55) 11
abbrev s_Desk_way : Stmt := inClass (top 55) 12
abbrev s_Desk_answer : Stmt := inClass (top 55) 13
abbrev s_Desk_rows_told : Stmt := inClass (top 55) 14
abbrev s_Desk_prefixes : Stmt := inClass (top 55) 15
abbrev s_Desk_look : Stmt := inClass (top 55) 16
abbrev s_call_told : Stmt := top 56
abbrev s_answer_of : Stmt := top 57
abbrev s_CallReader_init : Stmt := inClass (top 58) 0
abbrev s_CallReader_is_done : Stmt := inClass (top 58) 1
abbrev s_CallReader_next_some : Stmt := inClass (top 58) 2
abbrev s_answers : Stmt := top 59
theorem sc_Filter_init : FnScope ["self", "column", "low", "high"] ["self", "column", "low", "high"] (defScope s_Filter_init) := ⟨rfl, rfl, rfl, by decide +kernel, rfl, by decide +kernel, by decide +kernel⟩
theorem sc_Filter_passes : FnScope ["self", "values"] ["self", "values"] (defScope s_Filter_passes) := ⟨rfl, rfl, rfl, by decide +kernel, rfl, by decide +kernel, by decide +kernel⟩
theorem sc_Filter_is_equal : FnScope ["self"] ["self"] (defScope s_Filter_is_equal) := ⟨rfl, rfl, rfl, by decide +kernel, rfl, by decide +kernel, by decide +kernel⟩
theorem sc_Filter_is_within : FnScope ["self", "other"] ["self", "other"] (defScope s_Filter_is_within) := ⟨rfl, rfl, rfl, by decide +kernel, rfl, by decide +kernel, by decide +kernel⟩
theorem sc_Group_init : FnScope ["self", "values", "count"] ["self", "values", "count"] (defScope s_Group_init) := ⟨rfl, rfl, rfl, by decide +kernel, rfl, by decide +kernel, by decide +kernel⟩
theorem sc_Table_init : FnScope ["self", "columns", "groups"] ["self", "columns", "groups"] (defScope s_Table_init) := ⟨rfl, rfl, rfl, by decide +kernel, rfl, by decide +kernel, by decide +kernel⟩
theorem sc_Table_all_rows : FnScope ["self", "group"] ["self"] (defScope s_Table_all_rows) := ⟨rfl, rfl, rfl, by decide +kernel, rfl, by decide +kernel, by decide +kernel⟩
theorem sc_Question_init : FnScope ["self", "filters", "order", "backwards", "wanted", "limit", "asked"] ["self", "filters", "order", "backwards", "wanted", "limit", "asked"] (defScope s_Question_init) := ⟨rfl, rfl, rfl, by decide +kernel, rfl, by decide +kernel, by decide +kernel⟩
theorem sc_Question_filter_of : FnScope ["self", "column", "one"] ["self", "column"] (defScope s_Question_filter_of) := ⟨rfl, rfl, rfl, by decide +kernel, rfl, by decide +kernel, by decide +kernel⟩
theorem sc_Question_is_equal : FnScope ["self", "column", "one"] ["self", "column"] (defScope s_Question_is_equal) := ⟨rfl, rfl, rfl, by decide +kernel, rfl, by decide +kernel, by decide +kernel⟩
theorem sc_Question_finds : FnScope ["self", "group", "one"] ["self", "group"] (defScope s_Question_finds) := ⟨rfl, rfl, rfl, by decide +kernel, rfl, by decide +kernel, by decide +kernel⟩
theorem sc_Question_needed : FnScope ["self", "found", "column", "one"] ["self"] (defScope s_Question_needed) := ⟨rfl, rfl, rfl, by decide +kernel, rfl, by decide +kernel, by decide +kernel⟩
theorem sc_Question_without_equal : FnScope ["self", "columns", "column"] ["self", "columns"] (defScope s_Question_without_equal) := ⟨rfl, rfl, rfl, by decide +kernel, rfl, by decide +kernel, by decide +kernel⟩
theorem sc_Index_init : FnScope ["self", "keys", "included", "condition"] ["self", "keys", "included", "condition"] (defScope s_Index_init) := ⟨rfl, rfl, rfl, by decide +kernel, rfl, by decide +kernel, by decide +kernel⟩
theorem sc_Index_own : FnScope ["self"] ["self"] (defScope s_Index_own) := ⟨rfl, rfl, rfl, by decide +kernel, rfl, by decide +kernel, by decide +kernel⟩
theorem sc_Index_has : FnScope ["self", "group"] ["self", "group"] (defScope s_Index_has) := ⟨rfl, rfl, rfl, by decide +kernel, rfl, by decide +kernel, by decide +kernel⟩
theorem sc_Index_entries : FnScope ["self", "table", "group"] ["self", "table"] (defScope s_Index_entries) := ⟨rfl, rfl, rfl, by decide +kernel, rfl, by decide +kernel, by decide +kernel⟩
theorem sc_Index_first_keys : FnScope ["self", "many"] ["self", "many"] (defScope s_Index_first_keys) := ⟨rfl, rfl, rfl, by decide +kernel, rfl, by decide +kernel, by decide +kernel⟩
theorem sc_NumberReader_init : FnScope ["self", "numbers"] ["self", "numbers"] (defScope s_NumberReader_init) := ⟨rfl, rfl, rfl, by decide +kernel, rfl, by decide +kernel, by decide +kernel⟩
theorem sc_NumberReader_number : FnScope ["self", "low", "high", "found"] ["self", "low", "high"] (defScope s_NumberReader_number) := ⟨rfl, rfl, rfl, by decide +kernel, rfl, by decide +kernel, by decide +kernel⟩
theorem sc_NumberReader_end : FnScope ["self"] ["self"] (defScope s_NumberReader_end) := ⟨rfl, rfl, rfl, by decide +kernel, rfl, by decide +kernel, by decide +kernel⟩
theorem sc_NumberReader_some_columns : FnScope ["self", "columns", "known", "found", "turn", "column"] ["self", "columns", "known"] (defScope s_NumberReader_some_columns) := ⟨rfl, rfl, rfl, by decide +kernel, rfl, by decide +kernel, by decide +kernel⟩
theorem sc_NumberReader_a_filter : FnScope ["self", "columns", "column", "low"] ["self", "columns"] (defScope s_NumberReader_a_filter) := ⟨rfl, rfl, rfl, by decide +kernel, rfl, by decide +kernel, by decide +kernel⟩
theorem sc_table_of : FnScope ["numbers", "reader", "columns", "groups", "turn", "told", "column", "group"] ["numbers"] (defScope s_table_of) := ⟨rfl, rfl, rfl, by decide +kernel, rfl, by decide +kernel, by decide +kernel⟩
theorem sc_question_of : FnScope ["numbers", "columns", "reader", "filters", "turn", "one", "order", "backwards", "wanted", "limit", "asked", "other"] ["numbers", "columns"] (defScope s_question_of) := ⟨rfl, rfl, rfl, by decide +kernel, rfl, by decide +kernel, by decide +kernel⟩
theorem sc_index_of : FnScope ["numbers", "columns", "reader", "keys", "included", "condition"] ["numbers", "columns"] (defScope s_index_of) := ⟨rfl, rfl, rfl, by decide +kernel, rfl, by decide +kernel, by decide +kernel⟩
theorem sc_Step_init : FnScope ["self", "group", "touched", "looked", "found"] ["self", "group", "touched", "looked", "found"] (defScope s_Step_init) := ⟨rfl, rfl, rfl, by decide +kernel, rfl, by decide +kernel, by decide +kernel⟩
theorem sc_Step_told : FnScope ["self"] ["self"] (defScope s_Step_told) := ⟨rfl, rfl, rfl, by decide +kernel, rfl, by decide +kernel, by decide +kernel⟩
theorem sc_Way_init : FnScope ["self", "steps", "is_free"] ["self", "steps", "is_free"] (defScope s_Way_init) := ⟨rfl, rfl, rfl, by decide +kernel, rfl, by decide +kernel, by decide +kernel⟩
theorem sc_Way_touched : FnScope ["self", "step"] ["self"] (defScope s_Way_touched) := ⟨rfl, rfl, rfl, by decide +kernel, rfl, by decide +kernel, by decide +kernel⟩
theorem sc_Way_looked : FnScope ["self", "step"] ["self"] (defScope s_Way_looked) := ⟨rfl, rfl, rfl, by decide +kernel, rfl, by decide +kernel, by decide +kernel⟩
theorem sc_Way_found : FnScope ["self", "step"] ["self"] (defScope s_Way_found) := ⟨rfl, rfl, rfl, by decide +kernel, rfl, by decide +kernel, by decide +kernel⟩
theorem sc_Way_sorted_rows : FnScope ["self"] ["self"] (defScope s_Way_sorted_rows) := ⟨rfl, rfl, rfl, by decide +kernel, rfl, by decide +kernel, by decide +kernel⟩
theorem sc_Way_cost_by_index : FnScope ["self"] ["self"] (defScope s_Way_cost_by_index) := ⟨rfl, rfl, rfl, by decide +kernel, rfl, by decide +kernel, by decide +kernel⟩
theorem sc_Way_cost_by_table : FnScope ["self"] ["self"] (defScope s_Way_cost_by_table) := ⟨rfl, rfl, rfl, by decide +kernel, rfl, by decide +kernel, by decide +kernel⟩
theorem sc_Way_trace : FnScope ["self", "found", "step"] ["self"] (defScope s_Way_trace) := ⟨rfl, rfl, rfl, by decide +kernel, rfl, by decide +kernel, by decide +kernel⟩
theorem sc_Way_rows : FnScope ["self", "found", "step"] ["self"] (defScope s_Way_rows) := ⟨rfl, rfl, rfl, by decide +kernel, rfl, by decide +kernel, by decide +kernel⟩
theorem sc_serves : FnScope ["index", "question", "one"] ["index", "question"] (defScope s_serves) := ⟨rfl, rfl, rfl, by decide +kernel, rfl, by decide +kernel, by decide +kernel⟩
theorem sc_first_not_covered : FnScope ["index", "question", "column"] ["index", "question"] (defScope s_first_not_covered) := ⟨rfl, rfl, rfl, by decide +kernel, rfl, by decide +kernel, by decide +kernel⟩
theorem sc_first_not_free : FnScope ["index", "question", "keys", "place", "column"] ["index", "question"] (defScope s_first_not_free) := ⟨rfl, rfl, rfl, by decide +kernel, rfl, by decide +kernel, by decide +kernel⟩
theorem sc_count_equal : FnScope ["index", "question", "found", "column"] ["index", "question"] (defScope s_count_equal) := ⟨rfl, rfl, rfl, by decide +kernel, rfl, by decide +kernel, by decide +kernel⟩
theorem sc_next_has_filter : FnScope ["index", "question", "place"] ["index", "question"] (defScope s_next_has_filter) := ⟨rfl, rfl, rfl, by decide +kernel, rfl, by decide +kernel, by decide +kernel⟩
theorem sc_range_filters : FnScope ["index", "question", "keys", "column"] ["index", "question"] (defScope s_range_filters) := ⟨rfl, rfl, rfl, by decide +kernel, rfl, by decide +kernel, by decide +kernel⟩
theorem sc_all_pass : FnScope ["filters", "group", "one"] ["filters", "group"] (defScope s_all_pass) := ⟨rfl, rfl, rfl, by decide +kernel, rfl, by decide +kernel, by decide +kernel⟩
theorem sc_in_range : FnScope ["index", "question", "table", "filters", "found", "number", "group", "numbers", "key", "column"] ["index", "question", "table"] (defScope s_in_range) := ⟨rfl, rfl, rfl, by decide +kernel, rfl, by decide +kernel, by decide +kernel⟩
theorem sc_entries_in_range : FnScope ["index", "question", "table", "number"] ["index", "question", "table"] (defScope s_entries_in_range) := ⟨rfl, rfl, rfl, by decide +kernel, rfl, by decide +kernel, by decide +kernel⟩
theorem sc_steps_of : FnScope ["question", "table", "numbers", "looked_filters", "is_free", "found", "left", "number", "group", "touched", "is_found", "looked"] ["question", "table", "numbers", "looked_filters", "is_free"] (defScope s_steps_of) := ⟨rfl, rfl, rfl, by decide +kernel, rfl, by decide +kernel, by decide +kernel⟩
theorem sc_way_by_index : FnScope ["index", "question", "table", "is_free", "looked", "one"] ["index", "question", "table"] (defScope s_way_by_index) := ⟨rfl, rfl, rfl, by decide +kernel, rfl, by decide +kernel, by decide +kernel⟩
theorem sc_way_by_table : FnScope ["question", "table", "is_free"] ["question", "table"] (defScope s_way_by_table) := ⟨rfl, rfl, rfl, by decide +kernel, rfl, by decide +kernel, by decide +kernel⟩
theorem sc_put_in_order : FnScope ["question", "table", "steps", "found", "place", "step", "key", "column", "value"] ["question", "table", "steps"] (defScope s_put_in_order) := ⟨rfl, rfl, rfl, by decide +kernel, rfl, by decide +kernel, by decide +kernel⟩
theorem sc_answered : FnScope ["question", "table", "way", "step", "steps", "found", "left", "many"] ["question", "table", "way"] (defScope s_answered) := ⟨rfl, rfl, rfl, by decide +kernel, rfl, by decide +kernel, by decide +kernel⟩
theorem sc_Refused_init : FnScope ["self", "why"] ["self", "why"] (defScope s_Refused_init) := ⟨rfl, rfl, rfl, by decide +kernel, rfl, by decide +kernel, by decide +kernel⟩
theorem sc_refuse_if : FnScope ["truth", "why"] ["truth", "why"] (defScope s_refuse_if) := ⟨rfl, rfl, rfl, by decide +kernel, rfl, by decide +kernel, by decide +kernel⟩
theorem sc_Desk_init : FnScope ["self"] ["self"] (defScope s_Desk_init) := ⟨rfl, rfl, rfl, by decide +kernel, rfl, by decide +kernel, by decide +kernel⟩
theorem sc_Desk_put_table : FnScope ["self", "numbers", "table"] ["self", "numbers"] (defScope s_Desk_put_table) := ⟨rfl, rfl, rfl, by decide +kernel, rfl, by decide +kernel, by decide +kernel⟩
theorem sc_Desk_put_question : FnScope ["self", "numbers", "question", "group"] ["self", "numbers"] (defScope s_Desk_put_question) := ⟨rfl, rfl, rfl, by decide +kernel, rfl, by decide +kernel, by decide +kernel⟩
theorem sc_Desk_put_index : FnScope ["self", "numbers", "index", "entries"] ["self", "numbers"] (defScope s_Desk_put_index) := ⟨rfl, rfl, rfl, by decide +kernel, rfl, by decide +kernel, by decide +kernel⟩
theorem sc_Desk_does_serve : FnScope ["self"] ["self"] (defScope s_Desk_does_serve) := ⟨rfl, rfl, rfl, by decide +kernel, rfl, by decide +kernel, by decide +kernel⟩
theorem sc_Desk_by_index : FnScope ["self"] ["self"] (defScope s_Desk_by_index) := ⟨rfl, rfl, rfl, by decide +kernel, rfl, by decide +kernel, by decide +kernel⟩
theorem sc_Desk_by_table : FnScope ["self"] ["self"] (defScope s_Desk_by_table) := ⟨rfl, rfl, rfl, by decide +kernel, rfl, by decide +kernel, by decide +kernel⟩
theorem sc_Desk_plan : FnScope ["self", "index", "question", "found"] ["self"] (defScope s_Desk_plan) := ⟨rfl, rfl, rfl, by decide +kernel, rfl, by decide +kernel, by decide +kernel⟩
theorem sc_Desk_why_not : FnScope ["self", "column", "index"] ["self"] (defScope s_Desk_why_not) := ⟨rfl, rfl, rfl, by decide +kernel, rfl, by decide +kernel, by decide +kernel⟩
theorem sc_Desk_work : FnScope ["self", "way"] ["self"] (defScope s_Desk_work) := ⟨rfl, rfl, rfl, by decide +kernel, rfl, by decide +kernel, by decide +kernel⟩
theorem sc_Desk_whole : FnScope ["self", "way"] ["self"] (defScope s_Desk_whole) := ⟨rfl, rfl, rfl, by decide +kernel, rfl, by decide +kernel, by decide +kernel⟩
theorem sc_Desk_best : FnScope ["self", "whole", "cost"] ["self"] (defScope s_Desk_best) := ⟨rfl, rfl, rfl, by decide +kernel, rfl, by decide +kernel, by decide +kernel⟩
theorem sc_Desk_way : FnScope ["self", "number"] ["self", "number"] (defScope s_Desk_way) := ⟨rfl, rfl, rfl, by decide +kernel, rfl, by decide +kernel, by decide +kernel⟩
theorem sc_Desk_answer : FnScope ["self", "number", "rows", "found", "group", "many"] ["self", "number"] (defScope s_Desk_answer) := ⟨rfl, rfl, rfl, by decide +kernel, rfl, by decide +kernel, by decide +kernel⟩
theorem sc_Desk_rows_told : FnScope ["self", "way"] ["self"] (defScope s_Desk_rows_told) := ⟨rfl, rfl, rfl, by decide +kernel, rfl, by decide +kernel, by decide +kernel⟩
theorem sc_Desk_prefixes : FnScope ["self", "many", "found", "count", "index"] ["self"] (defScope s_Desk_prefixes) := ⟨rfl, rfl, rfl, by decide +kernel, rfl, by decide +kernel, by decide +kernel⟩
theorem sc_Desk_look : FnScope ["self", "call", "numbers", "by_index"] ["self", "call", "numbers"] (defScope s_Desk_look) := ⟨rfl, rfl, rfl, by decide +kernel, rfl, by decide +kernel, by decide +kernel⟩
theorem sc_call_told : FnScope ["desk", "call", "numbers", "row"] ["desk", "call", "numbers", "row"] (defScope s_call_told) := ⟨rfl, rfl, rfl, by decide +kernel, rfl, by decide +kernel, by decide +kernel⟩
theorem sc_answer_of : FnScope ["desk", "call", "numbers", "row", "e"] ["desk", "call", "numbers", "row"] (defScope s_answer_of) := ⟨rfl, rfl, rfl, by decide +kernel, rfl, by decide +kernel, by decide +kernel⟩
theorem sc_CallReader_init : FnScope ["self", "calls"] ["self", "calls"] (defScope s_CallReader_init) := ⟨rfl, rfl, rfl, by decide +kernel, rfl, by decide +kernel, by decide +kernel⟩
theorem sc_CallReader_is_done : FnScope ["self"] ["self"] (defScope s_CallReader_is_done) := ⟨rfl, rfl, rfl, by decide +kernel, rfl, by decide +kernel, by decide +kernel⟩
theorem sc_CallReader_next_some : FnScope ["self", "many"] ["self", "many"] (defScope s_CallReader_next_some) := ⟨rfl, rfl, rfl, by decide +kernel, rfl, by decide +kernel, by decide +kernel⟩
theorem sc_answers : FnScope ["calls", "desk", "reader", "found", "call", "numbers", "row", "answer"] ["calls"] (defScope s_answers) := ⟨rfl, rfl, rfl, by decide +kernel, rfl, by decide +kernel, by decide +kernel⟩
/-! ### what the top has written -/
def FnF (K : PySem.W.Frag) (x qual : Str) (st : Stmt) (f : Addr) (ps : List Str) : Prop := ∃ fd, Fun K x qual st f fd ∧ Binds K fd ps []
structure T_Filter (K : PySem.W.Frag) (mg : Str → Option Value) : Prop where
  g : mg "Filter" = some (.ref (ga K "Filter"))
  cl : Cls K (ga K "Filter")
  m : Mk K (ga K "Filter") (ma K (ga K "Filter") "__init__")
  n_column : NoAttr K (ga K "Filter") "column"
  n_low : NoAttr K (ga K "Filter") "low"
  n_high : NoAttr K (ga K "Filter") "high"
  mt_passes : Meth K (ga K "Filter") "passes" (ma K (ga K "Filter") "passes")
  mt_is_equal : Meth K (ga K "Filter") "is_equal" (ma K (ga K "Filter") "is_equal")
  mt_is_within : Meth K (ga K "Filter") "is_within" (ma K (ga K "Filter") "is_within")
  F_init : FnF K "__init__" "Filter.__init__" s_Filter_init (ma K (ga K "Filter") "__init__") ["self", "column", "low", "high"]
  F_passes : FnF K "passes" "Filter.passes" s_Filter_passes (ma K (ga K "Filter") "passes") ["self", "values"]
  F_is_equal : FnF K "is_equal" "Filter.is_equal" s_Filter_is_equal (ma K (ga K "Filter") "is_equal") ["self"]
  F_is_within : FnF K "is_within" "Filter.is_within" s_Filter_is_within (ma K (ga K "Filter") "is_within") ["self", "other"]
structure T_Group (K : PySem.W.Frag) (mg : Str → Option Value) : Prop where
  g : mg "Group" = some (.ref (ga K "Group"))
  cl : Cls K (ga K "Group")
  m : Mk K (ga K "Group") (ma K (ga K "Group") "__init__")
  n_values_told : NoAttr K (ga K "Group") "values_told"
  n_count : NoAttr K (ga K "Group") "count"
  F_init : FnF K "__init__" "Group.__init__" s_Group_init (ma K (ga K "Group") "__init__") ["self", "values", "count"]
structure T_Table (K : PySem.W.Frag) (mg : Str → Option Value) : Prop where
  g : mg "Table" = some (.ref (ga K "Table"))
  cl : Cls K (ga K "Table")
  m : Mk K (ga K "Table") (ma K (ga K "Table") "__init__")
  n_columns : NoAttr K (ga K "Table") "columns"
  n_groups : NoAttr K (ga K "Table") "groups"
  mt_all_rows : Meth K (ga K "Table") "all_rows" (ma K (ga K "Table") "all_rows")
  F_init : FnF K "__init__" "Table.__init__" s_Table_init (ma K (ga K "Table") "__init__") ["self", "columns", "groups"]
  F_all_rows : FnF K "all_rows" "Table.all_rows" s_Table_all_rows (ma K (ga K "Table") "all_rows") ["self"]
structure T_Question (K : PySem.W.Frag) (mg : Str → Option Value) : Prop where
  g : mg "Question" = some (.ref (ga K "Question"))
  cl : Cls K (ga K "Question")
  m : Mk K (ga K "Question") (ma K (ga K "Question") "__init__")
  n_filters : NoAttr K (ga K "Question") "filters"
  n_order : NoAttr K (ga K "Question") "order"
  n_backwards : NoAttr K (ga K "Question") "backwards"
  n_wanted : NoAttr K (ga K "Question") "wanted"
  n_limit : NoAttr K (ga K "Question") "limit"
  n_asked : NoAttr K (ga K "Question") "asked"
  mt_filter_of : Meth K (ga K "Question") "filter_of" (ma K (ga K "Question") "filter_of")
  mt_is_equal : Meth K (ga K "Question") "is_equal" (ma K (ga K "Question") "is_equal")
  mt_finds : Meth K (ga K "Question") "finds" (ma K (ga K "Question") "finds")
  mt_needed : Meth K (ga K "Question") "needed" (ma K (ga K "Question") "needed")
  mt_without_equal : Meth K (ga K "Question") "without_equal" (ma K (ga K "Question") "without_equal")
  F_init : FnF K "__init__" "Question.__init__" s_Question_init (ma K (ga K "Question") "__init__") ["self", "filters", "order", "backwards", "wanted", "limit", "asked"]
  F_filter_of : FnF K "filter_of" "Question.filter_of" s_Question_filter_of (ma K (ga K "Question") "filter_of") ["self", "column"]
  F_is_equal : FnF K "is_equal" "Question.is_equal" s_Question_is_equal (ma K (ga K "Question") "is_equal") ["self", "column"]
  F_finds : FnF K "finds" "Question.finds" s_Question_finds (ma K (ga K "Question") "finds") ["self", "group"]
  F_needed : FnF K "needed" "Question.needed" s_Question_needed (ma K (ga K "Question") "needed") ["self"]
  F_without_equal : FnF K "without_equal" "Question.without_equal" s_Question_without_equal (ma K (ga K "Question") "without_equal") ["self", "columns"]
structure T_Index (K : PySem.W.Frag) (mg : Str → Option Value) : Prop where
  g : mg "Index" = some (.ref (ga K "Index"))
  cl : Cls K (ga K "Index")
  m : Mk K (ga K "Index") (ma K (ga K "Index") "__init__")
  n_key_columns : NoAttr K (ga K "Index") "key_columns"
  n_included : NoAttr K (ga K "Index") "included"
  n_condition : NoAttr K (ga K "Index") "condition"
  mt_own : Meth K (ga K "Index") "own" (ma K (ga K "Index") "own")
  mt_has : Meth K (ga K "Index") "has" (ma K (ga K "Index") "has")
  mt_entries : Meth K (ga K "Index") "entries" (ma K (ga K "Index") "entries")
  mt_first_keys : Meth K (ga K "Index") "first_keys" (ma K (ga K "Index") "first_keys")
  F_init : FnF K "__init__" "Index.__init__" s_Index_init (ma K (ga K "Index") "__init__") ["self", "keys", "included", "condition"]
  F_own : FnF K "own" "Index.own" s_Index_own (ma K (ga K "Index") "own") ["self"]
  F_has : FnF K "has" "Index.has" s_Index_has (ma K (ga K "Index") "has") ["self", "group"]
  F_entries : FnF K "entries" "Index.entries" s_Index_entries (ma K (ga K "Index") "entries") ["self", "table"]
  F_first_keys : FnF K "first_keys" "Index.first_keys" s_Index_first_keys (ma K (ga K "Index") "first_keys") ["self", "many"]
structure T_NumberReader (K : PySem.W.Frag) (mg : Str → Option Value) : Prop where
  g : mg "NumberReader" = some (.ref (ga K "NumberReader"))
  cl : Cls K (ga K "NumberReader")
  m : Mk K (ga K "NumberReader") (ma K (ga K "NumberReader") "__init__")
  n_numbers : NoAttr K (ga K "NumberReader") "numbers"
  n_at : NoAttr K (ga K "NumberReader") "at"
  mt_number : Meth K (ga K "NumberReader") "number" (ma K (ga K "NumberReader") "number")
  mt_end : Meth K (ga K "NumberReader") "end" (ma K (ga K "NumberReader") "end")
  mt_some_columns : Meth K (ga K "NumberReader") "some_columns" (ma K (ga K "NumberReader") "some_columns")
  mt_a_filter : Meth K (ga K "NumberReader") "a_filter" (ma K (ga K "NumberReader") "a_filter")
  F_init : FnF K "__init__" "NumberReader.__init__" s_NumberReader_init (ma K (ga K "NumberReader") "__init__") ["self", "numbers"]
  F_number : FnF K "number" "NumberReader.number" s_NumberReader_number (ma K (ga K "NumberReader") "number") ["self", "low", "high"]
  F_end : FnF K "end" "NumberReader.end" s_NumberReader_end (ma K (ga K "NumberReader") "end") ["self"]
  F_some_columns : FnF K "some_columns" "NumberReader.some_columns" s_NumberReader_some_columns (ma K (ga K "NumberReader") "some_columns") ["self", "columns", "known"]
  F_a_filter : FnF K "a_filter" "NumberReader.a_filter" s_NumberReader_a_filter (ma K (ga K "NumberReader") "a_filter") ["self", "columns"]
structure T_Step (K : PySem.W.Frag) (mg : Str → Option Value) : Prop where
  g : mg "Step" = some (.ref (ga K "Step"))
  cl : Cls K (ga K "Step")
  m : Mk K (ga K "Step") (ma K (ga K "Step") "__init__")
  n_group : NoAttr K (ga K "Step") "group"
  n_rows_touched : NoAttr K (ga K "Step") "rows_touched"
  n_rows_looked : NoAttr K (ga K "Step") "rows_looked"
  n_rows_found : NoAttr K (ga K "Step") "rows_found"
  mt_told : Meth K (ga K "Step") "told" (ma K (ga K "Step") "told")
  F_init : FnF K "__init__" "Step.__init__" s_Step_init (ma K (ga K "Step") "__init__") ["self", "group", "touched", "looked", "found"]
  F_told : FnF K "told" "Step.told" s_Step_told (ma K (ga K "Step") "told") ["self"]
structure T_Way (K : PySem.W.Frag) (mg : Str → Option Value) : Prop where
  g : mg "Way" = some (.ref (ga K "Way"))
  cl : Cls K (ga K "Way")
  m : Mk K (ga K "Way") (ma K (ga K "Way") "__init__")
  n_steps : NoAttr K (ga K "Way") "steps"
  n_is_free : NoAttr K (ga K "Way") "is_free"
  mt_touched : Meth K (ga K "Way") "touched" (ma K (ga K "Way") "touched")
  mt_looked : Meth K (ga K "Way") "looked" (ma K (ga K "Way") "looked")
  mt_found : Meth K (ga K "Way") "found" (ma K (ga K "Way") "found")
  mt_sorted_rows : Meth K (ga K "Way") "sorted_rows" (ma K (ga K "Way") "sorted_rows")
  mt_cost_by_index : Meth K (ga K "Way") "cost_by_index" (ma K (ga K "Way") "cost_by_index")
  mt_cost_by_table : Meth K (ga K "Way") "cost_by_table" (ma K (ga K "Way") "cost_by_table")
  mt_trace : Meth K (ga K "Way") "trace" (ma K (ga K "Way") "trace")
  mt_rows : Meth K (ga K "Way") "rows" (ma K (ga K "Way") "rows")
  F_init : FnF K "__init__" "Way.__init__" s_Way_init (ma K (ga K "Way") "__init__") ["self", "steps", "is_free"]
  F_touched : FnF K "touched" "Way.touched" s_Way_touched (ma K (ga K "Way") "touched") ["self"]
  F_looked : FnF K "looked" "Way.looked" s_Way_looked (ma K (ga K "Way") "looked") ["self"]
  F_found : FnF K "found" "Way.found" s_Way_found (ma K (ga K "Way") "found") ["self"]
  F_sorted_rows : FnF K "sorted_rows" "Way.sorted_rows" s_Way_sorted_rows (ma K (ga K "Way") "sorted_rows") ["self"]
  F_cost_by_index : FnF K "cost_by_index" "Way.cost_by_index" s_Way_cost_by_index (ma K (ga K "Way") "cost_by_index") ["self"]
  F_cost_by_table : FnF K "cost_by_table" "Way.cost_by_table" s_Way_cost_by_table (ma K (ga K "Way") "cost_by_table") ["self"]
  F_trace : FnF K "trace" "Way.trace" s_Way_trace (ma K (ga K "Way") "trace") ["self"]
  F_rows : FnF K "rows" "Way.rows" s_Way_rows (ma K (ga K "Way") "rows") ["self"]
structure T_Desk (K : PySem.W.Frag) (mg : Str → Option Value) : Prop where
  g : mg "Desk" = some (.ref (ga K "Desk"))
  cl : Cls K (ga K "Desk")
  m : Mk K (ga K "Desk") (ma K (ga K "Desk") "__init__")
  n_table : NoAttr K (ga K "Desk") "table"
  n_question : NoAttr K (ga K "Desk") "question"
  n_index_told : NoAttr K (ga K "Desk") "index_told"
  mt_put_table : Meth K (ga K "Desk") "put_table" (ma K (ga K "Desk") "put_table")
  mt_put_question : Meth K (ga K "Desk") "put_question" (ma K (ga K "Desk") "put_question")
  mt_put_index : Meth K (ga K "Desk") "put_index" (ma K (ga K "Desk") "put_index")
  mt_does_serve : Meth K (ga K "Desk") "does_serve" (ma K (ga K "Desk") "does_serve")
  mt_by_index : Meth K (ga K "Desk") "by_index" (ma K (ga K "Desk") "by_index")
  mt_by_table : Meth K (ga K "Desk") "by_table" (ma K (ga K "Desk") "by_table")
  mt_plan : Meth K (ga K "Desk") "plan" (ma K (ga K "Desk") "plan")
  mt_why_not : Meth K (ga K "Desk") "why_not" (ma K (ga K "Desk") "why_not")
  mt_work : Meth K (ga K "Desk") "work" (ma K (ga K "Desk") "work")
  mt_whole : Meth K (ga K "Desk") "whole" (ma K (ga K "Desk") "whole")
  mt_best : Meth K (ga K "Desk") "best" (ma K (ga K "Desk") "best")
  mt_way : Meth K (ga K "Desk") "way" (ma K (ga K "Desk") "way")
  mt_answer : Meth K (ga K "Desk") "answer" (ma K (ga K "Desk") "answer")
  mt_rows_told : Meth K (ga K "Desk") "rows_told" (ma K (ga K "Desk") "rows_told")
  mt_prefixes : Meth K (ga K "Desk") "prefixes" (ma K (ga K "Desk") "prefixes")
  mt_look : Meth K (ga K "Desk") "look" (ma K (ga K "Desk") "look")
  F_init : FnF K "__init__" "Desk.__init__" s_Desk_init (ma K (ga K "Desk") "__init__") ["self"]
  F_put_table : FnF K "put_table" "Desk.put_table" s_Desk_put_table (ma K (ga K "Desk") "put_table") ["self", "numbers"]
  F_put_question : FnF K "put_question" "Desk.put_question" s_Desk_put_question (ma K (ga K "Desk") "put_question") ["self", "numbers"]
  F_put_index : FnF K "put_index" "Desk.put_index" s_Desk_put_index (ma K (ga K "Desk") "put_index") ["self", "numbers"]
  F_does_serve : FnF K "does_serve" "Desk.does_serve" s_Desk_does_serve (ma K (ga K "Desk") "does_serve") ["self"]
  F_by_index : FnF K "by_index" "Desk.by_index" s_Desk_by_index (ma K (ga K "Desk") "by_index") ["self"]
  F_by_table : FnF K "by_table" "Desk.by_table" s_Desk_by_table (ma K (ga K "Desk") "by_table") ["self"]
  F_plan : FnF K "plan" "Desk.plan" s_Desk_plan (ma K (ga K "Desk") "plan") ["self"]
  F_why_not : FnF K "why_not" "Desk.why_not" s_Desk_why_not (ma K (ga K "Desk") "why_not") ["self"]
  F_work : FnF K "work" "Desk.work" s_Desk_work (ma K (ga K "Desk") "work") ["self"]
  F_whole : FnF K "whole" "Desk.whole" s_Desk_whole (ma K (ga K "Desk") "whole") ["self"]
  F_best : FnF K "best" "Desk.best" s_Desk_best (ma K (ga K "Desk") "best") ["self"]
  F_way : FnF K "way" "Desk.way" s_Desk_way (ma K (ga K "Desk") "way") ["self", "number"]
  F_answer : FnF K "answer" "Desk.answer" s_Desk_answer (ma K (ga K "Desk") "answer") ["self", "number"]
  F_rows_told : FnF K "rows_told" "Desk.rows_told" s_Desk_rows_told (ma K (ga K "Desk") "rows_told") ["self"]
  F_prefixes : FnF K "prefixes" "Desk.prefixes" s_Desk_prefixes (ma K (ga K "Desk") "prefixes") ["self"]
  F_look : FnF K "look" "Desk.look" s_Desk_look (ma K (ga K "Desk") "look") ["self", "call", "numbers"]
structure T_CallReader (K : PySem.W.Frag) (mg : Str → Option Value) : Prop where
  g : mg "CallReader" = some (.ref (ga K "CallReader"))
  cl : Cls K (ga K "CallReader")
  m : Mk K (ga K "CallReader") (ma K (ga K "CallReader") "__init__")
  n_calls : NoAttr K (ga K "CallReader") "calls"
  n_at : NoAttr K (ga K "CallReader") "at"
  mt_is_done : Meth K (ga K "CallReader") "is_done" (ma K (ga K "CallReader") "is_done")
  mt_next_some : Meth K (ga K "CallReader") "next_some" (ma K (ga K "CallReader") "next_some")
  F_init : FnF K "__init__" "CallReader.__init__" s_CallReader_init (ma K (ga K "CallReader") "__init__") ["self", "calls"]
  F_is_done : FnF K "is_done" "CallReader.is_done" s_CallReader_is_done (ma K (ga K "CallReader") "is_done") ["self"]
  F_next_some : FnF K "next_some" "CallReader.next_some" s_CallReader_next_some (ma K (ga K "CallReader") "next_some") ["self", "many"]
structure T_funs (K : PySem.W.Frag) (mg : Str → Option Value) : Prop where
  g_table_of : mg "table_of" = some (.ref (ga K "table_of"))
  k_table_of : PySem.W.keepIn K (.ref (ga K "table_of")) = true
  F_table_of : FnF K "table_of" "table_of" s_table_of (ga K "table_of") ["numbers"]
  g_question_of : mg "question_of" = some (.ref (ga K "question_of"))
  k_question_of : PySem.W.keepIn K (.ref (ga K "question_of")) = true
  F_question_of : FnF K "question_of" "question_of" s_question_of (ga K "question_of") ["numbers", "columns"]
  g_index_of : mg "index_of" = some (.ref (ga K "index_of"))
  k_index_of : PySem.W.keepIn K (.ref (ga K "index_of")) = true
  F_index_of : FnF K "index_of" "index_of" s_index_of (ga K "index_of") ["numbers", "columns"]
  g_serves : mg "serves" = some (.ref (ga K "serves"))
  k_serves : PySem.W.keepIn K (.ref (ga K "serves")) = true
  F_serves : FnF K "serves" "serves" s_serves (ga K "serves") ["index", "question"]
  g_first_not_covered : mg "first_not_covered" = some (.ref (ga K "first_not_covered"))
  k_first_not_covered : PySem.W.keepIn K (.ref (ga K "first_not_covered")) = true
  F_first_not_covered : FnF K "first_not_covered" "first_not_covered" s_first_not_covered (ga K "first_not_covered") ["index", "question"]
  g_first_not_free : mg "first_not_free" = some (.ref (ga K "first_not_free"))
  k_first_not_free : PySem.W.keepIn K (.ref (ga K "first_not_free")) = true
  F_first_not_free : FnF K "first_not_free" "first_not_free" s_first_not_free (ga K "first_not_free") ["index", "question"]
  g_count_equal : mg "count_equal" = some (.ref (ga K "count_equal"))
  k_count_equal : PySem.W.keepIn K (.ref (ga K "count_equal")) = true
  F_count_equal : FnF K "count_equal" "count_equal" s_count_equal (ga K "count_equal") ["index", "question"]
  g_next_has_filter : mg "next_has_filter" = some (.ref (ga K "next_has_filter"))
  k_next_has_filter : PySem.W.keepIn K (.ref (ga K "next_has_filter")) = true
  F_next_has_filter : FnF K "next_has_filter" "next_has_filter" s_next_has_filter (ga K "next_has_filter") ["index", "question"]
  g_range_filters : mg "range_filters" = some (.ref (ga K "range_filters"))
  k_range_filters : PySem.W.keepIn K (.ref (ga K "range_filters")) = true
  F_range_filters : FnF K "range_filters" "range_filters" s_range_filters (ga K "range_filters") ["index", "question"]
  g_all_pass : mg "all_pass" = some (.ref (ga K "all_pass"))
  k_all_pass : PySem.W.keepIn K (.ref (ga K "all_pass")) = true
  F_all_pass : FnF K "all_pass" "all_pass" s_all_pass (ga K "all_pass") ["filters", "group"]
  g_in_range : mg "in_range" = some (.ref (ga K "in_range"))
  k_in_range : PySem.W.keepIn K (.ref (ga K "in_range")) = true
  F_in_range : FnF K "in_range" "in_range" s_in_range (ga K "in_range") ["index", "question", "table"]
  g_entries_in_range : mg "entries_in_range" = some (.ref (ga K "entries_in_range"))
  k_entries_in_range : PySem.W.keepIn K (.ref (ga K "entries_in_range")) = true
  F_entries_in_range : FnF K "entries_in_range" "entries_in_range" s_entries_in_range (ga K "entries_in_range") ["index", "question", "table"]
  g_steps_of : mg "steps_of" = some (.ref (ga K "steps_of"))
  k_steps_of : PySem.W.keepIn K (.ref (ga K "steps_of")) = true
  F_steps_of : FnF K "steps_of" "steps_of" s_steps_of (ga K "steps_of") ["question", "table", "numbers", "looked_filters", "is_free"]
  g_way_by_index : mg "way_by_index" = some (.ref (ga K "way_by_index"))
  k_way_by_index : PySem.W.keepIn K (.ref (ga K "way_by_index")) = true
  F_way_by_index : FnF K "way_by_index" "way_by_index" s_way_by_index (ga K "way_by_index") ["index", "question", "table"]
  g_way_by_table : mg "way_by_table" = some (.ref (ga K "way_by_table"))
  k_way_by_table : PySem.W.keepIn K (.ref (ga K "way_by_table")) = true
  F_way_by_table : FnF K "way_by_table" "way_by_table" s_way_by_table (ga K "way_by_table") ["question", "table"]
  g_put_in_order : mg "put_in_order" = some (.ref (ga K "put_in_order"))
  k_put_in_order : PySem.W.keepIn K (.ref (ga K "put_in_order")) = true
  F_put_in_order : FnF K "put_in_order" "put_in_order" s_put_in_order (ga K "put_in_order") ["question", "table", "steps"]
  g_answered : mg "answered" = some (.ref (ga K "answered"))
  k_answered : PySem.W.keepIn K (.ref (ga K "answered")) = true
  F_answered : FnF K "answered" "answered" s_answered (ga K "answered") ["question", "table", "way"]
  g_refuse_if : mg "refuse_if" = some (.ref (ga K "refuse_if"))
  k_refuse_if : PySem.W.keepIn K (.ref (ga K "refuse_if")) = true
  F_refuse_if : FnF K "refuse_if" "refuse_if" s_refuse_if (ga K "refuse_if") ["truth", "why"]
  g_call_told : mg "call_told" = some (.ref (ga K "call_told"))
  k_call_told : PySem.W.keepIn K (.ref (ga K "call_told")) = true
  F_call_told : FnF K "call_told" "call_told" s_call_told (ga K "call_told") ["desk", "call", "numbers", "row"]
  g_answer_of : mg "answer_of" = some (.ref (ga K "answer_of"))
  k_answer_of : PySem.W.keepIn K (.ref (ga K "answer_of")) = true
  F_answer_of : FnF K "answer_of" "answer_of" s_answer_of (ga K "answer_of") ["desk", "call", "numbers", "row"]
  g_answers : mg "answers" = some (.ref (ga K "answers"))
  k_answers : PySem.W.keepIn K (.ref (ga K "answers")) = true
  F_answers : FnF K "answers" "answers" s_answers (ga K "answers") ["calls"]
def imm (K : PySem.W.Frag) : List Addr := [ga K "Filter", ga K "Group", ga K "Table", ga K "Question", ga K "Index", ga K "Step", ga K "Way"]
structure Txt (K : PySem.W.Frag) (mg : Str → Option Value) : Prop where
  t_Filter : T_Filter K mg
  t_Group : T_Group K mg
  t_Table : T_Table K mg
  t_Question : T_Question K mg
  t_Index : T_Index K mg
  t_NumberReader : T_NumberReader K mg
  t_Step : T_Step K mg
  t_Way : T_Way K mg
  t_Desk : T_Desk K mg
  t_CallReader : T_CallReader K mg
  fs : T_funs K mg
  b_len : mg "len" = none
  b_sum : mg "sum" = none
  b_range : mg "range" = none
  b_enumerate : mg "enumerate" = none
  b_sorted : mg "sorted" = none
  b_min : mg "min" = none
  b_int : mg "int" = none
  b_list : mg "list" = none
  c_MOST_COLUMNS : ∃ t, mg "MOST_COLUMNS" = some (.int 4 t)
  c_MOST_GROUPS : ∃ t, mg "MOST_GROUPS" = some (.int 12 t)
  c_MOST_ROWS : ∃ t, mg "MOST_ROWS" = some (.int 1000000 t)
  c_MOST_VALUE : ∃ t, mg "MOST_VALUE" = some (.int 9 t)
  c_MOST_LIMIT : ∃ t, mg "MOST_LIMIT" = some (.int 1000000 t)
  c_MOST_ASKED : ∃ t, mg "MOST_ASKED" = some (.int 1000 t)
  c_COST_TOUCHED : ∃ t, mg "COST_TOUCHED" = some (.int 1 t)
  c_COST_ROW : ∃ t, mg "COST_ROW" = some (.int 2 t)
  c_COST_LOOKED : ∃ t, mg "COST_LOOKED" = some (.int 4 t)
  c_COST_SORTED : ∃ t, mg "COST_SORTED" = some (.int 3 t)
  c_TABLE : ∃ t, mg "TABLE" = some (.int 0 t)
  c_QUESTION : ∃ t, mg "QUESTION" = some (.int 1 t)
  c_INDEX : ∃ t, mg "INDEX" = some (.int 2 t)
  c_PLAN : ∃ t, mg "PLAN" = some (.int 3 t)
  c_WHY : ∃ t, mg "WHY" = some (.int 4 t)
  c_WORK : ∃ t, mg "WORK" = some (.int 5 t)
  c_WHOLE : ∃ t, mg "WHOLE" = some (.int 6 t)
  c_BEST : ∃ t, mg "BEST" = some (.int 7 t)
  c_TRACE : ∃ t, mg "TRACE" = some (.int 8 t)
  c_ANSWER : ∃ t, mg "ANSWER" = some (.int 9 t)
  c_ROWS_TOLD : ∃ t, mg "ROWS_TOLD" = some (.int 10 t)
  c_MOST_ENTRIES : ∃ t, mg "MOST_ENTRIES" = some (.int 300 t)
  g_NUMBERS : mg "NUMBERS" = some (.ref (ga K "NUMBERS"))
  s_NUMBERS : ∀ H : Hp, SqT K H (ga K "NUMBERS") [.int 0, .int 0, .int 0, .int 0, .int 0, .int 0, .int 0, .int 0, .int 1, .int 1, .int 0, .int 0]
  g_ROWS : mg "ROWS" = some (.ref (ga K "ROWS"))
  s_ROWS : ∀ H : Hp, SqT K H (ga K "ROWS") [.int 1, .int 1, .int 1, .int 0, .int 0, .int 0, .int 0, .int 0, .int 0, .int 0, .int 0, .int 0]
  g_NotWhole : mg "NotWhole" = some (.ref (ga K "NotWhole"))
  xN : PySem.W.excIn K (ga K "NotWhole") [.type "ValueError", .type "Exception", .type "BaseException", .type "object"] "ValueError.__new__" = true ∧ PySem.W.keepIn K (.ref (ga K "NotWhole")) = true ∧ PySem.W.subIn K (.ref (ga K "NotWhole")) (.type "BaseException") = some true ∧ PySem.W.typeIn K (.ref (ga K "NotWhole")) = some (.type "type")
  eN : PySem.W.exmOne K (.ref (ga K "NotWhole")) (.ref (ga K "NotWhole")) = some true
  g_Refused : mg "Refused" = some (.ref (ga K "Refused"))
  rx : OexC K (ga K "Refused")
  ri : PySem.W.findIn K (.ref (ga K "Refused")) "__init__" = some (some (.ref (ma K (ga K "Refused") "__init__")))
  rt : PySem.W.typeIn K (.ref (ma K (ga K "Refused") "__init__")) = some (.type "function")
  rf : XfC K (ga K "Refused")
  n_Refused_why : PySem.W.findIn K (.ref (ga K "Refused")) "why" = some none
  eR : PySem.W.exmOne K (.ref (ga K "Refused")) (.ref (ga K "Refused")) = some true
  F_Refused_init : FnF K "__init__" "Refused.__init__" s_Refused_init (ma K (ga K "Refused") "__init__") ["self", "why"]
  i_NumberReader : ga K "NumberReader" ∉ imm K
  i_Desk : ga K "Desk" ∉ imm K
  i_CallReader : ga K "CallReader" ∉ imm K
  dc : ga K "Desk" ≠ ga K "CallReader"
namespace Txt
variable {K : PySem.W.Frag} {mg : Str → Option Value} (T : Txt K mg)
def g_Filter := T.t_Filter.g
def cl_Filter := T.t_Filter.cl
def m_Filter := T.t_Filter.m
def n_Filter_column := T.t_Filter.n_column
def n_Filter_low := T.t_Filter.n_low
def n_Filter_high := T.t_Filter.n_high
def mt_Filter_passes := T.t_Filter.mt_passes
def mt_Filter_is_equal := T.t_Filter.mt_is_equal
def mt_Filter_is_within := T.t_Filter.mt_is_within
def F_Filter_init := T.t_Filter.F_init
def F_Filter_passes := T.t_Filter.F_passes
def F_Filter_is_equal := T.t_Filter.F_is_equal
def F_Filter_is_within := T.t_Filter.F_is_within
def g_Group := T.t_Group.g
def cl_Group := T.t_Group.cl
def m_Group := T.t_Group.m
def n_Group_values_told := T.t_Group.n_values_told
def n_Group_count := T.t_Group.n_count
def F_Group_init := T.t_Group.F_init
def g_Table := T.t_Table.g
def cl_Table := T.t_Table.cl
def m_Table := T.t_Table.m
def n_Table_columns := T.t_Table.n_columns
def n_Table_groups := T.t_Table.n_groups
def mt_Table_all_rows := T.t_Table.mt_all_rows
def F_Table_init := T.t_Table.F_init
def F_Table_all_rows := T.t_Table.F_all_rows
def g_Question := T.t_Question.g
def cl_Question := T.t_Question.cl
def m_Question := T.t_Question.m
def n_Question_filters := T.t_Question.n_filters
def n_Question_order := T.t_Question.n_order
def n_Question_backwards := T.t_Question.n_backwards
def n_Question_wanted := T.t_Question.n_wanted
def n_Question_limit := T.t_Question.n_limit
def n_Question_asked := T.t_Question.n_asked
def mt_Question_filter_of := T.t_Question.mt_filter_of
def mt_Question_is_equal := T.t_Question.mt_is_equal
def mt_Question_finds := T.t_Question.mt_finds
def mt_Question_needed := T.t_Question.mt_needed
def mt_Question_without_equal := T.t_Question.mt_without_equal
def F_Question_init := T.t_Question.F_init
def F_Question_filter_of := T.t_Question.F_filter_of
def F_Question_is_equal := T.t_Question.F_is_equal
def F_Question_finds := T.t_Question.F_finds
def F_Question_needed := T.t_Question.F_needed
def F_Question_without_equal := T.t_Question.F_without_equal
def g_Index := T.t_Index.g
def cl_Index := T.t_Index.cl
def m_Index := T.t_Index.m
def n_Index_key_columns := T.t_Index.n_key_columns
def n_Index_included := T.t_Index.n_included
def n_Index_condition := T.t_Index.n_condition
def mt_Index_own := T.t_Index.mt_own
def mt_Index_has := T.t_Index.mt_has
def mt_Index_entries := T.t_Index.mt_entries
def mt_Index_first_keys := T.t_Index.mt_first_keys
def F_Index_init := T.t_Index.F_init
def F_Index_own := T.t_Index.F_own
def F_Index_has := T.t_Index.F_has
def F_Index_entries := T.t_Index.F_entries
def F_Index_first_keys := T.t_Index.F_first_keys
def g_NumberReader := T.t_NumberReader.g
def cl_NumberReader := T.t_NumberReader.cl
def m_NumberReader := T.t_NumberReader.m
def n_NumberReader_numbers := T.t_NumberReader.n_numbers
def n_NumberReader_at := T.t_NumberReader.n_at
def mt_NumberReader_number := T.t_NumberReader.mt_number
def mt_NumberReader_end := T.t_NumberReader.mt_end
def mt_NumberReader_some_columns := T.t_NumberReader.mt_some_columns
def mt_NumberReader_a_filter := T.t_NumberReader.mt_a_filter
def F_NumberReader_init := T.t_NumberReader.F_init
def F_NumberReader_number := T.t_NumberReader.F_number
def F_NumberReader_end := T.t_NumberReader.F_end
def F_NumberReader_some_columns := T.t_NumberReader.F_some_columns
def F_NumberReader_a_filter := T.t_NumberReader.F_a_filter
def g_Step := T.t_Step.g
def cl_Step := T.t_Step.cl
def m_Step := T.t_Step.m
def n_Step_group := T.t_Step.n_group
def n_Step_rows_touched := T.t_Step.n_rows_touched
def n_Step_rows_looked := T.t_Step.n_rows_looked
def n_Step_rows_found := T.t_Step.n_rows_found
def mt_Step_told := T.t_Step.mt_told
def F_Step_init := T.t_Step.F_init
def F_Step_told := T.t_Step.F_told
def g_Way := T.t_Way.g
def cl_Way := T.t_Way.cl
def m_Way := T.t_Way.m
def n_Way_steps := T.t_Way.n_steps
def n_Way_is_free := T.t_Way.n_is_free
def mt_Way_touched := T.t_Way.mt_touched
def mt_Way_looked := T.t_Way.mt_looked
def mt_Way_found := T.t_Way.mt_found
def mt_Way_sorted_rows := T.t_Way.mt_sorted_rows
def mt_Way_cost_by_index := T.t_Way.mt_cost_by_index
def mt_Way_cost_by_table := T.t_Way.mt_cost_by_table
def mt_Way_trace := T.t_Way.mt_trace
def mt_Way_rows := T.t_Way.mt_rows
def F_Way_init := T.t_Way.F_init
def F_Way_touched := T.t_Way.F_touched
def F_Way_looked := T.t_Way.F_looked
def F_Way_found := T.t_Way.F_found
def F_Way_sorted_rows := T.t_Way.F_sorted_rows
def F_Way_cost_by_index := T.t_Way.F_cost_by_index
def F_Way_cost_by_table := T.t_Way.F_cost_by_table
def F_Way_trace := T.t_Way.F_trace
def F_Way_rows := T.t_Way.F_rows
def g_Desk := T.t_Desk.g
def cl_Desk := T.t_Desk.cl
def m_Desk := T.t_Desk.m
def n_Desk_table := T.t_Desk.n_table
def n_Desk_question := T.t_Desk.n_question
def n_Desk_index_told := T.t_Desk.n_index_told
def mt_Desk_put_table := T.t_Desk.mt_put_table
def mt_Desk_put_question := T.t_Desk.mt_put_question
def mt_Desk_put_index := T.t_Desk.mt_put_index
def mt_Desk_does_serve := T.t_Desk.mt_does_serve
def mt_Desk_by_index := T.t_Desk.mt_by_index
def mt_Desk_by_table := T.t_Desk.mt_by_table
def mt_Desk_plan := T.t_Desk.mt_plan
def mt_Desk_why_not := T.t_Desk.mt_why_not
def mt_Desk_work := T.t_Desk.mt_work
def mt_Desk_whole := T.t_Desk.mt_whole
def mt_Desk_best := T.t_Desk.mt_best
def mt_Desk_way := T.t_Desk.mt_way
def mt_Desk_answer := T.t_Desk.mt_answer
def mt_Desk_rows_told := T.t_Desk.mt_rows_told
def mt_Desk_prefixes := T.t_Desk.mt_prefixes
def mt_Desk_look := T.t_Desk.mt_look
def F_Desk_init := T.t_Desk.F_init
def F_Desk_put_table := T.t_Desk.F_put_table
def F_Desk_put_question := T.t_Desk.F_put_question
def F_Desk_put_index := T.t_Desk.F_put_index
def F_Desk_does_serve := T.t_Desk.F_does_serve
def F_Desk_by_index := T.t_Desk.F_by_index
def F_Desk_by_table := T.t_Desk.F_by_table
def F_Desk_plan := T.t_Desk.F_plan
def F_Desk_why_not := T.t_Desk.F_why_not
def F_Desk_work := T.t_Desk.F_work
def F_Desk_whole := T.t_Desk.F_whole
def F_Desk_best := T.t_Desk.F_best
def F_Desk_way := T.t_Desk.F_way
def F_Desk_answer := T.t_Desk.F_answer
def F_Desk_rows_told := T.t_Desk.F_rows_told
def F_Desk_prefixes := T.t_Desk.F_prefixes
def F_Desk_look := T.t_Desk.F_look
def g_CallReader := T.t_CallReader.g
def cl_CallReader := T.t_CallReader.cl
def m_CallReader := T.t_CallReader.m
def n_CallReader_calls := T.t_CallReader.n_calls
def n_CallReader_at := T.t_CallReader.n_at
def mt_CallReader_is_done := T.t_CallReader.mt_is_done
def mt_CallReader_next_some := T.t_CallReader.mt_next_some
def F_CallReader_init := T.t_CallReader.F_init
def F_CallReader_is_done := T.t_CallReader.F_is_done
def F_CallReader_next_some := T.t_CallReader.F_next_some
def g_table_of := T.fs.g_table_of
def k_table_of := T.fs.k_table_of
def F_table_of := T.fs.F_table_of
def g_question_of := T.fs.g_question_of
def k_question_of := T.fs.k_question_of
def F_question_of := T.fs.F_question_of
def g_index_of := T.fs.g_index_of
def k_index_of := T.fs.k_index_of
def F_index_of := T.fs.F_index_of
def g_serves := T.fs.g_serves
def k_serves := T.fs.k_serves
def F_serves := T.fs.F_serves
def g_first_not_covered := T.fs.g_first_not_covered
def k_first_not_covered := T.fs.k_first_not_covered
def F_first_not_covered := T.fs.F_first_not_covered
def g_first_not_free := T.fs.g_first_not_free
def k_first_not_free := T.fs.k_first_not_free
def F_first_not_free := T.fs.F_first_not_free
def g_count_equal := T.fs.g_count_equal
def k_count_equal := T.fs.k_count_equal
def F_count_equal := T.fs.F_count_equal
def g_next_has_filter := T.fs.g_next_has_filter
def k_next_has_filter := T.fs.k_next_has_filter
def F_next_has_filter := T.fs.F_next_has_filter
def g_range_filters := T.fs.g_range_filters
def k_range_filters := T.fs.k_range_filters
def F_range_filters := T.fs.F_range_filters
def g_all_pass := T.fs.g_all_pass
def k_all_pass := T.fs.k_all_pass
def F_all_pass := T.fs.F_all_pass
def g_in_range := T.fs.g_in_range
def k_in_range := T.fs.k_in_range
def F_in_range := T.fs.F_in_range
def g_entries_in_range := T.fs.g_entries_in_range
def k_entries_in_range := T.fs.k_entries_in_range
def F_entries_in_range := T.fs.F_entries_in_range
def g_steps_of := T.fs.g_steps_of
def k_steps_of := T.fs.k_steps_of
def F_steps_of := T.fs.F_steps_of
def g_way_by_index := T.fs.g_way_by_index
def k_way_by_index := T.fs.k_way_by_index
def F_way_by_index := T.fs.F_way_by_index
def g_way_by_table := T.fs.g_way_by_table
def k_way_by_table := T.fs.k_way_by_table
def F_way_by_table := T.fs.F_way_by_table
def g_put_in_order := T.fs.g_put_in_order
def k_put_in_order := T.fs.k_put_in_order
def F_put_in_order := T.fs.F_put_in_order
def g_answered := T.fs.g_answered
def k_answered := T.fs.k_answered
def F_answered := T.fs.F_answered
def g_refuse_if := T.fs.g_refuse_if
def k_refuse_if := T.fs.k_refuse_if
def F_refuse_if := T.fs.F_refuse_if
def g_call_told := T.fs.g_call_told
def k_call_told := T.fs.k_call_told
def F_call_told := T.fs.F_call_told
def g_answer_of := T.fs.g_answer_of
def k_answer_of := T.fs.k_answer_of
def F_answer_of := T.fs.F_answer_of
def g_answers := T.fs.g_answers
def k_answers := T.fs.k_answers
def F_answers := T.fs.F_answers
end Txt
/-! ### the objects: their fields, read and asked for methods -/
def fs_Filter (v0 v1 v2 : V) : List (Str × V) := [("column", v0), ("low", v1), ("high", v2)]
def fs_Group (v0 v1 : V) : List (Str × V) := [("values_told", v0), ("count", v1)]
def fs_Table (v0 v1 : V) : List (Str × V) := [("columns", v0), ("groups", v1)]
def fs_Question (v0 v1 v2 v3 v4 v5 : V) : List (Str × V) := [("filters", v0), ("order", v1), ("backwards", v2), ("wanted", v3), ("limit", v4), ("asked", v5)]
def fs_Index (v0 v1 v2 : V) : List (Str × V) := [("key_columns", v0), ("included", v1), ("condition", v2)]
def fs_NumberReader (v0 v1 : V) : List (Str × V) := [("numbers", v0), ("at", v1)]
def fs_Step (v0 v1 v2 v3 : V) : List (Str × V) := [("group", v0), ("rows_touched", v1), ("rows_looked", v2), ("rows_found", v3)]
def fs_Way (v0 v1 : V) : List (Str × V) := [("steps", v0), ("is_free", v1)]
def fs_Desk (v0 v1 v2 : V) : List (Str × V) := [("table", v0), ("question", v1), ("index_told", v2)]
def fs_CallReader (v0 v1 : V) : List (Str × V) := [("calls", v0), ("at", v1)]
section
variable {K : PySem.W.Frag} {mg : Str → Option Value} {H : Hp} {a dx : Addr} {v0 v1 v2 v3 v4 v5 : V} {Q : V → Prop} {R : Prop}
theorem rd_Filter_column (T : Txt K mg) (h : H a = some (.ins (ga K "Filter") dx (fs_Filter v0 v1 v2))) (q : Q v0) : ∃ a1 C1 dx1 fs1 v1, V.ref a = .ref a1 ∧ H a1 = some (.ins C1 dx1 fs1) ∧ Cls K C1 ∧ NoAttr K C1 "column" ∧ fs1.lookup ("column" : Str) = some v1 ∧ Q v1 := ⟨_, _, _, _, _, rfl, h, T.cl_Filter, T.n_Filter_column, rfl, q⟩
theorem rd_Filter_low (T : Txt K mg) (h : H a = some (.ins (ga K "Filter") dx (fs_Filter v0 v1 v2))) (q : Q v1) : ∃ a1 C1 dx1 fs1 v1, V.ref a = .ref a1 ∧ H a1 = some (.ins C1 dx1 fs1) ∧ Cls K C1 ∧ NoAttr K C1 "low" ∧ fs1.lookup ("low" : Str) = some v1 ∧ Q v1 := ⟨_, _, _, _, _, rfl, h, T.cl_Filter, T.n_Filter_low, rfl, q⟩
theorem rd_Filter_high (T : Txt K mg) (h : H a = some (.ins (ga K "Filter") dx (fs_Filter v0 v1 v2))) (q : Q v2) : ∃ a1 C1 dx1 fs1 v1, V.ref a = .ref a1 ∧ H a1 = some (.ins C1 dx1 fs1) ∧ Cls K C1 ∧ NoAttr K C1 "high" ∧ fs1.lookup ("high" : Str) = some v1 ∧ Q v1 := ⟨_, _, _, _, _, rfl, h, T.cl_Filter, T.n_Filter_high, rfl, q⟩
theorem rm_Filter_passes (h : H a = some (.ins (ga K "Filter") dx (fs_Filter v0 v1 v2))) (q : R) : ∃ a1 dx1 fs1, V.ref a = .ref a1 ∧ H a1 = some (.ins (ga K "Filter") dx1 fs1) ∧ fs1.lookup ("passes" : Str) = none ∧ R := ⟨_, _, _, rfl, h, rfl, q⟩
theorem rm_Filter_is_equal (h : H a = some (.ins (ga K "Filter") dx (fs_Filter v0 v1 v2))) (q : R) : ∃ a1 dx1 fs1, V.ref a = .ref a1 ∧ H a1 = some (.ins (ga K "Filter") dx1 fs1) ∧ fs1.lookup ("is_equal" : Str) = none ∧ R := ⟨_, _, _, rfl, h, rfl, q⟩
theorem rm_Filter_is_within (h : H a = some (.ins (ga K "Filter") dx (fs_Filter v0 v1 v2))) (q : R) : ∃ a1 dx1 fs1, V.ref a = .ref a1 ∧ H a1 = some (.ins (ga K "Filter") dx1 fs1) ∧ fs1.lookup ("is_within" : Str) = none ∧ R := ⟨_, _, _, rfl, h, rfl, q⟩
theorem mk_Filter : (putF "high" v2 (putF "low" v1 (putF "column" v0 []))) = fs_Filter v0 v1 v2 := rfl
theorem rd_Group_values_told (T : Txt K mg) (h : H a = some (.ins (ga K "Group") dx (fs_Group v0 v1))) (q : Q v0) : ∃ a1 C1 dx1 fs1 v1, V.ref a = .ref a1 ∧ H a1 = some (.ins C1 dx1 fs1) ∧ Cls K C1 ∧ NoAttr K C1 "values_told" ∧ fs1.lookup ("values_told" : Str) = some v1 ∧ Q v1 := ⟨_, _, _, _, _, rfl, h, T.cl_Group, T.n_Group_values_told, rfl, q⟩
theorem rd_Group_count (T : Txt K mg) (h : H a = some (.ins (ga K "Group") dx (fs_Group v0 v1))) (q : Q v1) : ∃ a1 C1 dx1 fs1 v1, V.ref a = .ref a1 ∧ H a1 = some (.ins C1 dx1 fs1) ∧ Cls K C1 ∧ NoAttr K C1 "count" ∧ fs1.lookup ("count" : Str) = some v1 ∧ Q v1 := ⟨_, _, _, _, _, rfl, h, T.cl_Group, T.n_Group_count, rfl, q⟩
theorem mk_Group : (putF "count" v1 (putF "values_told" v0 [])) = fs_Group v0 v1 := rfl
theorem rd_Table_columns (T : Txt K mg) (h : H a = some (.ins (ga K "Table") dx (fs_Table v0 v1))) (q : Q v0) : ∃ a1 C1 dx1 fs1 v1, V.ref a = .ref a1 ∧ H a1 = some (.ins C1 dx1 fs1) ∧ Cls K C1 ∧ NoAttr K C1 "columns" ∧ fs1.lookup ("columns" : Str) = some v1 ∧ Q v1 := ⟨_, _, _, _, _, rfl, h, T.cl_Table, T.n_Table_columns, rfl, q⟩
theorem rd_Table_groups (T : Txt K mg) (h : H a = some (.ins (ga K "Table") dx (fs_Table v0 v1))) (q : Q v1) : ∃ a1 C1 dx1 fs1 v1, V.ref a = .ref a1 ∧ H a1 = some (.ins C1 dx1 fs1) ∧ Cls K C1 ∧ NoAttr K C1 "groups" ∧ fs1.lookup ("groups" : Str) = some v1 ∧ Q v1 := ⟨_, _, _, _, _, rfl, h, T.cl_Table, T.n_Table_groups, rfl, q⟩
theorem rm_Table_all_rows (h : H a = some (.ins (ga K "Table") dx (fs_Table v0 v1))) (q : R) : ∃ a1 dx1 fs1, V.ref a = .ref a1 ∧ H a1 = some (.ins (ga K "Table") dx1 fs1) ∧ fs1.lookup ("all_rows" : Str) = none ∧ R := ⟨_, _, _, rfl, h, rfl, q⟩
theorem mk_Table : (putF "groups" v1 (putF "columns" v0 [])) = fs_Table v0 v1 := rfl
theorem rd_Question_filters (T : Txt K mg) (h : H a = some (.ins (ga K "Question") dx (fs_Question v0 v1 v2 v3 v4 v5))) (q : Q v0) : ∃ a1 C1 dx1 fs1 v1, V.ref a = .ref a1 ∧ H a1 = some (.ins C1 dx1 fs1) ∧ Cls K C1 ∧ NoAttr K C1 "filters" ∧ fs1.lookup ("filters" : Str) = some v1 ∧ Q v1 := ⟨_, _, _, _, _, rfl, h, T.cl_Question, T.n_Question_filters, rfl, q⟩
theorem rd_Question_order (T : Txt K mg) (h : H a = some (.ins (ga K "Question") dx (fs_Question v0 v1 v2 v3 v4 v5))) (q : Q v1) : ∃ a1 C1 dx1 fs1 v1, V.ref a = .ref a1 ∧ H a1 = some (.ins C1 dx1 fs1) ∧ Cls K C1 ∧ NoAttr K C1 "order" ∧ fs1.lookup ("order" : Str) = some v1 ∧ Q v1 := ⟨_, _, _, _, _, rfl, h, T.cl_Question, T.n_Question_order, rfl, q⟩
theorem rd_Question_backwards (T : Txt K mg) (h : H a = some (.ins (ga K "Question") dx (fs_Question v0 v1 v2 v3 v4 v5))) (q : Q v2) : ∃ a1 C1 dx1 fs1 v1, V.ref a = .ref a1 ∧ H a1 = some (.ins C1 dx1 fs1) ∧ Cls K C1 ∧ NoAttr K C1 "backwards" ∧ fs1.lookup ("backwards" : Str) = some v1 ∧ Q v1 := ⟨_, _, _, _, _, rfl, h, T.cl_Question, T.n_Question_backwards, rfl, q⟩
theorem rd_Question_wanted (T : Txt K mg) (h : H a = some (.ins (ga K "Question") dx (fs_Question v0 v1 v2 v3 v4 v5))) (q : Q v3) : ∃ a1 C1 dx1 fs1 v1, V.ref a = .ref a1 ∧ H a1 = some (.ins C1 dx1 fs1) ∧ Cls K C1 ∧ NoAttr K C1 "wanted" ∧ fs1.lookup ("wanted" : Str) = some v1 ∧ Q v1 := ⟨_, _, _, _, _, rfl, h, T.cl_Question, T.n_Question_wanted, rfl, q⟩
theorem rd_Question_limit (T : Txt K mg) (h : H a = some (.ins (ga K "Question") dx (fs_Question v0 v1 v2 v3 v4 v5))) (q : Q v4) : ∃ a1 C1 dx1 fs1 v1, V.ref a = .ref a1 ∧ H a1 = some (.ins C1 dx1 fs1) ∧ Cls K C1 ∧ NoAttr K C1 "limit" ∧ fs1.lookup ("limit" : Str) = some v1 ∧ Q v1 := ⟨_, _, _, _, _, rfl, h, T.cl_Question, T.n_Question_limit, rfl, q⟩
theorem rd_Question_asked (T : Txt K mg) (h : H a = some (.ins (ga K "Question") dx (fs_Question v0 v1 v2 v3 v4 v5))) (q : Q v5) : ∃ a1 C1 dx1 fs1 v1, V.ref a = .ref a1 ∧ H a1 = some (.ins C1 dx1 fs1) ∧ Cls K C1 ∧ NoAttr K C1 "asked" ∧ fs1.lookup ("asked" : Str) = some v1 ∧ Q v1 := ⟨_, _, _, _, _, rfl, h, T.cl_Question, T.n_Question_asked, rfl, q⟩
theorem rm_Question_filter_of (h : H a = some (.ins (ga K "Question") dx (fs_Question v0 v1 v2 v3 v4 v5))) (q : R) : ∃ a1 dx1 fs1, V.ref a = .ref a1 ∧ H a1 = some (.ins (ga K "Question") dx1 fs1) ∧ fs1.lookup ("filter_of" : Str) = none ∧ R := ⟨_, _, _, rfl, h, rfl, q⟩
theorem rm_Question_is_equal (h : H a = some (.ins (ga K "Question") dx (fs_Question v0 v1 v2 v3 v4 v5))) (q : R) : ∃ a1 dx1 fs1, V.ref a = .ref a1 ∧ H a1 = some (.ins (ga K "Question") dx1 fs1) ∧ fs1.lookup ("is_equal" : Str) = none ∧ R := ⟨_, _, _, rfl, h, rfl, q⟩
theorem rm_Question_finds (h : H a = some (.ins (ga K "Question") dx (fs_Question v0 v1 v2 v3 v4 v5))) (q : R) : ∃ a1 dx1 fs1, V.ref a = .ref a1 ∧ H a1 = some (.ins (ga K "Question") dx1 fs1) ∧ fs1.lookup ("finds" : Str) = none ∧ R := ⟨_, _, _, rfl, h, rfl, q⟩
theorem rm_Question_needed (h : H a = some (.ins (ga K "Question") dx (fs_Question v0 v1 v2 v3 v4 v5))) (q : R) : ∃ a1 dx1 fs1, V.ref a = .ref a1 ∧ H a1 = some (.ins (ga K "Question") dx1 fs1) ∧ fs1.lookup ("needed" : Str) = none ∧ R := ⟨_, _, _, rfl, h, rfl, q⟩
theorem rm_Question_without_equal (h : H a = some (.ins (ga K "Question") dx (fs_Question v0 v1 v2 v3 v4 v5))) (q : R) : ∃ a1 dx1 fs1, V.ref a = .ref a1 ∧ H a1 = some (.ins (ga K "Question") dx1 fs1) ∧ fs1.lookup ("without_equal" : Str) = none ∧ R := ⟨_, _, _, rfl, h, rfl, q⟩
theorem mk_Question : (putF "asked" v5 (putF "limit" v4 (putF "wanted" v3 (putF "backwards" v2 (putF "order" v1 (putF "filters" v0 [])))))) = fs_Question v0 v1 v2 v3 v4 v5 := rfl
theorem rd_Index_key_columns (T : Txt K mg) (h : H a = some (.ins (ga K "Index") dx (fs_Index v0 v1 v2))) (q : Q v0) : ∃ a1 C1 dx1 fs1 v1, V.ref a = .ref a1 ∧ H a1 = some (.ins C1 dx1 fs1) ∧ Cls K C1 ∧ NoAttr K C1 "key_columns" ∧ fs1.lookup ("key_columns" : Str) = some v1 ∧ Q v1 := ⟨_, _, _, _, _, rfl, h, T.cl_Index, T.n_Index_key_columns, rfl, q⟩
theorem rd_Index_included (T : Txt K mg) (h : H a = some (.ins (ga K "Index") dx (fs_Index v0 v1 v2))) (q : Q v1) : ∃ a1 C1 dx1 fs1 v1, V.ref a = .ref a1 ∧ H a1 = some (.ins C1 dx1 fs1) ∧ Cls K C1 ∧ NoAttr K C1 "included" ∧ fs1.lookup ("included" : Str) = some v1 ∧ Q v1 := ⟨_, _, _, _, _, rfl, h, T.cl_Index, T.n_Index_included, rfl, q⟩
theorem rd_Index_condition (T : Txt K mg) (h : H a = some (.ins (ga K "Index") dx (fs_Index v0 v1 v2))) (q : Q v2) : ∃ a1 C1 dx1 fs1 v1, V.ref a = .ref a1 ∧ H a1 = some (.ins C1 dx1 fs1) ∧ Cls K C1 ∧ NoAttr K C1 "condition" ∧ fs1.lookup ("condition" : Str) = some v1 ∧ Q v1 := ⟨_, _, _, _, _, rfl, h, T.cl_Index, T.n_Index_condition, rfl, q⟩
theorem rm_Index_own (h : H a = some (.ins (ga K "Index") dx (fs_Index v0 v1 v2))) (q : R) : ∃ a1 dx1 fs1, V.ref a = .ref a1 ∧ H a1 = some (.ins (ga K "Index") dx1 fs1) ∧ fs1.lookup ("own" : Str) = none ∧ R := ⟨_, _, _, rfl, h, rfl, q⟩
theorem rm_Index_has (h : H a = some (.ins (ga K "Index") dx (fs_Index v0 v1 v2))) (q : R) : ∃ a1 dx1 fs1, V.ref a = .ref a1 ∧ H a1 = some (.ins (ga K "Index") dx1 fs1) ∧ fs1.lookup ("has" : Str) = none ∧ R := ⟨_, _, _, rfl, h, rfl, q⟩
theorem rm_Index_entries (h : H a = some (.ins (ga K "Index") dx (fs_Index v0 v1 v2))) (q : R) : ∃ a1 dx1 fs1, V.ref a = .ref a1 ∧ H a1 = some (.ins (ga K "Index") dx1 fs1) ∧ fs1.lookup ("entries" : Str) = none ∧ R := ⟨_, _, _, rfl, h, rfl, q⟩
theorem rm_Index_first_keys (h : H a = some (.ins (ga K "Index") dx (fs_Index v0 v1 v2))) (q : R) : ∃ a1 dx1 fs1, V.ref a = .ref a1 ∧ H a1 = some (.ins (ga K "Index") dx1 fs1) ∧ fs1.lookup ("first_keys" : Str) = none ∧ R := ⟨_, _, _, rfl, h, rfl, q⟩
theorem mk_Index : (putF "condition" v2 (putF "included" v1 (putF "key_columns" v0 []))) = fs_Index v0 v1 v2 := rfl
theorem rd_NumberReader_numbers (T : Txt K mg) (h : H a = some (.ins (ga K "NumberReader") dx (fs_NumberReader v0 v1))) (q : Q v0) : ∃ a1 C1 dx1 fs1 v1, V.ref a = .ref a1 ∧ H a1 = some (.ins C1 dx1 fs1) ∧ Cls K C1 ∧ NoAttr K C1 "numbers" ∧ fs1.lookup ("numbers" : Str) = some v1 ∧ Q v1 := ⟨_, _, _, _, _, rfl, h, T.cl_NumberReader, T.n_NumberReader_numbers, rfl, q⟩
theorem rd_NumberReader_at (T : Txt K mg) (h : H a = some (.ins (ga K "NumberReader") dx (fs_NumberReader v0 v1))) (q : Q v1) : ∃ a1 C1 dx1 fs1 v1, V.ref a = .ref a1 ∧ H a1 = some (.ins C1 dx1 fs1) ∧ Cls K C1 ∧ NoAttr K C1 "at" ∧ fs1.lookup ("at" : Str) = some v1 ∧ Q v1 := ⟨_, _, _, _, _, rfl, h, T.cl_NumberReader, T.n_NumberReader_at, rfl, q⟩
theorem rm_NumberReader_number (h : H a = some (.ins (ga K "NumberReader") dx (fs_NumberReader v0 v1))) (q : R) : ∃ a1 dx1 fs1, V.ref a = .ref a1 ∧ H a1 = some (.ins (ga K "NumberReader") dx1 fs1) ∧ fs1.lookup ("number" : Str) = none ∧ R := ⟨_, _, _, rfl, h, rfl, q⟩
theorem rm_NumberReader_end (h : H a = some (.ins (ga K "NumberReader") dx (fs_NumberReader v0 v1))) (q : R) : ∃ a1 dx1 fs1, V.ref a = .ref a1 ∧ H a1 = some (.ins (ga K "NumberReader") dx1 fs1) ∧ fs1.lookup ("end" : Str) = none ∧ R := ⟨_, _, _, rfl, h, rfl, q⟩
theorem rm_NumberReader_some_columns (h : H a = some (.ins (ga K "NumberReader") dx (fs_NumberReader v0 v1))) (q : R) : ∃ a1 dx1 fs1, V.ref a = .ref a1 ∧ H a1 = some (.ins (ga K "NumberReader") dx1 fs1) ∧ fs1.lookup ("some_columns" : Str) = none ∧ R := ⟨_, _, _, rfl, h, rfl, q⟩
theorem rm_NumberReader_a_filter (h : H a = some (.ins (ga K "NumberReader") dx (fs_NumberReader v0 v1))) (q : R) : ∃ a1 dx1 fs1, V.ref a = .ref a1 ∧ H a1 = some (.ins (ga K "NumberReader") dx1 fs1) ∧ fs1.lookup ("a_filter" : Str) = none ∧ R := ⟨_, _, _, rfl, h, rfl, q⟩
theorem mk_NumberReader : (putF "at" v1 (putF "numbers" v0 [])) = fs_NumberReader v0 v1 := rfl
theorem rd_Step_group (T : Txt K mg) (h : H a = some (.ins (ga K "Step") dx (fs_Step v0 v1 v2 v3))) (q : Q v0) : ∃ a1 C1 dx1 fs1 v1, V.ref a = .ref a1 ∧ H a1 = some (.ins C1 dx1 fs1) ∧ Cls K C1 ∧ NoAttr K C1 "group" ∧ fs1.lookup ("group" : Str) = some v1 ∧ Q v1 := ⟨_, _, _, _, _, rfl, h, T.cl_Step, T.n_Step_group, rfl, q⟩
theorem rd_Step_rows_touched (T : Txt K mg) (h : H a = some (.ins (ga K "Step") dx (fs_Step v0 v1 v2 v3))) (q : Q v1) : ∃ a1 C1 dx1 fs1 v1, V.ref a = .ref a1 ∧ H a1 = some (.ins C1 dx1 fs1) ∧ Cls K C1 ∧ NoAttr K C1 "rows_touched" ∧ fs1.lookup ("rows_touched" : Str) = some v1 ∧ Q v1 := ⟨_, _, _, _, _, rfl, h, T.cl_Step, T.n_Step_rows_touched, rfl, q⟩
theorem rd_Step_rows_looked (T : Txt K mg) (h : H a = some (.ins (ga K "Step") dx (fs_Step v0 v1 v2 v3))) (q : Q v2) : ∃ a1 C1 dx1 fs1 v1, V.ref a = .ref a1 ∧ H a1 = some (.ins C1 dx1 fs1) ∧ Cls K C1 ∧ NoAttr K C1 "rows_looked" ∧ fs1.lookup ("rows_looked" : Str) = some v1 ∧ Q v1 := ⟨_, _, _, _, _, rfl, h, T.cl_Step, T.n_Step_rows_looked, rfl, q⟩
theorem rd_Step_rows_found (T : Txt K mg) (h : H a = some (.ins (ga K "Step") dx (fs_Step v0 v1 v2 v3))) (q : Q v3) : ∃ a1 C1 dx1 fs1 v1, V.ref a = .ref a1 ∧ H a1 = some (.ins C1 dx1 fs1) ∧ Cls K C1 ∧ NoAttr K C1 "rows_found" ∧ fs1.lookup ("rows_found" : Str) = some v1 ∧ Q v1 := ⟨_, _, _, _, _, rfl, h, T.cl_Step, T.n_Step_rows_found, rfl, q⟩
theorem rm_Step_told (h : H a = some (.ins (ga K "Step") dx (fs_Step v0 v1 v2 v3))) (q : R) : ∃ a1 dx1 fs1, V.ref a = .ref a1 ∧ H a1 = some (.ins (ga K "Step") dx1 fs1) ∧ fs1.lookup ("told" : Str) = none ∧ R := ⟨_, _, _, rfl, h, rfl, q⟩
theorem mk_Step : (putF "rows_found" v3 (putF "rows_looked" v2 (putF "rows_touched" v1 (putF "group" v0 [])))) = fs_Step v0 v1 v2 v3 := rfl
theorem rd_Way_steps (T : Txt K mg) (h : H a = some (.ins (ga K "Way") dx (fs_Way v0 v1))) (q : Q v0) : ∃ a1 C1 dx1 fs1 v1, V.ref a = .ref a1 ∧ H a1 = some (.ins C1 dx1 fs1) ∧ Cls K C1 ∧ NoAttr K C1 "steps" ∧ fs1.lookup ("steps" : Str) = some v1 ∧ Q v1 := ⟨_, _, _, _, _, rfl, h, T.cl_Way, T.n_Way_steps, rfl, q⟩
theorem rd_Way_is_free (T : Txt K mg) (h : H a = some (.ins (ga K "Way") dx (fs_Way v0 v1))) (q : Q v1) : ∃ a1 C1 dx1 fs1 v1, V.ref a = .ref a1 ∧ H a1 = some (.ins C1 dx1 fs1) ∧ Cls K C1 ∧ NoAttr K C1 "is_free" ∧ fs1.lookup ("is_free" : Str) = some v1 ∧ Q v1 := ⟨_, _, _, _, _, rfl, h, T.cl_Way, T.n_Way_is_free, rfl, q⟩
theorem rm_Way_touched (h : H a = some (.ins (ga K "Way") dx (fs_Way v0 v1))) (q : R) : ∃ a1 dx1 fs1, V.ref a = .ref a1 ∧ H a1 = some (.ins (ga K "Way") dx1 fs1) ∧ fs1.lookup ("touched" : Str) = none ∧ R := ⟨_, _, _, rfl, h, rfl, q⟩
theorem rm_Way_looked (h : H a = some (.ins (ga K "Way") dx (fs_Way v0 v1))) (q : R) : ∃ a1 dx1 fs1, V.ref a = .ref a1 ∧ H a1 = some (.ins (ga K "Way") dx1 fs1) ∧ fs1.lookup ("looked" : Str) = none ∧ R := ⟨_, _, _, rfl, h, rfl, q⟩
theorem rm_Way_found (h : H a = some (.ins (ga K "Way") dx (fs_Way v0 v1))) (q : R) : ∃ a1 dx1 fs1, V.ref a = .ref a1 ∧ H a1 = some (.ins (ga K "Way") dx1 fs1) ∧ fs1.lookup ("found" : Str) = none ∧ R := ⟨_, _, _, rfl, h, rfl, q⟩
theorem rm_Way_sorted_rows (h : H a = some (.ins (ga K "Way") dx (fs_Way v0 v1))) (q : R) : ∃ a1 dx1 fs1, V.ref a = .ref a1 ∧ H a1 = some (.ins (ga K "Way") dx1 fs1) ∧ fs1.lookup ("sorted_rows" : Str) = none ∧ R := ⟨_, _, _, rfl, h, rfl, q⟩
theorem rm_Way_cost_by_index (h : H a = some (.ins (ga K "Way") dx (fs_Way v0 v1))) (q : R) : ∃ a1 dx1 fs1, V.ref a = .ref a1 ∧ H a1 = some (.ins (ga K "Way") dx1 fs1) ∧ fs1.lookup ("cost_by_index" : Str) = none ∧ R := ⟨_, _, _, rfl, h, rfl, q⟩
theorem rm_Way_cost_by_table (h : H a = some (.ins (ga K "Way") dx (fs_Way v0 v1))) (q : R) : ∃ a1 dx1 fs1, V.ref a = .ref a1 ∧ H a1 = some (.ins (ga K "Way") dx1 fs1) ∧ fs1.lookup ("cost_by_table" : Str) = none ∧ R := ⟨_, _, _, rfl, h, rfl, q⟩
theorem rm_Way_trace (h : H a = some (.ins (ga K "Way") dx (fs_Way v0 v1))) (q : R) : ∃ a1 dx1 fs1, V.ref a = .ref a1 ∧ H a1 = some (.ins (ga K "Way") dx1 fs1) ∧ fs1.lookup ("trace" : Str) = none ∧ R := ⟨_, _, _, rfl, h, rfl, q⟩
theorem rm_Way_rows (h : H a = some (.ins (ga K "Way") dx (fs_Way v0 v1))) (q : R) : ∃ a1 dx1 fs1, V.ref a = .ref a1 ∧ H a1 = some (.ins (ga K "Way") dx1 fs1) ∧ fs1.lookup ("rows" : Str) = none ∧ R := ⟨_, _, _, rfl, h, rfl, q⟩
theorem mk_Way : (putF "is_free" v1 (putF "steps" v0 [])) = fs_Way v0 v1 := rfl
theorem rd_Desk_table (T : Txt K mg) (h : H a = some (.ins (ga K "Desk") dx (fs_Desk v0 v1 v2))) (q : Q v0) : ∃ a1 C1 dx1 fs1 v1, V.ref a = .ref a1 ∧ H a1 = some (.ins C1 dx1 fs1) ∧ Cls K C1 ∧ NoAttr K C1 "table" ∧ fs1.lookup ("table" : Str) = some v1 ∧ Q v1 := ⟨_, _, _, _, _, rfl, h, T.cl_Desk, T.n_Desk_table, rfl, q⟩
theorem rd_Desk_question (T : Txt K mg) (h : H a = some (.ins (ga K "Desk") dx (fs_Desk v0 v1 v2))) (q : Q v1) : ∃ a1 C1 dx1 fs1 v1, V.ref a = .ref a1 ∧ H a1 = some (.ins C1 dx1 fs1) ∧ Cls K C1 ∧ NoAttr K C1 "question" ∧ fs1.lookup ("question" : Str) = some v1 ∧ Q v1 := ⟨_, _, _, _, _, rfl, h, T.cl_Desk, T.n_Desk_question, rfl, q⟩
theorem rd_Desk_index_told (T : Txt K mg) (h : H a = some (.ins (ga K "Desk") dx (fs_Desk v0 v1 v2))) (q : Q v2) : ∃ a1 C1 dx1 fs1 v1, V.ref a = .ref a1 ∧ H a1 = some (.ins C1 dx1 fs1) ∧ Cls K C1 ∧ NoAttr K C1 "index_told" ∧ fs1.lookup ("index_told" : Str) = some v1 ∧ Q v1 := ⟨_, _, _, _, _, rfl, h, T.cl_Desk, T.n_Desk_index_told, rfl, q⟩
theorem rm_Desk_put_table (h : H a = some (.ins (ga K "Desk") dx (fs_Desk v0 v1 v2))) (q : R) : ∃ a1 dx1 fs1, V.ref a = .ref a1 ∧ H a1 = some (.ins (ga K "Desk") dx1 fs1) ∧ fs1.lookup ("put_table" : Str) = none ∧ R := ⟨_, _, _, rfl, h, rfl, q⟩
theorem rm_Desk_put_question (h : H a = some (.ins (ga K "Desk") dx (fs_Desk v0 v1 v2))) (q : R) : ∃ a1 dx1 fs1, V.ref a = .ref a1 ∧ H a1 = some (.ins (ga K "Desk") dx1 fs1) ∧ fs1.lookup ("put_question" : Str) = none ∧ R := ⟨_, _, _, rfl, h, rfl, q⟩
theorem rm_Desk_put_index (h : H a = some (.ins (ga K "Desk") dx (fs_Desk v0 v1 v2))) (q : R) : ∃ a1 dx1 fs1, V.ref a = .ref a1 ∧ H a1 = some (.ins (ga K "Desk") dx1 fs1) ∧ fs1.lookup ("put_index" : Str) = none ∧ R := ⟨_, _, _, rfl, h, rfl, q⟩
theorem rm_Desk_does_serve (h : H a = some (.ins (ga K "Desk") dx (fs_Desk v0 v1 v2))) (q : R) : ∃ a1 dx1 fs1, V.ref a = .ref a1 ∧ H a1 = some (.ins (ga K "Desk") dx1 fs1) ∧ fs1.lookup ("does_serve" : Str) = none ∧ R := ⟨_, _, _, rfl, h, rfl, q⟩
theorem rm_Desk_by_index (h : H a = some (.ins (ga K "Desk") dx (fs_Desk v0 v1 v2))) (q : R) : ∃ a1 dx1 fs1, V.ref a = .ref a1 ∧ H a1 = some (.ins (ga K "Desk") dx1 fs1) ∧ fs1.lookup ("by_index" : Str) = none ∧ R := ⟨_, _, _, rfl, h, rfl, q⟩
theorem rm_Desk_by_table (h : H a = some (.ins (ga K "Desk") dx (fs_Desk v0 v1 v2))) (q : R) : ∃ a1 dx1 fs1, V.ref a = .ref a1 ∧ H a1 = some (.ins (ga K "Desk") dx1 fs1) ∧ fs1.lookup ("by_table" : Str) = none ∧ R := ⟨_, _, _, rfl, h, rfl, q⟩
theorem rm_Desk_plan (h : H a = some (.ins (ga K "Desk") dx (fs_Desk v0 v1 v2))) (q : R) : ∃ a1 dx1 fs1, V.ref a = .ref a1 ∧ H a1 = some (.ins (ga K "Desk") dx1 fs1) ∧ fs1.lookup ("plan" : Str) = none ∧ R := ⟨_, _, _, rfl, h, rfl, q⟩
theorem rm_Desk_why_not (h : H a = some (.ins (ga K "Desk") dx (fs_Desk v0 v1 v2))) (q : R) : ∃ a1 dx1 fs1, V.ref a = .ref a1 ∧ H a1 = some (.ins (ga K "Desk") dx1 fs1) ∧ fs1.lookup ("why_not" : Str) = none ∧ R := ⟨_, _, _, rfl, h, rfl, q⟩
theorem rm_Desk_work (h : H a = some (.ins (ga K "Desk") dx (fs_Desk v0 v1 v2))) (q : R) : ∃ a1 dx1 fs1, V.ref a = .ref a1 ∧ H a1 = some (.ins (ga K "Desk") dx1 fs1) ∧ fs1.lookup ("work" : Str) = none ∧ R := ⟨_, _, _, rfl, h, rfl, q⟩
theorem rm_Desk_whole (h : H a = some (.ins (ga K "Desk") dx (fs_Desk v0 v1 v2))) (q : R) : ∃ a1 dx1 fs1, V.ref a = .ref a1 ∧ H a1 = some (.ins (ga K "Desk") dx1 fs1) ∧ fs1.lookup ("whole" : Str) = none ∧ R := ⟨_, _, _, rfl, h, rfl, q⟩
theorem rm_Desk_best (h : H a = some (.ins (ga K "Desk") dx (fs_Desk v0 v1 v2))) (q : R) : ∃ a1 dx1 fs1, V.ref a = .ref a1 ∧ H a1 = some (.ins (ga K "Desk") dx1 fs1) ∧ fs1.lookup ("best" : Str) = none ∧ R := ⟨_, _, _, rfl, h, rfl, q⟩
theorem rm_Desk_way (h : H a = some (.ins (ga K "Desk") dx (fs_Desk v0 v1 v2))) (q : R) : ∃ a1 dx1 fs1, V.ref a = .ref a1 ∧ H a1 = some (.ins (ga K "Desk") dx1 fs1) ∧ fs1.lookup ("way" : Str) = none ∧ R := ⟨_, _, _, rfl, h, rfl, q⟩
theorem rm_Desk_answer (h : H a = some (.ins (ga K "Desk") dx (fs_Desk v0 v1 v2))) (q : R) : ∃ a1 dx1 fs1, V.ref a = .ref a1 ∧ H a1 = some (.ins (ga K "Desk") dx1 fs1) ∧ fs1.lookup ("answer" : Str) = none ∧ R := ⟨_, _, _, rfl, h, rfl, q⟩
theorem rm_Desk_rows_told (h : H a = some (.ins (ga K "Desk") dx (fs_Desk v0 v1 v2))) (q : R) : ∃ a1 dx1 fs1, V.ref a = .ref a1 ∧ H a1 = some (.ins (ga K "Desk") dx1 fs1) ∧ fs1.lookup ("rows_told" : Str) = none ∧ R := ⟨_, _, _, rfl, h, rfl, q⟩
theorem rm_Desk_prefixes (h : H a = some (.ins (ga K "Desk") dx (fs_Desk v0 v1 v2))) (q : R) : ∃ a1 dx1 fs1, V.ref a = .ref a1 ∧ H a1 = some (.ins (ga K "Desk") dx1 fs1) ∧ fs1.lookup ("prefixes" : Str) = none ∧ R := ⟨_, _, _, rfl, h, rfl, q⟩
theorem rm_Desk_look (h : H a = some (.ins (ga K "Desk") dx (fs_Desk v0 v1 v2))) (q : R) : ∃ a1 dx1 fs1, V.ref a = .ref a1 ∧ H a1 = some (.ins (ga K "Desk") dx1 fs1) ∧ fs1.lookup ("look" : Str) = none ∧ R := ⟨_, _, _, rfl, h, rfl, q⟩
theorem mk_Desk : (putF "index_told" v2 (putF "question" v1 (putF "table" v0 []))) = fs_Desk v0 v1 v2 := rfl
theorem rd_CallReader_calls (T : Txt K mg) (h : H a = some (.ins (ga K "CallReader") dx (fs_CallReader v0 v1))) (q : Q v0) : ∃ a1 C1 dx1 fs1 v1, V.ref a = .ref a1 ∧ H a1 = some (.ins C1 dx1 fs1) ∧ Cls K C1 ∧ NoAttr K C1 "calls" ∧ fs1.lookup ("calls" : Str) = some v1 ∧ Q v1 := ⟨_, _, _, _, _, rfl, h, T.cl_CallReader, T.n_CallReader_calls, rfl, q⟩
theorem rd_CallReader_at (T : Txt K mg) (h : H a = some (.ins (ga K "CallReader") dx (fs_CallReader v0 v1))) (q : Q v1) : ∃ a1 C1 dx1 fs1 v1, V.ref a = .ref a1 ∧ H a1 = some (.ins C1 dx1 fs1) ∧ Cls K C1 ∧ NoAttr K C1 "at" ∧ fs1.lookup ("at" : Str) = some v1 ∧ Q v1 := ⟨_, _, _, _, _, rfl, h, T.cl_CallReader, T.n_CallReader_at, rfl, q⟩
theorem rm_CallReader_is_done (h : H a = some (.ins (ga K "CallReader") dx (fs_CallReader v0 v1))) (q : R) : ∃ a1 dx1 fs1, V.ref a = .ref a1 ∧ H a1 = some (.ins (ga K "CallReader") dx1 fs1) ∧ fs1.lookup ("is_done" : Str) = none ∧ R := ⟨_, _, _, rfl, h, rfl, q⟩
theorem rm_CallReader_next_some (h : H a = some (.ins (ga K "CallReader") dx (fs_CallReader v0 v1))) (q : R) : ∃ a1 dx1 fs1, V.ref a = .ref a1 ∧ H a1 = some (.ins (ga K "CallReader") dx1 fs1) ∧ fs1.lookup ("next_some" : Str) = none ∧ R := ⟨_, _, _, rfl, h, rfl, q⟩
theorem mk_CallReader : (putF "at" v1 (putF "calls" v0 [])) = fs_CallReader v0 v1 := rfl
end
end One
set_option Elab.async false
set_option linter.all false
set_option maxRecDepth 100000
set_option maxHeartbeats 4000000
/-! How the specification's data lie in the heap; what keeps them. -/
namespace One
open PySem PySem.Spec PyProof.Rows L2
open He (ga ma)
open Vaidxb (Done)
abbrev Tbl := VaidxBase.Table
abbrev Qst := VaidxBase.Question
abbrev Idx := VaidxBase.Index
abbrev Flt := VaidxBase.Filter
abbrev Grp := VaidxBase.Group
def natV (n : Nat) : V := .int (n : Int)
def natsV (l : List Nat) : List V := l.map natV
theorem natsV_get {l : List Nat} {i n : Nat} (h : l[i]? = some n) : (natsV l)[i]? = some (natV n) := by
  unfold natsV
  rw [List.getElem?_map, h]
  rfl
theorem natsV_of {l : List Nat} {i : Nat} {v : V} (h : (natsV l)[i]? = some v) : ∃ n, l[i]? = some n ∧ v = natV n := by
  unfold natsV at h
  rw [List.getElem?_map] at h
  cases e : l[i]? with
  | none =>
    rw [e] at h
    cases h
  | some n =>
    rw [e] at h
    exact ⟨n, rfl, (Option.some.inj h).symm⟩
theorem natsV_len (l : List Nat) : (natsV l).length = l.length := by
  unfold natsV
  rw [List.length_map]
theorem natsV_app (l m : List Nat) : natsV (l ++ m) = natsV l ++ natsV m := by
  unfold natsV
  rw [List.map_append]
theorem natsV_ints (l : List Nat) : natsV l = (l.map fun (n : Nat) => (n : Int)).map V.int := by
  unfold natsV
  rw [List.map_map]
  rfl
def refsV (l : List Addr) : List V := l.map V.ref
theorem refsV_get {l : List Addr} {i : Nat} {a : Addr} (h : l[i]? = some a) : (refsV l)[i]? = some (V.ref a) := by
  unfold refsV
  rw [List.getElem?_map, h]
  rfl
theorem refsV_of {l : List Addr} {i : Nat} {v : V} (h : (refsV l)[i]? = some v) : ∃ a, l[i]? = some a ∧ v = V.ref a := by
  unfold refsV at h
  rw [List.getElem?_map] at h
  cases e : l[i]? with
  | none =>
    rw [e] at h
    cases h
  | some n =>
    rw [e] at h
    exact ⟨n, rfl, (Option.some.inj h).symm⟩
theorem refsV_len (l : List Addr) : (refsV l).length = l.length := by
  unfold refsV
  rw [List.length_map]
theorem refsV_snoc (l : List Addr) (a : Addr) : refsV (l ++ [a]) = refsV l ++ [V.ref a] := by
  unfold refsV
  rw [List.map_append]
  rfl
section
variable {α β : Type} {F : α → β → Prop}
theorem pair_get : ∀ {as : List α} {bs : List β} {i : Nat} {a : α}, Paired F as bs → as[i]? = some a → ∃ b, bs[i]? = some b ∧ F a b
  | _, _, i, a, .nil, h => by simp at h
  | _, _, 0, a, .cons h1 _, h => by
    have e := Option.some.inj h
    subst e
    exact ⟨_, rfl, h1⟩
  | _, _, i + 1, a, .cons _ t, h => pair_get (i := i) t h
theorem pair_get' : ∀ {as : List α} {bs : List β} {i : Nat} {b : β}, Paired F as bs → bs[i]? = some b → ∃ a, as[i]? = some a ∧ F a b
  | _, _, i, a, .nil, h => by simp at h
  | _, _, 0, a, .cons h1 _, h => by
    have e := Option.some.inj h
    subst e
    exact ⟨_, rfl, h1⟩
  | _, _, i + 1, a, .cons _ t, h => pair_get' (i := i) t h
theorem pair_mono {G : α → β → Prop} {as : List α} {bs : List β} (h : ∀ a b, F a b → G a b) (p : Paired F as bs) : Paired G as bs := Paired.mono h p
theorem pair_append : ∀ {as cs : List α} {bs ds : List β}, Paired F as bs → Paired F cs ds → Paired F (as ++ cs) (bs ++ ds)
  | _, _, _, _, .nil, q => q
  | _, _, _, _, .cons h t, q => .cons h (pair_append t q)
end
/-! ### what keeps the data -/
/-- what is never changed once it is made: lists that are handed over, instances of the classes in imm -/
def Fast (K : PySem.W.Frag) : HO → Prop
  | .ins C _ _ => C ∈ imm K
  | _ => True
def Pres (K : PySem.W.Frag) (H H' : Hp) : Prop := ∀ b o, Fast K o → H b = some o → H' b = some o
/-- all but the object at d -/
def But (d : Addr) (H H' : Hp) : Prop := ∀ b o, b ≠ d → H b = some o → H' b = some o
theorem Pres.refl (K : PySem.W.Frag) (H : Hp) : Pres K H H := fun _ _ _ h => h
theorem Pres.trans {K : PySem.W.Frag} {H1 H2 H3 : Hp} (a : Pres K H1 H2) (b : Pres K H2 H3) : Pres K H1 H3 := fun c o f h => b c o f (a c o f h)
theorem Pres.of {K : PySem.W.Frag} {H H' : Hp} (s : Same H H') : Pres K H H' := fun b o _ h => s b o h
theorem But.of {d : Addr} {H H' : Hp} (s : Same H H') : But d H H' := fun b o _ h => s b o h
theorem But.refl (d : Addr) (H : Hp) : But d H H := fun _ _ _ h => h
theorem But.trans {d : Addr} {H1 H2 H3 : Hp} (a : But d H1 H2) (b : But d H2 H3) : But d H1 H3 := fun c o f h => b c o f (a c o f h)
theorem Pres.but {K : PySem.W.Frag} {H H' : Hp} {d C dx : Addr} {fs : List (Str × V)} (k : But d H H') (h : H d = some (.ins C dx fs)) (n : C ∉ imm K) : Pres K H H' := fun b o f q => by
  refine k b o (fun z => ?_) q
  rw [z, h] at q
  cases q
  exact n f
theorem But.wr {d : Addr} {H : Hp} {o : HO} : But d H (upd H d o) := fun b u n h => by
  rw [upd_ne n]
  exact h
theorem sm_new {H : Hp} {p : Addr} {o : HO} (h : H p = none) : Same H (upd H p o) := fun a u e => by
  rw [upd_ne (ne_of_none e h)]
  exact e
/-- an object that H does not know may change -/
theorem sm_mut {H H' : Hp} {p : Addr} {o : HO} (e : Same H H') (h : H p = none) : Same H (upd H' p o) := fun a u ha => by
  rw [upd_ne (ne_of_none ha h)]
  exact e a u ha
theorem But.mut {d : Addr} {H H' : Hp} {p : Addr} {o : HO} (e : But d H H') (h : H p = none) : But d H (upd H' p o) := fun a u n ha => by
  rw [upd_ne (ne_of_none ha h)]
  exact e a u n ha
theorem sm_back {H H' : Hp} {p : Addr} (e : Same H H') (h : H' p = none) : H p = none := e.free h
theorem But.back {d : Addr} {H H' : Hp} {p : Addr} (e : But d H H') (hd : ∃ o, H' d = some o) (h : H' p = none) : H p = none := by
  cases q : H p with
  | none => rfl
  | some o =>
    have n : p ≠ d := fun z => by
      obtain ⟨o', q'⟩ := hd
      rw [z, q'] at h
      cases h
    rw [e p o n q] at h
    cases h
theorem Pres.seq {K : PySem.W.Frag} {H H' : Hp} {a : Addr} {xs : List V} (e : Pres K H H') (h : SqL K H a xs) : SqL K H' a xs := by
  rcases h with (h | ⟨o, h⟩) | h
  · exact .inl (.inl (e _ _ trivial h))
  · exact .inl (.inr ⟨o, e _ _ trivial h⟩)
  · exact .inr h
/-! ### the data -/
section
variable (K : PySem.W.Frag) (H : Hp)
def FilterAt (a : Addr) (f : Flt) : Prop := ∃ dx, H a = some (.ins (ga K "Filter") dx (fs_Filter (natV f.col) (natV f.lo) (natV f.hi)))
def GroupAt (a : Addr) (g : Grp) : Prop := ∃ dx p, H a = some (.ins (ga K "Group") dx (fs_Group (.ref p) (natV g.count))) ∧ H p = some (.lst (natsV g.row))
def TableAt (a : Addr) (t : Tbl) : Prop := ∃ dx p as, H a = some (.ins (ga K "Table") dx (fs_Table (natV t.cols) (.ref p))) ∧ H p = some (.lst (refsV as)) ∧ Paired (GroupAt K H) as t.groups
def QuestionAt (a : Addr) (q : Qst) : Prop := ∃ dx p1 p2 p3 as, H a = some (.ins (ga K "Question") dx (fs_Question (.ref p1) (.ref p2) (.int (if q.back then 1 else 0)) (.ref p3) (natV q.limit) (natV q.times))) ∧
  H p1 = some (.lst (refsV as)) ∧ Paired (FilterAt K H) as q.filters ∧ H p2 = some (.lst (natsV q.order)) ∧ H p3 = some (.lst (natsV q.wants))
def CondAt (v : V) : Option Flt → Prop
  | none => v = .non
  | some f => ∃ b, v = .ref b ∧ FilterAt K H b f
def IndexAt (a : Addr) (i : Idx) : Prop := ∃ dx p1 p2 c, H a = some (.ins (ga K "Index") dx (fs_Index (.ref p1) (.ref p2) c)) ∧ H p1 = some (.lst (natsV i.keys)) ∧ H p2 = some (.lst (natsV i.others)) ∧ CondAt K H c i.only
def StepAt (a : Addr) (d : Done) : Prop := ∃ dx, H a = some (.ins (ga K "Step") dx (fs_Step (natV d.group) (natV d.touched) (natV d.looked) (natV d.found)))
def WayAt (a : Addr) (l : List Done) (free : Bool) : Prop := ∃ dx p as, H a = some (.ins (ga K "Way") dx (fs_Way (.ref p) (.bl free))) ∧ H p = some (.lst (refsV as)) ∧ Paired (StepAt K H) as l
def ReaderAt (a np : Addr) (ns : List Int) (i : Nat) : Prop := ∃ dx, H a = some (.ins (ga K "NumberReader") dx (fs_NumberReader (.ref np) (natV i))) ∧ H np = some (.lst (ns.map V.int))
end
section
variable {K : PySem.W.Frag} {H H' : Hp} {a : Addr}
theorem im_Filter : ga K "Filter" ∈ imm K := by simp [imm]
theorem im_Group : ga K "Group" ∈ imm K := by simp [imm]
theorem im_Table : ga K "Table" ∈ imm K := by simp [imm]
theorem im_Question : ga K "Question" ∈ imm K := by simp [imm]
theorem im_Index : ga K "Index" ∈ imm K := by simp [imm]
theorem im_Step : ga K "Step" ∈ imm K := by simp [imm]
theorem im_Way : ga K "Way" ∈ imm K := by simp [imm]
theorem FilterAt.pres {f : Flt} (k : Pres K H H') : FilterAt K H a f → FilterAt K H' a f := fun ⟨dx, h⟩ => ⟨dx, k _ _ im_Filter h⟩
theorem GroupAt.pres {g : Grp} (k : Pres K H H') : GroupAt K H a g → GroupAt K H' a g := fun ⟨dx, p, h1, h2⟩ => ⟨dx, p, k _ _ im_Group h1, k _ _ trivial h2⟩
theorem TableAt.pres {t : Tbl} (k : Pres K H H') : TableAt K H a t → TableAt K H' a t := fun ⟨dx, p, as, h1, h2, h3⟩ => ⟨dx, p, as, k _ _ im_Table h1, k _ _ trivial h2, pair_mono (fun _ _ h => h.pres k) h3⟩
theorem QuestionAt.pres {q : Qst} (k : Pres K H H') : QuestionAt K H a q → QuestionAt K H' a q := fun ⟨dx, p1, p2, p3, as, h1, h2, h3, h4, h5⟩ =>
  ⟨dx, p1, p2, p3, as, k _ _ im_Question h1, k _ _ trivial h2, pair_mono (fun _ _ h => h.pres k) h3, k _ _ trivial h4, k _ _ trivial h5⟩
theorem CondAt.pres {v : V} {o : Option Flt} (k : Pres K H H') (h : CondAt K H v o) : CondAt K H' v o := by
  cases o with
  | none => exact h
  | some f =>
    obtain ⟨b, e, h⟩ := h
    exact ⟨b, e, h.pres k⟩
theorem IndexAt.pres {i : Idx} (k : Pres K H H') : IndexAt K H a i → IndexAt K H' a i := fun ⟨dx, p1, p2, c, h1, h2, h3, h4⟩ => ⟨dx, p1, p2, c, k _ _ im_Index h1, k _ _ trivial h2, k _ _ trivial h3, h4.pres k⟩
theorem StepAt.pres {d : Done} (k : Pres K H H') : StepAt K H a d → StepAt K H' a d := fun ⟨dx, h⟩ => ⟨dx, k _ _ im_Step h⟩
theorem WayAt.pres {l : List Done} {free : Bool} (k : Pres K H H') : WayAt K H a l free → WayAt K H' a l free := fun ⟨dx, p, as, h1, h2, h3⟩ => ⟨dx, p, as, k _ _ im_Way h1, k _ _ trivial h2, pair_mono (fun _ _ h => h.pres k) h3⟩
theorem FilterAt.same {f : Flt} (k : Same H H') (h : FilterAt K H a f) : FilterAt K H' a f := h.pres (.of k)
theorem GroupAt.same {g : Grp} (k : Same H H') (h : GroupAt K H a g) : GroupAt K H' a g := h.pres (.of k)
theorem TableAt.same {t : Tbl} (k : Same H H') (h : TableAt K H a t) : TableAt K H' a t := h.pres (.of k)
theorem QuestionAt.same {q : Qst} (k : Same H H') (h : QuestionAt K H a q) : QuestionAt K H' a q := h.pres (.of k)
theorem IndexAt.same {i : Idx} (k : Same H H') (h : IndexAt K H a i) : IndexAt K H' a i := h.pres (.of k)
theorem CondAt.same {v : V} {o : Option Flt} (k : Same H H') (h : CondAt K H v o) : CondAt K H' v o := h.pres (.of k)
theorem StepAt.same {d : Done} (k : Same H H') (h : StepAt K H a d) : StepAt K H' a d := h.pres (.of k)
theorem WayAt.same {l : List Done} {free : Bool} (k : Same H H') (h : WayAt K H a l free) : WayAt K H' a l free := h.pres (.of k)
end
/-- small sizes -/
theorem sz {n : Nat} (h : n ≤ 1000000) : n ≤ sizeLine := by
  rw [sizeLine_eq]
  omega
theorem szl {n : Nat} (h : n ≤ 1000000) : n < sizeLine := by
  rw [sizeLine_eq]
  omega
end One
set_option Elab.async false
set_option linter.all false
set_option maxRecDepth 100000
set_option maxHeartbeats 4000000
/-! Helps of the walk: tests, comprehensions that change nothing, numbers. -/
namespace One
open PySem PySem.Spec PyProof.Rows L2
open He (ga ma)
theorem small {n : Nat} (h : Nat.ble (n + 1) 1000 = true) : n < 1000 := Nat.le_of_ble_eq_true h
theorem iteB {c : Bool} {A B : Prop} (h1 : c = true → A) (h2 : c = false → B) : if c = true then A else B := by
  cases c with
  | true => exact iteT (h1 rfl)
  | false => exact iteF (h2 rfl)
theorem le_nat (a b : Nat) : decide ((a : Int) ≤ (b : Int)) = decide (a ≤ b) := by
  by_cases h : a ≤ b
  · rw [decide_eq_true h, decide_eq_true (by omega)]
  · rw [decide_eq_false h, decide_eq_false (by omega)]
theorem lt_nat (a b : Nat) : decide ((a : Int) < (b : Int)) = decide (a < b) := by
  by_cases h : a < b
  · rw [decide_eq_true h, decide_eq_true (by omega)]
  · rw [decide_eq_false h, decide_eq_false (by omega)]
theorem eq_nat (a b : Nat) : decide (V.int (a : Int) = V.int (b : Int)) = (a == b) := by
  by_cases h : a = b
  · rw [h, decide_eq_true rfl, beq_self_eq_true]
  · rw [decide_eq_false (fun z => h (by injection z with z; omega))]
    exact (beq_eq_false_iff_ne.mpr h).symm
theorem eq_int (a b : Int) : decide (V.int a = V.int b) = decide (a = b) := by
  by_cases h : a = b
  · rw [h, decide_eq_true rfl, decide_eq_true rfl]
  · rw [decide_eq_false h, decide_eq_false (fun z => h (by injection z))]
theorem at_nat {r : List Nat} {c : Nat} (h : c < r.length) : atI (natsV r) (c : Int) = some (natV (VaidxBase.valueAt r c)) := by
  have e : r[c]? = some (VaidxBase.valueAt r c) := by
    unfold VaidxBase.valueAt
    rw [List.getElem?_eq_getElem h] <;> rfl
  exact atI_nat (natsV_get e)
/-! ### flat things in lists -/
theorem flat_nats (l : List Nat) : (natsV l).all flatV = true := by
  rw [List.all_eq_true]
  intro v hv
  obtain ⟨n, _, rfl⟩ := List.mem_map.mp hv
  rfl
theorem eqV_nat (a b : Nat) : eqV (natV a) (natV b) = (a == b) := by
  unfold natV
  simp only [eqV]
  by_cases h : a = b
  · rw [h, beq_self_eq_true]
    simp
  · rw [beq_eq_false_iff_ne.mpr h]
    simp
    omega
theorem in_nats (c : Nat) (l : List Nat) : inV (natV c) (natsV l) = l.contains c := by
  unfold inV natsV
  rw [List.any_map]
  induction l with
  | nil => rfl
  | cons x r ih =>
    rw [List.any_cons, List.contains_cons, ih]
    show (eqV (natV x) (natV c) || _) = _
    rw [eqV_nat]
    by_cases h : x = c
    · rw [h, beq_self_eq_true]
    · rw [beq_eq_false_iff_ne.mpr h, beq_eq_false_iff_ne.mpr (fun z => h z.symm)]
/-! ### comprehensions that change nothing: l, what stands for the items; h, what an item gives, if it is kept -/
theorem lc_of {β : Type} {K : PySem.W.Frag} {a : Addr} {xs : List V} {g : TG} {tt : TT} {te : TE} {vs : List Nat} {σ : L2.St} {H : Hp} {D : Addr} {Qd : Hp → Prop} (l : List β) (h : β → Option V) (hD : H D = none) (hl : xs.length = l.length) (hz : l.length ≤ 1000000) (hx : SqL K H a xs)
    (hs : ∀ (i : Nat) (x : V) (b : β) (H' : Hp), xs[i]? = some x → l[i]? = some b → Same H H' → ∀ (R : V → Hp → Prop) (S : Hp → Prop), (∀ y H4, h b = some y → Same H' H4 → R y H4) → (h b = none → ∀ H4, Same H' H4 → S H4) →
      g x (wipe σ vs) H' (fun σ2 H2 => wipe σ2 vs = wipe σ vs ∧ tt σ2 H2 fun k H3 => if k = true then te σ2 H3 R else S H3))
    (hd : ∀ H', Same H H' → H' D = some (.lst (l.filterMap h)) → Qd H') :
    ∃ W : Nat → Nat → Hp → Prop, (∃ m, W 0 m (upd H D (.lst []))) ∧ ∀ i m H, W i m H →
      ((Itl K a).stop i H ∧ Qd H) ∨ ((Itl K a).go i H ∧ ∃ Nx : Hp → Prop, (∀ H', Nx H' → ∃ m', m' < m ∧ W (i + 1) m' H') ∧ ∀ x H', (Itl K a).yld i H x H' → g x (wipe σ vs) H' fun σ2 H2 => wipe σ2 vs = wipe σ vs ∧ tt σ2 H2 fun b H3 =>
        if b = true then te σ2 H3 fun y H4 => ∃ acc, H4 D = some (.lst acc) ∧ acc.length < sizeLine ∧ Nx (upd H4 D (.lst (acc ++ [y]))) else Nx H3) := by
  refine lc_list (K := K) (a := a) (xs := xs) (fun i H' => Same H H' ∧ H' D = some (.lst ((l.take i).filterMap h))) ⟨sm_new hD, upd_same⟩ (fun i H' _ p => p.1.seq hx) (fun i x H' hi p => ?_) (fun H' p => ?_)
  · have hb : i < l.length := by
      rw [← hl]
      exact (List.getElem?_eq_some_iff.mp hi).1
    have eb : l[i]? = some l[i] := List.getElem?_eq_getElem hb
    refine hs i x l[i] H' hi eb p.1 _ _ (fun y H4 ey s4 => ⟨_, s4 _ _ p.2, ?_, sm_mut (p.1.trans s4) hD, ?_⟩) fun en H4 s4 => ⟨p.1.trans s4, ?_⟩
    · refine szl (Nat.le_trans (List.length_filterMap_le _ _) ?_)
      rw [List.length_take]
      omega
    · rw [upd_same, take_more eb, List.filterMap_append, List.filterMap_cons, ey]
      rfl
    · rw [s4 _ _ p.2, take_more eb, List.filterMap_append, List.filterMap_cons, en, List.filterMap_nil, List.append_nil]
  · obtain ⟨s, e⟩ := p
    rw [hl, List.take_length] at e
    exact hd H' s e
theorem sm_lst {H H' : Hp} {p : Addr} {xs : List V} (s : Same H H') (h : H p = some (.lst xs)) : H' p = some (.lst xs) := s _ _ h
theorem made {H H1 : Hp} {x dx C : Addr} (nx : H x = none) (nd : H dx = none) (k : But x (upd (upd H dx (.own x)) x (.ins C dx [])) H1) : Same H H1 := Same.made nx nd fun b o h n => k b o n h
theorem fm_some {α β : Type} (l : List α) (f : α → β) : l.filterMap (fun a => some (f a)) = l.map f := by
  induction l with
  | nil => rfl
  | cons x r ih => rw [List.filterMap_cons, List.map_cons, ih]
theorem fm_if {α β : Type} (l : List α) (p : α → Bool) (f : α → β) : l.filterMap (fun a => if p a then some (f a) else none) = (l.filter p).map f := by
  induction l with
  | nil => rfl
  | cons x r ih =>
    rw [List.filterMap_cons, List.filter_cons]
    cases e : p x with
    | true =>
      simp only [if_true]
      rw [List.map_cons, ih]
    | false =>
      simp only [Bool.false_eq_true, if_false]
      exact ih
theorem sum_nats (l : List Nat) : (l.map fun (n : Nat) => (n : Int)).sum = ((l.sum : Nat) : Int) := by
  induction l with
  | nil => rfl
  | cons x r ih =>
    rw [List.map_cons, List.sum_cons, List.sum_cons, ih]
    omega
end One
set_option Elab.async false
set_option linter.all false
set_option maxRecDepth 100000
set_option maxHeartbeats 4000000
/-! The walk, A: filters, groups, tables, questions, indexes. -/
namespace One
open PySem PySem.Spec PyProof.Rows L2
open He (ga ma)
open Vaidxb (Done)
section
variable {P : Program} {w : World} {K : PySem.W.Frag} {mg : Str → Option Value} {base : Heap}
/-! ### filters -/
def sp_Filter_init (K : PySem.W.Frag) : Sp := fun vs H Q _ => ∃ (x dx : Addr) (c l u : V), vs = [.ref x, c, l, u] ∧ H x = some (.ins (ga K "Filter") dx []) ∧ ∀ H', But x H H' → H' x = some (.ins (ga K "Filter") dx (fs_Filter c l u)) → Q .non H'
theorem ok_Filter_init (T : Txt K mg) : ∃ fd, FnOk P w K mg base CX0 1 (ma K (ga K "Filter") "__init__") fd ["self", "column", "low", "high"] (sp_Filter_init K) ∧ Binds K fd ["self", "column", "low", "high"] [] := by
  obtain ⟨fd, F, b⟩ := T.F_Filter_init
  refine ⟨fd, F.ok sc_Filter_init (fun vs H Q E h => let ⟨_, _, _, _, _, e, _⟩ := h; by rw [e] <;> rfl) (fun cdv A outer s H vs Q E hr h => ⟨_, (pss_cons (ps_fld (pv 0) (pv 1) rfl)
  (pss_cons (ps_fld (pv 0) (pv 2) rfl)
  (pss_one (ps_fld (pv 0) (pv 3) rfl)))), ?_⟩), b⟩
  obtain ⟨x, dx, c, l, u, rfl, hx, q⟩ := h
  refine ⟨_, rfl, _, rfl, x, _, dx, _, rfl, hx, T.cl_Filter, T.n_Filter_column, small rfl, ?_⟩
  refine ⟨_, rfl, _, rfl, x, _, dx, _, rfl, upd_same, T.cl_Filter, T.n_Filter_low, small rfl, ?_⟩
  refine ⟨_, rfl, _, rfl, x, _, dx, _, rfl, upd_same, T.cl_Filter, T.n_Filter_high, small rfl, ?_⟩
  exact q _ ((But.wr.trans But.wr).trans But.wr) upd_same
def sp_Filter_passes (K : PySem.W.Frag) : Sp := fun vs H Q _ => ∃ (a p : Addr) (f : Flt) (r : List Nat), vs = [.ref a, .ref p] ∧ FilterAt K H a f ∧ H p = some (.lst (natsV r)) ∧ f.col < r.length ∧ Q (.bl (VaidxBase.passes r f)) H
theorem ok_Filter_passes (T : Txt K mg) : ∃ fd, FnOk P w K mg base CX0 1 (ma K (ga K "Filter") "passes") fd ["self", "values"] (sp_Filter_passes K) ∧ Binds K fd ["self", "values"] [] := by
  obtain ⟨fd, F, b⟩ := T.F_Filter_passes
  refine ⟨fd, F.ok sc_Filter_passes (fun vs H Q E h => let ⟨_, _, _, _, e, _⟩ := h; by rw [e] <;> rfl) (fun cdv A outer s H vs Q E hr h => ⟨_, (pss_one (ps_ret (pe_chain op_le op_le (pe_fld (pv 0) rfl) (pe_ix ix_list (pv 1) (pe_fld (pv 0) rfl) (fun _ _ => rfl)) (pe_fld (pv 0) rfl)))), ?_⟩), b⟩
  obtain ⟨a, p, f, r, rfl, ⟨dx, ha⟩, hp, hc, q⟩ := h
  refine ⟨_, rfl, rd_Filter_low T ha ⟨_, rfl, _, rfl, rd_Filter_column T ha ⟨p, _, _, _, rfl, rfl, .of hp, at_nat hc, _, _, rfl, rfl, _, rfl, ?_⟩⟩⟩
  have e : VaidxBase.passes r f = (decide ((f.lo : Int) ≤ (VaidxBase.valueAt r f.col : Int)) && decide ((VaidxBase.valueAt r f.col : Int) ≤ (f.hi : Int))) := by
    rw [le_nat, le_nat]
    rfl
  rw [e] at q
  refine iteB (fun c => ⟨_, rfl, rd_Filter_high T ha ⟨_, _, rfl, rfl, ?_⟩⟩) (fun c => ?_)
  · rw [c, Bool.true_and] at q
    exact q
  · rw [c, Bool.false_and] at q
    exact q
def sp_Filter_is_equal (K : PySem.W.Frag) : Sp := fun vs H Q _ => ∃ (a : Addr) (f : Flt), vs = [.ref a] ∧ FilterAt K H a f ∧ Q (.bl (VaidxBase.isEqual f)) H
theorem ok_Filter_is_equal (T : Txt K mg) : ∃ fd, FnOk P w K mg base CX0 1 (ma K (ga K "Filter") "is_equal") fd ["self"] (sp_Filter_is_equal K) ∧ Binds K fd ["self"] [] := by
  obtain ⟨fd, F, b⟩ := T.F_Filter_is_equal
  refine ⟨fd, F.ok sc_Filter_is_equal (fun vs H Q E h => let ⟨_, _, e, _⟩ := h; by rw [e] <;> rfl) (fun cdv A outer s H vs Q E hr h => ⟨_, (pss_one (ps_ret (pe_cmpR op_eq (pe_fld (pv 0) rfl) (pe_fld (pv 0) rfl) (nomark _)))), ?_⟩), b⟩
  obtain ⟨a, f, rfl, ⟨dx, ha⟩, q⟩ := h
  refine ⟨_, rfl, rd_Filter_low T ha ⟨_, rfl, rd_Filter_high T ha ⟨rfl, ?_⟩⟩⟩
  show Q (.bl (decide (V.int (f.lo : Int) = V.int (f.hi : Int)))) H
  rw [eq_nat]
  exact q
def sp_Filter_is_within (K : PySem.W.Frag) : Sp := fun vs H Q _ => ∃ (a b : Addr) (f g : Flt), vs = [.ref a, .ref b] ∧ FilterAt K H a f ∧ FilterAt K H b g ∧ Q (.bl (decide (g.lo ≤ f.lo) && decide (f.hi ≤ g.hi))) H
theorem ok_Filter_is_within (T : Txt K mg) : ∃ fd, FnOk P w K mg base CX0 1 (ma K (ga K "Filter") "is_within") fd ["self", "other"] (sp_Filter_is_within K) ∧ Binds K fd ["self", "other"] [] := by
  obtain ⟨fd, F, b⟩ := T.F_Filter_is_within
  refine ⟨fd, F.ok sc_Filter_is_within (fun vs H Q E h => let ⟨_, _, _, _, e, _⟩ := h; by rw [e] <;> rfl) (fun cdv A outer s H vs Q E hr h => ⟨_, (pss_one (ps_ret (pe_and (pe_cmpR op_le (pe_fld (pv 1) rfl) (pe_fld (pv 0) rfl) (nomark _)) (pe_one (pe_cmpR op_le (pe_fld (pv 0) rfl) (pe_fld (pv 1) rfl) (nomark _)))))), ?_⟩), b⟩
  obtain ⟨a, b', f, g, rfl, ⟨dx, ha⟩, ⟨dy, hb⟩, q⟩ := h
  rw [← le_nat, ← le_nat] at q
  refine ⟨_, rfl, rd_Filter_low T hb ⟨_, rfl, rd_Filter_low T ha ⟨_, _, rfl, rfl, _, rfl, iteB (fun c => ?_) (fun c => ?_)⟩⟩⟩
  · rw [c, Bool.true_and] at q
    exact ⟨_, rfl, rd_Filter_high T ha ⟨_, rfl, rd_Filter_high T hb ⟨_, _, rfl, rfl, q⟩⟩⟩
  · rw [c, Bool.false_and] at q
    exact q
/-! ### groups, tables -/
def sp_Group_init (K : PySem.W.Frag) : Sp := fun vs H Q _ => ∃ (x dx : Addr) (c l : V), vs = [.ref x, c, l] ∧ H x = some (.ins (ga K "Group") dx []) ∧ ∀ H', But x H H' → H' x = some (.ins (ga K "Group") dx (fs_Group c l)) → Q .non H'
theorem ok_Group_init (T : Txt K mg) : ∃ fd, FnOk P w K mg base CX0 1 (ma K (ga K "Group") "__init__") fd ["self", "values", "count"] (sp_Group_init K) ∧ Binds K fd ["self", "values", "count"] [] := by
  obtain ⟨fd, F, b⟩ := T.F_Group_init
  refine ⟨fd, F.ok sc_Group_init (fun vs H Q E h => let ⟨_, _, _, _, e, _⟩ := h; by rw [e] <;> rfl) (fun cdv A outer s H vs Q E hr h => ⟨_, (pss_cons (ps_fld (pv 0) (pv 1) rfl)
  (pss_one (ps_fld (pv 0) (pv 2) rfl))), ?_⟩), b⟩
  obtain ⟨x, dx, c, l, rfl, hx, q⟩ := h
  refine ⟨_, rfl, _, rfl, x, _, dx, _, rfl, hx, T.cl_Group, T.n_Group_values_told, small rfl, ?_⟩
  refine ⟨_, rfl, _, rfl, x, _, dx, _, rfl, upd_same, T.cl_Group, T.n_Group_count, small rfl, ?_⟩
  exact q _ (But.wr.trans But.wr) upd_same
def sp_Table_init (K : PySem.W.Frag) : Sp := fun vs H Q _ => ∃ (x dx : Addr) (c l : V), vs = [.ref x, c, l] ∧ H x = some (.ins (ga K "Table") dx []) ∧ ∀ H', But x H H' → H' x = some (.ins (ga K "Table") dx (fs_Table c l)) → Q .non H'
theorem ok_Table_init (T : Txt K mg) : ∃ fd, FnOk P w K mg base CX0 1 (ma K (ga K "Table") "__init__") fd ["self", "columns", "groups"] (sp_Table_init K) ∧ Binds K fd ["self", "columns", "groups"] [] := by
  obtain ⟨fd, F, b⟩ := T.F_Table_init
  refine ⟨fd, F.ok sc_Table_init (fun vs H Q E h => let ⟨_, _, _, _, e, _⟩ := h; by rw [e] <;> rfl) (fun cdv A outer s H vs Q E hr h => ⟨_, (pss_cons (ps_fld (pv 0) (pv 1) rfl)
  (pss_one (ps_fld (pv 0) (pv 2) rfl))), ?_⟩), b⟩
  obtain ⟨x, dx, c, l, rfl, hx, q⟩ := h
  refine ⟨_, rfl, _, rfl, x, _, dx, _, rfl, hx, T.cl_Table, T.n_Table_columns, small rfl, ?_⟩
  refine ⟨_, rfl, _, rfl, x, _, dx, _, rfl, upd_same, T.cl_Table, T.n_Table_groups, small rfl, ?_⟩
  exact q _ (But.wr.trans But.wr) upd_same
/-- how many rows the groups have that a test lets through -/
theorem counts_sum (l : List Grp) (p : Grp → Bool) : ((l.filterMap fun g => if p g then some (natV g.count) else none) = (((l.filter p).map fun g => g.count).map fun (n : Nat) => (n : Int)).map V.int) ∧
    ((((l.filter p).map fun g => g.count).map fun (n : Nat) => (n : Int)).sum = ((VaidxBase.rowsOf (l.filter p) : Nat) : Int)) := by
  refine ⟨?_, ?_⟩
  · rw [fm_if, List.map_map, List.map_map]
    rfl
  · rw [sum_nats, rowsOf_sum]
def sp_Table_all_rows (K : PySem.W.Frag) : Sp := fun vs H Q _ => ∃ (a : Addr) (t : Tbl), vs = [.ref a] ∧ TableAt K H a t ∧ WfT t ∧ ∀ H', Same H H' → Q (natV (VaidxBase.allRows t)) H'
theorem ok_Table_all_rows (T : Txt K mg) : ∃ fd, FnOk P w K mg base CX0 1 (ma K (ga K "Table") "all_rows") fd ["self"] (sp_Table_all_rows K) ∧ Binds K fd ["self"] [] := by
  obtain ⟨fd, F, b⟩ := T.F_Table_all_rows
  refine ⟨fd, F.ok sc_Table_all_rows (fun vs H Q E h => let ⟨_, _, e, _⟩ := h; by rw [e] <;> rfl) (fun cdv A outer s H vs Q E hr h => ⟨_, (pss_one (ps_ret (pe_callB (cr_sum rfl) (by rfl) T.b_sum (by decide +kernel) (pa_cons (pe_lc (own := [("group", 1)]) rfl sc_Table_all_rows.nd (pi_list (pe_fld (pv 0) rfl)) (blkOk_by (N := ["self", "group"]) (sc := defScope s_Table_all_rows) (by decide +kernel)) (fun _ _ _ _ _ => (pg_name (i := 1) sc_Table_all_rows.nd rfl (Or.inl rfl))) (fun _ _ _ _ _ => pts_nil) (fun _ _ _ _ _ => (pe_fldK (K := K) rfl (pv 1) rfl))) pa_nil)))), ?_⟩), b⟩
  obtain ⟨a, t, rfl, ⟨dx, p, as, ha, hp, hg⟩, wf, q⟩ := h
  refine ⟨_, rfl, rd_Table_groups T ha ⟨p, rfl, ⟨_, .of hp⟩, fun D hD => ?_⟩⟩
  refine lc_of t.groups (fun g => if (fun _ => true) g then some (natV g.count) else none) hD (by rw [refsV_len, hg.length]) (Nat.le_trans wf.few (by decide)) (.of hp) (fun i x b H' hx hb s R S kR kS => ?_) fun H' s e => ?_
  · obtain ⟨ga', ea, rfl⟩ := refsV_of hx
    obtain ⟨g, eg, hga⟩ := pair_get hg ea
    rw [hb] at eg
    cases eg
    obtain ⟨dg, pg, hg1, hg2⟩ := hga.same s
    exact ⟨rfl, _, rfl, rd_Group_count T hg1 (kR _ _ rfl (Same.refl _))⟩
  · obtain ⟨e1, e2⟩ := counts_sum t.groups fun _ => true
    rw [e1] at e
    refine ⟨_, _, rfl, .of e, ?_⟩
    rw [e2]
    have e3 : t.groups.filter (fun _ => true) = t.groups := List.filter_eq_self.mpr fun _ _ => rfl
    rw [e3]
    exact q H' s
/-! ### questions -/
def sp_Question_init (K : PySem.W.Frag) : Sp := fun vs H Q _ => ∃ (x dx : Addr) (v0 v1 v2 v3 v4 v5 : V), vs = [.ref x, v0, v1, v2, v3, v4, v5] ∧ H x = some (.ins (ga K "Question") dx []) ∧ ∀ H', But x H H' → H' x = some (.ins (ga K "Question") dx (fs_Question v0 v1 v2 v3 v4 v5)) → Q .non H'
theorem ok_Question_init (T : Txt K mg) : ∃ fd, FnOk P w K mg base CX0 1 (ma K (ga K "Question") "__init__") fd ["self", "filters", "order", "backwards", "wanted", "limit", "asked"] (sp_Question_init K) ∧ Binds K fd ["self", "filters", "order", "backwards", "wanted", "limit", "asked"] [] := by
  obtain ⟨fd, F, b⟩ := T.F_Question_init
  refine ⟨fd, F.ok sc_Question_init (fun vs H Q E h => let ⟨_, _, _, _, _, _, _, _, e, _⟩ := h; by rw [e] <;> rfl) (fun cdv A outer s H vs Q E hr h => ⟨_, (pss_cons (ps_fld (pv 0) (pv 1) rfl)
  (pss_cons (ps_fld (pv 0) (pv 2) rfl)
  (pss_cons (ps_fld (pv 0) (pv 3) rfl)
  (pss_cons (ps_fld (pv 0) (pv 4) rfl)
  (pss_cons (ps_fld (pv 0) (pv 5) rfl)
  (pss_one (ps_fld (pv 0) (pv 6) rfl))))))), ?_⟩), b⟩
  obtain ⟨x, dx, v0, v1, v2, v3, v4, v5, rfl, hx, q⟩ := h
  refine ⟨_, rfl, _, rfl, x, _, dx, _, rfl, hx, T.cl_Question, T.n_Question_filters, small rfl, ?_⟩
  refine ⟨_, rfl, _, rfl, x, _, dx, _, rfl, upd_same, T.cl_Question, T.n_Question_order, small rfl, ?_⟩
  refine ⟨_, rfl, _, rfl, x, _, dx, _, rfl, upd_same, T.cl_Question, T.n_Question_backwards, small rfl, ?_⟩
  refine ⟨_, rfl, _, rfl, x, _, dx, _, rfl, upd_same, T.cl_Question, T.n_Question_wanted, small rfl, ?_⟩
  refine ⟨_, rfl, _, rfl, x, _, dx, _, rfl, upd_same, T.cl_Question, T.n_Question_limit, small rfl, ?_⟩
  refine ⟨_, rfl, _, rfl, x, _, dx, _, rfl, upd_same, T.cl_Question, T.n_Question_asked, small rfl, ?_⟩
  exact q _ (((((But.wr.trans But.wr).trans But.wr).trans But.wr).trans But.wr).trans But.wr) upd_same
/-- what filter_of hands back -/
def FoundAt (K : PySem.W.Frag) (H : Hp) (v : V) (o : Option Flt) : Prop := CondAt K H v o
def sp_Question_filter_of (K : PySem.W.Frag) : Sp := fun vs H Q _ => ∃ (a : Addr) (q : Qst) (c : Nat), vs = [.ref a, natV c] ∧ QuestionAt K H a q ∧ ∀ v, CondAt K H v (VaidxBase.filterOn q c) → Q v H
theorem ok_Question_filter_of (T : Txt K mg) : ∃ fd, FnOk P w K mg base CX0 1 (ma K (ga K "Question") "filter_of") fd ["self", "column"] (sp_Question_filter_of K) ∧ Binds K fd ["self", "column"] [] := by
  obtain ⟨fd, F, b⟩ := T.F_Question_filter_of
  refine ⟨fd, F.ok sc_Question_filter_of (fun vs H Q E h => let ⟨_, _, _, e, _⟩ := h; by rw [e] <;> rfl) (fun cdv A outer s H vs Q E hr h => ⟨_, (pss_cons (ps_for PassesOwn.never rfl (pi_list (pe_fld (pv 0) rfl)) (pg_name (i := 2) sc_Question_filter_of.nd rfl (Or.inl rfl))
    (pss_one (ps_if (pt_cmpR op_eq (pe_fld (pv 2) rfl) (pv 1) (nomark _))
    (pss_one (ps_ret (pv 2)))
    pss_nil)))
  (pss_one (ps_ret pe_non))), ?_⟩), b⟩
  obtain ⟨a, q, c, rfl, ⟨dx, p1, p2, p3, as, ha, h1, hf, h2, h3⟩, k⟩ := h
  refine ⟨_, rfl, rd_Question_filters T ha ⟨p1, rfl, ⟨_, .of h1⟩, for_list (K := K) (a := p1) (xs := refsV as) (fun i σ H' => (∃ v : Option V, σ = [some (.ref a), some (natV c), v]) ∧ H' = H ∧ VaidxBase.filterOn q c = (q.filters.drop i).find? fun f => f.col == c) ⟨⟨none, rfl⟩, rfl, rfl⟩ (fun i σ H' _ ⟨_, e, _⟩ => by rw [e]; exact .of h1) ?_ ?_⟩⟩
  · rintro i y σ H' hi ⟨⟨v, rfl⟩, rfl, e⟩
    obtain ⟨fa, ea, rfl⟩ := refsV_of hi
    obtain ⟨f, ef, hfa⟩ := pair_get hf ea
    rw [drop_cons ef, List.find?_cons] at e
    obtain ⟨df, hf1⟩ := hfa
    refine ⟨_, rfl, rd_Filter_column T hf1 ⟨_, rfl, rfl, _, rfl, ?_⟩⟩
    rw [show decide (natV f.col = natV c) = (f.col == c) from eq_nat _ _]
    refine iteB (fun ec => ?_) (fun ec => ?_)
    · rw [ec] at e
      exact ⟨_, rfl, k _ (by rw [e]; exact ⟨fa, rfl, df, hf1⟩)⟩
    · rw [ec] at e
      exact ⟨⟨_, rfl⟩, rfl, e⟩
  · rintro σ H' ⟨⟨v, rfl⟩, rfl, e⟩
    refine k _ ?_
    rw [e, List.drop_eq_nil_iff.mpr (by rw [refsV_len, hf.length]; exact Nat.le_refl _)]
    rfl
def sp_Question_is_equal (K : PySem.W.Frag) : Sp := fun vs H Q _ => ∃ (a : Addr) (q : Qst) (c : Nat), vs = [.ref a, natV c] ∧ QuestionAt K H a q ∧ Q (.bl (VaidxBase.equalOn q c)) H
theorem ok_Question_is_equal (T : Txt K mg) : ∃ fd, FnOk P w K mg base CX0 2 (ma K (ga K "Question") "is_equal") fd ["self", "column"] (sp_Question_is_equal K) ∧ Binds K fd ["self", "column"] [] := by
  obtain ⟨fd, F, b⟩ := T.F_Question_is_equal
  obtain ⟨_, G_Filter_is_equal, b_Filter_is_equal⟩ := ok_Filter_is_equal (P := P) (w := w) (base := base) T
  obtain ⟨_, G_Question_filter_of, b_Question_filter_of⟩ := ok_Question_filter_of (P := P) (w := w) (base := base) T
  refine ⟨fd, F.ok sc_Question_is_equal (fun vs H Q E h => let ⟨_, _, _, e, _⟩ := h; by rw [e] <;> rfl) (fun cdv A outer s H vs Q E hr h => ⟨_, (pss_cons (ps_set (i := 2) sc_Question_is_equal.nd rfl (Or.inl rfl) (pe_meth (pv 0) T.cl_Question T.mt_Question_filter_of G_Question_filter_of (hr.mono (by decide)) b_Question_filter_of .nil pass0 (pa_cons (pv 1) pa_nil)))
  (pss_one (ps_ret (pe_and (pe_cmpR op_notN (pv 2) pe_non (nomark _)) (pe_one (pe_meth0 (pv 2) T.cl_Filter T.mt_Filter_is_equal G_Filter_is_equal (hr.mono (by decide)) b_Filter_is_equal .nil pass0)))))), ?_⟩), b⟩
  obtain ⟨a, q, c, rfl, hq, k⟩ := h
  have hq0 := hq
  obtain ⟨dx, p1, p2, p3, as, ha, h1, hf, h2, h3⟩ := hq0
  refine ⟨_, rfl, rm_Question_filter_of ha ⟨_, rfl, a, q, c, rfl, hq, fun v hv => ?_⟩⟩
  unfold VaidxBase.equalOn at k
  cases e : VaidxBase.filterOn q c with
  | none =>
    rw [e] at hv k
    have hv : v = .non := hv
    subst hv
    exact ⟨_, rfl, rfl, _, rfl, k⟩
  | some f =>
    rw [e] at hv k
    obtain ⟨b', rfl, hb⟩ := hv
    obtain ⟨db, hb1⟩ := id hb
    exact ⟨_, rfl, rfl, _, rfl, ⟨_, rfl, rm_Filter_is_equal hb1 ⟨b', f, rfl, hb, k⟩⟩⟩
def sp_Question_finds (K : PySem.W.Frag) : Sp := fun vs H Q _ => ∃ (a b : Addr) (q : Qst) (g : Grp), vs = [.ref a, .ref b] ∧ QuestionAt K H a q ∧ GroupAt K H b g ∧ (∀ f ∈ q.filters, f.col < g.row.length) ∧ q.filters.length ≤ 1000 ∧ ∀ H', Same H H' → Q (.bl (VaidxBase.found q g.row)) H'
theorem none_out {l : List Flt} {r : List Nat} {as : List Addr} : (((l.zip as).filterMap fun p => if !VaidxBase.passes r p.1 then some (V.ref p.2) else none).isEmpty) = (l.zip as).all fun p => VaidxBase.passes r p.1 := by
  induction l.zip as with
  | nil => rfl
  | cons p t ih =>
    rw [List.filterMap_cons, List.all_cons]
    cases e : VaidxBase.passes r p.1 with
    | true => simpa using ih
    | false => rfl
theorem zip_all {α β : Type} (p : α → Bool) : ∀ {l : List α} {as : List β}, as.length = l.length → ((l.zip as).all fun x => p x.1) = l.all p
  | [], _, _ => rfl
  | x :: l, [], h => by simp at h
  | x :: l, a :: as, h => by
    rw [List.zip_cons_cons, List.all_cons, List.all_cons, zip_all p (by simpa using h)]
theorem zip_get {α β : Type} {l : List α} {as : List β} {i : Nat} {x : α} {y : β} (h1 : l[i]? = some x) (h2 : as[i]? = some y) : (l.zip as)[i]? = some (x, y) := by
  rw [List.getElem?_zip_eq_some]
  exact ⟨h1, h2⟩
theorem ok_Question_finds (T : Txt K mg) : ∃ fd, FnOk P w K mg base CX0 2 (ma K (ga K "Question") "finds") fd ["self", "group"] (sp_Question_finds K) ∧ Binds K fd ["self", "group"] [] := by
  obtain ⟨fd, F, b⟩ := T.F_Question_finds
  obtain ⟨_, G_Filter_passes, b_Filter_passes⟩ := ok_Filter_passes (P := P) (w := w) (base := base) T
  refine ⟨fd, F.ok sc_Question_finds (fun vs H Q E h => let ⟨_, _, _, _, e, _⟩ := h; by rw [e] <;> rfl) (fun cdv A outer s H vs Q E hr h => ⟨_, (pss_one (ps_ret (pe_cmpR (op_eqE (huOf0 hr)) (pe_lc (own := [("one", 2)]) rfl sc_Question_finds.nd (pi_list (pe_fld (pv 0) rfl)) (blkOk_by (N := ["self", "group", "one"]) (sc := defScope s_Question_finds) (by decide +kernel)) (fun _ _ _ _ _ => (pg_name (i := 2) sc_Question_finds.nd rfl (Or.inl rfl))) (fun _ _ _ _ _ => (pts_one (pt_not (pt_val (pe_meth (pv 2) T.cl_Filter T.mt_Filter_passes G_Filter_passes (hr.mono (by decide)) b_Filter_passes .nil pass0 (pa_cons (pe_fldK (K := K) rfl (pv 1) rfl) pa_nil)))))) (fun _ _ _ _ _ => (pv 2))) (pe_lst pa_nil) (nomark _)))), ?_⟩), b⟩
  obtain ⟨a, b', q, g, rfl, ⟨dx, p1, p2, p3, as, ha, h1, hf, h2, h3⟩, ⟨dg, pg, hg1, hg2⟩, hc, hlen, k⟩ := h
  refine ⟨_, rfl, rd_Question_filters T ha ⟨p1, rfl, ⟨_, .of h1⟩, fun D hD => ?_⟩⟩
  have el : as.length = q.filters.length := hf.length
  refine lc_of (q.filters.zip as) (fun p => if !VaidxBase.passes g.row p.1 then some (V.ref p.2) else none) hD (by rw [refsV_len, List.length_zip]; omega) (by rw [List.length_zip]; omega) (.of h1) (fun i x b H' hx hb s R S kR kS => ?_) fun H' s e => ?_
  · obtain ⟨fa, ea, rfl⟩ := refsV_of hx
    obtain ⟨f, ef, hfa⟩ := pair_get hf ea
    rw [zip_get ef ea] at hb
    cases hb
    obtain ⟨df, hf1⟩ := id hfa
    refine ⟨rfl, _, rfl, rm_Filter_passes (s _ _ hf1) ⟨_, rfl, rd_Group_values_told T (s _ _ hg1) ⟨fa, pg, f, g.row, rfl, hfa.same s, s _ _ hg2, hc f (List.mem_of_getElem? ef), _, rfl, ?_⟩⟩⟩
    refine iteB (fun c => ?_) (fun c => ?_)
    · exact ⟨_, rfl, kR _ _ (if_pos c) (Same.refl _)⟩
    · exact kS (if_neg (by rw [c]; exact Bool.false_ne_true)) _ (Same.refl _)
  · refine ⟨by show 0 ≤ sizeLine; exact Nat.zero_le _, fun E hE => ⟨D, E, _, rfl, rfl, .of ((upd_ne (ne_of_none e hE)).trans e), .of upd_same, ?_⟩⟩
    rw [none_out, zip_all _ el]
    exact k _ (s.trans (sm_new hE))
/-- behind a loop that puts in what isn't in yet -/
def sp_Question_needed (K : PySem.W.Frag) : Sp := fun vs H Q _ => ∃ (a : Addr) (q : Qst), vs = [.ref a] ∧ QuestionAt K H a q ∧ (VaidxBase.needed q).length ≤ 1000 ∧ ∀ H' p, Same H H' → H p = none → H' p = some (.lst (natsV (once (VaidxBase.needed q)))) → Q (.ref p) H'
theorem ok_Question_needed (T : Txt K mg) : ∃ fd, FnOk P w K mg base CX0 1 (ma K (ga K "Question") "needed") fd ["self"] (sp_Question_needed K) ∧ Binds K fd ["self"] [] := by
  obtain ⟨fd, F, b⟩ := T.F_Question_needed
  refine ⟨fd, F.ok sc_Question_needed (fun vs H Q E h => let ⟨_, _, e, _⟩ := h; by rw [e] <;> rfl) (fun cdv A outer s H vs Q E hr h => ⟨_, (pss_cons (ps_set (i := 1) sc_Question_needed.nd rfl (Or.inl rfl) (pe_lst pa_nil))
  (pss_cons (ps_for PassesOwn.never rfl (pi_list (pe_op op_cat (pe_op op_cat (pe_lc (own := [("one", 3)]) rfl sc_Question_needed.nd (pi_list (pe_fld (pv 0) rfl)) (blkOk_by (N := ["self", "found", "column", "one"]) (sc := defScope s_Question_needed) (by decide +kernel)) (fun _ _ _ _ _ => (pg_name (i := 3) sc_Question_needed.nd rfl (Or.inl rfl))) (fun _ _ _ _ _ => pts_nil) (fun _ _ _ _ _ => (pe_fldK (K := K) rfl (pv 3) rfl))) (pe_fld (pv 0) rfl)) (pe_fld (pv 0) rfl))) (pg_name (i := 2) sc_Question_needed.nd rfl (Or.inl rfl))
    (pss_one (ps_if (pt_cmpR op_notIn_seq (pv 2) (pv 1) (by rfl))
    (pss_one (ps_expr (pe_bm PySem.F.plainAttrs_list PySem.F.slot_list_append PySem.F.type_list_append mt_append (pv 1) (pa_cons (pv 2) pa_nil))))
    pss_nil)))
  (pss_one (ps_ret (pv 1))))), ?_⟩), b⟩
  obtain ⟨a, q, rfl, ⟨dx, p1, p2, p3, as, ha, h1, hf, h2, h3⟩, hlen, k⟩ := h
  have hlen2 : q.filters.length + (q.order.length + q.wants.length) ≤ 1000 := by
    unfold VaidxBase.needed at hlen
    rw [List.length_append, List.length_append, List.length_map] at hlen
    exact hlen
  refine ⟨by show 0 ≤ sizeLine; exact Nat.zero_le _, fun F hF => ?_⟩
  have s0 : Same H (upd H F (.lst [])) := sm_new hF
  refine ⟨_, rfl, rd_Question_filters T (s0 _ _ ha) ⟨p1, rfl, ⟨_, .of (s0 _ _ h1)⟩, fun D hD => ?_⟩⟩
  refine lc_of q.filters (fun f => some (natV f.col)) hD (by rw [refsV_len, hf.length]) (by omega) (.of (s0 _ _ h1)) (fun i x b H' hx hb s R S kR kS => ?_) fun H1 s1 e1 => ?_
  · obtain ⟨fa, ea, rfl⟩ := refsV_of hx
    obtain ⟨f, ef, hfa⟩ := pair_get hf ea
    rw [hb] at ef
    cases ef
    obtain ⟨df, hf1⟩ := (hfa.same s0).same s
    exact ⟨rfl, _, rfl, rd_Filter_column T hf1 (kR _ _ rfl (Same.refl _))⟩
  · rw [fm_some] at e1
    have e1 : H1 D = some (.lst (natsV (q.filters.map fun f => f.col))) := by
      rw [e1]
      unfold natsV
      rw [List.map_map]
      rfl
    have t1 : Same H H1 := s0.trans s1
    refine ⟨_, rfl, rd_Question_order T (t1 _ _ ha) ⟨D, p2, _, _, rfl, rfl, e1, t1 _ _ h2, sz (by rw [natsV_len, natsV_len, List.length_map]; omega), fun E hE => ?_⟩⟩
    have s2 : Same H1 (upd H1 E (.lst (natsV (q.filters.map fun f => f.col) ++ natsV q.order))) := sm_new hE
    have t2 := t1.trans s2
    refine ⟨_, rfl, rd_Question_wanted T (t2 _ _ ha) ⟨E, p3, _, _, rfl, rfl, upd_same, t2 _ _ h3, sz (by rw [List.length_append, natsV_len, natsV_len, natsV_len, List.length_map]; omega), fun G hG => ?_⟩⟩
    have eL : natsV (q.filters.map fun f => f.col) ++ natsV q.order ++ natsV q.wants = natsV (VaidxBase.needed q) := by
      rw [← natsV_app, ← natsV_app, List.append_assoc]
      rfl
    rw [eL]
    have s3 := sm_new (o := .lst (natsV (VaidxBase.needed q))) hG
    have t3 := t2.trans s3
    have hFl := (s1.trans (s2.trans s3)) _ _ upd_same
    have hFG : G ≠ F := Ne.symm (ne_of_none ((s1.trans s2) _ _ upd_same) hG)
    refine ⟨G, rfl, ⟨_, .of upd_same⟩, for_list (K := K) (a := G) (xs := natsV (VaidxBase.needed q)) (fun i σ H' => (∃ u v : Option V, σ = [some (.ref a), some (.ref F), u, v]) ∧ Same H H' ∧ H' G = some (.lst (natsV (VaidxBase.needed q))) ∧ H' F = some (.lst (natsV (once ((VaidxBase.needed q).take i)))))
      ⟨⟨none, none, rfl⟩, t3, upd_same, hFl⟩ (fun i σ H' _ ⟨_, _, e, _⟩ => .of e) ?_ ?_⟩
    · rintro i y σ H' hi ⟨⟨u, v, rfl⟩, sH, eG, eF⟩
      obtain ⟨c, ec, rfl⟩ := natsV_of hi
      refine ⟨_, rfl, _, rfl, F, _, rfl, .inl (.of eF), rfl, flat_nats _, _, rfl, ?_⟩
      have em := once_more ec
      have hle : (once ((VaidxBase.needed q).take i)).length ≤ 1000 := Nat.le_trans (once_len _) (by rw [List.length_take]; omega)
      rw [in_nats]
      refine iteB (fun hc => ?_) (fun hc => ?_)
      · have hc : (once ((VaidxBase.needed q).take i)).contains c = false := by
          have hc : (!(once ((VaidxBase.needed q).take i)).contains c) = true := hc
          simpa using hc
        rw [hc] at em
        refine ⟨_, rfl, .inl ⟨rfl, _, .of eF⟩, _, rfl, F, _, _, rfl, rfl, eF, szl (by rw [natsV_len]; omega), ⟨_, _, rfl⟩, sm_mut sH hF, (upd_ne hFG).trans eG, ?_⟩
        rw [upd_same, em]
        show some (HO.lst (natsV _ ++ natsV [c])) = some (HO.lst (natsV (_ ++ [c])))
        rw [natsV_app]
      · have hc : (once ((VaidxBase.needed q).take i)).contains c = true := by
          have hc : (!(once ((VaidxBase.needed q).take i)).contains c) = false := hc
          simpa using hc
        rw [hc] at em
        exact ⟨⟨_, _, rfl⟩, sH, eG, by rw [eF, em]; rfl⟩
    · rintro σ H' ⟨⟨u, v, rfl⟩, sH, eG, eF⟩
      rw [natsV_len, List.take_length] at eF
      exact ⟨_, rfl, k _ _ sH hF eF⟩
def sp_Question_without_equal (K : PySem.W.Frag) : Sp := fun vs H Q _ => ∃ (a p : Addr) (q : Qst) (l : List Nat), vs = [.ref a, .ref p] ∧ QuestionAt K H a q ∧ H p = some (.lst (natsV l)) ∧ l.length ≤ 1000 ∧
  ∀ H' r, Same H H' → H r = none → H' r = some (.lst (natsV (l.filter fun c => !VaidxBase.equalOn q c))) → Q (.ref r) H'
theorem ok_Question_without_equal (T : Txt K mg) : ∃ fd, FnOk P w K mg base CX0 3 (ma K (ga K "Question") "without_equal") fd ["self", "columns"] (sp_Question_without_equal K) ∧ Binds K fd ["self", "columns"] [] := by
  obtain ⟨fd, F, b⟩ := T.F_Question_without_equal
  obtain ⟨_, G_Question_is_equal, b_Question_is_equal⟩ := ok_Question_is_equal (P := P) (w := w) (base := base) T
  refine ⟨fd, F.ok sc_Question_without_equal (fun vs H Q E h => let ⟨_, _, _, _, e, _⟩ := h; by rw [e] <;> rfl) (fun cdv A outer s H vs Q E hr h => ⟨_, (pss_one (ps_ret (pe_lc (own := [("column", 2)]) rfl sc_Question_without_equal.nd (pi_list (pv 1)) (blkOk_by (N := ["self", "columns", "column"]) (sc := defScope s_Question_without_equal) (by decide +kernel)) (fun _ _ _ _ _ => (pg_name (i := 2) sc_Question_without_equal.nd rfl (Or.inl rfl))) (fun _ _ _ _ _ => (pts_one (pt_not (pt_val (pe_meth (pv 0) T.cl_Question T.mt_Question_is_equal G_Question_is_equal (hr.mono (by decide)) b_Question_is_equal .nil pass0 (pa_cons (pv 2) pa_nil)))))) (fun _ _ _ _ _ => (pv 2))))), ?_⟩), b⟩
  obtain ⟨a, p, q, l, rfl, hq, hp, hl, k⟩ := h
  have hq0 := hq
  obtain ⟨dx, p1, p2, p3, as, ha, h1, hf, h2, h3⟩ := hq0
  refine ⟨_, rfl, p, rfl, ⟨_, .of hp⟩, fun D hD => ?_⟩
  refine lc_of l (fun c => if !VaidxBase.equalOn q c then some (natV c) else none) hD (natsV_len l) (by omega) (.of hp) (fun i x b H' hx hb s R S kR kS => ?_) fun H' s e => ?_
  · obtain ⟨c, ec, rfl⟩ := natsV_of hx
    rw [hb] at ec
    cases ec
    refine ⟨rfl, _, rfl, rm_Question_is_equal (s _ _ ha) ⟨_, rfl, a, q, b, rfl, hq.same s, _, rfl, ?_⟩⟩
    refine iteB (fun c => ?_) (fun c => ?_)
    · exact ⟨_, rfl, kR _ _ (if_pos c) (Same.refl _)⟩
    · exact kS (if_neg (by rw [c]; exact Bool.false_ne_true)) _ (Same.refl _)
  · rw [fm_if] at e
    exact k _ _ s hD e
/-! ### indexes -/
def sp_Index_init (K : PySem.W.Frag) : Sp := fun vs H Q _ => ∃ (x dx : Addr) (v0 v1 v2 : V), vs = [.ref x, v0, v1, v2] ∧ H x = some (.ins (ga K "Index") dx []) ∧ ∀ H', But x H H' → H' x = some (.ins (ga K "Index") dx (fs_Index v0 v1 v2)) → Q .non H'
theorem ok_Index_init (T : Txt K mg) : ∃ fd, FnOk P w K mg base CX0 1 (ma K (ga K "Index") "__init__") fd ["self", "keys", "included", "condition"] (sp_Index_init K) ∧ Binds K fd ["self", "keys", "included", "condition"] [] := by
  obtain ⟨fd, F, b⟩ := T.F_Index_init
  refine ⟨fd, F.ok sc_Index_init (fun vs H Q E h => let ⟨_, _, _, _, _, e, _⟩ := h; by rw [e] <;> rfl) (fun cdv A outer s H vs Q E hr h => ⟨_, (pss_cons (ps_fld (pv 0) (pv 1) rfl)
  (pss_cons (ps_fld (pv 0) (pv 2) rfl)
  (pss_one (ps_fld (pv 0) (pv 3) rfl)))), ?_⟩), b⟩
  obtain ⟨x, dx, v0, v1, v2, rfl, hx, q⟩ := h
  refine ⟨_, rfl, _, rfl, x, _, dx, _, rfl, hx, T.cl_Index, T.n_Index_key_columns, small rfl, ?_⟩
  refine ⟨_, rfl, _, rfl, x, _, dx, _, rfl, upd_same, T.cl_Index, T.n_Index_included, small rfl, ?_⟩
  refine ⟨_, rfl, _, rfl, x, _, dx, _, rfl, upd_same, T.cl_Index, T.n_Index_condition, small rfl, ?_⟩
  exact q _ ((But.wr.trans But.wr).trans But.wr) upd_same
def sp_Index_own (K : PySem.W.Frag) : Sp := fun vs H Q _ => ∃ (a : Addr) (i : Idx), vs = [.ref a] ∧ IndexAt K H a i ∧ i.keys.length ≤ 1000 ∧ i.others.length ≤ 1000 ∧ ∀ H' r, Same H H' → H r = none → H' r = some (.lst (natsV (VaidxBase.columnsOf i))) → Q (.ref r) H'
theorem ok_Index_own (T : Txt K mg) : ∃ fd, FnOk P w K mg base CX0 1 (ma K (ga K "Index") "own") fd ["self"] (sp_Index_own K) ∧ Binds K fd ["self"] [] := by
  obtain ⟨fd, F, b⟩ := T.F_Index_own
  refine ⟨fd, F.ok sc_Index_own (fun vs H Q E h => let ⟨_, _, e, _⟩ := h; by rw [e] <;> rfl) (fun cdv A outer s H vs Q E hr h => ⟨_, (pss_one (ps_ret (pe_op op_cat (pe_fld (pv 0) rfl) (pe_fld (pv 0) rfl)))), ?_⟩), b⟩
  obtain ⟨a, i, rfl, ⟨dx, p1, p2, c, ha, h1, h2, hc⟩, l1, l2, k⟩ := h
  refine ⟨_, rfl, rd_Index_key_columns T ha ⟨_, rfl, rd_Index_included T ha ⟨p1, p2, _, _, rfl, rfl, h1, h2, sz (by rw [natsV_len, natsV_len]; omega), fun D hD => ?_⟩⟩⟩
  rw [← natsV_app]
  exact k _ _ (sm_new hD) hD upd_same
def sp_Index_has (K : PySem.W.Frag) : Sp := fun vs H Q _ => ∃ (a b : Addr) (i : Idx) (g : Grp), vs = [.ref a, .ref b] ∧ IndexAt K H a i ∧ GroupAt K H b g ∧ (∀ f, i.only = some f → f.col < g.row.length) ∧ Q (.bl (VaidxBase.isIn i g.row)) H
theorem ok_Index_has (T : Txt K mg) : ∃ fd, FnOk P w K mg base CX0 2 (ma K (ga K "Index") "has") fd ["self", "group"] (sp_Index_has K) ∧ Binds K fd ["self", "group"] [] := by
  obtain ⟨fd, F, b⟩ := T.F_Index_has
  obtain ⟨_, G_Filter_passes, b_Filter_passes⟩ := ok_Filter_passes (P := P) (w := w) (base := base) T
  refine ⟨fd, F.ok sc_Index_has (fun vs H Q E h => let ⟨_, _, _, _, e, _⟩ := h; by rw [e] <;> rfl) (fun cdv A outer s H vs Q E hr h => ⟨_, (pss_one (ps_ret (pe_or (pe_cmpR op_isN (pe_fld (pv 0) rfl) pe_non (nomark _)) (pe_one (pe_meth (pe_fld (pv 0) rfl) T.cl_Filter T.mt_Filter_passes G_Filter_passes (hr.mono (by decide)) b_Filter_passes .nil pass0 (pa_cons (pe_fld (pv 1) rfl) pa_nil)))))), ?_⟩), b⟩
  obtain ⟨a, b', i, g, rfl, ⟨dx, p1, p2, c, ha, h1, h2, hc⟩, ⟨dg, pg, hg1, hg2⟩, hw, k⟩ := h
  unfold VaidxBase.isIn at k
  refine ⟨_, rfl, rd_Index_condition T ha ?_⟩
  cases e : i.only with
  | none =>
    rw [e] at hc k
    have hc : c = .non := hc
    subst hc
    exact ⟨rfl, _, rfl, k⟩
  | some f =>
    rw [e] at hc k
    obtain ⟨fa, rfl, hf⟩ := hc
    obtain ⟨df, hf1⟩ := id hf
    exact ⟨rfl, _, rfl, ⟨_, rfl, rd_Index_condition T ha (rm_Filter_passes hf1 ⟨_, rfl, rd_Group_values_told T hg1 ⟨fa, pg, f, g.row, rfl, hf, hg2, hw f e, k⟩⟩)⟩⟩
def sp_Index_entries (K : PySem.W.Frag) : Sp := fun vs H Q _ => ∃ (a b : Addr) (i : Idx) (t : Tbl), vs = [.ref a, .ref b] ∧ IndexAt K H a i ∧ TableAt K H b t ∧ WfT t ∧ WfI t.cols i ∧ ∀ H', Same H H' → Q (natV (VaidxBase.entriesIn t i)) H'
theorem ok_Index_entries (T : Txt K mg) : ∃ fd, FnOk P w K mg base CX0 3 (ma K (ga K "Index") "entries") fd ["self", "table"] (sp_Index_entries K) ∧ Binds K fd ["self", "table"] [] := by
  obtain ⟨fd, F, b⟩ := T.F_Index_entries
  obtain ⟨_, G_Index_has, b_Index_has⟩ := ok_Index_has (P := P) (w := w) (base := base) T
  refine ⟨fd, F.ok sc_Index_entries (fun vs H Q E h => let ⟨_, _, _, _, e, _⟩ := h; by rw [e] <;> rfl) (fun cdv A outer s H vs Q E hr h => ⟨_, (pss_one (ps_ret (pe_callB (cr_sum rfl) (by rfl) T.b_sum (by decide +kernel) (pa_cons (pe_lc (own := [("group", 2)]) rfl sc_Index_entries.nd (pi_list (pe_fld (pv 1) rfl)) (blkOk_by (N := ["self", "table", "group"]) (sc := defScope s_Index_entries) (by decide +kernel)) (fun _ _ _ _ _ => (pg_name (i := 2) sc_Index_entries.nd rfl (Or.inl rfl))) (fun _ _ _ _ _ => (pts_one (pt_val (pe_meth (pv 0) T.cl_Index T.mt_Index_has G_Index_has (hr.mono (by decide)) b_Index_has .nil pass0 (pa_cons (pv 2) pa_nil))))) (fun _ _ _ _ _ => (pe_fldK (K := K) rfl (pv 2) rfl))) pa_nil)))), ?_⟩), b⟩
  obtain ⟨a, b', i, t, rfl, hi, ⟨dt, p, as, hb, hp, hg⟩, wt, wi, q⟩ := h
  have hi0 := hi
  obtain ⟨dx, p1, p2, c, ha, h1, h2, hc⟩ := hi0
  refine ⟨_, rfl, rd_Table_groups T hb ⟨p, rfl, ⟨_, .of hp⟩, fun D hD => ?_⟩⟩
  refine lc_of t.groups (fun g => if VaidxBase.isIn i g.row then some (natV g.count) else none) hD (by rw [refsV_len, hg.length]) (Nat.le_trans wt.few (by decide)) (.of hp) (fun j x b H' hx hb' s R S kR kS => ?_) fun H' s e => ?_
  · obtain ⟨ga', ea, rfl⟩ := refsV_of hx
    obtain ⟨g, eg, hga⟩ := pair_get hg ea
    rw [hb'] at eg
    cases eg
    have hga := hga.same s
    obtain ⟨dg, pg, hg1, hg2⟩ := id hga
    refine ⟨rfl, _, rfl, rm_Index_has (s _ _ ha) ⟨_, rfl, a, ga', i, b, rfl, hi.same s, hga, fun f ef => by rw [wt.wide b (List.mem_of_getElem? hb')]; exact wi.ccol f ef, _, rfl, ?_⟩⟩
    refine iteB (fun c => ?_) (fun c => ?_)
    · exact ⟨_, rfl, rd_Group_count T hg1 (kR _ _ (if_pos c) (Same.refl _))⟩
    · exact kS (if_neg (by rw [c]; exact Bool.false_ne_true)) _ (Same.refl _)
  · obtain ⟨e1, e2⟩ := counts_sum t.groups fun g => VaidxBase.isIn i g.row
    rw [e1] at e
    refine ⟨_, _, rfl, .of e, ?_⟩
    rw [e2]
    exact q H' s
def sp_Index_first_keys (K : PySem.W.Frag) : Sp := fun vs H Q _ => ∃ (a : Addr) (i : Idx) (n : Nat), vs = [.ref a, natV n] ∧ IndexAt K H a i ∧ i.keys.length ≤ 1000 ∧ ∀ H' r, Same H H' → IndexAt K H' r (Vaidxb.shorter i n) → Q (.ref r) H'
theorem cut_to (l : List Nat) (n : Nat) : cutV (natsV l) none (some (n : Int)) = natsV (l.take n) := by
  unfold cutV
  rw [HT.sIx_none, HT.sIx_nat, List.drop_zero, natsV_len, Nat.sub_zero]
  unfold natsV
  rw [← List.map_take]
  by_cases h : n ≤ l.length
  · rw [Nat.min_eq_left h]
  · rw [Nat.min_eq_right (by omega), List.take_length, List.take_of_length_le (by omega)]
theorem ok_Index_first_keys (T : Txt K mg) : ∃ fd, FnOk P w K mg base CX0 3 (ma K (ga K "Index") "first_keys") fd ["self", "many"] (sp_Index_first_keys K) ∧ Binds K fd ["self", "many"] [] := by
  obtain ⟨fd, F, b⟩ := T.F_Index_first_keys
  obtain ⟨_, G_Index_init, b_Index_init⟩ := ok_Index_init (P := P) (w := w) (base := base) T
  refine ⟨fd, F.ok sc_Index_first_keys (fun vs H Q E h => let ⟨_, _, _, e, _⟩ := h; by rw [e] <;> rfl) (fun cdv A outer s H vs Q E hr h => ⟨_, (pss_one (ps_ret (pe_make T.m_Index G_Index_init (hr.mono (by decide)) rfl T.g_Index b_Index_init .nil pass0 (pa_cons (pe_slice sl_list (pe_fld (pv 0) rfl) po_none (po_some (pv 1))) (pa_cons (pe_fld (pv 0) rfl) (pa_cons (pe_fld (pv 0) rfl) pa_nil)))))), ?_⟩), b⟩
  obtain ⟨a, i, n, rfl, ⟨dx, p1, p2, c, ha, h1, h2, hc⟩, l1, k⟩ := h
  refine ⟨_, rfl, rd_Index_key_columns T ha ⟨_, rfl, n, rfl, p1, _, rfl, .of h1, fun p hp => ?_⟩⟩
  have s1 : Same H (upd H p (.lst (cutV (natsV i.keys) none (some (n : Int))))) := sm_new hp
  refine ⟨_, rfl, rd_Index_included T (s1 _ _ ha) ⟨_, rfl, rd_Index_condition T (s1 _ _ ha) ?_⟩⟩
  intro x dy nx nd ne
  refine ⟨x, dy, _, _, _, rfl, upd_same, fun H2 b2 e2 => ⟨rfl, ?_⟩⟩
  have s2 := made nx nd b2
  have s3 := s1.trans s2
  refine k _ x s3 ⟨dy, p, p2, c, e2, ?_, s3 _ _ h2, hc.same s3⟩
  rw [s2 _ _ upd_same, cut_to]
  rfl
end
end One
set_option Elab.async false
set_option linter.all false
set_option maxRecDepth 100000
set_option maxHeartbeats 4000000
/-! The walk, B: the reader of numbers; tables, questions, indexes read. -/
namespace One
open PySem PySem.Spec PyProof.Rows L2
open He (ga ma)
open Vaidxb (Done)
open VaidxBase (readNat readTimes readFilter)
section
variable {P : Program} {w : World} {K : PySem.W.Frag} {mg : Str → Option Value} {base : Heap}
def sp_NumberReader_init (K : PySem.W.Frag) : Sp := fun vs H Q _ => ∃ (x dx : Addr) (c : V), vs = [.ref x, c] ∧ H x = some (.ins (ga K "NumberReader") dx []) ∧ ∀ H', But x H H' → H' x = some (.ins (ga K "NumberReader") dx (fs_NumberReader c (natV 0))) → Q .non H'
theorem ok_NumberReader_init (T : Txt K mg) : ∃ fd, FnOk P w K mg base CX0 1 (ma K (ga K "NumberReader") "__init__") fd ["self", "numbers"] (sp_NumberReader_init K) ∧ Binds K fd ["self", "numbers"] [] := by
  obtain ⟨fd, F, b⟩ := T.F_NumberReader_init
  refine ⟨fd, F.ok sc_NumberReader_init (fun vs H Q E h => let ⟨_, _, _, e, _⟩ := h; by rw [e] <;> rfl) (fun cdv A outer s H vs Q E hr h => ⟨_, (pss_cons (ps_fld (pv 0) (pv 1) rfl)
  (pss_one (ps_fld (pv 0) pe_int rfl))), ?_⟩), b⟩
  obtain ⟨x, dx, c, rfl, hx, q⟩ := h
  refine ⟨_, rfl, _, rfl, x, _, dx, _, rfl, hx, T.cl_NumberReader, T.n_NumberReader_numbers, small rfl, ?_⟩
  refine ⟨_, rfl, x, _, dx, _, rfl, upd_same, T.cl_NumberReader, T.n_NumberReader_at, small rfl, ?_⟩
  exact q _ (But.wr.trans But.wr) upd_same
abbrev NW (K : PySem.W.Frag) : Value := .ref (ga K "NotWhole")
def sp_NumberReader_number (K : PySem.W.Frag) : Sp := fun vs H Q E => ∃ (a np : Addr) (ns : List Int) (i lo hi : Nat), vs = [.ref a, natV lo, natV hi] ∧ ReaderAt K H a np ns i ∧ ns.length ≤ 1000 ∧
  (∀ n H', readNat lo hi (ns.drop i) = some (n, ns.drop (i + 1)) → But a H H' → ReaderAt K H' a np ns (i + 1) → Q (natV n) H') ∧ (readNat lo hi (ns.drop i) = none → E (NW K) none H)
theorem ints_get {l : List Int} {i : Nat} {z : Int} (h : l[i]? = some z) : (l.map V.int)[i]? = some (V.int z) := by
  rw [List.getElem?_map, h]
  rfl
theorem ok_NumberReader_number (T : Txt K mg) : ∃ fd, FnOk P w K mg base (L2.CX P w) 1 (ma K (ga K "NumberReader") "number") fd ["self", "low", "high"] (sp_NumberReader_number K) ∧ Binds K fd ["self", "low", "high"] [] := by
  obtain ⟨fd, F, b⟩ := T.F_NumberReader_number
  refine ⟨fd, F.okX sc_NumberReader_number (fun vs H Q E h => let ⟨_, _, _, _, _, _, e, _⟩ := h; by rw [e] <;> rfl) (fun cdv A outer s H vs Q E hr h => ⟨_, (pss_cons (ps_if (pt_cmpR op_ge (pe_fld (pv 0) rfl) (pe_callB call_len_seq (by rfl) T.b_len PySem.boot_len (pa_cons (pe_fld (pv 0) rfl) pa_nil)) (nomark _))
    (pss_one (ps_raise rfl (takes_of rfl rfl rfl rfl) (pmk_own PySem.F.excBase_ValueError T.xN.1 T.g_NotWhole T.xN.2.1 (raises_own T.xN.2.2.1 T.xN.2.2.2) (by exact rfl))))
    pss_nil)
  (pss_cons (ps_set (i := 3) sc_NumberReader_number.nd rfl (Or.inl rfl) (pe_ix ix_list (pe_fld (pv 0) rfl) (pe_fld (pv 0) rfl) (fun _ _ => rfl)))
  (pss_cons (ps_if (pt_not (pt_chain op_le op_le (pv 1) (pv 3) (pv 2)))
    (pss_one (ps_raise rfl (takes_of rfl rfl rfl rfl) (pmk_own PySem.F.excBase_ValueError T.xN.1 T.g_NotWhole T.xN.2.1 (raises_own T.xN.2.2.1 T.xN.2.2.2) (by exact rfl))))
    pss_nil)
  (pss_cons (ps_fldaug (pv 0) pe_int in_add)
  (pss_one (ps_ret (pv 3))))))), ?_⟩), b⟩
  obtain ⟨a, np, ns, i, lo, hi, rfl, ⟨dx, ha, hn⟩, hl, kY, kN⟩ := h
  refine ⟨_, rfl, rd_NumberReader_at T ha ⟨_, rfl, rd_NumberReader_numbers T ha ⟨_, _, rfl, .inl (.of hn), _, _, rfl, rfl, _, rfl, ?_⟩⟩⟩
  rw [List.length_map]
  refine iteB (fun c => ?_) (fun c => ?_)
  · have c := of_decide_eq_true c
    refine kN ?_
    rw [List.drop_eq_nil_iff.mpr (by omega)]
    rfl
  · have c := of_decide_eq_false c
    have il : i < ns.length := by omega
    have e : ns[i]? = some ns[i] := List.getElem?_eq_getElem il
    refine ⟨_, rfl, rd_NumberReader_numbers T ha ⟨_, rfl, rd_NumberReader_at T ha ⟨np, _, _, _, rfl, rfl, .of hn, atI_nat (ints_get e), ?_⟩⟩⟩
    have d := drop_cons e
    rw [d] at kY kN
    refine ⟨_, rfl, _, rfl, _, _, rfl, rfl, _, rfl, iteB (fun c1 => ⟨_, rfl, _, _, rfl, rfl, _, rfl, iteB (fun c2 => ?_) (fun c2 => ?_)⟩) (fun c1 => ⟨_, rfl, ?_⟩)⟩
    · have c2 : decide (ns[i] ≤ (hi : Int)) = false := by simpa using c2
      exact kN (readNat_no (fun z => of_decide_eq_false c2 z.2))
    · have c1 := of_decide_eq_true c1
      have c2 : decide (ns[i] ≤ (hi : Int)) = true := by simpa using c2
      have c2 := of_decide_eq_true c2
      refine ⟨_, rfl, a, _, dx, _, _, rfl, ha, T.cl_NumberReader, T.n_NumberReader_at, rfl, _, _, rfl, rfl, dx, _, ha, small rfl, _, rfl, ?_⟩
      have q := kY ns[i].toNat (upd H a (.ins (ga K "NumberReader") dx (fs_NumberReader (.ref np) (natV (i + 1))))) (readNat_yes c1 c2) But.wr ⟨dx, upd_same, (upd_ne (ne_of hn ha (by intro z; cases z))).trans hn⟩
      have ez : ((ns[i].toNat : Nat) : Int) = ns[i] := by omega
      unfold natV at q
      rw [ez] at q
      exact q
    · exact iteT (kN (readNat_no (fun z => of_decide_eq_false c1 z.1)))
def sp_NumberReader_end (K : PySem.W.Frag) : Sp := fun vs H Q E => ∃ (a np : Addr) (ns : List Int) (i : Nat), vs = [.ref a] ∧ ReaderAt K H a np ns i ∧ ns.length ≤ 1000 ∧ (ns.drop i = [] → Q .non H) ∧ (¬ ns.drop i = [] → E (NW K) none H)
theorem ok_NumberReader_end (T : Txt K mg) : ∃ fd, FnOk P w K mg base (L2.CX P w) 1 (ma K (ga K "NumberReader") "end") fd ["self"] (sp_NumberReader_end K) ∧ Binds K fd ["self"] [] := by
  obtain ⟨fd, F, b⟩ := T.F_NumberReader_end
  refine ⟨fd, F.okX sc_NumberReader_end (fun vs H Q E h => let ⟨_, _, _, _, e, _⟩ := h; by rw [e] <;> rfl) (fun cdv A outer s H vs Q E hr h => ⟨_, (pss_one (ps_if (pt_cmpR op_lt (pe_fld (pv 0) rfl) (pe_callB call_len_seq (by rfl) T.b_len PySem.boot_len (pa_cons (pe_fld (pv 0) rfl) pa_nil)) (nomark _))
    (pss_one (ps_raise rfl (takes_of rfl rfl rfl rfl) (pmk_own PySem.F.excBase_ValueError T.xN.1 T.g_NotWhole T.xN.2.1 (raises_own T.xN.2.2.1 T.xN.2.2.2) (by exact rfl))))
    pss_nil)), ?_⟩), b⟩
  obtain ⟨a, np, ns, i, rfl, ⟨dx, ha, hn⟩, hl, kY, kN⟩ := h
  refine ⟨_, rfl, rd_NumberReader_at T ha ⟨_, rfl, rd_NumberReader_numbers T ha ⟨_, _, rfl, .inl (.of hn), _, _, rfl, rfl, _, rfl, ?_⟩⟩⟩
  rw [List.length_map]
  refine iteB (fun c => ?_) (fun c => ?_)
  · have c := of_decide_eq_true c
    exact kN (fun z => by have := List.drop_eq_nil_iff.mp z; omega)
  · have c := of_decide_eq_false c
    exact kY (List.drop_eq_nil_iff.mpr (by omega))
theorem ReaderAt.same {H H' : Hp} {a np : Addr} {ns : List Int} {i : Nat} (s : Same H H') : ReaderAt K H a np ns i → ReaderAt K H' a np ns i := fun ⟨dx, h1, h2⟩ => ⟨dx, s _ _ h1, s _ _ h2⟩
theorem ReaderAt.upd {H : Hp} {a np p : Addr} {ns : List Int} {i : Nat} {o : HO} (h : ReaderAt K H a np ns i) (n1 : a ≠ p) (n2 : np ≠ p) : ReaderAt K (upd H p o) a np ns i := by
  obtain ⟨dx, h1, h2⟩ := h
  exact ⟨dx, (upd_ne n1).trans h1, (upd_ne n2).trans h2⟩
theorem pred_int {n : Nat} (h : 1 ≤ n) : (n : Int) - 1 = ((n - 1 : Nat) : Int) := by omega
def sp_NumberReader_some_columns (K : PySem.W.Frag) : Sp := fun vs H Q E => ∃ (a np pk : Addr) (ns : List Int) (i n : Nat) (known : List Nat), vs = [.ref a, natV n, .ref pk] ∧ ReaderAt K H a np ns i ∧ ns.length ≤ 1000 ∧ H pk = some (.lst (natsV known)) ∧ 1 ≤ n ∧ n ≤ 4 ∧
  (∀ l i' r H', colsM n known (ns.drop i) = some (l, ns.drop i') → But a H H' → ReaderAt K H' a np ns i' → H r = none → H' r = some (.lst (natsV l)) → Q (.ref r) H') ∧ (colsM n known (ns.drop i) = none → ∀ H', But a H H' → E (NW K) none H')
theorem ok_NumberReader_some_columns (T : Txt K mg) : ∃ fd, FnOk P w K mg base (L2.CX P w) 2 (ma K (ga K "NumberReader") "some_columns") fd ["self", "columns", "known"] (sp_NumberReader_some_columns K) ∧ Binds K fd ["self", "columns", "known"] [] := by
  obtain ⟨fd, F, b⟩ := T.F_NumberReader_some_columns
  obtain ⟨_, G_NumberReader_number, b_NumberReader_number⟩ := ok_NumberReader_number (P := P) (w := w) (base := base) T
  refine ⟨fd, F.okX sc_NumberReader_some_columns (fun vs H Q E h => let ⟨_, _, _, _, _, _, _, e, _⟩ := h; by rw [e] <;> rfl) (fun cdv A outer s H vs Q E hr h => ⟨_, (pss_cons (ps_set (i := 3) sc_NumberReader_some_columns.nd rfl (Or.inl rfl) (pe_lst pa_nil))
  (pss_cons (ps_for (passes_of rfl) rfl (pi_range1 rfl T.b_range (pa_cons (pe_meth (pv 0) T.cl_NumberReader T.mt_NumberReader_number G_NumberReader_number (hr.mono (by decide)) b_NumberReader_number .nil (passes_call (takes_of rfl rfl rfl rfl) fun _ _ _ _ h => h) (pa_cons pe_int (pa_cons (pv 1) pa_nil))) pa_nil)) (pg_name (i := 4) sc_NumberReader_some_columns.nd rfl (Or.inl rfl))
    (pss_cons (ps_set (i := 5) sc_NumberReader_some_columns.nd rfl (Or.inl rfl) (pe_meth (pv 0) T.cl_NumberReader T.mt_NumberReader_number G_NumberReader_number (hr.mono (by decide)) b_NumberReader_number .nil (passes_call (takes_of rfl rfl rfl rfl) fun _ _ _ _ h => h) (pa_cons pe_int (pa_cons (pe_op op_sub (pv 1) pe_int) pa_nil))))
  (pss_cons (ps_if (PW.pt (pw_or (pt_cmpR op_in_seq (pv 5) (pv 3) (by rfl)) (pw_or1 (pt_cmpR op_in_seq (pv 5) (pv 2) (by rfl)))))
    (pss_one (ps_raise rfl (takes_of rfl rfl rfl rfl) (pmk_own PySem.F.excBase_ValueError T.xN.1 T.g_NotWhole T.xN.2.1 (raises_own T.xN.2.2.1 T.xN.2.2.2) (by exact rfl))))
    pss_nil)
  (pss_one (ps_expr (pe_bm PySem.F.plainAttrs_list PySem.F.slot_list_append PySem.F.type_list_append mt_append (pv 3) (pa_cons (pv 5) pa_nil)))))))
  (pss_one (ps_ret (pv 3))))), ?_⟩), b⟩
  obtain ⟨a, np, pk, ns, i, n, known, rfl, hR, hl, hk, n1, n4, kY, kN⟩ := h
  obtain ⟨dx, ha, hn⟩ := id hR
  have apk : pk ≠ a := ne_of hk ha (by intro z; cases z)
  have anp : np ≠ a := ne_of hn ha (by intro z; cases z)
  refine ⟨by show 0 ≤ sizeLine; exact Nat.zero_le _, fun F hF => ?_⟩
  have naF : a ≠ F := ne_of_none ha hF
  have nnF : np ≠ F := ne_of_none hn hF
  have nkF : pk ≠ F := ne_of_none hk hF
  have s0 : Same H (upd H F (.lst [])) := sm_new hF
  refine ⟨_, rfl, rm_NumberReader_number (s0 _ _ ha) ⟨_, rfl, a, np, ns, i, 0, n, rfl, hR.same s0, hl, fun c H1 e1 b1 R1 => ?_, fun e1 => ?_⟩⟩
  case refine_2 =>
    refine kN ?_ _ (.of s0)
    unfold colsM
    rw [e1]
    rfl
  have b1 : But a H H1 := (But.of s0).trans b1
  have e0 : colsM n known (ns.drop i) = colsLoop n known c [] (ns.drop (i + 1)) := by
    unfold colsM
    rw [e1]
    rfl
  have c4 := (readNat_some e1).2.2
  have hF1 : H1 F = some (.lst (natsV [])) := by
    obtain ⟨dx1, g1, g2⟩ := id R1
    have : (upd H F (.lst [])) F = some (.lst []) := upd_same
    exact (by assumption : But a (upd H F (.lst [])) H1) _ _ naF.symm this
  refine ⟨(c : Int), rfl, by omega, by omega, ?_⟩
  rw [Int.toNat_natCast]
  refine for_range (lo := 0) (n := c) (fun j σ H' => ∃ (l : List Nat) (i' : Nat) (u v : Option V), σ = [some (.ref a), some (natV n), some (.ref pk), some (.ref F), u, v] ∧ But a H H' ∧ ReaderAt K H' a np ns i' ∧ H' F = some (.lst (natsV l)) ∧ l.length ≤ j ∧
    colsM n known (ns.drop i) = colsLoop n known (c - j) l (ns.drop i')) ⟨[], i + 1, none, none, rfl, b1, R1, hF1, Nat.le_refl _, e0⟩ ?_ ?_
  · rintro j σ H' hj ⟨l, i', u, v, rfl, bH, RH, FH, hl', eH⟩
    obtain ⟨dx', ha', hn'⟩ := id RH
    obtain ⟨m, em⟩ : ∃ m, c - j = m + 1 := ⟨c - j - 1, by omega⟩
    rw [em] at eH
    refine ⟨_, rfl, rm_NumberReader_number ha' ⟨_, rfl, _, _, rfl, rfl, a, np, ns, i', 0, n - 1, by show [V.ref a, V.int 0, V.int ((n:Int) - 1)] = _; rw [pred_int n1]; rfl, RH, hl, fun d H2 e2 b2 R2 => ?_, fun e2 => ?_⟩⟩
    case refine_2 =>
      refine kN ?_ _ bH
      rw [eH]
      unfold colsLoop
      rw [e2]
      rfl
    have eN : colsLoop n known (m + 1) l (ns.drop i') = if l.contains d || known.contains d then none else colsLoop n known m (l ++ [d]) (ns.drop (i' + 1)) := by
      conv => lhs; unfold colsLoop
      rw [e2]
      rfl
    rw [eN] at eH
    have F2 : H2 F = some (.lst (natsV l)) := b2 _ _ naF.symm FH
    have k2 : H2 pk = some (.lst (natsV known)) := b2 _ _ apk (bH _ _ apk hk)
    have b2' := bH.trans b2
    refine ⟨_, rfl, _, rfl, F, _, rfl, .inl (.of F2), rfl, flat_nats _, _, rfl, ?_⟩
    have i1 : (if false = true then !inV (natV d) (natsV l) else inV (natV d) (natsV l)) = l.contains d := in_nats d l
    rw [i1]
    refine iteB (fun h1 => ?_) (fun h1 => ⟨_, rfl, _, rfl, pk, _, rfl, .inl (.of k2), rfl, flat_nats _, _, rfl, ?_⟩)
    · exact kN (by rw [eH, h1]; rfl) _ b2'
    · have i2 : (if false = true then !inV (natV d) (natsV known) else inV (natV d) (natsV known)) = known.contains d := in_nats d known
      rw [i2]
      refine iteB (fun h2 => ?_) (fun h2 => ?_)
      · exact kN (by rw [eH, h1, h2]; rfl) _ b2'
      · rw [h1, h2] at eH
        refine ⟨_, rfl, .inl ⟨rfl, _, .of F2⟩, _, rfl, F, _, _, rfl, rfl, F2, szl (by rw [natsV_len]; omega), l ++ [d], i' + 1, _, _, rfl, b2'.mut hF, R2.upd naF nnF, ?_, by rw [List.length_append]; show l.length + 1 ≤ j + 1; omega, ?_⟩
        · rw [upd_same, natsV_app]
          rfl
        · rw [show c - (j + 1) = m by omega]
          exact eH
  · rintro σ H' ⟨l, i', u, v, rfl, bH, RH, FH, hl', eH⟩
    rw [Nat.sub_self] at eH
    exact ⟨_, rfl, kY l i' F H' eH bH RH hF FH⟩
def sp_NumberReader_a_filter (K : PySem.W.Frag) : Sp := fun vs H Q E => ∃ (a np : Addr) (ns : List Int) (i n : Nat), vs = [.ref a, natV n] ∧ ReaderAt K H a np ns i ∧ ns.length ≤ 1000 ∧ 1 ≤ n ∧
  (∀ f i' r H', readFilter n (ns.drop i) = some (f, ns.drop i') → But a H H' → ReaderAt K H' a np ns i' → H r = none → FilterAt K H' r f → Q (.ref r) H') ∧ (readFilter n (ns.drop i) = none → ∀ H', But a H H' → E (NW K) none H')
theorem ok_NumberReader_a_filter (T : Txt K mg) : ∃ fd, FnOk P w K mg base (L2.CX P w) 3 (ma K (ga K "NumberReader") "a_filter") fd ["self", "columns"] (sp_NumberReader_a_filter K) ∧ Binds K fd ["self", "columns"] [] := by
  obtain ⟨fd, F, b⟩ := T.F_NumberReader_a_filter
  obtain ⟨_, G_Filter_init, b_Filter_init⟩ := ok_Filter_init (P := P) (w := w) (base := base) T
  obtain ⟨_, G_NumberReader_number, b_NumberReader_number⟩ := ok_NumberReader_number (P := P) (w := w) (base := base) T
  refine ⟨fd, F.okX sc_NumberReader_a_filter (fun vs H Q E h => let ⟨_, _, _, _, _, e, _⟩ := h; by rw [e] <;> rfl) (fun cdv A outer s H vs Q E hr h => ⟨_, (pss_cons (ps_set (i := 2) sc_NumberReader_a_filter.nd rfl (Or.inl rfl) (pe_meth (pv 0) T.cl_NumberReader T.mt_NumberReader_number G_NumberReader_number (hr.mono (by decide)) b_NumberReader_number .nil (passes_call (takes_of rfl rfl rfl rfl) fun _ _ _ _ h => h) (pa_cons pe_int (pa_cons (pe_op op_sub (pv 1) pe_int) pa_nil))))
  (pss_cons (ps_set (i := 3) sc_NumberReader_a_filter.nd rfl (Or.inl rfl) (pe_meth (pv 0) T.cl_NumberReader T.mt_NumberReader_number G_NumberReader_number (hr.mono (by decide)) b_NumberReader_number .nil (passes_call (takes_of rfl rfl rfl rfl) fun _ _ _ _ h => h) (pa_cons pe_int (pa_cons (pe_gint rfl T.c_MOST_VALUE) pa_nil))))
  (pss_one (ps_ret (pe_make T.m_Filter G_Filter_init (hr.mono (by decide)) rfl T.g_Filter b_Filter_init .nil pass0 (pa_cons (pv 2) (pa_cons (pv 3) (pa_cons (pe_meth (pv 0) T.cl_NumberReader T.mt_NumberReader_number G_NumberReader_number (hr.mono (by decide)) b_NumberReader_number .nil (passes_call (takes_of rfl rfl rfl rfl) fun _ _ _ _ h => h) (pa_cons (pv 3) (pa_cons (pe_gint rfl T.c_MOST_VALUE) pa_nil))) pa_nil)))))))), ?_⟩), b⟩
  obtain ⟨a, np, ns, i, n, rfl, hR, hl, n1, kY, kN⟩ := h
  rw [readFilter_eq n1] at kY kN
  obtain ⟨dx, ha, hn⟩ := id hR
  refine ⟨_, rfl, rm_NumberReader_number ha ⟨_, rfl, _, _, rfl, rfl, a, np, ns, i, 0, n - 1, by show [V.ref a, V.int 0, V.int ((n:Int) - 1)] = _; rw [pred_int n1]; rfl, hR, hl, fun c H1 e1 b1 R1 => ?_, fun e1 => kN (by rw [e1]; rfl) _ (But.refl _ _)⟩⟩
  rw [e1] at kY kN
  obtain ⟨dx1, ha1, hn1⟩ := id R1
  refine ⟨_, rfl, rm_NumberReader_number ha1 ⟨a, np, ns, i + 1, 0, 9, rfl, R1, hl, fun l H2 e2 b2 R2 => ?_, fun e2 => kN (by simp only [Option.bind_some]; rw [e2]; rfl) _ b1⟩⟩
  simp only [Option.bind_some] at kY kN
  rw [e2] at kY kN
  obtain ⟨dx2, ha2, hn2⟩ := id R2
  refine ⟨_, rfl, _, rfl, _, rfl, rm_NumberReader_number ha2 ⟨_, rfl, a, np, ns, i + 1 + 1, l, 9, rfl, R2, hl, fun u H3 e3 b3 R3 => ?_, fun e3 => kN (by simp only [Option.bind_some]; rw [e3]; rfl) _ (b1.trans b2)⟩⟩
  simp only [Option.bind_some] at kY kN
  rw [e3] at kY kN
  intro x dy nx nd ne
  refine ⟨x, dy, _, _, _, rfl, upd_same, fun H4 b4 e4 => ⟨rfl, ?_⟩⟩
  have s4 := made nx nd b4
  exact kY ⟨c, l, u⟩ _ x H4 rfl (((b1.trans b2).trans b3).trans (.of s4)) (R3.same s4) (((b1.trans b2).trans b3).back (R3.elim fun _ z => ⟨_, z.1⟩) nx) ⟨dy, e4⟩
theorem sm_but {H H1 H2 : Hp} {x : Addr} (s : Same H H1) (n : H x = none) (b : But x H1 H2) : Same H H2 := fun a o h => b a o (ne_of_none h n) (s a o h)
end
end One
set_option Elab.async false
set_option linter.all false
set_option maxRecDepth 100000
set_option maxHeartbeats 4000000
/-! The walk, B2: tables, questions, indexes read. -/
namespace One
open PySem PySem.Spec PyProof.Rows L2
open He (ga ma)
open Vaidxb (Done)
open VaidxBase (readNat readTimes readFilter)
section
variable {P : Program} {w : World} {K : PySem.W.Frag} {mg : Str → Option Value} {base : Heap}
/-- the heap without one object -/
def hide (F : Addr) (H : Hp) : Hp := fun b => if b = F then none else H b
theorem hide_same (F : Addr) (H : Hp) : Same (hide F H) H := fun a o h => by
  unfold hide at h
  by_cases e : a = F
  · rw [if_pos e] at h
    cases h
  · rw [if_neg e] at h
    exact h
theorem hide_upd {F : Addr} {H : Hp} {o : HO} : hide F (upd H F o) = hide F H := by
  funext a
  unfold hide
  by_cases e : a = F
  · rw [if_pos e, if_pos e]
  · rw [if_neg e, if_neg e, upd_ne e]
theorem hide_at {F p : Addr} {H : Hp} {o : HO} (n : p ≠ F) (h : H p = some o) : hide F H p = some o := by
  unfold hide
  rw [if_neg n]
  exact h
theorem hide_pres {K : PySem.W.Frag} {F : Addr} {H H' : Hp} (k : Pres K H H') : Pres K (hide F H) (hide F H') := fun b o f h => by
  have n : b ≠ F := fun z => by
    unfold hide at h
    rw [if_pos z] at h
    cases h
  exact hide_at n (k b o f (hide_same F H _ _ h))
theorem hide_mono {F : Addr} {H H' : Hp} (k : Same H H') : Same (hide F H) (hide F H') := fun b o h => by
  have n : b ≠ F := fun z => by
    unfold hide at h
    rw [if_pos z] at h
    cases h
  exact hide_at n (k b o (hide_same F H _ _ h))
/-- what H' has that H has not -/
def newOf (H H' : Hp) : Hp := fun b => match H b with
  | none => H' b
  | some _ => none
theorem new_same (H H' : Hp) : Same (newOf H H') H' := fun a o h => by
  unfold newOf at h
  cases e : H a with
  | none =>
    rw [e] at h
    exact h
  | some u =>
    rw [e] at h
    cases h
theorem new_at {H H' : Hp} {p : Addr} {o : HO} (n : H p = none) (h : H' p = some o) : newOf H H' p = some o := by
  unfold newOf
  rw [n]
  exact h
theorem new_from {H H' : Hp} {p : Addr} {o : HO} (h : newOf H H' p = some o) : H p = none := by
  unfold newOf at h
  cases e : H p with
  | none => rfl
  | some u =>
    rw [e] at h
    cases h
theorem new_mono {H H1 H2 : Hp} (k : Same H1 H2) : Same (newOf H H1) (newOf H H2) := fun b o h => new_at (new_from h) (k b o (new_same _ _ _ _ h))
theorem new_pres {K : PySem.W.Frag} {H H1 H2 : Hp} (k : Pres K H1 H2) : Pres K (newOf H H1) (newOf H H2) := fun b o f h => new_at (new_from h) (k b o f (new_same _ _ _ _ h))
theorem new_upd {H H' : Hp} {F : Addr} {o : HO} (n : H F = none) : newOf H (upd H' F o) = upd (newOf H H') F o := by
  funext b
  by_cases e : b = F
  · subst e
    rw [upd_same]
    exact new_at n upd_same
  · rw [upd_ne e]
    unfold newOf
    rw [upd_ne e]
/-- an old one taken off, the new ones stand -/
theorem new_hide {H H' : Hp} {F : Addr} {o : HO} (h : H F = some o) : Same (newOf H H') (hide F H') := fun b u hb => by
  refine hide_at (fun z => ?_) (new_same _ _ _ _ hb)
  have := new_from hb
  rw [z, h] at this
  cases this
/-- rows of numbers as data -/
def dataOf (l : List Nat) : PyData := .list ((l.map fun (n : Nat) => (n : Int)).map .int)
theorem dp_nats {K : PySem.W.Frag} {H : Hp} (l : List Nat) : DpAll K H (natsV l) ((l.map fun (n : Nat) => (n : Int)).map .int) := by
  rw [natsV_ints]
  exact dp_ints _
theorem dp_row {K : PySem.W.Frag} {H : Hp} {p : Addr} {l : List Nat} (h : H p = some (.lst (natsV l))) : Dp K H (.ref p) (dataOf l) := .lst (.of h) (dp_nats l)
theorem dp_rows {K : PySem.W.Frag} {H : Hp} : ∀ {ps : List Addr} {ls : List (List Nat)}, Paired (fun p l => H p = some (.lst (natsV l))) ps ls → DpAll K H (refsV ps) (ls.map dataOf)
  | _, _, .nil => .nil
  | _, _, .cons h t => .cons (dp_row h) (dp_rows t)
theorem lay_rows : ∀ ls : List (List Nat), PyData.canLayAll0 (ls.map dataOf) = true
  | [] => by simp [PyData.canLayAll0]
  | l :: ls => by
    have h : (dataOf l).canLay0 = true := SeqAt.canLay_of_shaped (PySem.W.ke_shaped_ints _)
    simp [PyData.canLayAll0, h, lay_rows ls]
theorem deep_rows : ∀ ls : List (List Nat), PyData.depthAll (ls.map dataOf) ≤ 2
  | [] => by simp [PyData.depthAll]
  | l :: ls => by
    have h1 := deep_rows ls
    have h2 : (dataOf l).depth ≤ 2 := by
      unfold dataOf
      simp only [PyData.depth, PySem.W.ke_depthAll]
      omega
    simp only [List.map_cons, PyData.depthAll]
    omega
theorem shaped_rows (ls : List (List Nat)) : SeqAt.shaped (.list (ls.map dataOf)) = true := by
  have h1 := deep_rows ls
  have h2 : PyData.depth (.list (ls.map dataOf)) ≤ 64 := by
    simp only [PyData.depth]
    omega
  show (PyData.canLay0 (.list (ls.map dataOf)) && decide (PyData.depth (.list (ls.map dataOf)) ≤ 64)) = true
  rw [Bool.and_eq_true]
  exact ⟨by simp only [PyData.canLay0]; exact lay_rows ls, decide_eq_true h2⟩
theorem nats_inj : ∀ {a b : List Nat}, (a.map fun (n : Nat) => (n : Int)) = b.map (fun (n : Nat) => (n : Int)) → a = b
  | [], [], _ => rfl
  | [], _ :: _, h => by cases h
  | _ :: _, [], h => by cases h
  | a :: x, b :: y, h => by
    obtain ⟨h1, h2⟩ := List.cons.inj h
    rw [nats_inj h2, show a = b from Int.ofNat.inj h1]
theorem eqv_rows (a b : List Nat) : PyData.eqv (dataOf a) (dataOf b) = (a == b) := by
  unfold dataOf
  simp only [PyData.eqv, eqv_ints]
  by_cases h : a = b
  · rw [h, decide_eq_true rfl, beq_self_eq_true]
  · rw [decide_eq_false (fun z => h (nats_inj z)), beq_eq_false_iff_ne.mpr h]
theorem any_rows (r : List Nat) (ls : List (List Nat)) : ((ls.map dataOf).any fun z => PyData.eqv z (dataOf r)) = ls.contains r := by
  rw [List.any_map]
  induction ls with
  | nil => rfl
  | cons l t ih =>
    rw [List.any_cons, List.contains_cons, ih]
    show (PyData.eqv (dataOf l) (dataOf r) || _) = _
    rw [eqv_rows]
    by_cases h : l = r
    · rw [h, beq_self_eq_true]
    · rw [beq_eq_false_iff_ne.mpr h, beq_eq_false_iff_ne.mpr (fun z => h z.symm)]
theorem times_more {A : Type} (a : VaidxBase.Reader A) (k : Nat) (x : List Int) : readTimes a (k + 1) x = (a x).bind fun u => (readTimes a k u.2).map fun v => (u.1 :: v.1, v.2) := rfl
theorem Paired.snoc {α β : Type} {F : α → β → Prop} {as : List α} {bs : List β} {a : α} {b : β} (h : Paired F as bs) (q : F a b) : Paired F (as ++ [a]) (bs ++ [b]) := pair_append h (.cons q .nil)
theorem groups_more (n k : Nat) (gs : List Grp) (x : List Int) : groupsLoop n (k + 1) gs x = (readTimes (readNat 0 9) n x).bind fun u => if (gs.map fun g => g.row).contains u.1 then none else (readNat 1 1000000 u.2).bind fun c => groupsLoop n k (gs ++ [⟨u.1, c.1⟩]) c.2 := rfl
def sp_table_of (K : PySem.W.Frag) : Sp := fun vs H Q E => ∃ (np : Addr) (ns : List Int), vs = [.ref np] ∧ H np = some (.lst (ns.map V.int)) ∧ ns.length ≤ 1000 ∧
  (∀ t a H', tableM ns = some t → Same H H' → TableAt K (newOf H H') a t → Q (.ref a) H') ∧ (tableM ns = none → ∀ H', Same H H' → E (NW K) none H')
theorem ok_table_of (T : Txt K mg) : ∃ fd, FnOk P w K mg base (L2.CX P w) 3 (ga K "table_of") fd ["numbers"] (sp_table_of K) ∧ Binds K fd ["numbers"] [] := by
  obtain ⟨fd, F, b⟩ := T.F_table_of
  obtain ⟨_, G_Table_init, b_Table_init⟩ := ok_Table_init (P := P) (w := w) (base := base) T
  obtain ⟨_, G_NumberReader_end, b_NumberReader_end⟩ := ok_NumberReader_end (P := P) (w := w) (base := base) T
  obtain ⟨_, G_NumberReader_number, b_NumberReader_number⟩ := ok_NumberReader_number (P := P) (w := w) (base := base) T
  obtain ⟨_, G_Group_init, b_Group_init⟩ := ok_Group_init (P := P) (w := w) (base := base) T
  obtain ⟨_, G_NumberReader_init, b_NumberReader_init⟩ := ok_NumberReader_init (P := P) (w := w) (base := base) T
  refine ⟨fd, F.okX sc_table_of (fun vs H Q E h => let ⟨_, _, e, _⟩ := h; by rw [e] <;> rfl) (fun cdv A outer s H vs Q E hr h => ⟨_, (pss_cons (ps_set (i := 1) sc_table_of.nd rfl (Or.inr rfl) (pe_make T.m_NumberReader G_NumberReader_init (hr.mono (by decide)) rfl T.g_NumberReader b_NumberReader_init .nil pass0 (pa_cons (pv 0) pa_nil)))
  (pss_cons (ps_set (i := 2) sc_table_of.nd rfl (Or.inl rfl) (pe_meth (pv 1) T.cl_NumberReader T.mt_NumberReader_number G_NumberReader_number (hr.mono (by decide)) b_NumberReader_number .nil (passes_call (takes_of rfl rfl rfl rfl) fun _ _ _ _ h => h) (pa_cons pe_int (pa_cons (pe_gint rfl T.c_MOST_COLUMNS) pa_nil))))
  (pss_cons (ps_set (i := 3) sc_table_of.nd rfl (Or.inl rfl) (pe_lst pa_nil))
  (pss_cons (ps_for (passes_of rfl) rfl (pi_range1 rfl T.b_range (pa_cons (pe_meth (pv 1) T.cl_NumberReader T.mt_NumberReader_number G_NumberReader_number (hr.mono (by decide)) b_NumberReader_number .nil (passes_call (takes_of rfl rfl rfl rfl) fun _ _ _ _ h => h) (pa_cons pe_int (pa_cons (pe_gint rfl T.c_MOST_GROUPS) pa_nil))) pa_nil)) (pg_name (i := 4) sc_table_of.nd rfl (Or.inl rfl))
    (pss_cons (ps_setLcX (i := 5) (own := [("column", 6)]) rfl rfl (takes_of rfl rfl rfl rfl) rfl sc_table_of.nd rfl rfl (sw_true rfl rfl rfl (by decide +kernel)) (pi_range1 rfl T.b_range (pa_cons (pv 2) pa_nil)) (blkOk_by (N := ["numbers", "reader", "columns", "groups", "turn", "told", "column", "group"]) (sc := defScope s_table_of) (by decide +kernel)) (fun _ _ _ _ _ => (pg_name (i := 6) sc_table_of.nd rfl (Or.inl rfl))) (fun _ _ _ _ _ passC => (pe_meth (pv 1) T.cl_NumberReader T.mt_NumberReader_number G_NumberReader_number (hr.mono (by decide)) b_NumberReader_number .nil passC (pa_cons pe_int (pa_cons (pe_gint rfl T.c_MOST_VALUE) pa_nil)))))
  (pss_cons (ps_if (pt_cmpR (op_inD (huOf5 hr)) (pv 5) (pe_lc (own := [("group", 7)]) rfl sc_table_of.nd (pi_list (pv 3)) (blkOk_by (N := ["numbers", "reader", "columns", "groups", "turn", "told", "column", "group"]) (sc := defScope s_table_of) (by decide +kernel)) (fun _ _ _ _ _ => (pg_name (i := 7) sc_table_of.nd rfl (Or.inl rfl))) (fun _ _ _ _ _ => pts_nil) (fun _ _ _ _ _ => (pe_fldK (K := K) rfl (pv 7) rfl))) (by rfl))
    (pss_one (ps_raise rfl (takes_of rfl rfl rfl rfl) (pmk_own PySem.F.excBase_ValueError T.xN.1 T.g_NotWhole T.xN.2.1 (raises_own T.xN.2.2.1 T.xN.2.2.2) (by exact rfl))))
    pss_nil)
  (pss_one (ps_expr (pe_bm PySem.F.plainAttrs_list PySem.F.slot_list_append PySem.F.type_list_append mt_append (pv 3) (pa_cons (pe_make T.m_Group G_Group_init (hr.mono (by decide)) rfl T.g_Group b_Group_init .nil pass0 (pa_cons (pv 5) (pa_cons (pe_meth (pv 1) T.cl_NumberReader T.mt_NumberReader_number G_NumberReader_number (hr.mono (by decide)) b_NumberReader_number .nil (passes_call (takes_of rfl rfl rfl rfl) fun _ _ _ _ h => h) (pa_cons pe_int (pa_cons (pe_gint rfl T.c_MOST_ROWS) pa_nil))) pa_nil))) pa_nil)))))))
  (pss_cons (ps_expr (pe_meth0 (pv 1) T.cl_NumberReader T.mt_NumberReader_end G_NumberReader_end (hr.mono (by decide)) b_NumberReader_end .nil (passes_call (takes_of rfl rfl rfl rfl) fun _ _ _ _ h => h)))
  (pss_one (ps_ret (pe_make T.m_Table G_Table_init (hr.mono (by decide)) rfl T.g_Table b_Table_init .nil pass0 (pa_cons (pv 2) (pa_cons (pv 3) pa_nil)))))))))), ?_⟩), b⟩
  obtain ⟨np, ns, rfl, hn, hl, kY, kN⟩ := h
  refine ⟨_, rfl, fun x dx nx nd ne => ⟨x, dx, _, rfl, upd_same, fun H1 b1 e1 => ⟨rfl, ?_⟩⟩⟩
  have s1 : Same H H1 := made nx nd b1
  have R1 : ReaderAt K H1 x np ns 0 := ⟨dx, e1, s1 _ _ hn⟩
  refine ⟨_, rfl, rm_NumberReader_number e1 ⟨x, np, ns, 0, 1, 4, rfl, R1, hl, fun n H2 r2 b2 R2 => ?_, fun r2 => ?_⟩⟩
  case refine_2 =>
    refine kN ?_ _ s1
    unfold tableM
    rw [show ns = ns.drop 0 from rfl, r2]
    rfl
  rw [List.drop_zero] at r2
  have eT : tableM ns = ((readNat 0 12 (ns.drop 1)).bind fun k => (groupsLoop n k.1 [] k.2).bind fun g => if g.2 = [] then some ⟨n, g.1⟩ else none) := by
    unfold tableM
    rw [r2]
    rfl
  obtain ⟨_, n1, n4⟩ := readNat_some r2
  rw [eT] at kY kN
  have s2 : Same H H2 := sm_but s1 nx b2
  refine ⟨by show 0 ≤ sizeLine; exact Nat.zero_le _, fun F hF => ?_⟩
  have s3 : Same H2 (upd H2 F (.lst [])) := sm_new hF
  obtain ⟨dx2, x2, np2⟩ := id R2
  have F0 : H F = none := sm_back s2 hF
  have xF : x ≠ F := ne_of_none x2 hF
  have R3 := R2.same s3
  refine ⟨_, rfl, rm_NumberReader_number (s3 _ _ x2) ⟨x, np, ns, 0 + 1, 0, 12, rfl, R3, hl, fun k H4 r4 b4 R4 => ?_, fun r4 => ?_⟩⟩
  case refine_2 =>
    refine kN ?_ _ (sm_but (s2.trans s3) nx (But.refl _ _))
    have r4 : readNat 0 12 (ns.drop 1) = none := r4
    rw [r4]
    rfl
  have r4 : readNat 0 12 (ns.drop 1) = some (k, ns.drop 2) := r4
  have k12 := (readNat_some r4).2.2
  rw [r4] at kY kN
  simp only [Option.bind_some] at kY kN
  have s4 : Same H H4 := sm_but (s2.trans s3) nx b4
  have F4 : H4 F = some (.lst (refsV [])) := b4 _ _ xF.symm upd_same
  refine ⟨(k : Int), rfl, by omega, by omega, ?_⟩
  rw [Int.toNat_natCast]
  refine for_range (lo := 0) (n := k) (fun j σ H' => ∃ (gs : List Grp) (as : List Addr) (i' : Nat) (u v : Option V), σ = [some (.ref np), some (.ref x), some (natV n), some (.ref F), u, v, none, none] ∧ Same H H' ∧ ReaderAt K H' x np ns i' ∧ H' F = some (.lst (refsV as)) ∧ Paired (GroupAt K (hide F (newOf H H'))) as gs ∧ gs.length ≤ j ∧
    groupsLoop n k [] (ns.drop 2) = groupsLoop n (k - j) gs (ns.drop i')) ⟨[], [], 2, none, none, rfl, s4, R4, F4, .nil, Nat.le_refl _, rfl⟩ ?_ ?_
  · rintro j σ H' hj ⟨gs, as, i', u, v, rfl, sH, RH, FH, GH, hl', eH⟩
    obtain ⟨dx', x', np'⟩ := id RH
    obtain ⟨m, em⟩ : ∃ m, k - j = m + 1 := ⟨k - j - 1, by omega⟩
    rw [em, groups_more] at eH
    refine ⟨_, rfl, (n : Int), rfl, by omega, by omega, fun D hD => ?_⟩
    rw [Int.toNat_natCast]
    refine lc_range (lo := 0) (n := n) (fun p H5 => ∃ (l : List Nat) (i5 : Nat), But x H' H5 ∧ ReaderAt K H5 x np ns i5 ∧ H5 D = some (.lst (natsV l)) ∧ l.length = p ∧
      readTimes (readNat 0 9) n (ns.drop i') = (readTimes (readNat 0 9) (n - p) (ns.drop i5)).map fun v => (l ++ v.1, v.2)) ⟨[], i', .of (sm_new hD), RH.same (sm_new hD), upd_same, rfl, ?_⟩ ?_ ?_
    · rw [Nat.sub_zero]
      cases readTimes (readNat 0 9) n (ns.drop i') <;> rfl
    · rintro p H5 hp ⟨l, i5, b5, R5, D5, ll, e5⟩
      obtain ⟨q, eq⟩ : ∃ q, n - p = q + 1 := ⟨n - p - 1, by omega⟩
      rw [eq, times_more] at e5
      obtain ⟨dx5, x5, np5⟩ := id R5
      have xD : x ≠ D := ne_of_none x' hD
      refine ⟨rfl, _, rfl, rm_NumberReader_number x5 ⟨x, np, ns, i5, 0, 9, rfl, R5, hl, fun d H6 r6 b6 R6 => ?_, fun r6 => ?_⟩⟩
      case refine_2 =>
        refine kN ?_ _ (sm_but sH nx b5)
        rw [eH, e5, r6]
        rfl
      rw [r6] at e5
      have D6 : H6 D = some (.lst (natsV l)) := b6 _ _ xD.symm D5
      refine ⟨_, D6, szl (by rw [natsV_len]; omega), l ++ [d], i5 + 1, (b5.trans b6).mut hD, R6.upd xD (ne_of_none np' hD), ?_, by rw [List.length_append, ll]; rfl, ?_⟩
      · rw [upd_same, natsV_app]
        rfl
      · rw [e5, show n - (p + 1) = q by omega]
        simp only [Option.bind_some]
        cases readTimes (readNat 0 9) q (ns.drop (i5 + 1)) with
        | none => rfl
        | some v => simp
    · rintro H5 ⟨row, i5, b5, R5, D5, lr, e5⟩
      rw [Nat.sub_self] at e5
      have e5 : readTimes (readNat 0 9) n (ns.drop i') = some (row ++ [], ns.drop i5) := e5
      rw [List.append_nil] at e5
      rw [e5] at eH
      simp only [Option.bind_some] at eH
      obtain ⟨dx5, x5, np5⟩ := id R5
      have s5 : Same H H5 := sm_but sH nx b5
      have pr5 : Pres K H' H5 := Pres.but b5 x' T.i_NumberReader
      have F5 : H5 F = some (.lst (refsV as)) := b5 _ _ xF.symm FH
      have G5' : Paired (GroupAt K (hide F (newOf H H5))) as gs := pair_mono (fun _ _ h => h.pres (hide_pres (new_pres pr5))) GH
      have G5 : Paired (GroupAt K (hide F H5)) as gs := pair_mono (fun _ _ h => h.same (hide_mono (new_same H H5))) G5'
      have el : as.length = gs.length := G5.length
      have DF : D ≠ F := (ne_of_none FH hD).symm
      refine ⟨_, rfl, _, rfl, F, rfl, ⟨_, .of F5⟩, fun D2 hD2 => ?_⟩
      refine lc_list (K := K) (a := F) (xs := refsV as) (fun p H6 => Same H5 H6 ∧ ∃ ps, H6 D2 = some (.lst (refsV ps)) ∧ Paired (fun pp (l : List Nat) => H5 pp = some (.lst (natsV l))) ps ((gs.take p).map fun g => g.row)) ⟨sm_new hD2, [], upd_same, .nil⟩ (fun p H6 _ h6 => .of (h6.1 _ _ F5)) ?_ ?_
      · rintro p y H6 hy ⟨s6, ps, e6, p6⟩
        obtain ⟨a6, ea, rfl⟩ := refsV_of hy
        obtain ⟨g, eg, hga⟩ := pair_get G5 ea
        obtain ⟨dg, pg, hg1, hg2⟩ := hga.same (hide_same F H5)
        refine ⟨rfl, _, rfl, rd_Group_values_told T (s6 _ _ hg1) ⟨_, e6, szl ?_, sm_mut s6 hD2, ps ++ [pg], ?_, ?_⟩⟩
        · have := p6.length
          rw [List.length_map, List.length_take] at this
          rw [refsV_len]
          omega
        · rw [upd_same, refsV_snoc]
        · rw [take_more eg, List.map_append]
          exact Paired.snoc p6 hg2
      · rintro H6 ⟨s6, ps, e6, p6⟩
        rw [refsV_len, el, List.take_length] at p6
        have D6 : H6 D = some (.lst (natsV row)) := s6 _ _ D5
        refine ⟨dataOf row, _, dp_row D6, .lst (.of e6) (dp_rows (pair_mono (fun _ _ h => s6 _ _ h) p6)), PySem.W.ke_shaped_ints _, shaped_rows _, _, rfl, ?_⟩
        rw [any_rows]
        refine iteB (fun hc => ?_) (fun hc => ?_)
        · exact kN (by rw [eH, if_pos hc]; rfl) _ (s5.trans s6)
        rw [if_neg (by rw [hc]; exact Bool.false_ne_true)] at eH
        have F6 : H6 F = some (.lst (refsV as)) := s6 _ _ F5
        have R6 := R5.same s6
        have sH6 : Same H H6 := s5.trans s6
        refine ⟨_, rfl, .inl ⟨rfl, _, .of F6⟩, _, rfl, _, rfl, rm_NumberReader_number (s6 _ _ x5) ⟨x, np, ns, i5, 1, 1000000, rfl, R6, hl, fun c H7 r7 b7 R7 => ?_, fun r7 => ?_⟩⟩
        case refine_2 => exact kN (by rw [eH, r7]; rfl) _ sH6
        rw [r7] at eH
        simp only [Option.bind_some] at eH
        have pr7 : Pres K H6 H7 := Pres.but b7 (s6 _ _ x5) T.i_NumberReader
        have F7 : H7 F = some (.lst (refsV as)) := b7 _ _ xF.symm F6
        have D7 : H7 D = some (.lst (natsV row)) := b7 _ _ (ne_of_none x' hD).symm D6
        have G7 : Paired (GroupAt K (hide F (newOf H H7))) as gs := pair_mono (fun _ _ h => (h.same (hide_mono (new_mono s6))).pres (hide_pres (new_pres pr7))) G5'
        intro x8 dy nx8 nd8 ne8
        refine ⟨x8, dy, _, _, rfl, upd_same, fun H8 b8 e8 => ⟨rfl, ?_⟩⟩
        have s8 := made nx8 nd8 b8
        have F8 : H8 F = some (.lst (refsV as)) := s8 _ _ F7
        refine ⟨F, _, _, rfl, rfl, F8, szl (by rw [refsV_len]; omega), gs ++ [⟨row, c⟩], as ++ [x8], i5 + 1, _, _, rfl, sm_mut ((sm_but sH6 nx b7).trans s8) F0, (R7.same s8).upd xF (ne_of_none np2 hF), ?_, ?_, ?_, ?_⟩
        · rw [upd_same, refsV_snoc]
        · rw [new_upd F0, hide_upd]
          have a1 : x8 ≠ F := ne_of_none F7 nx8 |>.symm
          exact Paired.snoc (pair_mono (fun _ _ h => h.same (hide_mono (new_mono s8))) G7) ⟨dy, D, hide_at a1 (new_at (sm_back (sm_but sH6 nx b7) nx8) e8), hide_at DF (new_at (sm_back sH hD) (s8 _ _ D7))⟩
        · rw [List.length_append]
          show gs.length + 1 ≤ j + 1
          omega
        · rw [show k - (j + 1) = m by omega]
          exact eH
  · rintro σ H' ⟨gs, as, i', u, v, rfl, sH, RH, FH, GH, hl', eH⟩
    rw [Nat.sub_self] at eH
    have eH : groupsLoop n k [] (ns.drop 2) = some (gs, ns.drop i') := eH
    rw [eH] at kY kN
    simp only [Option.bind_some] at kY kN
    obtain ⟨dx', x', np'⟩ := id RH
    refine ⟨_, rfl, rm_NumberReader_end x' ⟨x, np, ns, i', rfl, RH, hl, fun er => ?_, fun er => ?_⟩⟩
    case refine_2 => exact kN (if_neg er) _ sH
    rw [if_pos er] at kY
    refine ⟨_, rfl, _, rfl, fun x6 dy nx6 nd6 ne6 => ⟨x6, dy, _, _, rfl, upd_same, fun H6 b6 e6 => ⟨rfl, ?_⟩⟩⟩
    have s6 := made nx6 nd6 b6
    exact kY _ x6 H6 rfl (sH.trans s6) ⟨dy, F, as, new_at (sm_back sH nx6) e6, new_at F0 (s6 _ _ FH), pair_mono (fun _ _ h => (h.same (hide_same F (newOf H H'))).same (new_mono s6)) GH⟩
def sp_question_of (K : PySem.W.Frag) : Sp := fun vs H Q E => ∃ (np : Addr) (ns : List Int) (n : Nat), vs = [.ref np, natV n] ∧ H np = some (.lst (ns.map V.int)) ∧ ns.length ≤ 1000 ∧ 1 ≤ n ∧ n ≤ 4 ∧
  (∀ q a H', questionM n ns = some q → Same H H' → QuestionAt K (newOf H H') a q → Q (.ref a) H') ∧ (questionM n ns = none → ∀ H', Same H H' → E (NW K) none H')
theorem filters_more (n k : Nat) (fs : List Flt) (x : List Int) : filtersLoop n (k + 1) fs x = (readFilter n x).bind fun u => if (fs.map fun f => f.col).contains u.1.col then none else filtersLoop n k (fs ++ [u.1]) u.2 := rfl
theorem ok_question_of (T : Txt K mg) : ∃ fd, FnOk P w K mg base (L2.CX P w) 4 (ga K "question_of") fd ["numbers", "columns"] (sp_question_of K) ∧ Binds K fd ["numbers", "columns"] [] := by
  obtain ⟨fd, F, b⟩ := T.F_question_of
  obtain ⟨_, G_Question_init, b_Question_init⟩ := ok_Question_init (P := P) (w := w) (base := base) T
  obtain ⟨_, G_NumberReader_end, b_NumberReader_end⟩ := ok_NumberReader_end (P := P) (w := w) (base := base) T
  obtain ⟨_, G_NumberReader_number, b_NumberReader_number⟩ := ok_NumberReader_number (P := P) (w := w) (base := base) T
  obtain ⟨_, G_NumberReader_some_columns, b_NumberReader_some_columns⟩ := ok_NumberReader_some_columns (P := P) (w := w) (base := base) T
  obtain ⟨_, G_NumberReader_a_filter, b_NumberReader_a_filter⟩ := ok_NumberReader_a_filter (P := P) (w := w) (base := base) T
  obtain ⟨_, G_NumberReader_init, b_NumberReader_init⟩ := ok_NumberReader_init (P := P) (w := w) (base := base) T
  refine ⟨fd, F.okX sc_question_of (fun vs H Q E h => let ⟨_, _, _, e, _⟩ := h; by rw [e] <;> rfl) (fun cdv A outer s H vs Q E hr h => ⟨_, (pss_cons (ps_set (i := 2) sc_question_of.nd rfl (Or.inl rfl) (pe_make T.m_NumberReader G_NumberReader_init (hr.mono (by decide)) rfl T.g_NumberReader b_NumberReader_init .nil pass0 (pa_cons (pv 0) pa_nil)))
  (pss_cons (ps_set (i := 3) sc_question_of.nd rfl (Or.inl rfl) (pe_lst pa_nil))
  (pss_cons (ps_for (passes_of rfl) rfl (pi_range1 rfl T.b_range (pa_cons (pe_meth (pv 2) T.cl_NumberReader T.mt_NumberReader_number G_NumberReader_number (hr.mono (by decide)) b_NumberReader_number .nil (passes_call (takes_of rfl rfl rfl rfl) fun _ _ _ _ h => h) (pa_cons pe_int (pa_cons (pv 1) pa_nil))) pa_nil)) (pg_name (i := 4) sc_question_of.nd rfl (Or.inl rfl))
    (pss_cons (ps_set (i := 5) sc_question_of.nd rfl (Or.inl rfl) (pe_meth (pv 2) T.cl_NumberReader T.mt_NumberReader_a_filter G_NumberReader_a_filter (hr.mono (by decide)) b_NumberReader_a_filter .nil (passes_call (takes_of rfl rfl rfl rfl) fun _ _ _ _ h => h) (pa_cons (pv 1) pa_nil)))
  (pss_cons (ps_if (pt_cmpR op_in_seq (pe_fld (pv 5) rfl) (pe_lc (own := [("other", 11)]) rfl sc_question_of.nd (pi_list (pv 3)) (blkOk_by (N := ["numbers", "columns", "reader", "filters", "turn", "one", "order", "backwards", "wanted", "limit", "asked", "other"]) (sc := defScope s_question_of) (by decide +kernel)) (fun _ _ _ _ _ => (pg_name (i := 11) sc_question_of.nd rfl (Or.inl rfl))) (fun _ _ _ _ _ => pts_nil) (fun _ _ _ _ _ => (pe_fldK (K := K) rfl (pv 11) rfl))) (by rfl))
    (pss_one (ps_raise rfl (takes_of rfl rfl rfl rfl) (pmk_own PySem.F.excBase_ValueError T.xN.1 T.g_NotWhole T.xN.2.1 (raises_own T.xN.2.2.1 T.xN.2.2.2) (by exact rfl))))
    pss_nil)
  (pss_one (ps_expr (pe_bm PySem.F.plainAttrs_list PySem.F.slot_list_append PySem.F.type_list_append mt_append (pv 3) (pa_cons (pv 5) pa_nil)))))))
  (pss_cons (ps_set (i := 6) sc_question_of.nd rfl (Or.inl rfl) (pe_meth (pv 2) T.cl_NumberReader T.mt_NumberReader_some_columns G_NumberReader_some_columns (hr.mono (by decide)) b_NumberReader_some_columns .nil (passes_call (takes_of rfl rfl rfl rfl) fun _ _ _ _ h => h) (pa_cons (pv 1) (pa_cons (pe_lst pa_nil) pa_nil))))
  (pss_cons (ps_set (i := 7) sc_question_of.nd rfl (Or.inl rfl) (pe_meth (pv 2) T.cl_NumberReader T.mt_NumberReader_number G_NumberReader_number (hr.mono (by decide)) b_NumberReader_number .nil (passes_call (takes_of rfl rfl rfl rfl) fun _ _ _ _ h => h) (pa_cons pe_int (pa_cons pe_int pa_nil))))
  (pss_cons (ps_set (i := 8) sc_question_of.nd rfl (Or.inl rfl) (pe_meth (pv 2) T.cl_NumberReader T.mt_NumberReader_some_columns G_NumberReader_some_columns (hr.mono (by decide)) b_NumberReader_some_columns .nil (passes_call (takes_of rfl rfl rfl rfl) fun _ _ _ _ h => h) (pa_cons (pv 1) (pa_cons (pe_lst pa_nil) pa_nil))))
  (pss_cons (ps_set (i := 9) sc_question_of.nd rfl (Or.inl rfl) (pe_meth (pv 2) T.cl_NumberReader T.mt_NumberReader_number G_NumberReader_number (hr.mono (by decide)) b_NumberReader_number .nil (passes_call (takes_of rfl rfl rfl rfl) fun _ _ _ _ h => h) (pa_cons pe_int (pa_cons (pe_gint rfl T.c_MOST_LIMIT) pa_nil))))
  (pss_cons (ps_set (i := 10) sc_question_of.nd rfl (Or.inl rfl) (pe_meth (pv 2) T.cl_NumberReader T.mt_NumberReader_number G_NumberReader_number (hr.mono (by decide)) b_NumberReader_number .nil (passes_call (takes_of rfl rfl rfl rfl) fun _ _ _ _ h => h) (pa_cons pe_int (pa_cons (pe_gint rfl T.c_MOST_ASKED) pa_nil))))
  (pss_cons (ps_expr (pe_meth0 (pv 2) T.cl_NumberReader T.mt_NumberReader_end G_NumberReader_end (hr.mono (by decide)) b_NumberReader_end .nil (passes_call (takes_of rfl rfl rfl rfl) fun _ _ _ _ h => h)))
  (pss_one (ps_ret (pe_make T.m_Question G_Question_init (hr.mono (by decide)) rfl T.g_Question b_Question_init .nil pass0 (pa_cons (pv 3) (pa_cons (pv 6) (pa_cons (pv 7) (pa_cons (pv 8) (pa_cons (pv 9) (pa_cons (pv 10) pa_nil)))))))))))))))))), ?_⟩), b⟩
  obtain ⟨np, ns, n, rfl, hn, hl, n1, n4, kY, kN⟩ := h
  refine ⟨_, rfl, fun x dx nx nd ne => ⟨x, dx, _, rfl, upd_same, fun H1 b1 e1 => ⟨rfl, ?_⟩⟩⟩
  have s1 : Same H H1 := made nx nd b1
  have R1 : ReaderAt K H1 x np ns 0 := ⟨dx, e1, s1 _ _ hn⟩
  refine ⟨by show 0 ≤ sizeLine; exact Nat.zero_le _, fun F hF => ?_⟩
  have s3 : Same H1 (upd H1 F (.lst [])) := sm_new hF
  have F0 : H F = none := sm_back s1 hF
  have xF : x ≠ F := ne_of_none e1 hF
  have R3 := R1.same s3
  unfold questionM at kY kN
  refine ⟨_, rfl, rm_NumberReader_number (s3 _ _ e1) ⟨_, rfl, x, np, ns, 0, 0, n, rfl, R3, hl, fun k H4 r4 b4 R4 => ?_, fun r4 => ?_⟩⟩
  case refine_2 =>
    refine kN ?_ _ (sm_but (s1.trans s3) nx (But.refl _ _))
    have r4 : readNat 0 n ns = none := r4
    rw [r4]
    rfl
  have r4 : readNat 0 n ns = some (k, ns.drop 1) := r4
  have kn := (readNat_some r4).2.2
  rw [r4] at kY kN
  simp only [Option.bind_some] at kY kN
  have s4 : Same H H4 := sm_but (s1.trans s3) nx b4
  have F4 : H4 F = some (.lst (refsV [])) := b4 _ _ xF.symm upd_same
  refine ⟨(k : Int), rfl, by omega, by omega, ?_⟩
  rw [Int.toNat_natCast]
  refine for_range (lo := 0) (n := k) (fun j σ H' => ∃ (fs : List Flt) (as : List Addr) (i' : Nat) (u v : Option V), σ = [some (.ref np), some (natV n), some (.ref x), some (.ref F), u, v, none, none, none, none, none, none] ∧ Same H H' ∧ ReaderAt K H' x np ns i' ∧ H' F = some (.lst (refsV as)) ∧ Paired (FilterAt K (hide F (newOf H H'))) as fs ∧ fs.length ≤ j ∧
    filtersLoop n k [] (ns.drop 1) = filtersLoop n (k - j) fs (ns.drop i')) ⟨[], [], 1, none, none, rfl, s4, R4, F4, .nil, Nat.le_refl _, rfl⟩ ?_ ?_
  · rintro j σ H' hj ⟨fs, as, i', u, v, rfl, sH, RH, FH, GH, hl', eH⟩
    obtain ⟨dx', x', np'⟩ := id RH
    obtain ⟨m, em⟩ : ∃ m, k - j = m + 1 := ⟨k - j - 1, by omega⟩
    rw [em, filters_more] at eH
    refine ⟨_, rfl, rm_NumberReader_a_filter x' ⟨_, rfl, x, np, ns, i', n, rfl, RH, hl, n1, fun f i5 r H5 e5 b5 R5 fr5 A5 => ?_, fun e5 H5 b5 => kN (by rw [eH, e5]; rfl) _ (sm_but sH nx b5)⟩⟩
    rw [e5] at eH
    simp only [Option.bind_some] at eH
    have s5 : Same H H5 := sm_but sH nx b5
    have pr5 : Pres K H' H5 := Pres.but b5 x' T.i_NumberReader
    have F5 : H5 F = some (.lst (refsV as)) := b5 _ _ xF.symm FH
    have G5' : Paired (FilterAt K (hide F (newOf H H5))) as fs := pair_mono (fun _ _ h => h.pres (hide_pres (new_pres pr5))) GH
    have G5 : Paired (FilterAt K (hide F H5)) as fs := pair_mono (fun _ _ h => h.same (hide_mono (new_same H H5))) G5'
    have el : as.length = fs.length := G5.length
    obtain ⟨df, r5⟩ := id A5
    refine ⟨_, rfl, rd_Filter_column T r5 ⟨_, rfl, F, rfl, ⟨_, .of F5⟩, fun D hD => ?_⟩⟩
    refine lc_of fs (fun f => some (natV f.col)) hD (by rw [refsV_len, el]) (by omega) (.of F5) (fun p y b H6 hy hb s6 R S kR kS => ?_) fun H6 s6 e6 => ?_
    · obtain ⟨a6, ea, rfl⟩ := refsV_of hy
      obtain ⟨g, eg, hga⟩ := pair_get G5 ea
      rw [hb] at eg
      cases eg
      obtain ⟨dg, hg1⟩ := (hga.same (hide_same F H5)).same s6
      exact ⟨rfl, _, rfl, rd_Filter_column T hg1 (kR _ _ rfl (Same.refl _))⟩
    · rw [fm_some] at e6
      have e6 : H6 D = some (.lst (natsV (fs.map fun f => f.col))) := by
        rw [e6]
        unfold natsV
        rw [List.map_map]
        rfl
      have F6 : H6 F = some (.lst (refsV as)) := s6 _ _ F5
      have sH6 : Same H H6 := s5.trans s6
      refine ⟨D, _, rfl, .inl (.of e6), rfl, flat_nats _, _, rfl, ?_⟩
      have i1 : (if false = true then !inV (natV f.col) (natsV (fs.map fun f => f.col)) else inV (natV f.col) (natsV (fs.map fun f => f.col))) = (fs.map fun f => f.col).contains f.col := in_nats _ _
      rw [i1]
      refine iteB (fun hc => ?_) (fun hc => ?_)
      · exact kN (by rw [eH, if_pos hc]; rfl) _ sH6
      rw [if_neg (by rw [hc]; exact Bool.false_ne_true)] at eH
      refine ⟨_, rfl, .inl ⟨rfl, _, .of F6⟩, _, rfl, F, _, _, rfl, rfl, F6, szl (by rw [refsV_len]; omega), fs ++ [f], as ++ [r], i5, _, _, rfl, sm_mut sH6 F0, (R5.same s6).upd xF (ne_of_none (s1 _ _ hn) hF), ?_, ?_, ?_, ?_⟩
      · rw [upd_same, refsV_snoc]
      · rw [new_upd F0, hide_upd]
        exact Paired.snoc (pair_mono (fun _ _ h => h.same (hide_mono (new_mono s6))) G5') ⟨df, hide_at (ne_of r5 F5 (by intro z; cases z)) (new_at (sm_back sH fr5) (s6 _ _ r5))⟩
      · rw [List.length_append]
        show fs.length + 1 ≤ j + 1
        omega
      · rw [show k - (j + 1) = m by omega]
        exact eH
  · rintro σ H' ⟨fs, as, i', u, v, rfl, sH, RH, FH, GH, hl', eH⟩
    rw [Nat.sub_self] at eH
    have eH : filtersLoop n k [] (ns.drop 1) = some (fs, ns.drop i') := eH
    rw [eH] at kY kN
    simp only [Option.bind_some] at kY kN
    obtain ⟨dx', x', np'⟩ := id RH
    have G' := pair_mono (fun _ _ h => FilterAt.same (hide_same F (newOf H H')) h) GH
    refine ⟨_, rfl, rm_NumberReader_some_columns x' ⟨_, rfl, by show 0 ≤ sizeLine; exact Nat.zero_le _, fun E1 hE1 => ?_⟩⟩
    have t1 : Same H' (upd H' E1 (.lst (natsV []))) := sm_new hE1
    refine ⟨x, np, E1, ns, i', n, [], rfl, RH.same t1, hl, upd_same, n1, n4, fun order i5 r5 H5 e5 b5 R5 f5 r5' => ?_, fun e5 H5 b5 => kN (by rw [e5]; rfl) _ (sm_but (sH.trans t1) nx b5)⟩
    rw [e5] at kY kN
    simp only [Option.bind_some] at kY kN
    obtain ⟨dx5, x5, np5⟩ := id R5
    have s5 : Same H H5 := sm_but (sH.trans t1) nx b5
    have pr5 : Pres K H' H5 := (Pres.of t1).trans (Pres.but b5 (t1 _ _ x') T.i_NumberReader)
    refine ⟨_, rfl, rm_NumberReader_number x5 ⟨x, np, ns, i5, 0, 1, rfl, R5, hl, fun back H6 e6 b6 R6 => ?_, fun e6 => kN (by rw [e6]; rfl) _ s5⟩⟩
    rw [e6] at kY kN
    simp only [Option.bind_some] at kY kN
    obtain ⟨dx6, x6, np6⟩ := id R6
    have s6 : Same H H6 := sm_but s5 nx b6
    refine ⟨_, rfl, rm_NumberReader_some_columns x6 ⟨_, rfl, by show 0 ≤ sizeLine; exact Nat.zero_le _, fun E2 hE2 => ?_⟩⟩
    have t2 : Same H6 (upd H6 E2 (.lst (natsV []))) := sm_new hE2
    refine ⟨x, np, E2, ns, i5 + 1, n, [], rfl, R6.same t2, hl, upd_same, n1, n4, fun wants i7 r7 H7 e7 b7 R7 f7 r7' => ?_, fun e7 H7 b7 => kN (by rw [e7]; rfl) _ (sm_but (s6.trans t2) nx b7)⟩
    rw [e7] at kY kN
    simp only [Option.bind_some] at kY kN
    obtain ⟨dx7, x7, np7⟩ := id R7
    have s7 : Same H H7 := sm_but (s6.trans t2) nx b7
    refine ⟨_, rfl, rm_NumberReader_number x7 ⟨x, np, ns, i7, 0, 1000000, rfl, R7, hl, fun limit H8 e8 b8 R8 => ?_, fun e8 => kN (by rw [e8]; rfl) _ s7⟩⟩
    rw [e8] at kY kN
    simp only [Option.bind_some] at kY kN
    obtain ⟨dx8, x8, np8⟩ := id R8
    have s8 : Same H H8 := sm_but s7 nx b8
    refine ⟨_, rfl, rm_NumberReader_number x8 ⟨x, np, ns, i7 + 1, 0, 1000, rfl, R8, hl, fun asked H9 e9 b9 R9 => ?_, fun e9 => kN (by rw [e9]; rfl) _ s8⟩⟩
    rw [e9] at kY kN
    simp only [Option.bind_some] at kY kN
    obtain ⟨dx9, x9, np9⟩ := id R9
    have s9 : Same H H9 := sm_but s8 nx b9
    refine ⟨_, rfl, rm_NumberReader_end x9 ⟨x, np, ns, i7 + 1 + 1, rfl, R9, hl, fun er => ?_, fun er => kN (if_neg er) _ s9⟩⟩
    rw [if_pos er] at kY
    have w6 : But x H' H6 := ((But.of t1).trans b5).trans b6
    have w9 : But x H6 H9 := (((But.of t2).trans b7).trans b8).trans b9
    have n5 : r5 ≠ x := (ne_of_none ((t1 _ _ x')) f5).symm
    have n7 : r7 ≠ x := (ne_of_none ((t2 _ _ x6)) f7).symm
    refine ⟨_, rfl, _, rfl, _, rfl, _, rfl, _, rfl, _, rfl, fun y dy ny nyd ney => ⟨y, dy, _, _, _, _, _, _, rfl, upd_same, fun Hz bz ez => ⟨rfl, ?_⟩⟩⟩
    have sz := made ny nyd bz
    have pr : Pres K H' Hz := (Pres.but (w6.trans w9) x' T.i_NumberReader).trans (.of sz)
    have eb : natV back = .int (if (back == 1) then 1 else 0) := by
      have hb := (readNat_some e6).2.2
      have : back = 0 ∨ back = 1 := by omega
      rcases this with rfl | rfl <;> rfl
    rw [eb] at ez
    exact kY _ y Hz rfl (s9.trans sz) ⟨dy, F, r5, r7, as, new_at (sm_back s9 ny) ez, new_at F0 (pr _ _ trivial FH), pair_mono (fun _ _ h => h.pres (new_pres pr)) G', new_at (sm_back (sH.trans t1) f5) (sz _ _ (w9 _ _ n5 (b6 _ _ n5 r5'))), new_at (sm_back (s6.trans t2) f7) (sz _ _ (b9 _ _ n7 (b8 _ _ n7 r7')))⟩
def sp_index_of (K : PySem.W.Frag) : Sp := fun vs H Q E => ∃ (np : Addr) (ns : List Int) (n : Nat), vs = [.ref np, natV n] ∧ H np = some (.lst (ns.map V.int)) ∧ ns.length ≤ 1000 ∧ 1 ≤ n ∧ n ≤ 4 ∧
  (∀ i a H', indexM n ns = some i → Same H H' → IndexAt K (newOf H H') a i → Q (.ref a) H') ∧ (indexM n ns = none → ∀ H', Same H H' → E (NW K) none H')
theorem ok_index_of (T : Txt K mg) : ∃ fd, FnOk P w K mg base (L2.CX P w) 4 (ga K "index_of") fd ["numbers", "columns"] (sp_index_of K) ∧ Binds K fd ["numbers", "columns"] [] := by
  obtain ⟨fd, F, b⟩ := T.F_index_of
  obtain ⟨_, G_Index_init, b_Index_init⟩ := ok_Index_init (P := P) (w := w) (base := base) T
  obtain ⟨_, G_NumberReader_end, b_NumberReader_end⟩ := ok_NumberReader_end (P := P) (w := w) (base := base) T
  obtain ⟨_, G_NumberReader_number, b_NumberReader_number⟩ := ok_NumberReader_number (P := P) (w := w) (base := base) T
  obtain ⟨_, G_NumberReader_a_filter, b_NumberReader_a_filter⟩ := ok_NumberReader_a_filter (P := P) (w := w) (base := base) T
  obtain ⟨_, G_NumberReader_some_columns, b_NumberReader_some_columns⟩ := ok_NumberReader_some_columns (P := P) (w := w) (base := base) T
  obtain ⟨_, G_NumberReader_init, b_NumberReader_init⟩ := ok_NumberReader_init (P := P) (w := w) (base := base) T
  refine ⟨fd, F.okX sc_index_of (fun vs H Q E h => let ⟨_, _, _, e, _⟩ := h; by rw [e] <;> rfl) (fun cdv A outer s H vs Q E hr h => ⟨_, (pss_cons (ps_set (i := 2) sc_index_of.nd rfl (Or.inl rfl) (pe_make T.m_NumberReader G_NumberReader_init (hr.mono (by decide)) rfl T.g_NumberReader b_NumberReader_init .nil pass0 (pa_cons (pv 0) pa_nil)))
  (pss_cons (ps_set (i := 3) sc_index_of.nd rfl (Or.inl rfl) (pe_meth (pv 2) T.cl_NumberReader T.mt_NumberReader_some_columns G_NumberReader_some_columns (hr.mono (by decide)) b_NumberReader_some_columns .nil (passes_call (takes_of rfl rfl rfl rfl) fun _ _ _ _ h => h) (pa_cons (pv 1) (pa_cons (pe_lst pa_nil) pa_nil))))
  (pss_cons (ps_if (pt_cmpR (op_eqE (huOf0 hr)) (pv 3) (pe_lst pa_nil) (nomark _))
    (pss_one (ps_raise rfl (takes_of rfl rfl rfl rfl) (pmk_own PySem.F.excBase_ValueError T.xN.1 T.g_NotWhole T.xN.2.1 (raises_own T.xN.2.2.1 T.xN.2.2.2) (by exact rfl))))
    pss_nil)
  (pss_cons (ps_set (i := 4) sc_index_of.nd rfl (Or.inl rfl) (pe_meth (pv 2) T.cl_NumberReader T.mt_NumberReader_some_columns G_NumberReader_some_columns (hr.mono (by decide)) b_NumberReader_some_columns .nil (passes_call (takes_of rfl rfl rfl rfl) fun _ _ _ _ h => h) (pa_cons (pv 1) (pa_cons (pv 3) pa_nil))))
  (pss_cons (ps_set (i := 5) sc_index_of.nd rfl (Or.inl rfl) pe_non)
  (pss_cons (ps_if (pt_cmpR op_eq (pe_meth (pv 2) T.cl_NumberReader T.mt_NumberReader_number G_NumberReader_number (hr.mono (by decide)) b_NumberReader_number .nil (passes_call (takes_of rfl rfl rfl rfl) fun _ _ _ _ h => h) (pa_cons pe_int (pa_cons pe_int pa_nil))) pe_int (nomark _))
    (pss_one (ps_set (i := 5) sc_index_of.nd rfl (Or.inl rfl) (pe_meth (pv 2) T.cl_NumberReader T.mt_NumberReader_a_filter G_NumberReader_a_filter (hr.mono (by decide)) b_NumberReader_a_filter .nil (passes_call (takes_of rfl rfl rfl rfl) fun _ _ _ _ h => h) (pa_cons (pv 1) pa_nil))))
    pss_nil)
  (pss_cons (ps_expr (pe_meth0 (pv 2) T.cl_NumberReader T.mt_NumberReader_end G_NumberReader_end (hr.mono (by decide)) b_NumberReader_end .nil (passes_call (takes_of rfl rfl rfl rfl) fun _ _ _ _ h => h)))
  (pss_one (ps_ret (pe_make T.m_Index G_Index_init (hr.mono (by decide)) rfl T.g_Index b_Index_init .nil pass0 (pa_cons (pv 3) (pa_cons (pv 4) (pa_cons (pv 5) pa_nil))))))))))))), ?_⟩), b⟩
  obtain ⟨np, ns, n, rfl, hn, hl, n1, n4, kY, kN⟩ := h
  refine ⟨_, rfl, fun x dx nx nd ne => ⟨x, dx, _, rfl, upd_same, fun H1 b1 e1 => ⟨rfl, ?_⟩⟩⟩
  have s1 : Same H H1 := made nx nd b1
  have R1 : ReaderAt K H1 x np ns 0 := ⟨dx, e1, s1 _ _ hn⟩
  unfold indexM at kY kN
  refine ⟨_, rfl, rm_NumberReader_some_columns e1 ⟨_, rfl, by show 0 ≤ sizeLine; exact Nat.zero_le _, fun E1 hE1 => ?_⟩⟩
  have t1 : Same H1 (upd H1 E1 (.lst (natsV []))) := sm_new hE1
  refine ⟨x, np, E1, ns, 0, n, [], rfl, R1.same t1, hl, upd_same, n1, n4, fun keys i2 r2 H2 e2 b2 R2 f2 r2' => ?_, fun e2 H2 b2 => kN (by rw [show ns = ns.drop 0 from rfl, e2]; rfl) _ (sm_but (s1.trans t1) nx b2)⟩
  have e2 : colsM n [] ns = some (keys, ns.drop i2) := e2
  rw [e2] at kY kN
  simp only [Option.bind_some] at kY kN
  obtain ⟨dx2, x2, np2⟩ := id R2
  have s2 : Same H H2 := sm_but (s1.trans t1) nx b2
  refine ⟨_, rfl, by show 0 ≤ sizeLine; exact Nat.zero_le _, fun E2 hE2 => ?_⟩
  have t2 : Same H2 (upd H2 E2 (.lst [])) := sm_new hE2
  refine ⟨r2, E2, _, rfl, rfl, .of (t2 _ _ r2'), .of upd_same, _, rfl, iteB (fun hc => ?_) (fun hc => ?_)⟩
  · have : keys = [] := by
      cases keys with
      | nil => rfl
      | cons k l => cases hc
    exact kN (if_pos this) _ (s2.trans t2)
  have kne : ¬ keys = [] := fun z => by
    rw [z] at hc
    cases hc
  rw [if_neg kne] at kY kN
  have nr2 : r2 ≠ x := (ne_of_none ((t1 _ _ e1)) f2).symm
  refine ⟨_, rfl, rm_NumberReader_some_columns (t2 _ _ x2) ⟨_, rfl, _, rfl, x, np, r2, ns, i2, n, keys, rfl, R2.same t2, hl, t2 _ _ r2', n1, n4, fun others i3 r3 H3 e3 b3 R3 f3 r3' => ?_, fun e3 H3 b3 => kN (by rw [e3]; rfl) _ (sm_but (s2.trans t2) nx b3)⟩⟩
  rw [e3] at kY kN
  simp only [Option.bind_some] at kY kN
  obtain ⟨dx3, x3, np3⟩ := id R3
  have s3 : Same H H3 := sm_but (s2.trans t2) nx b3
  have nr3 : r3 ≠ x := (ne_of_none ((t2 _ _ x2)) f3).symm
  have r2'' : H3 r2 = some (.lst (natsV keys)) := b3 _ _ nr2 (t2 _ _ r2')
  refine ⟨_, rfl, rm_NumberReader_number x3 ⟨x, np, ns, i3, 0, 1, rfl, R3, hl, fun b' H4 e4 b4 R4 => ?_, fun e4 => kN (by rw [e4]; rfl) _ s3⟩⟩
  rw [e4] at kY kN
  simp only [Option.bind_some] at kY kN
  obtain ⟨dx4, x4, np4⟩ := id R4
  have s4 : Same H H4 := sm_but s3 nx b4
  have q2 : H4 r2 = some (.lst (natsV keys)) := b4 _ _ nr2 r2''
  have q3 : H4 r3 = some (.lst (natsV others)) := b4 _ _ nr3 r3'
  refine ⟨rfl, _, rfl, ?_⟩
  rw [show decide (natV b' = V.int 1) = (b' == 1) from eq_nat b' 1]
  refine iteB (fun hb => ?_) (fun hb => ?_)
  · have hb : b' = 1 := by simpa using hb
    rw [if_pos hb] at kY kN
    refine ⟨_, rfl, rm_NumberReader_a_filter x4 ⟨_, rfl, x, np, ns, i3 + 1, n, rfl, R4, hl, n1, fun f i5 r H5 e5 b5 R5 fr5 A5 => ?_, fun e5 H5 b5 => kN (by rw [e5]; rfl) _ (sm_but s4 nx b5)⟩⟩
    rw [e5] at kY kN
    simp only [Option.bind_some] at kY kN
    obtain ⟨dx5, x5, np5⟩ := id R5
    have s5 : Same H H5 := sm_but s4 nx b5
    refine ⟨_, rfl, rm_NumberReader_end x5 ⟨x, np, ns, i5, rfl, R5, hl, fun er => ?_, fun er => kN (if_neg er) _ s5⟩⟩
    rw [if_pos er] at kY
    refine ⟨_, rfl, _, rfl, _, rfl, fun y dy ny nyd ney => ⟨y, dy, _, _, _, rfl, upd_same, fun Hz bz ez => ⟨rfl, ?_⟩⟩⟩
    have sz := made ny nyd bz
    exact kY _ y Hz rfl (s5.trans sz) ⟨dy, r2, r3, _, new_at (sm_back s5 ny) ez, new_at (sm_back (s1.trans t1) f2) (sz _ _ (b5 _ _ nr2 q2)), new_at (sm_back (s2.trans t2) f3) (sz _ _ (b5 _ _ nr3 q3)), r, rfl, A5.elim fun da ha => ⟨da, new_at (sm_back s4 fr5) (sz _ _ ha)⟩⟩
  · have hb : ¬ b' = 1 := by simpa using hb
    rw [if_neg hb] at kY kN
    refine ⟨_, rfl, rm_NumberReader_end x4 ⟨x, np, ns, i3 + 1, rfl, R4, hl, fun er => ?_, fun er => kN (if_neg er) _ s4⟩⟩
    rw [if_pos er] at kY
    refine ⟨_, rfl, _, rfl, _, rfl, fun y dy ny nyd ney => ⟨y, dy, _, _, _, rfl, upd_same, fun Hz bz ez => ⟨rfl, ?_⟩⟩⟩
    have sz := made ny nyd bz
    exact kY _ y Hz rfl (s4.trans sz) ⟨dy, r2, r3, _, new_at (sm_back s4 ny) ez, new_at (sm_back (s1.trans t1) f2) (sz _ _ q2), new_at (sm_back (s2.trans t2) f3) (sz _ _ q3), rfl⟩
end
end One
set_option Elab.async false
set_option linter.all false
set_option maxRecDepth 100000
set_option maxHeartbeats 4000000
/-! The walk, C1: steps, ways. -/
namespace One
open PySem PySem.Spec PyProof.Rows L2
open He (ga ma)
open Vaidxb (Done)
section
variable {P : Program} {w : World} {K : PySem.W.Frag} {mg : Str → Option Value} {base : Heap}
def sp_Step_init (K : PySem.W.Frag) : Sp := fun vs H Q _ => ∃ (x dx : Addr) (v0 v1 v2 v3 : V), vs = [.ref x, v0, v1, v2, v3] ∧ H x = some (.ins (ga K "Step") dx []) ∧ ∀ H', But x H H' → H' x = some (.ins (ga K "Step") dx (fs_Step v0 v1 v2 v3)) → Q .non H'
theorem ok_Step_init (T : Txt K mg) : ∃ fd, FnOk P w K mg base CX0 1 (ma K (ga K "Step") "__init__") fd ["self", "group", "touched", "looked", "found"] (sp_Step_init K) ∧ Binds K fd ["self", "group", "touched", "looked", "found"] [] := by
  obtain ⟨fd, F, b⟩ := T.F_Step_init
  refine ⟨fd, F.ok sc_Step_init (fun vs H Q E h => let ⟨_, _, _, _, _, _, e, _⟩ := h; by rw [e] <;> rfl) (fun cdv A outer s H vs Q E hr h => ⟨_, (pss_cons (ps_fld (pv 0) (pv 1) rfl)
  (pss_cons (ps_fld (pv 0) (pv 2) rfl)
  (pss_cons (ps_fld (pv 0) (pv 3) rfl)
  (pss_one (ps_fld (pv 0) (pv 4) rfl))))), ?_⟩), b⟩
  obtain ⟨x, dx, v0, v1, v2, v3, rfl, hx, q⟩ := h
  refine ⟨_, rfl, _, rfl, x, _, dx, _, rfl, hx, T.cl_Step, T.n_Step_group, small rfl, ?_⟩
  refine ⟨_, rfl, _, rfl, x, _, dx, _, rfl, upd_same, T.cl_Step, T.n_Step_rows_touched, small rfl, ?_⟩
  refine ⟨_, rfl, _, rfl, x, _, dx, _, rfl, upd_same, T.cl_Step, T.n_Step_rows_looked, small rfl, ?_⟩
  refine ⟨_, rfl, _, rfl, x, _, dx, _, rfl, upd_same, T.cl_Step, T.n_Step_rows_found, small rfl, ?_⟩
  exact q _ (((But.wr.trans But.wr).trans But.wr).trans But.wr) upd_same
def doneN (d : Done) : List Nat := [d.group, d.touched, d.looked, d.found]
def sp_Step_told (K : PySem.W.Frag) : Sp := fun vs H Q _ => ∃ (a : Addr) (d : Done), vs = [.ref a] ∧ StepAt K H a d ∧ ∀ H' p, Same H H' → H p = none → H' p = some (.lst (natsV (doneN d))) → Q (.ref p) H'
theorem ok_Step_told (T : Txt K mg) : ∃ fd, FnOk P w K mg base CX0 1 (ma K (ga K "Step") "told") fd ["self"] (sp_Step_told K) ∧ Binds K fd ["self"] [] := by
  obtain ⟨fd, F, b⟩ := T.F_Step_told
  refine ⟨fd, F.ok sc_Step_told (fun vs H Q E h => let ⟨_, _, e, _⟩ := h; by rw [e] <;> rfl) (fun cdv A outer s H vs Q E hr h => ⟨_, (pss_one (ps_ret (pe_lst (pa_cons (pe_fld (pv 0) rfl) (pa_cons (pe_fld (pv 0) rfl) (pa_cons (pe_fld (pv 0) rfl) (pa_cons (pe_fld (pv 0) rfl) pa_nil))))))), ?_⟩), b⟩
  obtain ⟨a, d, rfl, ⟨dx, ha⟩, k⟩ := h
  refine ⟨_, rfl, rd_Step_group T ha ⟨_, rfl, rd_Step_rows_touched T ha ⟨_, rfl, rd_Step_rows_looked T ha ⟨_, rfl, rd_Step_rows_found T ha ⟨by show 4 ≤ sizeLine; exact sz (by decide), fun D hD => ?_⟩⟩⟩⟩⟩
  exact k _ _ (sm_new hD) hD upd_same
def sp_Way_init (K : PySem.W.Frag) : Sp := fun vs H Q _ => ∃ (x dx : Addr) (v0 v1 : V), vs = [.ref x, v0, v1] ∧ H x = some (.ins (ga K "Way") dx []) ∧ ∀ H', But x H H' → H' x = some (.ins (ga K "Way") dx (fs_Way v0 v1)) → Q .non H'
theorem ok_Way_init (T : Txt K mg) : ∃ fd, FnOk P w K mg base CX0 1 (ma K (ga K "Way") "__init__") fd ["self", "steps", "is_free"] (sp_Way_init K) ∧ Binds K fd ["self", "steps", "is_free"] [] := by
  obtain ⟨fd, F, b⟩ := T.F_Way_init
  refine ⟨fd, F.ok sc_Way_init (fun vs H Q E h => let ⟨_, _, _, _, e, _⟩ := h; by rw [e] <;> rfl) (fun cdv A outer s H vs Q E hr h => ⟨_, (pss_cons (ps_fld (pv 0) (pv 1) rfl)
  (pss_one (ps_fld (pv 0) (pv 2) rfl))), ?_⟩), b⟩
  obtain ⟨x, dx, v0, v1, rfl, hx, q⟩ := h
  refine ⟨_, rfl, _, rfl, x, _, dx, _, rfl, hx, T.cl_Way, T.n_Way_steps, small rfl, ?_⟩
  refine ⟨_, rfl, _, rfl, x, _, dx, _, rfl, upd_same, T.cl_Way, T.n_Way_is_free, small rfl, ?_⟩
  exact q _ (But.wr.trans But.wr) upd_same
theorem steps_sum (l : List Done) (f : Done → Nat) : (l.filterMap fun d => some (natV (f d))) = ((l.map f).map fun (n : Nat) => (n : Int)).map V.int := by
  rw [fm_some, List.map_map, List.map_map]
  rfl
def spSum (K : PySem.W.Frag) (f : List Done → Nat) : Sp := fun vs H Q _ => ∃ (a : Addr) (l : List Done) (free : Bool), vs = [.ref a] ∧ WayAt K H a l free ∧ l.length ≤ 1000 ∧ ∀ H', Same H H' → Q (natV (f l)) H'
abbrev sp_Way_touched (K : PySem.W.Frag) : Sp := spSum K sumT
abbrev sp_Way_looked (K : PySem.W.Frag) : Sp := spSum K sumL
abbrev sp_Way_found (K : PySem.W.Frag) : Sp := spSum K sumF
theorem ok_Way_touched (T : Txt K mg) : ∃ fd, FnOk P w K mg base CX0 1 (ma K (ga K "Way") "touched") fd ["self"] (sp_Way_touched K) ∧ Binds K fd ["self"] [] := by
  obtain ⟨fd, F, b⟩ := T.F_Way_touched
  refine ⟨fd, F.ok sc_Way_touched (fun vs H Q E h => let ⟨_, _, _, e, _⟩ := h; by rw [e] <;> rfl) (fun cdv A outer s H vs Q E hr h => ⟨_, (pss_one (ps_ret (pe_callB (cr_sum rfl) (by rfl) T.b_sum (by decide +kernel) (pa_cons (pe_lc (own := [("step", 1)]) rfl sc_Way_touched.nd (pi_list (pe_fld (pv 0) rfl)) (blkOk_by (N := ["self", "step"]) (sc := defScope s_Way_touched) (by decide +kernel)) (fun _ _ _ _ _ => (pg_name (i := 1) sc_Way_touched.nd rfl (Or.inl rfl))) (fun _ _ _ _ _ => pts_nil) (fun _ _ _ _ _ => (pe_fldK (K := K) rfl (pv 1) rfl))) pa_nil)))), ?_⟩), b⟩
  obtain ⟨a, l, free, rfl, ⟨dx, p, as, ha, hp, hg⟩, hl, q⟩ := h
  refine ⟨_, rfl, rd_Way_steps T ha ⟨p, rfl, ⟨_, .of hp⟩, fun D hD => ?_⟩⟩
  refine lc_of l (fun d => some (natV d.touched)) hD (by rw [refsV_len, hg.length]) (by omega) (.of hp) (fun i x b H' hx hb s R S kR kS => ?_) fun H' s e => ?_
  · obtain ⟨sa, ea, rfl⟩ := refsV_of hx
    obtain ⟨d, ed, hd⟩ := pair_get hg ea
    rw [hb] at ed
    cases ed
    obtain ⟨dd, hd1⟩ := hd.same s
    exact ⟨rfl, _, rfl, rd_Step_rows_touched T hd1 (kR _ _ rfl (Same.refl _))⟩
  · rw [steps_sum l fun d => d.touched] at e
    refine ⟨_, _, rfl, .of e, ?_⟩
    rw [sum_nats]
    exact q H' s
theorem ok_Way_looked (T : Txt K mg) : ∃ fd, FnOk P w K mg base CX0 1 (ma K (ga K "Way") "looked") fd ["self"] (sp_Way_looked K) ∧ Binds K fd ["self"] [] := by
  obtain ⟨fd, F, b⟩ := T.F_Way_looked
  refine ⟨fd, F.ok sc_Way_looked (fun vs H Q E h => let ⟨_, _, _, e, _⟩ := h; by rw [e] <;> rfl) (fun cdv A outer s H vs Q E hr h => ⟨_, (pss_one (ps_ret (pe_callB (cr_sum rfl) (by rfl) T.b_sum (by decide +kernel) (pa_cons (pe_lc (own := [("step", 1)]) rfl sc_Way_looked.nd (pi_list (pe_fld (pv 0) rfl)) (blkOk_by (N := ["self", "step"]) (sc := defScope s_Way_looked) (by decide +kernel)) (fun _ _ _ _ _ => (pg_name (i := 1) sc_Way_looked.nd rfl (Or.inl rfl))) (fun _ _ _ _ _ => pts_nil) (fun _ _ _ _ _ => (pe_fldK (K := K) rfl (pv 1) rfl))) pa_nil)))), ?_⟩), b⟩
  obtain ⟨a, l, free, rfl, ⟨dx, p, as, ha, hp, hg⟩, hl, q⟩ := h
  refine ⟨_, rfl, rd_Way_steps T ha ⟨p, rfl, ⟨_, .of hp⟩, fun D hD => ?_⟩⟩
  refine lc_of l (fun d => some (natV d.looked)) hD (by rw [refsV_len, hg.length]) (by omega) (.of hp) (fun i x b H' hx hb s R S kR kS => ?_) fun H' s e => ?_
  · obtain ⟨sa, ea, rfl⟩ := refsV_of hx
    obtain ⟨d, ed, hd⟩ := pair_get hg ea
    rw [hb] at ed
    cases ed
    obtain ⟨dd, hd1⟩ := hd.same s
    exact ⟨rfl, _, rfl, rd_Step_rows_looked T hd1 (kR _ _ rfl (Same.refl _))⟩
  · rw [steps_sum l fun d => d.looked] at e
    refine ⟨_, _, rfl, .of e, ?_⟩
    rw [sum_nats]
    exact q H' s
theorem ok_Way_found (T : Txt K mg) : ∃ fd, FnOk P w K mg base CX0 1 (ma K (ga K "Way") "found") fd ["self"] (sp_Way_found K) ∧ Binds K fd ["self"] [] := by
  obtain ⟨fd, F, b⟩ := T.F_Way_found
  refine ⟨fd, F.ok sc_Way_found (fun vs H Q E h => let ⟨_, _, _, e, _⟩ := h; by rw [e] <;> rfl) (fun cdv A outer s H vs Q E hr h => ⟨_, (pss_one (ps_ret (pe_callB (cr_sum rfl) (by rfl) T.b_sum (by decide +kernel) (pa_cons (pe_lc (own := [("step", 1)]) rfl sc_Way_found.nd (pi_list (pe_fld (pv 0) rfl)) (blkOk_by (N := ["self", "step"]) (sc := defScope s_Way_found) (by decide +kernel)) (fun _ _ _ _ _ => (pg_name (i := 1) sc_Way_found.nd rfl (Or.inl rfl))) (fun _ _ _ _ _ => pts_nil) (fun _ _ _ _ _ => (pe_fldK (K := K) rfl (pv 1) rfl))) pa_nil)))), ?_⟩), b⟩
  obtain ⟨a, l, free, rfl, ⟨dx, p, as, ha, hp, hg⟩, hl, q⟩ := h
  refine ⟨_, rfl, rd_Way_steps T ha ⟨p, rfl, ⟨_, .of hp⟩, fun D hD => ?_⟩⟩
  refine lc_of l (fun d => some (natV d.found)) hD (by rw [refsV_len, hg.length]) (by omega) (.of hp) (fun i x b H' hx hb s R S kR kS => ?_) fun H' s e => ?_
  · obtain ⟨sa, ea, rfl⟩ := refsV_of hx
    obtain ⟨d, ed, hd⟩ := pair_get hg ea
    rw [hb] at ed
    cases ed
    obtain ⟨dd, hd1⟩ := hd.same s
    exact ⟨rfl, _, rfl, rd_Step_rows_found T hd1 (kR _ _ rfl (Same.refl _))⟩
  · rw [steps_sum l fun d => d.found] at e
    refine ⟨_, _, rfl, .of e, ?_⟩
    rw [sum_nats]
    exact q H' s
def sp_Way_sorted_rows (K : PySem.W.Frag) : Sp := fun vs H Q _ => ∃ (a : Addr) (l : List Done) (free : Bool), vs = [.ref a] ∧ WayAt K H a l free ∧ l.length ≤ 1000 ∧ ∀ H', Same H H' → Q (natV (sortedOf free l)) H'
theorem ok_Way_sorted_rows (T : Txt K mg) : ∃ fd, FnOk P w K mg base CX0 2 (ma K (ga K "Way") "sorted_rows") fd ["self"] (sp_Way_sorted_rows K) ∧ Binds K fd ["self"] [] := by
  obtain ⟨fd, F, b⟩ := T.F_Way_sorted_rows
  obtain ⟨_, G_Way_found, b_Way_found⟩ := ok_Way_found (P := P) (w := w) (base := base) T
  refine ⟨fd, F.ok sc_Way_sorted_rows (fun vs H Q E h => let ⟨_, _, _, e, _⟩ := h; by rw [e] <;> rfl) (fun cdv A outer s H vs Q E hr h => ⟨_, (pss_cons (ps_if (pt_val (pe_fld (pv 0) rfl))
    (pss_one (ps_ret pe_int))
    pss_nil)
  (pss_one (ps_ret (pe_meth0 (pv 0) T.cl_Way T.mt_Way_found G_Way_found (hr.mono (by decide)) b_Way_found .nil pass0)))), ?_⟩), b⟩
  obtain ⟨a, l, free, rfl, hw, hl, q⟩ := h
  obtain ⟨dx, p, as, ha, hp, hg⟩ := id hw
  refine ⟨_, rfl, rd_Way_is_free T ha ⟨_, rfl, ?_⟩⟩
  refine iteB (fun hc => ?_) (fun hc => ?_)
  · rw [hc] at q
    exact q H (Same.refl _)
  · rw [hc] at q
    exact ⟨_, rfl, rm_Way_found ha ⟨a, l, free, rfl, hw, hl, q⟩⟩
def costI (free : Bool) (l : List Done) : Nat := 1 * sumT l + 4 * sumL l + 3 * sortedOf free l
def costT (free : Bool) (l : List Done) : Nat := 2 * sumT l + 3 * sortedOf free l
def spWay (K : PySem.W.Frag) (f : Bool → List Done → Nat) : Sp := fun vs H Q _ => ∃ (a : Addr) (l : List Done) (free : Bool), vs = [.ref a] ∧ WayAt K H a l free ∧ l.length ≤ 1000 ∧ ∀ H', Same H H' → Q (natV (f free l)) H'
abbrev sp_Way_cost_by_index (K : PySem.W.Frag) : Sp := spWay K costI
abbrev sp_Way_cost_by_table (K : PySem.W.Frag) : Sp := spWay K costT
theorem ok_Way_cost_by_index (T : Txt K mg) : ∃ fd, FnOk P w K mg base CX0 3 (ma K (ga K "Way") "cost_by_index") fd ["self"] (sp_Way_cost_by_index K) ∧ Binds K fd ["self"] [] := by
  obtain ⟨fd, F, b⟩ := T.F_Way_cost_by_index
  obtain ⟨_, G_Way_touched, b_Way_touched⟩ := ok_Way_touched (P := P) (w := w) (base := base) T
  obtain ⟨_, G_Way_looked, b_Way_looked⟩ := ok_Way_looked (P := P) (w := w) (base := base) T
  obtain ⟨_, G_Way_sorted_rows, b_Way_sorted_rows⟩ := ok_Way_sorted_rows (P := P) (w := w) (base := base) T
  refine ⟨fd, F.ok sc_Way_cost_by_index (fun vs H Q E h => let ⟨_, _, _, e, _⟩ := h; by rw [e] <;> rfl) (fun cdv A outer s H vs Q E hr h => ⟨_, (pss_one (ps_ret (pe_op op_add (pe_op op_add (pe_op op_mul (pe_gint rfl T.c_COST_TOUCHED) (pe_meth0 (pv 0) T.cl_Way T.mt_Way_touched G_Way_touched (hr.mono (by decide)) b_Way_touched .nil pass0)) (pe_op op_mul (pe_gint rfl T.c_COST_LOOKED) (pe_meth0 (pv 0) T.cl_Way T.mt_Way_looked G_Way_looked (hr.mono (by decide)) b_Way_looked .nil pass0))) (pe_op op_mul (pe_gint rfl T.c_COST_SORTED) (pe_meth0 (pv 0) T.cl_Way T.mt_Way_sorted_rows G_Way_sorted_rows (hr.mono (by decide)) b_Way_sorted_rows .nil pass0))))), ?_⟩), b⟩
  obtain ⟨a, l, free, rfl, hw, hl, q⟩ := h
  obtain ⟨dx, p, as, ha, hp, hg⟩ := id hw
  refine ⟨_, rfl, rm_Way_touched ha ⟨a, l, free, rfl, hw, hl, fun H1 s1 => ?_⟩⟩
  have h1 := hw.same s1
  refine ⟨1, _, rfl, rfl, .inl ⟨by decide, by decide⟩, _, rfl, rm_Way_looked (s1 _ _ ha) ⟨a, l, free, rfl, h1, hl, fun H2 s2 => ?_⟩⟩
  have h2 := h1.same s2
  have t2 := s1.trans s2
  refine ⟨4, _, rfl, rfl, .inl ⟨by decide, by decide⟩, _, _, rfl, rfl, _, rfl, rm_Way_sorted_rows (t2 _ _ ha) ⟨a, l, free, rfl, h2, hl, fun H3 s3 => ?_⟩⟩
  refine ⟨3, _, rfl, rfl, .inl ⟨by decide, by decide⟩, _, _, rfl, rfl, ?_⟩
  have e : V.int ((1 : Int) * (sumT l : Nat) + 4 * (sumL l : Nat) + 3 * (sortedOf free l : Nat)) = natV (costI free l) := by
    unfold natV costI
    rw [Int.natCast_add, Int.natCast_add, Int.natCast_mul, Int.natCast_mul, Int.natCast_mul]
    rfl
  have q3 := q H3 (t2.trans s3)
  rw [← e] at q3
  exact q3
theorem ok_Way_cost_by_table (T : Txt K mg) : ∃ fd, FnOk P w K mg base CX0 3 (ma K (ga K "Way") "cost_by_table") fd ["self"] (sp_Way_cost_by_table K) ∧ Binds K fd ["self"] [] := by
  obtain ⟨fd, F, b⟩ := T.F_Way_cost_by_table
  obtain ⟨_, G_Way_touched, b_Way_touched⟩ := ok_Way_touched (P := P) (w := w) (base := base) T
  obtain ⟨_, G_Way_sorted_rows, b_Way_sorted_rows⟩ := ok_Way_sorted_rows (P := P) (w := w) (base := base) T
  refine ⟨fd, F.ok sc_Way_cost_by_table (fun vs H Q E h => let ⟨_, _, _, e, _⟩ := h; by rw [e] <;> rfl) (fun cdv A outer s H vs Q E hr h => ⟨_, (pss_one (ps_ret (pe_op op_add (pe_op op_mul (pe_gint rfl T.c_COST_ROW) (pe_meth0 (pv 0) T.cl_Way T.mt_Way_touched G_Way_touched (hr.mono (by decide)) b_Way_touched .nil pass0)) (pe_op op_mul (pe_gint rfl T.c_COST_SORTED) (pe_meth0 (pv 0) T.cl_Way T.mt_Way_sorted_rows G_Way_sorted_rows (hr.mono (by decide)) b_Way_sorted_rows .nil pass0))))), ?_⟩), b⟩
  obtain ⟨a, l, free, rfl, hw, hl, q⟩ := h
  obtain ⟨dx, p, as, ha, hp, hg⟩ := id hw
  refine ⟨_, rfl, rm_Way_touched ha ⟨a, l, free, rfl, hw, hl, fun H1 s1 => ?_⟩⟩
  have h1 := hw.same s1
  refine ⟨2, _, rfl, rfl, .inl ⟨by decide, by decide⟩, _, rfl, rm_Way_sorted_rows (s1 _ _ ha) ⟨a, l, free, rfl, h1, hl, fun H3 s3 => ?_⟩⟩
  refine ⟨3, _, rfl, rfl, .inl ⟨by decide, by decide⟩, _, _, rfl, rfl, ?_⟩
  have e : V.int ((2 : Int) * (sumT l : Nat) + 3 * (sortedOf free l : Nat)) = natV (costT free l) := by
    unfold natV costT
    rw [Int.natCast_add, Int.natCast_mul, Int.natCast_mul]
    rfl
  have q3 := q H3 (s1.trans s3)
  rw [← e] at q3
  exact q3
def sp_Way_trace (K : PySem.W.Frag) : Sp := fun vs H Q _ => ∃ (a : Addr) (l : List Done) (free : Bool), vs = [.ref a] ∧ WayAt K H a l free ∧ l.length ≤ 1000 ∧ ∀ H' r, Same H H' → H r = none → H' r = some (.lst (natsV (l.length :: l.flatMap doneN))) → Q (.ref r) H'
theorem told_len : ∀ l : List Done, (l.flatMap doneN).length = 4 * l.length
  | [] => rfl
  | d :: l => by
    rw [List.flatMap_cons, List.length_append, told_len l, List.length_cons]
    show 4 + _ = _
    omega
theorem ok_Way_trace (T : Txt K mg) : ∃ fd, FnOk P w K mg base CX0 2 (ma K (ga K "Way") "trace") fd ["self"] (sp_Way_trace K) ∧ Binds K fd ["self"] [] := by
  obtain ⟨fd, F, b⟩ := T.F_Way_trace
  obtain ⟨_, G_Step_told, b_Step_told⟩ := ok_Step_told (P := P) (w := w) (base := base) T
  refine ⟨fd, F.ok sc_Way_trace (fun vs H Q E h => let ⟨_, _, _, e, _⟩ := h; by rw [e] <;> rfl) (fun cdv A outer s H vs Q E hr h => ⟨_, (pss_cons (ps_set (i := 1) sc_Way_trace.nd rfl (Or.inl rfl) (pe_lst (pa_cons (pe_callB call_len_seq (by rfl) T.b_len PySem.boot_len (pa_cons (pe_fld (pv 0) rfl) pa_nil)) pa_nil)))
  (pss_cons (ps_for PassesOwn.never rfl (pi_list (pe_fld (pv 0) rfl)) (pg_name (i := 2) sc_Way_trace.nd rfl (Or.inl rfl))
    (pss_one (ps_set (i := 1) sc_Way_trace.nd rfl (Or.inl rfl) (pe_op op_cat (pv 1) (pe_meth0 (pv 2) T.cl_Step T.mt_Step_told G_Step_told (hr.mono (by decide)) b_Step_told .nil pass0)))))
  (pss_one (ps_ret (pv 1))))), ?_⟩), b⟩
  obtain ⟨a, l, free, rfl, hw, hl, q⟩ := h
  obtain ⟨dx, p, as, ha, hp, hg⟩ := id hw
  have el : as.length = l.length := hg.length
  refine ⟨_, rfl, rd_Way_steps T ha ⟨p, _, rfl, .inl (.of hp), ?_⟩⟩
  refine ⟨by show 1 ≤ sizeLine; exact sz (by decide), fun F hF => ?_⟩
  have s0 : Same H (upd H F (.lst [V.int ((refsV as).length : Nat)])) := sm_new hF
  refine ⟨_, rfl, rd_Way_steps T (s0 _ _ ha) ⟨p, rfl, ⟨_, .of (s0 _ _ hp)⟩, ?_⟩⟩
  refine for_list (K := K) (a := p) (xs := refsV as) (fun i σ H' => ∃ (r : Addr) (u : Option V), σ = [some (.ref a), some (.ref r), u] ∧ Same H H' ∧ H r = none ∧ H' r = some (.lst (natsV (l.length :: (l.take i).flatMap doneN)))) ⟨F, none, rfl, s0, hF, ?_⟩ (fun i σ H' _ ⟨_, _, _, e, _⟩ => .of (e _ _ hp)) ?_ ?_
  · rw [upd_same, refsV_len, el]
    rfl
  · rintro i y σ H' hi ⟨r, u, rfl, sH, fr, er⟩
    obtain ⟨sa, ea, rfl⟩ := refsV_of hi
    obtain ⟨d, ed, hd⟩ := pair_get hg ea
    have hd := hd.same sH
    obtain ⟨dd, hd1⟩ := id hd
    have lt : (l.take i).length ≤ 1000 := by
      rw [List.length_take]
      omega
    refine ⟨_, rfl, _, rfl, rm_Step_told hd1 ⟨sa, d, rfl, hd, fun H2 r2 s2 f2 e2 => ⟨r, r2, _, _, rfl, rfl, s2 _ _ er, e2, sz ?_, fun z hz => ⟨z, _, rfl, (sH.trans s2).trans (sm_new hz), sm_back (sH.trans s2) hz, ?_⟩⟩⟩⟩
    · rw [natsV_len, natsV_len, List.length_cons, told_len]
      show 4 * (l.take i).length + 1 + 4 ≤ _
      omega
    · rw [upd_same, take_more ed, List.flatMap_append, ← natsV_app]
      show some (HO.lst (natsV (_ :: (_ ++ _)))) = some (HO.lst (natsV (_ :: (_ ++ (doneN d ++ [])))))
      rw [List.append_nil]
  · rintro σ H' ⟨r, u, rfl, sH, fr, er⟩
    rw [refsV_len, el, List.take_length] at er
    exact ⟨_, rfl, q _ _ sH fr er⟩
def sp_Way_rows (K : PySem.W.Frag) : Sp := fun vs H Q _ => ∃ (a : Addr) (l : List Done) (free : Bool), vs = [.ref a] ∧ WayAt K H a l free ∧ l.length ≤ 1000 ∧ sumF l ≤ 1000000 ∧ ∀ H' r, Same H H' → H r = none → H' r = some (.lst (natsV (l.flatMap fun d => List.replicate d.found d.group))) → Q (.ref r) H'
theorem rep_flat (n : Nat) (x : V) : (List.replicate n [x]).flatten = List.replicate n x := by
  induction n with
  | zero => rfl
  | succ n ih => rw [List.replicate_succ, List.flatten_cons, ih, List.replicate_succ]; rfl
theorem found_len : ∀ l : List Done, (l.flatMap fun d => List.replicate d.found d.group).length = sumF l
  | [] => rfl
  | d :: l => by
    rw [List.flatMap_cons, List.length_append, found_len l, List.length_replicate]
    rfl
theorem sumF_le (l : List Done) (i : Nat) : sumF (l.take i) ≤ sumF l := by
  have : sumF l = sumF (l.take i) + sumF (l.drop i) := by
    unfold sumF
    rw [← List.sum_append, ← List.map_append, List.take_append_drop]
  omega
theorem sumF_more {l : List Done} {i : Nat} {d : Done} (h : l[i]? = some d) : sumF (l.take (i + 1)) = sumF (l.take i) + d.found := by
  unfold sumF
  rw [take_more h, List.map_append, List.sum_append]
  rfl
theorem ok_Way_rows (T : Txt K mg) : ∃ fd, FnOk P w K mg base CX0 1 (ma K (ga K "Way") "rows") fd ["self"] (sp_Way_rows K) ∧ Binds K fd ["self"] [] := by
  obtain ⟨fd, F, b⟩ := T.F_Way_rows
  refine ⟨fd, F.ok sc_Way_rows (fun vs H Q E h => let ⟨_, _, _, e, _⟩ := h; by rw [e] <;> rfl) (fun cdv A outer s H vs Q E hr h => ⟨_, (pss_cons (ps_set (i := 1) sc_Way_rows.nd rfl (Or.inl rfl) (pe_lst pa_nil))
  (pss_cons (ps_for PassesOwn.never rfl (pi_list (pe_fld (pv 0) rfl)) (pg_name (i := 2) sc_Way_rows.nd rfl (Or.inl rfl))
    (pss_one (ps_set (i := 1) sc_Way_rows.nd rfl (Or.inl rfl) (pe_op op_cat (pv 1) (pe_op op_rep (pe_lst (pa_cons (pe_fld (pv 2) rfl) pa_nil)) (pe_fld (pv 2) rfl))))))
  (pss_one (ps_ret (pv 1))))), ?_⟩), b⟩
  obtain ⟨a, l, free, rfl, hw, hl, hf, q⟩ := h
  obtain ⟨dx, p, as, ha, hp, hg⟩ := id hw
  have el : as.length = l.length := hg.length
  refine ⟨by show 0 ≤ sizeLine; exact Nat.zero_le _, fun F hF => ?_⟩
  have s0 : Same H (upd H F (.lst [])) := sm_new hF
  refine ⟨_, rfl, rd_Way_steps T (s0 _ _ ha) ⟨p, rfl, ⟨_, .of (s0 _ _ hp)⟩, ?_⟩⟩
  refine for_list (K := K) (a := p) (xs := refsV as) (fun i σ H' => ∃ (r : Addr) (u : Option V), σ = [some (.ref a), some (.ref r), u] ∧ Same H H' ∧ H r = none ∧ H' r = some (.lst (natsV ((l.take i).flatMap fun d => List.replicate d.found d.group)))) ⟨F, none, rfl, s0, hF, upd_same⟩ (fun i σ H' _ ⟨_, _, _, e, _⟩ => .of (e _ _ hp)) ?_ ?_
  · rintro i y σ H' hi ⟨r, u, rfl, sH, fr, er⟩
    obtain ⟨sa, ea, rfl⟩ := refsV_of hi
    obtain ⟨d, ed, hd⟩ := pair_get hg ea
    have hd := hd.same sH
    obtain ⟨dd, hd1⟩ := id hd
    have b1 := sumF_le l (i + 1)
    have b2 := sumF_more ed
    refine ⟨_, rfl, _, rfl, rd_Step_group T hd1 ⟨by show 1 ≤ sizeLine; exact sz (by decide), fun D hD => ?_⟩⟩
    have s1 : Same H' (upd H' D (.lst [natV d.group])) := sm_new hD
    refine ⟨_, rfl, rd_Step_rows_found T (s1 _ _ hd1) ⟨D, _, _, rfl, rfl, upd_same, by omega, by omega, ?_, fun D2 hD2 => ?_⟩⟩
    · rw [Int.toNat_natCast]
      show 1 * d.found ≤ _
      exact sz (by omega)
    rw [Int.toNat_natCast, rep_flat]
    have s2 : Same (upd H' D (.lst [natV d.group])) (upd (upd H' D (.lst [natV d.group])) D2 (.lst (List.replicate d.found (natV d.group)))) := sm_new hD2
    have t2 := s1.trans s2
    refine ⟨r, D2, _, _, rfl, rfl, t2 _ _ er, upd_same, sz ?_, fun z hz => ⟨z, _, rfl, (sH.trans t2).trans (sm_new hz), sm_back (sH.trans t2) hz, ?_⟩⟩
    · rw [natsV_len, found_len, List.length_replicate]
      omega
    · have e2 : List.replicate d.found (natV d.group) = natsV (List.replicate d.found d.group) := by
        unfold natsV
        rw [List.map_replicate]
      rw [upd_same, e2, ← natsV_app, take_more ed, List.flatMap_append, List.flatMap_cons, List.flatMap_nil, List.append_nil]
  · rintro σ H' ⟨r, u, rfl, sH, fr, er⟩
    rw [refsV_len, el, List.take_length] at er
    exact ⟨_, rfl, q _ _ sH fr er⟩
end
end One
set_option Elab.async false
set_option linter.all false
set_option maxRecDepth 100000
set_option maxHeartbeats 4000000
/-! The walk, C2: what an index does for a question. -/
namespace One
open PySem PySem.Spec PyProof.Rows L2
open He (ga ma)
open Vaidxb (Done)
section
variable {P : Program} {w : World} {K : PySem.W.Frag} {mg : Str → Option Value} {base : Heap}
def sp_serves (K : PySem.W.Frag) : Sp := fun vs H Q _ => ∃ (a b : Addr) (i : Idx) (q : Qst), vs = [.ref a, .ref b] ∧ IndexAt K H a i ∧ QuestionAt K H b q ∧ Q (.bl (VaidxBase.serves i q)) H
theorem ok_serves (T : Txt K mg) : ∃ fd, FnOk P w K mg base CX0 2 (ga K "serves") fd ["index", "question"] (sp_serves K) ∧ Binds K fd ["index", "question"] [] := by
  obtain ⟨fd, F, b⟩ := T.F_serves
  obtain ⟨_, G_Filter_is_within, b_Filter_is_within⟩ := ok_Filter_is_within (P := P) (w := w) (base := base) T
  obtain ⟨_, G_Question_filter_of, b_Question_filter_of⟩ := ok_Question_filter_of (P := P) (w := w) (base := base) T
  refine ⟨fd, F.ok sc_serves (fun vs H Q E h => let ⟨_, _, _, _, e, _⟩ := h; by rw [e] <;> rfl) (fun cdv A outer s H vs Q E hr h => ⟨_, (pss_cons (ps_if (pt_cmpR op_isN (pe_fld (pv 0) rfl) pe_non (nomark _))
    (pss_one (ps_ret pe_bl))
    pss_nil)
  (pss_cons (ps_set (i := 2) sc_serves.nd rfl (Or.inl rfl) (pe_meth (pv 1) T.cl_Question T.mt_Question_filter_of G_Question_filter_of (hr.mono (by decide)) b_Question_filter_of .nil pass0 (pa_cons (pe_fld (pe_fld (pv 0) rfl) rfl) pa_nil)))
  (pss_one (ps_ret (pe_and (pe_cmpR op_notN (pv 2) pe_non (nomark _)) (pe_one (pe_meth (pv 2) T.cl_Filter T.mt_Filter_is_within G_Filter_is_within (hr.mono (by decide)) b_Filter_is_within .nil pass0 (pa_cons (pe_fld (pv 0) rfl) pa_nil)))))))), ?_⟩), b⟩
  obtain ⟨a, b', i, q, rfl, hi, hq, k⟩ := h
  obtain ⟨dx, p1, p2, c, ha, h1, h2, hc⟩ := id hi
  obtain ⟨dq, q1, q2, q3, as, hb, g1, gf, g2, g3⟩ := id hq
  unfold VaidxBase.serves at k
  refine ⟨_, rfl, rd_Index_condition T ha ?_⟩
  cases e : i.only with
  | none =>
    rw [e] at hc k
    have hc : c = .non := hc
    subst hc
    exact ⟨rfl, _, rfl, k⟩
  | some f =>
    rw [e] at hc k
    obtain ⟨fa, rfl, hf⟩ := hc
    obtain ⟨df, hf1⟩ := id hf
    refine ⟨rfl, _, rfl, ⟨_, rfl, rm_Question_filter_of hb ⟨_, rfl, rd_Index_condition T ha (rd_Filter_column T hf1 ⟨b', q, f.col, rfl, hq, fun v hv => ?_⟩)⟩⟩⟩
    cases e2 : VaidxBase.filterOn q f.col with
    | none =>
      rw [e2] at hv
      simp only [e2] at k
      have hv : v = .non := hv
      subst hv
      exact ⟨_, rfl, rfl, _, rfl, k⟩
    | some g =>
      rw [e2] at hv
      simp only [e2] at k
      obtain ⟨ga', rfl, hg⟩ := hv
      obtain ⟨dg, hg1⟩ := id hg
      refine ⟨_, rfl, rfl, _, rfl, ⟨_, rfl, rm_Filter_is_within hg1 ⟨_, rfl, rd_Index_condition T ha ⟨ga', fa, g, f, rfl, hg, hf, k⟩⟩⟩⟩
def sp_first_not_covered (K : PySem.W.Frag) : Sp := fun vs H Q _ => ∃ (a b : Addr) (i : Idx) (q : Qst), vs = [.ref a, .ref b] ∧ IndexAt K H a i ∧ QuestionAt K H b q ∧ i.keys.length ≤ 4 ∧ i.others.length ≤ 4 ∧ (VaidxBase.needed q).length ≤ 1000 ∧ ∀ H', Same H H' → Q (.int (Vaidxb.orNone (Vaidxb.lacking i q))) H'
theorem ok_first_not_covered (T : Txt K mg) : ∃ fd, FnOk P w K mg base CX0 2 (ga K "first_not_covered") fd ["index", "question"] (sp_first_not_covered K) ∧ Binds K fd ["index", "question"] [] := by
  obtain ⟨fd, F, b⟩ := T.F_first_not_covered
  obtain ⟨_, G_Question_needed, b_Question_needed⟩ := ok_Question_needed (P := P) (w := w) (base := base) T
  obtain ⟨_, G_Index_own, b_Index_own⟩ := ok_Index_own (P := P) (w := w) (base := base) T
  refine ⟨fd, F.ok sc_first_not_covered (fun vs H Q E h => let ⟨_, _, _, _, e, _⟩ := h; by rw [e] <;> rfl) (fun cdv A outer s H vs Q E hr h => ⟨_, (pss_cons (ps_for PassesOwn.never rfl (pi_list (pe_meth0 (pv 1) T.cl_Question T.mt_Question_needed G_Question_needed (hr.mono (by decide)) b_Question_needed .nil pass0)) (pg_name (i := 2) sc_first_not_covered.nd rfl (Or.inl rfl))
    (pss_one (ps_if (pt_cmpR op_notIn_seq (pv 2) (pe_meth0 (pv 0) T.cl_Index T.mt_Index_own G_Index_own (hr.mono (by decide)) b_Index_own .nil pass0) (by rfl))
    (pss_one (ps_ret (pv 2)))
    pss_nil)))
  (pss_one (ps_ret (pe_un un_neg pe_int)))), ?_⟩), b⟩
  obtain ⟨a, b', i, q, rfl, hi, hq, l1, l2, l3, k⟩ := h
  obtain ⟨dx, p1, p2, c, ha, h1, h2, hc⟩ := id hi
  obtain ⟨dq, q1, q2, q3, as, hb, g1, gf, g2, g3⟩ := id hq
  refine ⟨_, rfl, rm_Question_needed hb ⟨b', q, rfl, hq, l3, fun H1 p s1 fp ep => ?_⟩⟩
  have ln : (once (VaidxBase.needed q)).length ≤ 1000 := Nat.le_trans (once_len _) l3
  have el : Vaidxb.lacking i q = (once (VaidxBase.needed q)).find? fun c => !(VaidxBase.columnsOf i).contains c := (once_find _ _).symm
  refine ⟨p, rfl, ⟨_, .of ep⟩, ?_⟩
  refine for_list (K := K) (a := p) (xs := natsV (once (VaidxBase.needed q))) (fun j σ H' => ∃ (u : Option V), σ = [some (.ref a), some (.ref b'), u] ∧ Same H H' ∧ H' p = some (.lst (natsV (once (VaidxBase.needed q)))) ∧ Vaidxb.lacking i q = ((once (VaidxBase.needed q)).drop j).find? fun c => !(VaidxBase.columnsOf i).contains c) ⟨none, rfl, s1, ep, el⟩ (fun j σ H' _ ⟨_, _, _, e, _⟩ => .of e) ?_ ?_
  · rintro j y σ H' hy ⟨u, rfl, sH, pH, eH⟩
    obtain ⟨c', ec, rfl⟩ := natsV_of hy
    rw [drop_cons ec, List.find?_cons] at eH
    refine ⟨_, rfl, _, rfl, rm_Index_own (sH _ _ ha) ⟨a, i, rfl, hi.same sH, by omega, by omega, fun H2 r s2 f2 e2 => ?_⟩⟩
    refine ⟨r, _, rfl, .inl (.of e2), rfl, flat_nats _, _, rfl, ?_⟩
    have i1 : (if true = true then !inV (natV c') (natsV (VaidxBase.columnsOf i)) else inV (natV c') (natsV (VaidxBase.columnsOf i))) = !(VaidxBase.columnsOf i).contains c' := by
      rw [← in_nats]
      rfl
    rw [i1]
    refine iteB (fun hc => ?_) (fun hc => ?_)
    · rw [hc] at eH
      refine ⟨_, rfl, ?_⟩
      have q2 := k H2 (sH.trans s2)
      rw [eH] at q2
      exact q2
    · rw [hc] at eH
      exact ⟨_, rfl, sH.trans s2, s2 _ _ pH, eH⟩
  · rintro σ H' ⟨u, rfl, sH, pH, eH⟩
    rw [natsV_len, List.drop_length] at eH
    have q2 := k H' sH
    rw [eH] at q2
    exact ⟨1, rfl, q2⟩
def sp_count_equal (K : PySem.W.Frag) : Sp := fun vs H Q _ => ∃ (a b : Addr) (i : Idx) (q : Qst), vs = [.ref a, .ref b] ∧ IndexAt K H a i ∧ QuestionAt K H b q ∧ Q (natV (VaidxBase.equalKeys q i.keys)) H
theorem ok_count_equal (T : Txt K mg) : ∃ fd, FnOk P w K mg base CX0 3 (ga K "count_equal") fd ["index", "question"] (sp_count_equal K) ∧ Binds K fd ["index", "question"] [] := by
  obtain ⟨fd, F, b⟩ := T.F_count_equal
  obtain ⟨_, G_Question_is_equal, b_Question_is_equal⟩ := ok_Question_is_equal (P := P) (w := w) (base := base) T
  refine ⟨fd, F.ok sc_count_equal (fun vs H Q E h => let ⟨_, _, _, _, e, _⟩ := h; by rw [e] <;> rfl) (fun cdv A outer s H vs Q E hr h => ⟨_, (pss_cons (ps_set (i := 2) sc_count_equal.nd rfl (Or.inl rfl) pe_int)
  (pss_cons (ps_for PassesOwn.never rfl (pi_list (pe_fld (pv 0) rfl)) (pg_name (i := 3) sc_count_equal.nd rfl (Or.inl rfl))
    (pss_cons (ps_if (pt_not (pt_val (pe_meth (pv 1) T.cl_Question T.mt_Question_is_equal G_Question_is_equal (hr.mono (by decide)) b_Question_is_equal .nil pass0 (pa_cons (pv 3) pa_nil))))
    (pss_one (ps_ret (pv 2)))
    pss_nil)
  (pss_one (ps_aug (i := 2) sc_count_equal.nd rfl (Or.inl rfl) pe_int ip_add))))
  (pss_one (ps_ret (pv 2))))), ?_⟩), b⟩
  obtain ⟨a, b', i, q, rfl, hi, hq, k⟩ := h
  obtain ⟨dx, p1, p2, c, ha, h1, h2, hc⟩ := id hi
  obtain ⟨dq, q1, q2, q3, as, hb, g1, gf, g2, g3⟩ := id hq
  refine ⟨_, rfl, rd_Index_key_columns T ha ⟨p1, rfl, ⟨_, .of h1⟩, ?_⟩⟩
  refine for_list (K := K) (a := p1) (xs := natsV i.keys) (fun j σ H' => ∃ (u : Option V), σ = [some (.ref a), some (.ref b'), some (natV j), u] ∧ H' = H ∧ VaidxBase.equalKeys q i.keys = j + VaidxBase.equalKeys q (i.keys.drop j)) ⟨none, rfl, rfl, (Nat.zero_add _).symm⟩ (fun j σ H' _ ⟨_, _, e, _⟩ => by rw [e]; exact .of h1) ?_ ?_
  · rintro j y σ H' hy ⟨u, rfl, rfl, eH⟩
    obtain ⟨c', ec, rfl⟩ := natsV_of hy
    rw [drop_cons ec, equalKeys_cons] at eH
    refine ⟨_, rfl, rm_Question_is_equal hb ⟨_, rfl, b', q, c', rfl, hq, _, rfl, ?_⟩⟩
    refine iteB (fun hc => ?_) (fun hc => ?_)
    · have hc : VaidxBase.equalOn q c' = false := by simpa using hc
      rw [hc] at eH
      rw [eH] at k
      exact ⟨_, rfl, k⟩
    · have hc : VaidxBase.equalOn q c' = true := by simpa using hc
      rw [hc, if_pos rfl] at eH
      exact ⟨_, rfl, _, _, rfl, rfl, _, rfl, rfl, by omega⟩
  · rintro σ H' ⟨u, rfl, rfl, eH⟩
    rw [natsV_len, List.drop_length] at eH
    rw [eH] at k
    rw [natsV_len]
    exact ⟨_, rfl, k⟩
def nextHas (i : Idx) (q : Qst) : Bool := ((i.keys[VaidxBase.equalKeys q i.keys]?).bind (VaidxBase.filterOn q)).isSome
def sp_next_has_filter (K : PySem.W.Frag) : Sp := fun vs H Q _ => ∃ (a b : Addr) (i : Idx) (q : Qst), vs = [.ref a, .ref b] ∧ IndexAt K H a i ∧ QuestionAt K H b q ∧ Q (.bl (nextHas i q)) H
theorem notnone {K : PySem.W.Frag} {H : Hp} {v : V} {o : Option Flt} (h : CondAt K H v o) : (v = .non ∧ o.isSome = false) ∨ (∃ b, v = .ref b ∧ o.isSome = true) := by
  cases o with
  | none => exact .inl ⟨h, rfl⟩
  | some f =>
    obtain ⟨b, e, h⟩ := h
    exact .inr ⟨b, e, rfl⟩
theorem ok_next_has_filter (T : Txt K mg) : ∃ fd, FnOk P w K mg base CX0 4 (ga K "next_has_filter") fd ["index", "question"] (sp_next_has_filter K) ∧ Binds K fd ["index", "question"] [] := by
  obtain ⟨fd, F, b⟩ := T.F_next_has_filter
  obtain ⟨_, G_Question_filter_of, b_Question_filter_of⟩ := ok_Question_filter_of (P := P) (w := w) (base := base) T
  obtain ⟨_, G_count_equal, b_count_equal⟩ := ok_count_equal (P := P) (w := w) (base := base) T
  refine ⟨fd, F.ok sc_next_has_filter (fun vs H Q E h => let ⟨_, _, _, _, e, _⟩ := h; by rw [e] <;> rfl) (fun cdv A outer s H vs Q E hr h => ⟨_, (pss_cons (ps_set (i := 2) sc_next_has_filter.nd rfl (Or.inl rfl) (pe_call G_count_equal (hr.mono (by decide)) rfl T.g_count_equal T.k_count_equal b_count_equal .nil pass0 (pa_cons (pv 0) (pa_cons (pv 1) pa_nil))))
  (pss_one (ps_ret (pe_and (pe_cmpR op_lt (pv 2) (pe_callB call_len_seq (by rfl) T.b_len PySem.boot_len (pa_cons (pe_fld (pv 0) rfl) pa_nil)) (nomark _)) (pe_one (pe_cmpR op_notN (pe_meth (pv 1) T.cl_Question T.mt_Question_filter_of G_Question_filter_of (hr.mono (by decide)) b_Question_filter_of .nil pass0 (pa_cons (pe_ix ix_list (pe_fld (pv 0) rfl) (pv 2) (fun _ _ => rfl)) pa_nil)) pe_non (nomark _))))))), ?_⟩), b⟩
  obtain ⟨a, b', i, q, rfl, hi, hq, k⟩ := h
  obtain ⟨dx, p1, p2, c, ha, h1, h2, hc⟩ := id hi
  obtain ⟨dq, q1, q2, q3, as, hb, g1, gf, g2, g3⟩ := id hq
  refine ⟨_, rfl, _, rfl, a, b', i, q, rfl, hi, hq, ?_⟩
  refine ⟨_, rfl, _, rfl, rd_Index_key_columns T ha ⟨p1, _, rfl, .inl (.of h1), _, _, rfl, rfl, _, rfl, ?_⟩⟩
  rw [natsV_len]
  unfold nextHas at k
  refine iteB (fun hc => ?_) (fun hc => ?_)
  · have hc := of_decide_eq_true hc
    have hc : VaidxBase.equalKeys q i.keys < i.keys.length := by omega
    have e : i.keys[VaidxBase.equalKeys q i.keys]? = some i.keys[VaidxBase.equalKeys q i.keys] := List.getElem?_eq_getElem hc
    rw [e] at k
    refine ⟨_, rfl, rm_Question_filter_of hb ⟨_, rfl, rd_Index_key_columns T ha ⟨_, rfl, p1, _, _, _, rfl, rfl, .of h1, atI_nat (natsV_get e), b', q, _, rfl, hq, fun v hv => ?_⟩⟩⟩
    rcases notnone hv with ⟨rfl, ev⟩ | ⟨b2, rfl, ev⟩
    · exact ⟨rfl, by rw [Option.bind_some, ev] at k; exact k⟩
    · exact ⟨rfl, by rw [Option.bind_some, ev] at k; exact k⟩
  · have hc := of_decide_eq_false hc
    rw [List.getElem?_eq_none (by omega)] at k
    exact k
def sp_range_filters (K : PySem.W.Frag) : Sp := fun vs H Q _ => ∃ (a b : Addr) (i : Idx) (q : Qst), vs = [.ref a, .ref b] ∧ IndexAt K H a i ∧ QuestionAt K H b q ∧ i.keys.length ≤ 4 ∧ ∀ H' r as, Same H H' → H' r = some (.lst (refsV as)) → Paired (FilterAt K H') as (VaidxBase.rangeFilters i q) → Q (.ref r) H'
theorem ok_range_filters (T : Txt K mg) : ∃ fd, FnOk P w K mg base CX0 4 (ga K "range_filters") fd ["index", "question"] (sp_range_filters K) ∧ Binds K fd ["index", "question"] [] := by
  obtain ⟨fd, F, b⟩ := T.F_range_filters
  obtain ⟨_, G_Question_filter_of, b_Question_filter_of⟩ := ok_Question_filter_of (P := P) (w := w) (base := base) T
  obtain ⟨_, G_count_equal, b_count_equal⟩ := ok_count_equal (P := P) (w := w) (base := base) T
  refine ⟨fd, F.ok sc_range_filters (fun vs H Q E h => let ⟨_, _, _, _, e, _⟩ := h; by rw [e] <;> rfl) (fun cdv A outer s H vs Q E hr h => ⟨_, (pss_cons (ps_set (i := 2) sc_range_filters.nd rfl (Or.inl rfl) (pe_slice sl_list (pe_fld (pv 0) rfl) po_none (po_some (pe_op op_add (pe_call G_count_equal (hr.mono (by decide)) rfl T.g_count_equal T.k_count_equal b_count_equal .nil pass0 (pa_cons (pv 0) (pa_cons (pv 1) pa_nil))) pe_int))))
  (pss_one (ps_ret (pe_lc (own := [("column", 3)]) rfl sc_range_filters.nd (pi_list (pv 2)) (blkOk_by (N := ["index", "question", "keys", "column"]) (sc := defScope s_range_filters) (by decide +kernel)) (fun _ _ _ _ _ => (pg_name (i := 3) sc_range_filters.nd rfl (Or.inl rfl))) (fun _ _ _ _ _ => (pts_one (pt_cmpR op_notN (pe_meth (pv 1) T.cl_Question T.mt_Question_filter_of G_Question_filter_of (hr.mono (by decide)) b_Question_filter_of .nil pass0 (pa_cons (pv 3) pa_nil)) pe_non (nomark _)))) (fun _ _ _ _ _ => (pe_meth (pv 1) T.cl_Question T.mt_Question_filter_of G_Question_filter_of (hr.mono (by decide)) b_Question_filter_of .nil pass0 (pa_cons (pv 3) pa_nil))))))), ?_⟩), b⟩
  obtain ⟨a, b', i, q, rfl, hi, hq, l1, k⟩ := h
  obtain ⟨dx, p1, p2, c, ha, h1, h2, hc⟩ := id hi
  obtain ⟨dq, q1, q2, q3, as, hb, g1, gf, g2, g3⟩ := id hq
  refine ⟨_, rfl, rd_Index_key_columns T ha ⟨_, rfl, _, rfl, a, b', i, q, rfl, hi, hq, _, _, rfl, rfl, ?_⟩⟩
  refine ⟨_, rfl, p1, _, rfl, .of h1, fun p hp => ?_⟩
  have ek : cutV (natsV i.keys) none (some ((VaidxBase.equalKeys q i.keys : Nat) + (1 : Int))) = natsV (i.keys.take (VaidxBase.equalKeys q i.keys + 1)) := cut_to _ _
  rw [ek]
  have s1 : Same H (upd H p (.lst (natsV (i.keys.take (VaidxBase.equalKeys q i.keys + 1))))) := sm_new hp
  generalize hks : i.keys.take (VaidxBase.equalKeys q i.keys + 1) = ks at *
  have lk : ks.length ≤ 4 := by
    rw [← hks, List.length_take]
    omega
  have er : VaidxBase.rangeFilters i q = ks.filterMap (VaidxBase.filterOn q) := by
    rw [← hks]
    rfl
  rw [er] at k
  refine ⟨_, rfl, p, rfl, ⟨_, .of upd_same⟩, fun D hD => ?_⟩
  have s2 := sm_new (o := .lst []) hD
  refine lc_list (K := K) (a := p) (xs := natsV ks) (fun j H' => Same H H' ∧ H' p = some (.lst (natsV ks)) ∧ ∃ as, H' D = some (.lst (refsV as)) ∧ Paired (FilterAt K (hide D H')) as ((ks.take j).filterMap (VaidxBase.filterOn q))) ⟨s1.trans s2, s2 _ _ upd_same, [], upd_same, .nil⟩ (fun j H' _ h' => .of h'.2.1) ?_ ?_
  · rintro j y H' hy ⟨sH, pH, as, eD, pD⟩
    obtain ⟨c', ec, rfl⟩ := natsV_of hy
    have hqH := hq.same sH
    have fm : (ks.take (j + 1)).filterMap (VaidxBase.filterOn q) = (ks.take j).filterMap (VaidxBase.filterOn q) ++ (VaidxBase.filterOn q c').toList := by
      rw [take_more ec, List.filterMap_append, List.filterMap_cons]
      cases VaidxBase.filterOn q c' <;> rfl
    refine ⟨rfl, _, rfl, rm_Question_filter_of (sH _ _ hb) ⟨_, rfl, b', q, c', rfl, hqH, fun v hv => ?_⟩⟩
    cases ef : VaidxBase.filterOn q c' with
    | none =>
      rw [ef] at hv fm
      have hv : v = .non := hv
      subst hv
      exact ⟨rfl, _, rfl, sH, pH, as, eD, by rw [fm]; simpa using pD⟩
    | some f =>
      rw [ef] at hv fm
      obtain ⟨fa, rfl, hf⟩ := hv
      refine ⟨rfl, _, rfl, ⟨_, rfl, rm_Question_filter_of (sH _ _ hb) ⟨_, rfl, b', q, c', rfl, hqH, fun v2 hv2 => ?_⟩⟩⟩
      rw [ef] at hv2
      obtain ⟨fb, rfl, hf2⟩ := hv2
      have ld := pD.length
      have ll : ((ks.take j).filterMap (VaidxBase.filterOn q)).length ≤ 4 := by
        refine Nat.le_trans (List.length_filterMap_le _ _) ?_
        rw [List.length_take]
        omega
      refine ⟨_, eD, szl (by rw [refsV_len]; omega), sm_mut sH (sm_back s1 hD), (upd_ne (ne_of_none upd_same hD)).trans pH, as ++ [fb], ?_, ?_⟩
      · rw [upd_same, refsV_snoc]
      · rw [fm]
        rw [hide_upd]
        obtain ⟨df, f1⟩ := hf2
        exact Paired.snoc pD ⟨df, hide_at (ne_of f1 eD (by intro z; cases z)) f1⟩
  · rintro H' ⟨sH, pH, as, eD, pD⟩
    rw [natsV_len, List.take_length] at pD
    exact k _ _ _ sH eD (pair_mono (fun _ _ h => h.same (hide_same D H')) pD)
end
end One
set_option Elab.async false
set_option linter.all false
set_option maxRecDepth 100000
set_option maxHeartbeats 4000000
/-! The walk, C3: the order; the range. -/
namespace One
open PySem PySem.Spec PyProof.Rows L2
open He (ga ma)
open Vaidxb (Done)
section
variable {P : Program} {w : World} {K : PySem.W.Frag} {mg : Str → Option Value} {base : Heap}
def sp_first_not_free (K : PySem.W.Frag) : Sp := fun vs H Q _ => ∃ (a b : Addr) (i : Idx) (q : Qst), vs = [.ref a, .ref b] ∧ IndexAt K H a i ∧ QuestionAt K H b q ∧ i.keys.length ≤ 4 ∧ q.order.length ≤ 4 ∧ ∀ H', Same H H' → Q (.int (Vaidxb.orNone (Vaidxb.unfree i q))) H'
theorem ok_first_not_free (T : Txt K mg) : ∃ fd, FnOk P w K mg base CX0 4 (ga K "first_not_free") fd ["index", "question"] (sp_first_not_free K) ∧ Binds K fd ["index", "question"] [] := by
  obtain ⟨fd, F, b⟩ := T.F_first_not_free
  obtain ⟨_, G_Question_without_equal, b_Question_without_equal⟩ := ok_Question_without_equal (P := P) (w := w) (base := base) T
  refine ⟨fd, F.ok sc_first_not_free (fun vs H Q E h => let ⟨_, _, _, _, e, _⟩ := h; by rw [e] <;> rfl) (fun cdv A outer s H vs Q E hr h => ⟨_, (pss_cons (ps_set (i := 2) sc_first_not_free.nd rfl (Or.inl rfl) (pe_meth (pv 1) T.cl_Question T.mt_Question_without_equal G_Question_without_equal (hr.mono (by decide)) b_Question_without_equal .nil pass0 (pa_cons (pe_fld (pv 0) rfl) pa_nil)))
  (pss_cons (ps_for PassesOwn.never rfl (pi_enum (by rfl) T.b_enumerate (pa_cons (pe_meth (pv 1) T.cl_Question T.mt_Question_without_equal G_Question_without_equal (hr.mono (by decide)) b_Question_without_equal .nil pass0 (pa_cons (pe_fld (pv 1) rfl) pa_nil)) pa_nil)) (pg_tup rfl (pgs_cons (pg_name (i := 3) sc_first_not_free.nd rfl (Or.inl rfl)) (pgs_cons (pg_name (i := 4) sc_first_not_free.nd rfl (Or.inl rfl)) pgs_nil)))
    (pss_one (ps_if (PW.pt (pw_or (pt_cmpR op_ge (pv 3) (pe_callB call_len_seq (by rfl) T.b_len PySem.boot_len (pa_cons (pv 2) pa_nil)) (nomark _)) (pw_or1 (pt_cmpR op_ne (pe_ix ix_list (pv 2) (pv 3) (fun _ _ => rfl)) (pv 4) (nomark _)))))
    (pss_one (ps_ret (pv 4)))
    pss_nil)))
  (pss_one (ps_ret (pe_un un_neg pe_int))))), ?_⟩), b⟩
  obtain ⟨a, b', i, q, rfl, hi, hq, l1, l2, k⟩ := h
  obtain ⟨dx, p1, p2, c, ha, h1, h2, hc⟩ := id hi
  obtain ⟨dq, q1, q2, q3, as, hb, g1, gf, g2, g3⟩ := id hq
  refine ⟨_, rfl, rm_Question_without_equal hb ⟨_, rfl, rd_Index_key_columns T ha ⟨b', p1, q, i.keys, rfl, hq, h1, by omega, fun H1 kr s1 fk ek => ?_⟩⟩⟩
  refine ⟨_, rfl, rm_Question_without_equal (s1 _ _ hb) ⟨_, rfl, rd_Question_order T (s1 _ _ hb) ⟨b', q2, q, q.order, rfl, hq.same s1, s1 _ _ g2, by omega, fun H2 orr s2 fo eo => ?_⟩⟩⟩
  have ek2 := s2 _ _ ek
  have eu : Vaidxb.unfree i q = Vaidxb.firstOff (q.order.filter fun c => !VaidxBase.equalOn q c) (i.keys.filter fun c => !VaidxBase.equalOn q c) := rfl
  generalize hks : (i.keys.filter fun c => !VaidxBase.equalOn q c) = ks at *
  generalize hos : (q.order.filter fun c => !VaidxBase.equalOn q c) = os at *
  refine ⟨orr, _, rfl, .of eo, ?_⟩
  refine for_it walk_enum (fun j σ H' => ∃ (u v : Option V), σ = [some (.ref a), some (.ref b'), some (.ref kr), u, v] ∧ Same H H' ∧ H' kr = some (.lst (natsV ks)) ∧ H' orr = some (.lst (natsV os)) ∧ Vaidxb.unfree i q = Vaidxb.firstOff (os.drop j) (ks.drop j)) ⟨none, none, rfl, s1.trans s2, ek2, eo, eu⟩ (fun j σ H' _ ⟨_, _, _, _, _, e, _⟩ => .of e) ?_ ?_
  · rintro j y σ H' H3 hj ⟨u, v, rfl, sH, kH, oH, eH⟩ ⟨T', x1, y1, rfl, nT, rfl, e1, e2⟩
    cases e1
    obtain ⟨c', ec, rfl⟩ := natsV_of e2
    rw [firstOff_step ec] at eH
    have s3 : Same H' (upd H' T' (.tup [.int (j : Nat), natV c'])) := sm_new nT
    refine ⟨T', _, rfl, .of upd_same, rfl, ?_⟩
    refine ⟨_, _, rfl, _, _, rfl, rfl, _, rfl, _, rfl, _, _, rfl, .inl (.of (s3 _ _ kH)), _, _, rfl, rfl, _, rfl, ?_⟩
    rw [natsV_len]
    refine iteB (fun hc => ?_) (fun hc => ?_)
    · have hc := of_decide_eq_true hc
      have e0 : ks[j]? = none := List.getElem?_eq_none (by omega)
      rw [e0, if_neg (by simp)] at eH
      have q2 := k _ (sH.trans s3)
      rw [eH] at q2
      exact ⟨_, rfl, q2⟩
    · have hc := of_decide_eq_false hc
      have lt : j < ks.length := by omega
      have e0 : ks[j]? = some ks[j] := List.getElem?_eq_getElem lt
      rw [e0] at eH
      refine ⟨_, rfl, _, rfl, kr, _, _, _, rfl, rfl, .of (s3 _ _ kH), atI_nat (natsV_get e0), _, rfl, ?_⟩
      refine ⟨rfl, _, rfl, ?_⟩
      rw [show decide (natV ks[j] = natV c') = (ks[j] == c') from eq_nat _ _]
      refine iteB (fun hd => ?_) (fun hd => ?_)
      · rw [if_neg (fun z => by rw [Option.some.inj z] at hd; simp at hd)] at eH
        have q2 := k _ (sH.trans s3)
        rw [eH] at q2
        exact ⟨_, rfl, q2⟩
      · have hd : ks[j] = c' := by simpa using hd
        rw [if_pos (by rw [hd])] at eH
        exact ⟨_, _, rfl, sH.trans s3, s3 _ _ kH, s3 _ _ oH, eH⟩
  · rintro σ H' ⟨u, v, rfl, sH, kH, oH, eH⟩
    rw [natsV_len, List.drop_length, firstOff_nil] at eH
    have q2 := k H' sH
    rw [eH] at q2
    exact ⟨1, rfl, q2⟩
def sp_all_pass (K : PySem.W.Frag) : Sp := fun vs H Q _ => ∃ (fp b : Addr) (as : List Addr) (fs : List Flt) (g : Grp), vs = [.ref fp, .ref b] ∧ H fp = some (.lst (refsV as)) ∧ Paired (FilterAt K H) as fs ∧ GroupAt K H b g ∧ (∀ f ∈ fs, f.col < g.row.length) ∧ fs.length ≤ 1000 ∧ ∀ H', Same H H' → Q (.bl (fs.all (VaidxBase.passes g.row))) H'
theorem ok_all_pass (T : Txt K mg) : ∃ fd, FnOk P w K mg base CX0 2 (ga K "all_pass") fd ["filters", "group"] (sp_all_pass K) ∧ Binds K fd ["filters", "group"] [] := by
  obtain ⟨fd, F, b⟩ := T.F_all_pass
  obtain ⟨_, G_Filter_passes, b_Filter_passes⟩ := ok_Filter_passes (P := P) (w := w) (base := base) T
  refine ⟨fd, F.ok sc_all_pass (fun vs H Q E h => let ⟨_, _, _, _, _, e, _⟩ := h; by rw [e] <;> rfl) (fun cdv A outer s H vs Q E hr h => ⟨_, (pss_one (ps_ret (pe_cmpR (op_eqE (huOf0 hr)) (pe_lc (own := [("one", 2)]) rfl sc_all_pass.nd (pi_list (pv 0)) (blkOk_by (N := ["filters", "group", "one"]) (sc := defScope s_all_pass) (by decide +kernel)) (fun _ _ _ _ _ => (pg_name (i := 2) sc_all_pass.nd rfl (Or.inl rfl))) (fun _ _ _ _ _ => (pts_one (pt_not (pt_val (pe_meth (pv 2) T.cl_Filter T.mt_Filter_passes G_Filter_passes (hr.mono (by decide)) b_Filter_passes .nil pass0 (pa_cons (pe_fldK (K := K) rfl (pv 1) rfl) pa_nil)))))) (fun _ _ _ _ _ => (pv 2))) (pe_lst pa_nil) (nomark _)))), ?_⟩), b⟩
  obtain ⟨fp, b', as, fs, g, rfl, h1, hf, ⟨dg, pg, hg1, hg2⟩, hc, hlen, k⟩ := h
  refine ⟨_, rfl, fp, rfl, ⟨_, .of h1⟩, fun D hD => ?_⟩
  have el : as.length = fs.length := hf.length
  refine lc_of (fs.zip as) (fun p => if !VaidxBase.passes g.row p.1 then some (V.ref p.2) else none) hD (by rw [refsV_len, List.length_zip]; omega) (by rw [List.length_zip]; omega) (.of h1) (fun i x b H' hx hb s R S kR kS => ?_) fun H' s e => ?_
  · obtain ⟨fa, ea, rfl⟩ := refsV_of hx
    obtain ⟨f, ef, hfa⟩ := pair_get hf ea
    rw [zip_get ef ea] at hb
    cases hb
    obtain ⟨df, hf1⟩ := id hfa
    refine ⟨rfl, _, rfl, rm_Filter_passes (s _ _ hf1) ⟨_, rfl, rd_Group_values_told T (s _ _ hg1) ⟨fa, pg, f, g.row, rfl, hfa.same s, s _ _ hg2, hc f (List.mem_of_getElem? ef), _, rfl, ?_⟩⟩⟩
    refine iteB (fun c => ?_) (fun c => ?_)
    · exact ⟨_, rfl, kR _ _ (if_pos c) (Same.refl _)⟩
    · exact kS (if_neg (by rw [c]; exact Bool.false_ne_true)) _ (Same.refl _)
  · refine ⟨by show 0 ≤ sizeLine; exact Nat.zero_le _, fun E hE => ⟨D, E, _, rfl, rfl, .of ((upd_ne (ne_of_none e hE)).trans e), .of upd_same, ?_⟩⟩
    rw [none_out, zip_all _ el]
    exact k _ (s.trans (sm_new hE))
end
end One
set_option Elab.async false
set_option linter.all false
set_option maxRecDepth 100000
set_option maxHeartbeats 4000000
/-! The walk, C4: the groups in the range. -/
namespace One
open PySem PySem.Spec PyProof.Rows L2
open He (ga ma)
open Vaidxb (Done)
section
variable {P : Program} {w : World} {K : PySem.W.Frag} {mg : Str → Option Value} {base : Heap}
theorem sql_same {H H' : Hp} {a : Addr} {xs : List V} (s : Same H H') (h : SqL K H a xs) : SqL K H' a xs := (Pres.of (K := K) s).seq h
theorem sqt_same {H H' : Hp} {a : Addr} {xs : List V} (s : Same H H') (h : SqT K H a xs) : SqT K H' a xs := by
  rcases h with (h | ⟨o, h⟩) | h
  · exact .inl (.inl (s _ _ h))
  · exact .inl (.inr ⟨o, s _ _ h⟩)
  · exact .inr h
theorem kn_same {H H' : Hp} {b : KN} (s : Same H H') : TupKN K H b → TupKN K H' b := fun ⟨kp, h1, h2⟩ => ⟨kp, sqt_same s h1, sql_same s h2⟩
def pairKN (b : KN) : List Int × Nat := (b.2.1, b.2.2)
def pairGN (cs : List Nat) (p : GN) : List Int × Nat := (keyOf cs p.1.row, p.2)
theorem order_same {cs : List Nat} {bs : List KN} {l : List GN} (h : bs.map pairKN = l.map (pairGN cs)) : (insAll byKN bs).map (fun b => b.2.2) = (insAll (byKey cs) l).map (·.2) := by
  have e1 := insAll_map (lt := byKN) (lt' := fun a b : List Int × Nat => lexI a.1 b.1) pairKN (fun _ _ => rfl) bs
  have e2 := insAll_map (lt := byKey cs) (lt' := fun a b : List Int × Nat => lexI a.1 b.1) (pairGN cs) (fun _ _ => rfl) l
  rw [h, ← e2] at e1
  have e3 := congrArg (List.map Prod.snd) e1
  rw [List.map_map, List.map_map] at e3
  exact e3
theorem grow_same {cs : List Nat} {bs : List KN} {l : List GN} (h : bs.map pairKN = l.map (pairGN cs)) (hl : l.Pairwise (fun a b => a.2 < b.2)) : bs.Pairwise (fun a b => a.2.2 < b.2.2) := by
  have e1 : (bs.map pairKN).Pairwise (fun a b => a.2 < b.2) := by
    rw [h]
    exact List.pairwise_map.mpr hl
  exact (List.pairwise_map (R := fun a b : List Int × Nat => a.2 < b.2) (f := pairKN)).mp e1
theorem keyOf_v (cs r : List Nat) : (keyOf cs r).map V.int = natsV (cs.map fun c => VaidxBase.valueAt r c) := by
  unfold keyOf natsV
  rw [List.map_map, List.map_map]
  rfl
theorem filters_col {n : Nat} {q : Qst} {i : Idx} (h : ∀ f ∈ q.filters, f.col < n) : ∀ f ∈ VaidxBase.rangeFilters i q, f.col < n := fun f hf => by
  unfold VaidxBase.rangeFilters at hf
  obtain ⟨c, _, e⟩ := List.mem_filterMap.mp hf
  exact h f (List.mem_of_find?_eq_some e)
theorem range_len (i : Idx) (q : Qst) : (VaidxBase.rangeFilters i q).length ≤ i.keys.length := by
  unfold VaidxBase.rangeFilters
  refine Nat.le_trans (List.length_filterMap_le _ _) ?_
  rw [List.length_take]
  omega
def sp_in_range (K : PySem.W.Frag) : Sp := fun vs H Q _ => ∃ (a b c : Addr) (i : Idx) (q : Qst) (t : Tbl), vs = [.ref a, .ref b, .ref c] ∧ IndexAt K H a i ∧ QuestionAt K H b q ∧ TableAt K H c t ∧ WfT t ∧ WfI t.cols i ∧ WfQ t.cols q ∧
  ∀ H' r, Same H H' → H r = none → H' r = some (.lst (natsV ((ranged t i q).map (·.2)))) → Q (.ref r) H'
theorem ok_in_range (T : Txt K mg) : ∃ fd, FnOk P w K mg base CX0 5 (ga K "in_range") fd ["index", "question", "table"] (sp_in_range K) ∧ Binds K fd ["index", "question", "table"] [] := by
  obtain ⟨fd, F, b⟩ := T.F_in_range
  obtain ⟨_, G_all_pass, b_all_pass⟩ := ok_all_pass (P := P) (w := w) (base := base) T
  obtain ⟨_, G_Index_has, b_Index_has⟩ := ok_Index_has (P := P) (w := w) (base := base) T
  obtain ⟨_, G_range_filters, b_range_filters⟩ := ok_range_filters (P := P) (w := w) (base := base) T
  refine ⟨fd, F.ok sc_in_range (fun vs H Q E h => let ⟨_, _, _, _, _, _, e, _⟩ := h; by rw [e] <;> rfl) (fun cdv A outer s H vs Q E hr h => ⟨_, (pss_cons (ps_set (i := 3) sc_in_range.nd rfl (Or.inl rfl) (pe_call G_range_filters (hr.mono (by decide)) rfl T.g_range_filters T.k_range_filters b_range_filters .nil pass0 (pa_cons (pv 0) (pa_cons (pv 1) pa_nil))))
  (pss_cons (ps_set (i := 4) sc_in_range.nd rfl (Or.inl rfl) (pe_lst pa_nil))
  (pss_cons (ps_for PassesOwn.never rfl (pi_enum (by rfl) T.b_enumerate (pa_cons (pe_fld (pv 2) rfl) pa_nil)) (pg_tup rfl (pgs_cons (pg_name (i := 5) sc_in_range.nd rfl (Or.inl rfl)) (pgs_cons (pg_name (i := 6) sc_in_range.nd rfl (Or.inr rfl)) pgs_nil)))
    (pss_one (ps_if (PW.pt (pw_and (pt_val (pe_meth (pv 0) T.cl_Index T.mt_Index_has G_Index_has (hr.mono (by decide)) b_Index_has .nil pass0 (pa_cons (pv 6) pa_nil))) (pw_and1 (pt_val (pe_call G_all_pass (hr.mono (by decide)) rfl T.g_all_pass T.k_all_pass b_all_pass .nil pass0 (pa_cons (pv 3) (pa_cons (pv 6) pa_nil)))))))
    (pss_one (ps_expr (pe_bm PySem.F.plainAttrs_list PySem.F.slot_list_append PySem.F.type_list_append mt_append (pv 4) (pa_cons (pe_tup (pa_cons (pe_lc (own := [("column", 9)]) rfl sc_in_range.nd (pi_list (pe_fld (pv 0) rfl)) (blkOk_by (N := ["index", "question", "table", "filters", "found", "number", "group", "numbers", "key", "column"]) (sc := defScope s_in_range) (by decide +kernel)) (fun _ _ _ _ _ => (pg_name (i := 9) sc_in_range.nd rfl (Or.inl rfl))) (fun _ _ _ _ _ => pts_nil) (fun _ _ _ _ _ => (pe_ix (ix_listK (K := K) rfl) (pe_fldK (K := K) rfl (pv 6) rfl) (pv 9) (fun _ _ => rfl)))) (pa_cons (pv 5) pa_nil))) pa_nil))))
    pss_nil)))
  (pss_cons (ps_setLc (i := 7) (own := [("number", 5), ("key", 8)]) rfl sc_in_range.nd rfl rfl (sw_true rfl rfl rfl (by decide +kernel)) (pi_list (pe_callB (cr_sortKN (huOf hr)) (by rfl) T.b_sorted (by decide +kernel) (pa_cons (pv 4) pa_nil))) (blkOk_by (N := ["index", "question", "table", "filters", "found", "number", "group", "numbers", "key", "column"]) (sc := defScope s_in_range) (by decide +kernel)) (fun _ _ _ _ _ => (pg_tupK (K := K) (n := 2) rfl rfl (pgs_cons (pg_name (i := 8) sc_in_range.nd rfl (Or.inl rfl)) (pgs_cons (pg_name (i := 5) sc_in_range.nd rfl (Or.inl rfl)) pgs_nil)))) (fun _ _ _ _ _ => pts_nil) (fun _ _ _ _ _ => (pv 5)))
  (pss_cons (ps_if (pt_cmpR op_eq (pe_fld (pv 1) rfl) pe_int (nomark _))
    (pss_one (ps_ret (pe_revL (pv 7))))
    pss_nil)
  (pss_one (ps_ret (pv 7)))))))), ?_⟩), b⟩
  obtain ⟨a, b', c, i, q, t, rfl, hi, hq, ht, wt, wi, wq, k⟩ := h
  obtain ⟨dx, p1, p2, cv, ha, h1, h2, hc⟩ := id hi
  obtain ⟨dq, q1, q2, q3, fas, hb, g1, gf, g2, g3⟩ := id hq
  obtain ⟨dt, tp, gas, hct, htp, hg⟩ := id ht
  have eg : gas.length = t.groups.length := hg.length
  refine ⟨_, rfl, _, rfl, a, b', i, q, rfl, hi, hq, wi.kl, fun H1 rf ras s1 erf prf => ?_⟩
  refine ⟨by show 0 ≤ sizeLine; exact Nat.zero_le _, fun F hF => ?_⟩
  have F0 : H F = none := sm_back s1 hF
  have sF : Same H1 (upd H1 F (.lst [])) := sm_new hF
  have t1 := s1.trans sF
  refine ⟨_, rfl, rd_Table_groups T (t1 _ _ hct) ⟨tp, _, rfl, .of (t1 _ _ htp), ?_⟩⟩
  have rF : rf ≠ F := ne_of_none erf hF
  refine for_it walk_enum (fun j σ H' => ∃ (u v : Option V) (bs : List KN), σ = [some (.ref a), some (.ref b'), some (.ref c), some (.ref rf), some (.ref F), u, v, none, none, none] ∧ Same H1 (hide F H') ∧ H' F = some (.lst (bs.map fun b => V.ref b.1)) ∧ (∀ b ∈ bs, TupKN K (hide F H') b) ∧
    bs.map pairKN = (((placed t).take j).filter fun p => inTest i q p.1.row).map (pairGN i.keys)) ⟨none, none, [], rfl, ?_, upd_same, (fun _ h => by cases h), rfl⟩ (fun j σ H' _ ⟨_, _, _, _, s, _⟩ => .of (hide_same F H' _ _ (s _ _ (s1 _ _ htp)))) ?_ ?_
  · intro b o hbo
    exact hide_at (ne_of_none hbo hF) (sF _ _ hbo)
  · rintro j y σ H' H3 hj ⟨u, v, bs, rfl, sH, FH, TH, eH⟩ ⟨T', x1, y1, rfl, nT, rfl, e1, e2⟩
    cases e1
    obtain ⟨gp, egp, rfl⟩ := refsV_of e2
    obtain ⟨g, eg2, hgp⟩ := pair_get hg egp
    have s3 : Same H' (upd H' T' (.tup [.int (j : Nat), .ref gp])) := sm_new nT
    have sH1 : Same H H' := (s1.trans sH).trans (hide_same F H')
    have t3 := sH1.trans s3
    have ep : (placed t)[j]? = some (g, j) := by
      unfold placed
      rw [List.getElem?_zipIdx, eg2]
      simp
    rw [refsV_len, eg] at hj
    have wg : g.row.length = t.cols := wt.wide g (List.mem_of_getElem? eg2)
    have more : (((placed t).take (j + 1)).filter fun p => inTest i q p.1.row) = (((placed t).take j).filter fun p => inTest i q p.1.row) ++ if inTest i q g.row then [(g, j)] else [] := by
      rw [take_more ep, List.filter_append, List.filter_cons]
      rfl
    refine ⟨T', _, rfl, .of upd_same, rfl, ?_⟩
    refine ⟨_, _, rfl, _, _, rfl, rfl, _, rfl, rm_Index_has (t3 _ _ ha) ⟨_, rfl, a, gp, i, g, rfl, hi.same t3, hgp.same t3, fun f ef => by rw [wg]; exact wi.ccol f ef, _, rfl, ?_⟩⟩
    refine iteB (fun hc1 => ?_) (fun hc1 => ?_)
    · refine ⟨_, rfl, _, rfl, rf, gp, ras, VaidxBase.rangeFilters i q, g, rfl, ?_, ?_, hgp.same t3, fun f hf => by rw [wg]; exact filters_col wq.fcol f hf, Nat.le_trans (range_len i q) (by have := wi.kl; omega), fun H4 s4 => ⟨_, rfl, ?_⟩⟩
      · exact s3 _ _ (hide_same F H' _ _ (sH _ _ erf))
      · exact pair_mono (fun _ _ h => ((h.same sH).same (hide_same F H')).same s3) prf
      refine iteB (fun hc2 => ?_) (fun hc2 => ?_)
      · have hn : inTest i q g.row = true := by
          unfold inTest
          rw [hc1, hc2]
          rfl
        rw [hn, if_pos rfl] at more
        have t4 : Same H' H4 := s3.trans s4
        have tH4 : Same H H4 := sH1.trans t4
        have F4 : H4 F = some (.lst (bs.map fun b => V.ref b.1)) := t4 _ _ FH
        have hgp4 := (hgp.same sH1).same t4
        obtain ⟨dg, pg, hg1, hg2⟩ := id hgp4
        refine ⟨_, rfl, .inl ⟨rfl, _, .of F4⟩, _, rfl, rd_Index_key_columns T (tH4 _ _ ha) ⟨p1, rfl, ⟨_, .of (tH4 _ _ h1)⟩, fun D hD => ?_⟩⟩
        refine lc_of i.keys (fun c => some (natV (VaidxBase.valueAt g.row c))) hD (natsV_len _) (by have := wi.kl; omega) (.of (tH4 _ _ h1)) (fun m y b H5 hy hb5 s5 R S kR kS => ?_) fun H5 s5 e5 => ?_
        · obtain ⟨cc, ecc, rfl⟩ := natsV_of hy
          rw [hb5] at ecc
          cases ecc
          exact ⟨rfl, _, rfl, rd_Group_values_told T (s5 _ _ hg1) ⟨_, rfl, pg, _, _, _, rfl, rfl, .of (s5 _ _ hg2), at_nat (by rw [wg]; exact wi.kcol b (List.mem_of_getElem? hb5)), kR _ _ rfl (Same.refl _)⟩⟩
        · rw [fm_some] at e5
          have e5 : H5 D = some (.lst ((keyOf i.keys g.row).map V.int)) := by
            rw [e5, keyOf_v]
            unfold natsV
            rw [List.map_map]
            rfl
          refine ⟨_, rfl, by show 2 ≤ sizeLine; exact sz (by decide), fun z hz => ?_⟩
          have s6 : Same H5 (upd H5 z (.tup [.ref D, .int (j : Nat)])) := sm_new hz
          have t6 := (t4.trans s5).trans s6
          have F6 := t6 _ _ FH
          have zF : z ≠ F := (ne_of_none ((t4.trans s5) _ _ FH) hz).symm
          have DF : D ≠ F := (ne_of_none F4 hD).symm
          have lb : bs.length ≤ j := by
            have := congrArg List.length eH
            rw [List.length_map, List.length_map] at this
            rw [this]
            refine Nat.le_trans (List.length_filter_le _ _) ?_
            rw [List.length_take]
            omega
          refine ⟨F, _, _, rfl, rfl, F6, szl (by rw [List.length_map]; have := wt.few; omega), _, _, bs ++ [(z, keyOf i.keys g.row, j)], rfl, ?_, ?_, ?_, ?_⟩
          · rw [hide_upd]
            exact sH.trans (hide_mono t6)
          · rw [upd_same, List.map_append]
            rfl
          · intro b hb7
            rw [hide_upd]
            rcases List.mem_append.mp hb7 with h8 | h8
            · exact kn_same (hide_mono t6) (TH b h8)
            · rw [List.mem_singleton] at h8
              subst h8
              exact ⟨D, .of (hide_at zF upd_same), .of (hide_at DF (s6 _ _ e5))⟩
          · rw [more, List.map_append, List.map_append, eH]
            rfl
      · have hn : inTest i q g.row = false := by
          unfold inTest
          rw [hc1, hc2]
          rfl
        rw [hn, if_neg Bool.false_ne_true, List.append_nil] at more
        refine ⟨_, _, bs, rfl, ?_, ?_, ?_, ?_⟩
        · exact sH.trans (hide_mono (s3.trans s4))
        · exact s4 _ _ (s3 _ _ FH)
        · exact fun b hb => kn_same (hide_mono (s3.trans s4)) (TH b hb)
        · rw [more]
          exact eH
    · have hn : inTest i q g.row = false := by
        unfold inTest
        rw [hc1]
        rfl
      rw [hn, if_neg Bool.false_ne_true, List.append_nil] at more
      refine ⟨_, _, bs, rfl, ?_, ?_, ?_, ?_⟩
      · exact sH.trans (hide_mono s3)
      · exact s3 _ _ FH
      · exact fun b hb => kn_same (hide_mono s3) (TH b hb)
      · rw [more]
        exact eH
  · rintro σ H' ⟨u, v, bs, rfl, sH, FH, TH, eH⟩
    have lp : (placed t).length = t.groups.length := by
      unfold placed
      rw [List.length_zipIdx]
    have eH : bs.map pairKN = (cand t i q).map (pairGN i.keys) := by
      rw [refsV_len, eg, ← lp, List.take_length] at eH
      exact eH
    have sHH : Same H H' := (s1.trans sH).trans (hide_same F H')
    have lb : bs.length ≤ 12 := by
      have := congrArg List.length eH
      rw [List.length_map, List.length_map] at this
      rw [this]
      refine Nat.le_trans (List.length_filter_le _ _) ?_
      rw [lp]
      exact wt.few
    have es := order_same eH
    refine ⟨_, rfl, F, bs, rfl, .of FH, fun b hb => kn_same (hide_same F H') (TH b hb), grow_same eH (cand_order t i q), fun S hS => ?_⟩
    have sS : Same H' (upd H' S (.lst ((insAll byKN bs).map fun b => V.ref b.1))) := sm_new hS
    have tS := sHH.trans sS
    refine ⟨S, rfl, ⟨_, .of upd_same⟩, fun D hD => ?_⟩
    have hp := insAll_perm byKN bs
    have lS : (insAll byKN bs).length ≤ 12 := by
      rw [hp.length_eq]
      exact lb
    refine lc_of (insAll byKN bs) (fun b => some (natV b.2.2)) hD (by rw [List.length_map]) (by omega) (.of upd_same) (fun m y b H5 hy hb5 s5 R St kR kS => ?_) fun H5 s5 e5 => ?_
    · rw [List.getElem?_map, hb5] at hy
      cases hy
      obtain ⟨kp, k1, k2⟩ := TH b (hp.subset (List.mem_of_getElem? hb5))
      have k3 := sqt_same (((hide_same F H').trans sS).trans s5) k1
      exact ⟨_, _, rfl, k3, rfl, _, _, rfl, _, _, rfl, rfl, rfl, _, rfl, kR _ _ rfl (Same.refl _)⟩
    · rw [fm_some] at e5
      have e5 : H5 D = some (.lst (natsV ((insAll (byKey i.keys) (cand t i q)).map (·.2)))) := by
        rw [e5, ← es]
        unfold natsV
        rw [List.map_map]
        rfl
      have t5 := tS.trans s5
      have fD : H D = none := sm_back tS hD
      have bb : decide (V.int (if q.back then 1 else 0) = V.int 1) = q.back := by
        cases q.back <;> rfl
      refine ⟨_, rfl, rd_Question_backwards T (t5 _ _ hb) ⟨rfl, _, rfl, ?_⟩⟩
      rw [bb]
      unfold ranged at k
      refine iteB (fun hbk => ?_) (fun hbk => ?_)
      · rw [if_pos hbk] at k
        refine ⟨_, rfl, D, _, rfl, .of e5, fun R hR => k _ R (t5.trans (sm_new hR)) (sm_back t5 hR) ?_⟩
        rw [upd_same, List.map_reverse]
        unfold natsV
        rw [List.map_reverse]
      · rw [if_neg (by rw [hbk]; exact Bool.false_ne_true)] at k
        exact ⟨_, rfl, k _ D t5 fD e5⟩
def sp_entries_in_range (K : PySem.W.Frag) : Sp := fun vs H Q _ => ∃ (a b c : Addr) (i : Idx) (q : Qst) (t : Tbl), vs = [.ref a, .ref b, .ref c] ∧ IndexAt K H a i ∧ QuestionAt K H b q ∧ TableAt K H c t ∧ WfT t ∧ WfI t.cols i ∧ WfQ t.cols q ∧
  ∀ H', Same H H' → Q (natV (VaidxBase.rowsOf (VaidxBase.entries t i q))) H'
theorem ok_entries_in_range (T : Txt K mg) : ∃ fd, FnOk P w K mg base CX0 6 (ga K "entries_in_range") fd ["index", "question", "table"] (sp_entries_in_range K) ∧ Binds K fd ["index", "question", "table"] [] := by
  obtain ⟨fd, F, b⟩ := T.F_entries_in_range
  obtain ⟨_, G_in_range, b_in_range⟩ := ok_in_range (P := P) (w := w) (base := base) T
  refine ⟨fd, F.ok sc_entries_in_range (fun vs H Q E h => let ⟨_, _, _, _, _, _, e, _⟩ := h; by rw [e] <;> rfl) (fun cdv A outer s H vs Q E hr h => ⟨_, (pss_one (ps_ret (pe_callB (cr_sum rfl) (by rfl) T.b_sum (by decide +kernel) (pa_cons (pe_lc (own := [("number", 3)]) rfl sc_entries_in_range.nd (pi_list (pe_call G_in_range (hr.mono (by decide)) rfl T.g_in_range T.k_in_range b_in_range .nil pass0 (pa_cons (pv 0) (pa_cons (pv 1) (pa_cons (pv 2) pa_nil))))) (blkOk_by (N := ["index", "question", "table", "number"]) (sc := defScope s_entries_in_range) (by decide +kernel)) (fun _ _ _ _ _ => (pg_name (i := 3) sc_entries_in_range.nd rfl (Or.inl rfl))) (fun _ _ _ _ _ => pts_nil) (fun _ _ _ _ _ => (pe_fldK (K := K) rfl (pe_ix (ix_listK (K := K) rfl) (pe_fldK (K := K) rfl (pv 2) rfl) (pv 3) (fun _ _ => rfl)) rfl))) pa_nil)))), ?_⟩), b⟩
  obtain ⟨a, b', c, i, q, t, rfl, hi, hq, ht, wt, wi, wq, k⟩ := h
  refine ⟨_, rfl, _, rfl, _, rfl, a, b', c, i, q, t, rfl, hi, hq, ht, wt, wi, wq, fun H1 r s1 fr er => ?_⟩
  refine ⟨r, rfl, ⟨_, .of er⟩, fun D hD => ?_⟩
  obtain ⟨dt, tp, gas, hct, htp, hg⟩ := ht.same s1
  refine lc_of (ranged t i q) (fun p => some (natV p.1.count)) hD (by rw [natsV_len, List.length_map]) (by have := ranged_len t i q; have := wt.few; omega) (.of er) (fun m y b H5 hy hb5 s5 R St kR kS => ?_) fun H5 s5 e5 => ?_
  · obtain ⟨nn, en, rfl⟩ := natsV_of hy
    rw [List.getElem?_map, hb5] at en
    have en : b.2 = nn := Option.some.inj en
    subst en
    have eg := ranged_get (List.mem_of_getElem? hb5)
    obtain ⟨gp, egp, hgp⟩ := pair_get' hg eg
    obtain ⟨dg, pg, hg1, hg2⟩ := hgp.same s5
    exact ⟨rfl, _, rfl, rd_Table_groups T (s5 _ _ hct) ⟨_, rfl, tp, _, _, _, rfl, rfl, .of (s5 _ _ htp), atI_nat (refsV_get egp), rd_Group_count T hg1 (kR _ _ rfl (Same.refl _))⟩⟩
  · have e5 : H5 D = some (.lst ((((ranged t i q).map fun p => p.1.count).map fun (n : Nat) => (n : Int)).map V.int)) := by
      rw [e5, fm_some, List.map_map, List.map_map]
      rfl
    refine ⟨_, _, rfl, .of e5, ?_⟩
    rw [sum_nats]
    have er : VaidxBase.rowsOf (VaidxBase.entries t i q) = ((ranged t i q).map fun p => p.1.count).sum := by
      rw [ranged_entries, rowsOf_sum, List.map_map]
      rfl
    rw [← er]
    exact k H5 (s1.trans s5)
end
end One
set_option Elab.async false
set_option linter.all false
set_option maxRecDepth 100000
set_option maxHeartbeats 4000000
/-! The walk, C5: the steps; both ways. -/
namespace One
open PySem PySem.Spec PyProof.Rows L2
open He (ga ma)
open Vaidxb (Done)
section
variable {P : Program} {w : World} {K : PySem.W.Frag} {mg : Str → Option Value} {base : Heap}
/-- the filters looked at, or None -/
def LkAt (K : PySem.W.Frag) (H : Hp) (n : Nat) (v : V) : Option (List Flt) → Prop
  | none => v = .non
  | some fs => ∃ fp as, v = .ref fp ∧ H fp = some (.lst (refsV as)) ∧ Paired (FilterAt K H) as fs ∧ (∀ f ∈ fs, f.col < n) ∧ fs.length ≤ 1000
theorem LkAt.same {H H' : Hp} {n : Nat} {v : V} {o : Option (List Flt)} (s : Same H H') (h : LkAt K H n v o) : LkAt K H' n v o := by
  cases o with
  | none => exact h
  | some fs =>
    obtain ⟨fp, as, e, h1, h2, h3, h4⟩ := h
    exact ⟨fp, as, e, s _ _ h1, pair_mono (fun _ _ h => h.same s) h2, h3, h4⟩
theorem tif_join {t : TT} {s1 s2 : TS} {D : Ends} {σ : L2.St} {H : Hp} (c : Bool) (N : L2.St) (ht : ∀ R : Bool → Hp → Prop, (∀ H', Same H H' → R c H') → t σ H R)
    (h1 : c = true → ∀ H' (D' : Ends), Same H H' → D'.nx N H' → s1 D' σ H') (h2 : c = false → ∀ H' (D' : Ends), Same H H' → D'.nx N H' → s2 D' σ H') (hn : ∀ H', Same H H' → D.nx N H') : tIfS t s1 s2 D σ H := by
  refine ht _ fun H' s => ?_
  cases c with
  | true => exact iteT (h1 rfl H' D s (hn H' s))
  | false => exact iteF (h2 rfl H' D s (hn H' s))
theorem tif {t : TT} {s1 s2 : TS} {D : Ends} {σ : L2.St} {H : Hp} (c : Bool) (ht : ∀ R : Bool → Hp → Prop, (∀ H', Same H H' → R c H') → t σ H R)
    (h1 : c = true → ∀ H', Same H H' → s1 D σ H') (h2 : c = false → ∀ H', Same H H' → s2 D σ H') : tIfS t s1 s2 D σ H := by
  refine ht _ fun H' s => ?_
  cases c with
  | true => exact iteT (h1 rfl H' s)
  | false => exact iteF (h2 rfl H' s)
theorem if_next {i : Nat} {v : V} {σ : L2.St} {H : Hp} {t : TT} {s1 s2 u : TS} {D : Ends} (h : tIfS t s1 s2 { D with nx := u D } (σ.set i (some v)) H) : gName i v σ H (tSeq (tIfS t s1 s2) u D) := h
theorem if_asg {i : Nat} {x : V} {σ : L2.St} {H : Hp} {t : TT} {s1 s2 u : TS} {D : Ends} (h : tIfS t s1 s2 { D with nx := u D } (σ.set i (some x)) H) : tSeq (tAsg (tC x) (gName i)) (tSeq (tIfS t s1 s2) u) D σ H := h
theorem step_cut {q : Qst} {lk : Option (List Flt)} {free : Bool} {p : GN} {left : Nat} (h : (VaidxBase.found q p.1.row && (free && decide (0 < q.limit))) = true) :
    natV (stepM q lk free p left).touched = V.int (if (left : Int) < (p.1.count : Int) then (left : Int) else (p.1.count : Int)) ∧ natV (leftM q free p left) = V.int ((left : Int) - (if (left : Int) < (p.1.count : Int) then (left : Int) else (p.1.count : Int))) := by
  simp only [Bool.and_eq_true, decide_eq_true_eq] at h
  have h' : VaidxBase.found q p.1.row = true ∧ free = true ∧ 0 < q.limit := h
  unfold stepM leftM natV
  dsimp only
  rw [if_pos h', if_pos h']
  by_cases c : (left : Int) < (p.1.count : Int)
  · rw [if_pos c]
    have e : min p.1.count left = left := Nat.min_eq_right (by omega)
    rw [e]
    exact ⟨rfl, by rw [Int.sub_self, Nat.sub_self]; rfl⟩
  · rw [if_neg c]
    have e : min p.1.count left = p.1.count := Nat.min_eq_left (by omega)
    rw [e]
    refine ⟨rfl, ?_⟩
    rw [Int.ofNat_sub (by omega)]
theorem step_all {q : Qst} {lk : Option (List Flt)} {free : Bool} {p : GN} {left : Nat} (h : (VaidxBase.found q p.1.row && (free && decide (0 < q.limit))) = false) :
    natV (stepM q lk free p left).touched = natV p.1.count ∧ natV (leftM q free p left) = natV left := by
  have h' : ¬ (VaidxBase.found q p.1.row = true ∧ free = true ∧ 0 < q.limit) := fun z => by
    rw [z.1, z.2.1, decide_eq_true z.2.2] at h
    cases h
  unfold stepM leftM
  dsimp only
  rw [if_neg h', if_neg h']
  exact ⟨rfl, rfl⟩
theorem step_found {q : Qst} {lk : Option (List Flt)} {free : Bool} {p : GN} {left : Nat} : V.int (((stepM q lk free p left).touched : Int) * (if VaidxBase.found q p.1.row = true then 1 else 0)) = natV (stepM q lk free p left).found := by
  unfold stepM natV
  dsimp only
  cases VaidxBase.found q p.1.row with
  | true => rw [if_pos rfl, Int.mul_one]; rfl
  | false => rw [if_neg Bool.false_ne_true, Int.mul_zero]; rfl
def lkTest (lk : Option (List Flt)) (r : List Nat) : Bool := match lk with
  | none => false
  | some fs => fs.all (VaidxBase.passes r)
theorem step_looked {q : Qst} {lk : Option (List Flt)} {free : Bool} {p : GN} {left : Nat} : (stepM q lk free p left).looked = if lkTest lk p.1.row = true then (stepM q lk free p left).touched else 0 := by
  unfold stepM lkTest
  dsimp only
  cases lk with
  | none => rfl
  | some fs => rfl
def sp_steps_of (K : PySem.W.Frag) : Sp := fun vs H Q _ => ∃ (a c np : Addr) (lv : V) (free : Bool) (q : Qst) (t : Tbl) (l : List GN) (lk : Option (List Flt)), vs = [.ref a, .ref c, .ref np, lv, .bl free] ∧ QuestionAt K H a q ∧ TableAt K H c t ∧ WfT t ∧ WfQ t.cols q ∧
  H np = some (.lst (natsV (l.map (·.2)))) ∧ LkAt K H t.cols lv lk ∧ (∀ p ∈ l, t.groups[p.2]? = some p.1) ∧ l.length ≤ 1000 ∧
  ∀ H' r as, Same H H' → H' r = some (.lst (refsV as)) → Paired (StepAt K H') as (stepsM q lk free l q.limit) → Q (.ref r) H'
theorem ok_steps_of (T : Txt K mg) : ∃ fd, FnOk P w K mg base CX0 3 (ga K "steps_of") fd ["question", "table", "numbers", "looked_filters", "is_free"] (sp_steps_of K) ∧ Binds K fd ["question", "table", "numbers", "looked_filters", "is_free"] [] := by
  obtain ⟨fd, F, b⟩ := T.F_steps_of
  obtain ⟨_, G_Step_init, b_Step_init⟩ := ok_Step_init (P := P) (w := w) (base := base) T
  obtain ⟨_, G_all_pass, b_all_pass⟩ := ok_all_pass (P := P) (w := w) (base := base) T
  obtain ⟨_, G_Question_finds, b_Question_finds⟩ := ok_Question_finds (P := P) (w := w) (base := base) T
  refine ⟨fd, F.ok sc_steps_of (fun vs H Q E h => let ⟨_, _, _, _, _, _, _, _, _, e, _⟩ := h; by rw [e] <;> rfl) (fun cdv A outer s H vs Q E hr h => ⟨_, (pss_cons (ps_set (i := 5) sc_steps_of.nd rfl (Or.inl rfl) (pe_lst pa_nil))
  (pss_cons (ps_set (i := 6) sc_steps_of.nd rfl (Or.inl rfl) (pe_fld (pv 0) rfl))
  (pss_cons (ps_for PassesOwn.never rfl (pi_list (pv 2)) (pg_name (i := 7) sc_steps_of.nd rfl (Or.inl rfl))
    (pss_cons (ps_set (i := 8) sc_steps_of.nd rfl (Or.inl rfl) (pe_ix ix_list (pe_fld (pv 1) rfl) (pv 7) (fun _ _ => rfl)))
  (pss_cons (ps_set (i := 9) sc_steps_of.nd rfl (Or.inl rfl) (pe_fld (pv 8) rfl))
  (pss_cons (ps_set (i := 10) sc_steps_of.nd rfl (Or.inl rfl) (pe_meth (pv 0) T.cl_Question T.mt_Question_finds G_Question_finds (hr.mono (by decide)) b_Question_finds .nil pass0 (pa_cons (pv 8) pa_nil)))
  (pss_cons (ps_if (PW.pt (pw_and (pt_val (pv 10)) (pw_and (pt_val (pv 4)) (pw_and1 (pt_cmpR op_gt (pe_fld (pv 0) rfl) pe_int (nomark _))))))
    (pss_cons (ps_set (i := 9) sc_steps_of.nd rfl (Or.inl rfl) (pe_callB (call_min2 rfl) (by rfl) T.b_min (by decide +kernel) (pa_cons (pv 9) (pa_cons (pv 6) pa_nil))))
  (pss_one (ps_aug (i := 6) sc_steps_of.nd rfl (Or.inl rfl) (pv 9) ip_sub)))
    pss_nil)
  (pss_cons (ps_set (i := 11) sc_steps_of.nd rfl (Or.inl rfl) pe_int)
  (pss_cons (ps_if (PW.pt (pw_and (pt_cmpR op_notN (pv 3) pe_non (nomark _)) (pw_and1 (pt_val (pe_call G_all_pass (hr.mono (by decide)) rfl T.g_all_pass T.k_all_pass b_all_pass .nil pass0 (pa_cons (pv 3) (pa_cons (pv 8) pa_nil)))))))
    (pss_one (ps_set (i := 11) sc_steps_of.nd rfl (Or.inl rfl) (pv 9)))
    pss_nil)
  (pss_cons (ps_expr (pe_bm PySem.F.plainAttrs_list PySem.F.slot_list_append PySem.F.type_list_append mt_append (pv 5) (pa_cons (pe_make T.m_Step G_Step_init (hr.mono (by decide)) rfl T.g_Step b_Step_init .nil pass0 (pa_cons (pv 7) (pa_cons (pv 9) (pa_cons (pv 11) (pa_cons (pe_op op_mul (pv 9) (pe_callTy call_int1 (by rfl) T.b_int (by decide +kernel) (pa_cons (pv 10) pa_nil))) pa_nil))))) pa_nil)))
  (pss_one (ps_if (PW.pt (pw_and (pt_val (pv 4)) (pw_and (pt_cmpR op_gt (pe_fld (pv 0) rfl) pe_int (nomark _)) (pw_and1 (pt_cmpR op_eq (pv 6) pe_int (nomark _))))))
    (pss_one (ps_ret (pv 5)))
    pss_nil))))))))))
  (pss_one (ps_ret (pv 5)))))), ?_⟩), b⟩
  obtain ⟨a, c, np, lv, free, q, t, l, lk, rfl, hq, ht, wt, wq, hn, hk, hl, ll, k⟩ := h
  obtain ⟨dq, q1, q2, q3, fas, ha, g1, gf, g2, g3⟩ := id hq
  obtain ⟨dt, tp, gas, hct, htp, hg⟩ := id ht
  refine ⟨by show 0 ≤ sizeLine; exact Nat.zero_le _, fun F hF => ?_⟩
  have s0 : Same H (upd H F (.lst [])) := sm_new hF
  refine ⟨_, rfl, rd_Question_limit T (s0 _ _ ha) ?_⟩
  refine ⟨_, rfl, np, rfl, ⟨_, .of (s0 _ _ hn)⟩, ?_⟩
  refine for_list (K := K) (a := np) (xs := natsV (l.map (·.2))) (fun j σ H' => ∃ (u v x y z : Option V) (left : Nat) (as : List Addr) (ds : List Done), σ = [some (.ref a), some (.ref c), some (.ref np), some lv, some (.bl free), some (.ref F), some (natV left), u, v, x, y, z] ∧ Same H (hide F H') ∧ H' F = some (.lst (refsV as)) ∧ Paired (StepAt K (hide F H')) as ds ∧ ds.length ≤ j ∧
    stepsM q lk free l q.limit = ds ++ stepsM q lk free (l.drop j) left) ⟨none, none, none, none, none, q.limit, [], [], rfl, ?_, upd_same, .nil, Nat.le_refl _, rfl⟩ (fun j σ H' _ ⟨_, _, _, _, _, _, _, _, _, s, _⟩ => .of (hide_same F H' _ _ (s _ _ hn))) ?_ ?_
  · exact fun b o hb => hide_at (ne_of_none hb hF) (s0 _ _ hb)
  · rintro j y' σ H' hy ⟨u, v, x, y, z, left, as, ds, rfl, sH, FH, pD, ld, eH⟩
    obtain ⟨nn, en, rfl⟩ := natsV_of hy
    rw [List.getElem?_map] at en
    obtain ⟨p, ep⟩ : ∃ p, l[j]? = some p := by
      cases e : l[j]? with
      | none => rw [e] at en; cases en
      | some p => exact ⟨p, rfl⟩
    rw [ep] at en
    have en : p.2 = nn := Option.some.inj en
    subst en
    have jl : j < l.length := (List.getElem?_eq_some_iff.mp ep).1
    rw [drop_cons ep, stepsM_cons] at eH
    have eg := hl p (List.mem_of_getElem? ep)
    obtain ⟨gp, egp, hgp⟩ := pair_get' hg eg
    have sH1 : Same H H' := sH.trans (hide_same F H')
    have wg : p.1.row.length = t.cols := wt.wide p.1 (List.mem_of_getElem? eg)
    have hgp1 := hgp.same sH1
    obtain ⟨dg, pg, hg1, hg2⟩ := id hgp1
    refine ⟨_, rfl, rd_Table_groups T (sH1 _ _ hct) ⟨_, rfl, tp, _, _, _, rfl, rfl, .of (sH1 _ _ htp), atI_nat (refsV_get egp), ?_⟩⟩
    refine ⟨_, rfl, rd_Group_count T hg1 ⟨_, rfl, rm_Question_finds (sH1 _ _ ha) ⟨_, rfl, a, gp, q, p.1, rfl, hq.same sH1, hgp1, fun f hf => by rw [wg]; exact wq.fcol f hf, by have := wq.fl; omega, fun H2 s2 => ?_⟩⟩⟩
    have t2 := sH1.trans s2
    have hq2 := hq.same t2
    have ha2 := t2 _ _ ha
    dsimp only
    refine if_next (tif_join (VaidxBase.found q p.1.row && (free && decide (0 < q.limit))) [some (.ref a), some (.ref c), some (.ref np), some lv, some (.bl free), some (.ref F), some (natV (leftM q free p left)), some (natV p.2), some (.ref gp), some (natV (stepM q lk free p left).touched), some (.bl (VaidxBase.found q p.1.row)), z] ?_ ?_ ?_ ?_)
    · intro R kR
      refine ⟨_, rfl, _, rfl, iteB (fun hf => ?_) (fun hf => ?_)⟩
      · refine ⟨_, rfl, _, rfl, iteB (fun hf2 => ?_) (fun hf2 => ?_)⟩
        · refine ⟨_, rfl, rd_Question_limit T ha2 ⟨_, _, rfl, rfl, _, rfl, ?_⟩⟩
          have := kR H2 (Same.refl _)
          rw [hf, hf2] at this
          have e : decide ((0 : Int) < (q.limit : Int)) = decide (0 < q.limit) := lt_nat 0 _
          rw [e]
          simpa using this
        · have := kR H2 (Same.refl _)
          rw [hf, hf2] at this
          exact this
      · have := kR H2 (Same.refl _)
        rw [hf] at this
        exact this
    · intro hc H3 D' s3 n3
      obtain ⟨e1, e2⟩ := step_cut (lk := lk) hc
      rw [e1, e2] at n3
      exact ⟨_, rfl, _, rfl, _, _, rfl, _, rfl, _, rfl, _, _, rfl, rfl, n3⟩
    · intro hc H3 D' s3 n3
      obtain ⟨e1, e2⟩ := step_all (lk := lk) hc
      rw [e1, e2] at n3
      exact n3
    intro H3 s3
    dsimp only
    have t3 := t2.trans s3
    refine if_asg (tif_join (lkTest lk p.1.row) [some (.ref a), some (.ref c), some (.ref np), some lv, some (.bl free), some (.ref F), some (natV (leftM q free p left)), some (natV p.2), some (.ref gp), some (natV (stepM q lk free p left).touched), some (.bl (VaidxBase.found q p.1.row)), some (natV (stepM q lk free p left).looked)] ?_ ?_ ?_ ?_)
    · intro R kR
      have hk3 := hk.same t3
      cases lk with
      | none =>
        have hk3 : lv = .non := hk3
        subst hk3
        exact ⟨_, rfl, rfl, _, rfl, kR H3 (Same.refl _)⟩
      | some fs =>
        obtain ⟨fp, as2, rfl, f1, f2, f3, f4⟩ := hk3
        refine ⟨_, rfl, rfl, _, rfl, ⟨_, rfl, _, rfl, fp, gp, as2, fs, p.1, rfl, f1, f2, hgp.same t3, fun f hf => by rw [wg]; exact f3 f hf, f4, fun H4 s4 => ⟨_, rfl, kR H4 s4⟩⟩⟩
    · intro hc H4 D' s4 n4
      rw [step_looked, if_pos hc] at n4
      exact ⟨_, rfl, n4⟩
    · intro hc H4 D' s4 n4
      rw [step_looked, if_neg (by rw [hc]; exact Bool.false_ne_true)] at n4
      exact n4
    intro H4 s4
    have t4 := t3.trans s4
    have v4 : Same H' H4 := (s2.trans s3).trans s4
    have F4 : H4 F = some (.lst (refsV as)) := v4 _ _ FH
    have el := pD.length
    refine ⟨_, rfl, .inl ⟨rfl, _, .of F4⟩, _, rfl, _, rfl, _, rfl, _, rfl, _, rfl, .inr ⟨_, rfl, ?_⟩⟩
    refine ⟨_, _, rfl, rfl, .inr ?_, ?_⟩
    · cases VaidxBase.found q p.1.row <;> exact ⟨by decide, by decide⟩
    intro x5 dy nx5 nd5 ne5
    refine ⟨x5, dy, _, _, _, _, rfl, upd_same, fun H5 b5 e5 => ⟨rfl, ?_⟩⟩
    have e5 : H5 x5 = some (.ins (ga K "Step") dy (fs_Step (natV p.2) (natV (stepM q lk free p left).touched) (natV (stepM q lk free p left).looked) (natV (stepM q lk free p left).found))) := by
      rw [← step_found]
      exact e5
    have s5 := made nx5 nd5 b5
    have v5 : Same H' H5 := v4.trans s5
    have F5 : H5 F = some (.lst (refsV as)) := v5 _ _ FH
    have a5 : x5 ≠ F := (ne_of_none F4 nx5).symm
    have pD6 : Paired (StepAt K (hide F (upd H5 F (.lst (refsV as ++ [.ref x5]))))) (as ++ [x5]) (ds ++ [stepM q lk free p left]) := by
      rw [hide_upd]
      exact Paired.snoc (pair_mono (fun _ _ h => h.same (hide_mono v5)) pD) ⟨dy, hide_at a5 e5⟩
    have sH6 : Same H (hide F (upd H5 F (.lst (refsV as ++ [.ref x5])))) := by
      rw [hide_upd]
      exact sH.trans (hide_mono v5)
    refine ⟨F, _, _, rfl, rfl, F5, szl (by rw [refsV_len]; omega), ?_⟩
    have ha6 : (upd H5 F (.lst (refsV as ++ [.ref x5]))) a = _ := hide_same F _ _ _ (sH6 _ _ ha)
    dsimp only
    refine tif (endM q free (leftM q free p left)) ?_ ?_ ?_
    · intro R kR
      have kR := kR _ (Same.refl _)
      unfold endM at kR
      generalize leftM q free p left = lf at *
      refine ⟨_, rfl, _, rfl, iteB (fun hf => ?_) (fun hf => ?_)⟩
      · rw [hf] at kR
        refine ⟨_, rfl, rd_Question_limit T ha6 ⟨_, _, rfl, rfl, _, rfl, ?_⟩⟩
        have e : decide ((0 : Int) < (q.limit : Int)) = decide (0 < q.limit) := lt_nat 0 _
        rw [e]
        refine iteB (fun h0 => ?_) (fun h0 => ?_)
        · rw [h0] at kR
          refine ⟨_, rfl, rfl, _, rfl, ?_⟩
          have e0 : decide (natV lf = V.int 0) = (lf == 0) := eq_nat _ 0
          rw [e0]
          have e1 : (lf == 0) = decide (lf = 0) := rfl
          rw [e1]
          exact kR
        · rw [h0] at kR
          exact kR
      · rw [hf] at kR
        exact kR
    · intro hc H7 s7
      rw [if_pos hc] at eH
      refine ⟨_, rfl, k H7 F (as ++ [x5]) ((sH6.trans (hide_same _ _)).trans s7) ?_ ?_⟩
      · rw [s7 _ _ upd_same, refsV_snoc]
      · rw [eH]
        exact pair_mono (fun _ _ h => (h.same (hide_same _ _)).same s7) pD6
    · intro hc H7 s7
      rw [if_neg (by rw [hc]; exact Bool.false_ne_true)] at eH
      refine ⟨_, _, _, _, _, leftM q free p left, as ++ [x5], ds ++ [stepM q lk free p left], rfl, sH6.trans (hide_mono s7), ?_, ?_, ?_, ?_⟩
      · rw [s7 _ _ upd_same, refsV_snoc]
      · exact pair_mono (fun _ _ h => h.same (hide_mono s7)) pD6
      · rw [List.length_append]
        show ds.length + 1 ≤ j + 1
        omega
      · rw [eH, List.append_assoc]
        rfl
  · rintro σ H' ⟨u, v, x, y, z, left, as, ds, rfl, sH, FH, pD, ld, eH⟩
    have e2 : (natsV (l.map (·.2))).length = l.length := by rw [natsV_len, List.length_map]
    rw [e2, List.drop_length] at eH
    have eH : stepsM q lk free l q.limit = ds := by rw [eH]; exact List.append_nil ds
    refine ⟨_, rfl, k H' F as (sH.trans (hide_same F H')) FH ?_⟩
    rw [eH]
    exact pair_mono (fun _ _ h => h.same (hide_same F H')) pD
end
end One
set_option Elab.async false
set_option linter.all false
set_option maxRecDepth 100000
set_option maxHeartbeats 4000000
/-! The walk, C6: both ways. -/
namespace One
open PySem PySem.Spec PyProof.Rows L2
open He (ga ma)
open Vaidxb (Done)
section
variable {P : Program} {w : World} {K : PySem.W.Frag} {mg : Str → Option Value} {base : Heap}
theorem place_is {t : Tbl} (wt : WfT t) {g : Grp} {n : Nat} (h : t.groups[n]? = some g) : Vaidxb.placeOf t g = n := by
  unfold Vaidxb.placeOf
  obtain ⟨hn, he⟩ := List.getElem?_eq_some_iff.mp h
  rw [List.findIdx_eq hn]
  refine ⟨by rw [he, beq_self_eq_true], fun j hj => ?_⟩
  refine beq_eq_false_iff_ne.mpr fun z => ?_
  have := wt.apart j n _ g (List.getElem?_eq_getElem (by omega)) h z
  omega
theorem free_int {i : Idx} {q : Qst} : decide (Vaidxb.orNone (Vaidxb.unfree i q) < 0) = VaidxBase.isFree i q := by
  rw [free_unfree]
  cases Vaidxb.unfree i q with
  | none => rfl
  | some c =>
    refine decide_eq_false ?_
    show ¬ ((c : Int) < 0)
    omega
theorem cover_int {i : Idx} {q : Qst} : decide ((0 : Int) ≤ Vaidxb.orNone (Vaidxb.lacking i q)) = !VaidxBase.covers i q := by
  rw [covers_lacking]
  cases Vaidxb.lacking i q with
  | none => rfl
  | some c =>
    refine decide_eq_true ?_
    show ((0 : Int) ≤ (c : Int))
    omega
def lkOf (i : Idx) (q : Qst) : Option (List Flt) := if VaidxBase.covers i q then none else some (VaidxBase.ownFilters i q)
theorem lim_start (q : Qst) (free : Bool) : lim q free ≠ 0 → 0 < lim q free ∧ q.limit = lim q free - 0 := by
  unfold lim
  cases free with
  | true => exact fun h => ⟨Nat.pos_of_ne_zero h, rfl⟩
  | false => exact fun h => absurd rfl h
theorem index_steps {t : Tbl} {i : Idx} {q : Qst} (wt : WfT t) : stepsM q (lkOf i q) (VaidxBase.isFree i q) (ranged t i q) q.limit = Vaidxb.indexTrace t i q := by
  unfold Vaidxb.indexTrace
  rw [ranged_entries]
  refine stepsM_traced (own := fun r => (VaidxBase.ownFilters i q).all (VaidxBase.passes r)) (covers := VaidxBase.covers i q) (fun r k => ?_) _ 0 _ (fun p hp => place_is wt (ranged_get hp)) (lim_start q _)
  unfold lkOf
  cases VaidxBase.covers i q with
  | true =>
    rw [if_pos rfl]
    cases (VaidxBase.ownFilters i q).all (VaidxBase.passes r) <;> rfl
  | false =>
    rw [if_neg Bool.false_ne_true]
    show (if (VaidxBase.ownFilters i q).all (VaidxBase.passes r) = true then k else 0) = _
    rw [Bool.not_false, Bool.and_true]
theorem whole_steps {t : Tbl} {q : Qst} (wt : WfT t) : stepsM q none ((VaidxBase.orderLeft q).isEmpty) (placed t) q.limit = Vaidxb.wholeTrace t q := by
  unfold Vaidxb.wholeTrace
  conv => rhs; rw [← placed_fst t]
  refine stepsM_traced (own := fun _ => true) (covers := true) (fun r k => rfl) _ 0 _ (fun p hp => place_is wt (placed_get hp)) (lim_start q _)
theorem if_asg2 {i j : Nat} {x v : V} {σ : L2.St} {H : Hp} {t : TT} {s1 s2 u : TS} {D : Ends} (h : tIfS t s1 s2 { D with nx := u D } ((σ.set j (some v)).set i (some x)) H) : gName j v σ H (tSeq (tAsg (tC x) (gName i)) (tSeq (tIfS t s1 s2) u) D) := h
theorem tif_joinV {t : TT} {s1 s2 : TS} {D : Ends} {σ : L2.St} {H : Hp} (c : Bool) (N : V → L2.St) (G : V → Hp → Prop) (ht : ∀ R : Bool → Hp → Prop, (∀ H', Same H H' → R c H') → t σ H R)
    (h1 : c = true → ∀ H' (D' : Ends), Same H H' → (∀ v H2, Same H' H2 → G v H2 → D'.nx (N v) H2) → s1 D' σ H') (h2 : c = false → ∀ H' (D' : Ends), Same H H' → (∀ v H2, Same H' H2 → G v H2 → D'.nx (N v) H2) → s2 D' σ H') (hn : ∀ v H', Same H H' → G v H' → D.nx (N v) H') : tIfS t s1 s2 D σ H := by
  refine ht _ fun H' s => ?_
  cases c with
  | true => exact iteT (h1 rfl H' D s fun v H2 s2 g => hn v H2 (s.trans s2) g)
  | false => exact iteF (h2 rfl H' D s fun v H2 s2 g => hn v H2 (s.trans s2) g)
theorem zip_filter {F : Addr → Flt → Prop} (p : Flt → Bool) : ∀ {l : List Flt} {as : List Addr}, Paired F as l → Paired F (((l.zip as).filter fun x => p x.1).map (·.2)) (l.filter p)
  | _, _, .nil => .nil
  | x :: l, a :: as, .cons h t => by
    rw [List.zip_cons_cons, List.filter_cons, List.filter_cons]
    cases p x with
    | true => exact .cons h (zip_filter p t)
    | false => exact zip_filter p t
def sp_way_by_index (K : PySem.W.Frag) : Sp := fun vs H Q _ => ∃ (a b c : Addr) (i : Idx) (q : Qst) (t : Tbl), vs = [.ref a, .ref b, .ref c] ∧ IndexAt K H a i ∧ QuestionAt K H b q ∧ TableAt K H c t ∧ WfT t ∧ WfI t.cols i ∧ WfQ t.cols q ∧
  ∀ H' r, Same H H' → WayAt K H' r (Vaidxb.indexTrace t i q) (VaidxBase.isFree i q) → Q (.ref r) H'
theorem needed_len {n : Nat} {q : Qst} (wq : WfQ n q) : (VaidxBase.needed q).length ≤ 1000 := by
  unfold VaidxBase.needed
  rw [List.length_append, List.length_append, List.length_map]
  have := wq.fl
  have := wq.ol
  have := wq.wl
  omega
theorem ok_way_by_index (T : Txt K mg) : ∃ fd, FnOk P w K mg base CX0 6 (ga K "way_by_index") fd ["index", "question", "table"] (sp_way_by_index K) ∧ Binds K fd ["index", "question", "table"] [] := by
  obtain ⟨fd, F, b⟩ := T.F_way_by_index
  obtain ⟨_, G_Way_init, b_Way_init⟩ := ok_Way_init (P := P) (w := w) (base := base) T
  obtain ⟨_, G_steps_of, b_steps_of⟩ := ok_steps_of (P := P) (w := w) (base := base) T
  obtain ⟨_, G_in_range, b_in_range⟩ := ok_in_range (P := P) (w := w) (base := base) T
  obtain ⟨_, G_first_not_covered, b_first_not_covered⟩ := ok_first_not_covered (P := P) (w := w) (base := base) T
  obtain ⟨_, G_Index_own, b_Index_own⟩ := ok_Index_own (P := P) (w := w) (base := base) T
  obtain ⟨_, G_first_not_free, b_first_not_free⟩ := ok_first_not_free (P := P) (w := w) (base := base) T
  refine ⟨fd, F.ok sc_way_by_index (fun vs H Q E h => let ⟨_, _, _, _, _, _, e, _⟩ := h; by rw [e] <;> rfl) (fun cdv A outer s H vs Q E hr h => ⟨_, (pss_cons (ps_set (i := 3) sc_way_by_index.nd rfl (Or.inl rfl) (pe_cmpR op_lt (pe_call G_first_not_free (hr.mono (by decide)) rfl T.g_first_not_free T.k_first_not_free b_first_not_free .nil pass0 (pa_cons (pv 0) (pa_cons (pv 1) pa_nil))) pe_int (nomark _)))
  (pss_cons (ps_set (i := 4) sc_way_by_index.nd rfl (Or.inl rfl) pe_non)
  (pss_cons (ps_if (pt_cmpR op_ge (pe_call G_first_not_covered (hr.mono (by decide)) rfl T.g_first_not_covered T.k_first_not_covered b_first_not_covered .nil pass0 (pa_cons (pv 0) (pa_cons (pv 1) pa_nil))) pe_int (nomark _))
    (pss_one (ps_setLc (i := 4) (own := [("one", 5)]) rfl sc_way_by_index.nd rfl rfl (sw_true rfl rfl rfl (by decide +kernel)) (pi_list (pe_fld (pv 1) rfl)) (blkOk_by (N := ["index", "question", "table", "is_free", "looked", "one"]) (sc := defScope s_way_by_index) (by decide +kernel)) (fun _ _ _ _ _ => (pg_name (i := 5) sc_way_by_index.nd rfl (Or.inl rfl))) (fun _ _ _ _ _ => (pts_one (pt_cmpR (op_in_seqK (K := K) rfl) (pe_fldK (K := K) rfl (pv 5) rfl) (pe_meth0 (pv 0) T.cl_Index T.mt_Index_own G_Index_own (hr.mono (by decide)) b_Index_own .nil pass0) (by rfl)))) (fun _ _ _ _ _ => (pv 5))))
    pss_nil)
  (pss_one (ps_ret (pe_make T.m_Way G_Way_init (hr.mono (by decide)) rfl T.g_Way b_Way_init .nil pass0 (pa_cons (pe_call G_steps_of (hr.mono (by decide)) rfl T.g_steps_of T.k_steps_of b_steps_of .nil pass0 (pa_cons (pv 1) (pa_cons (pv 2) (pa_cons (pe_call G_in_range (hr.mono (by decide)) rfl T.g_in_range T.k_in_range b_in_range .nil pass0 (pa_cons (pv 0) (pa_cons (pv 1) (pa_cons (pv 2) pa_nil)))) (pa_cons (pv 4) (pa_cons (pv 3) pa_nil)))))) (pa_cons (pv 3) pa_nil)))))))), ?_⟩), b⟩
  obtain ⟨a, b', c, i, q, t, rfl, hi, hq, ht, wt, wi, wq, k⟩ := h
  refine ⟨_, rfl, _, rfl, a, b', i, q, rfl, hi, hq, wi.kl, wq.ol, fun H1 s1 => ?_⟩
  refine ⟨_, _, rfl, rfl, ?_⟩
  dsimp only
  rw [free_int]
  refine if_asg2 (tif_joinV (!VaidxBase.covers i q) (fun v => [some (.ref a), some (.ref b'), some (.ref c), some (.bl (VaidxBase.isFree i q)), some v, none]) (fun v H' => LkAt K H' t.cols v (lkOf i q)) ?_ ?_ ?_ ?_)
  · intro R kR
    refine ⟨_, rfl, _, rfl, a, b', i, q, rfl, hi.same s1, hq.same s1, wi.kl, wi.il, needed_len wq, fun H2 s2 => ⟨_, _, rfl, rfl, _, rfl, ?_⟩⟩
    rw [cover_int]
    exact kR H2 s2
  · intro hc H2 D' s2 n2
    have t2 := s1.trans s2
    have hq2 := hq.same t2
    obtain ⟨dq, q1, q2, q3, fas, hb, g1, gf, g2, g3⟩ := id hq2
    obtain ⟨dx, p1, p2, cv, ha, h1, h2, hcv⟩ := hi.same t2
    refine ⟨_, rfl, rd_Question_filters T hb ⟨q1, rfl, ⟨_, .of g1⟩, fun D hD => ?_⟩⟩
    have el : fas.length = q.filters.length := gf.length
    have fl := wq.fl
    refine lc_of (q.filters.zip fas) (fun p => if (VaidxBase.columnsOf i).contains p.1.col then some (V.ref p.2) else none) hD (by rw [refsV_len, List.length_zip]; omega) (by rw [List.length_zip]; omega) (.of g1) (fun m x b H4 hx hb4 s4 R S kR kS => ?_) fun H4 s4 e4 => ?_
    · obtain ⟨fa, ea, rfl⟩ := refsV_of hx
      obtain ⟨f, ef, hfa⟩ := pair_get gf ea
      rw [zip_get ef ea] at hb4
      cases hb4
      obtain ⟨df, hf1⟩ := id hfa
      have i4 := (hi.same t2).same s4
      refine ⟨rfl, _, rfl, rd_Filter_column T (s4 _ _ hf1) ⟨_, rfl, rm_Index_own (s4 _ _ ha) ⟨a, i, rfl, i4, by have := wi.kl; omega, by have := wi.il; omega, fun H5 r5 s5 f5 e5 => ⟨r5, _, rfl, .inl (.of e5), rfl, flat_nats _, _, rfl, ?_⟩⟩⟩⟩
      have i1 : (if false = true then !inV (natV f.col) (natsV (VaidxBase.columnsOf i)) else inV (natV f.col) (natsV (VaidxBase.columnsOf i))) = (VaidxBase.columnsOf i).contains f.col := in_nats _ _
      rw [i1]
      refine iteB (fun c => ?_) (fun c => ?_)
      · exact ⟨_, rfl, kR _ _ (if_pos c) s5⟩
      · exact kS (if_neg (by rw [c]; exact Bool.false_ne_true)) _ s5
    · rw [fm_if] at e4
      have hc : VaidxBase.covers i q = false := by simpa using hc
      refine n2 (.ref D) H4 s4 ?_
      have el2 : lkOf i q = some (VaidxBase.ownFilters i q) := by
        unfold lkOf
        rw [hc]
        exact if_neg Bool.false_ne_true
      rw [el2]
      have e6 : H4 D = some (.lst (refsV (((q.filters.zip fas).filter fun p => (VaidxBase.columnsOf i).contains p.1.col).map (·.2)))) := by
        rw [e4]
        unfold refsV
        rw [List.map_map]
        rfl
      refine ⟨D, _, rfl, e6, zip_filter (fun f => (VaidxBase.columnsOf i).contains f.col) (pair_mono (fun _ _ h => h.same s4) gf), fun f hf => wq.fcol f (List.mem_filter.mp hf).1, ?_⟩
      refine Nat.le_trans (List.length_filter_le _ _) ?_
      omega
  · intro hc H2 D' s2 n2
    have hc : VaidxBase.covers i q = true := by simpa using hc
    refine n2 .non H2 (Same.refl _) ?_
    unfold lkOf
    rw [if_pos hc]
    rfl
  · intro v H3 s3 lk3
    have t3 := s1.trans s3
    have lkk := lk3
    obtain ⟨dq, q1, q2, q3, fas, hb, g1, gf, g2, g3⟩ := id (hq.same t3)
    refine ⟨_, rfl, _, rfl, _, rfl, _, rfl, _, rfl, a, b', c, i, q, t, rfl, hi.same t3, hq.same t3, ht.same t3, wt, wi, wq, fun H4 r4 s4 f4 e4 => ?_⟩
    have t4 := t3.trans s4
    refine ⟨_, rfl, _, rfl, b', c, r4, v, VaidxBase.isFree i q, q, t, ranged t i q, lkOf i q, rfl, hq.same t4, ht.same t4, wt, wq, e4, lk3.same s4, fun p hp => ranged_get hp, by have := ranged_len t i q; have := wt.few; omega, fun H5 r5 as5 s5 e5 p5 => ?_⟩
    rw [index_steps wt] at p5
    refine ⟨_, rfl, fun y dy ny nyd ney => ⟨y, dy, _, _, rfl, upd_same, fun Hz bz ez => ⟨rfl, ?_⟩⟩⟩
    have sz := made ny nyd bz
    exact k Hz y ((t4.trans s5).trans sz) ⟨dy, r5, as5, ez, sz _ _ e5, pair_mono (fun _ _ h => h.same sz) p5⟩
def sp_way_by_table (K : PySem.W.Frag) : Sp := fun vs H Q _ => ∃ (b c : Addr) (q : Qst) (t : Tbl), vs = [.ref b, .ref c] ∧ QuestionAt K H b q ∧ TableAt K H c t ∧ WfT t ∧ WfQ t.cols q ∧
  ∀ H' r, Same H H' → WayAt K H' r (Vaidxb.wholeTrace t q) ((VaidxBase.orderLeft q).isEmpty) → Q (.ref r) H'
theorem ok_way_by_table (T : Txt K mg) : ∃ fd, FnOk P w K mg base CX0 4 (ga K "way_by_table") fd ["question", "table"] (sp_way_by_table K) ∧ Binds K fd ["question", "table"] [] := by
  obtain ⟨fd, F, b⟩ := T.F_way_by_table
  obtain ⟨_, G_Way_init, b_Way_init⟩ := ok_Way_init (P := P) (w := w) (base := base) T
  obtain ⟨_, G_steps_of, b_steps_of⟩ := ok_steps_of (P := P) (w := w) (base := base) T
  obtain ⟨_, G_Question_without_equal, b_Question_without_equal⟩ := ok_Question_without_equal (P := P) (w := w) (base := base) T
  refine ⟨fd, F.ok sc_way_by_table (fun vs H Q E h => let ⟨_, _, _, _, e, _⟩ := h; by rw [e] <;> rfl) (fun cdv A outer s H vs Q E hr h => ⟨_, (pss_cons (ps_set (i := 2) sc_way_by_table.nd rfl (Or.inl rfl) (pe_cmpR (op_eqE (huOf0 hr)) (pe_meth (pv 0) T.cl_Question T.mt_Question_without_equal G_Question_without_equal (hr.mono (by decide)) b_Question_without_equal .nil pass0 (pa_cons (pe_fld (pv 0) rfl) pa_nil)) (pe_lst pa_nil) (nomark _)))
  (pss_one (ps_ret (pe_make T.m_Way G_Way_init (hr.mono (by decide)) rfl T.g_Way b_Way_init .nil pass0 (pa_cons (pe_call G_steps_of (hr.mono (by decide)) rfl T.g_steps_of T.k_steps_of b_steps_of .nil pass0 (pa_cons (pv 0) (pa_cons (pv 1) (pa_cons (pe_listRg rfl rfl T.b_list (prg_1 rfl T.b_range (pe_callB call_len_seq (by rfl) T.b_len PySem.boot_len (pa_cons (pe_fld (pv 1) rfl) pa_nil)))) (pa_cons pe_non (pa_cons (pv 2) pa_nil)))))) (pa_cons (pv 2) pa_nil)))))), ?_⟩), b⟩
  obtain ⟨b', c, q, t, rfl, hq, ht, wt, wq, k⟩ := h
  obtain ⟨dq, q1, q2, q3, fas, hb, g1, gf, g2, g3⟩ := id hq
  refine ⟨_, rfl, rm_Question_without_equal hb ⟨_, rfl, rd_Question_order T hb ⟨b', q2, q, q.order, rfl, hq, g2, by have := wq.ol; omega, fun H1 r1 s1 f1 e1 => ?_⟩⟩⟩
  refine ⟨by show 0 ≤ sizeLine; exact Nat.zero_le _, fun E1 hE1 => ?_⟩
  have t1 : Same H1 (upd H1 E1 (.lst [])) := sm_new hE1
  refine ⟨r1, E1, _, rfl, rfl, .of (t1 _ _ e1), .of upd_same, ?_⟩
  have s2 := s1.trans t1
  have ei : (natsV (q.order.filter fun c => !VaidxBase.equalOn q c)).isEmpty = (VaidxBase.orderLeft q).isEmpty := by
    unfold VaidxBase.orderLeft natsV
    rw [List.isEmpty_map]
  rw [ei]
  obtain ⟨dt, tp, gas, hct, htp, hg⟩ := id (ht.same s2)
  refine ⟨_, rfl, _, rfl, _, rfl, rd_Table_groups T hct ⟨tp, _, rfl, .inl (.of htp), ?_⟩⟩
  have few := wt.few
  have lg : (refsV gas).length = t.groups.length := by rw [refsV_len]; exact hg.length
  rw [lg]
  refine ⟨(t.groups.length : Int), rfl, RgOk.of_le (by omega) (by omega) (by omega) (by omega), fun L hL => ?_⟩
  have er : rgV 0 (t.groups.length : Int) = natsV ((placed t).map (·.2)) := by
    unfold rgV natsV
    rw [placed_snd, Int.sub_zero, Int.toNat_natCast]
    refine List.map_congr_left fun n _ => ?_
    rw [Int.zero_add]
    rfl
  rw [er]
  have s3 := s2.trans (sm_new (o := .lst (natsV ((placed t).map (·.2)))) hL)
  have lp : (placed t).length = t.groups.length := by
    unfold placed
    rw [List.length_zipIdx]
  refine ⟨_, rfl, b', c, L, .non, _, q, t, placed t, none, rfl, hq.same s3, ht.same s3, wt, wq, upd_same, rfl, fun p hp => placed_get hp, by omega, fun H5 r5 as5 s5 e5 p5 => ?_⟩
  rw [whole_steps wt] at p5
  refine ⟨_, rfl, fun y dy ny nyd ney => ⟨y, dy, _, _, rfl, upd_same, fun Hz bz ez => ⟨rfl, ?_⟩⟩⟩
  have sz := made ny nyd bz
  exact k Hz y ((s3.trans s5).trans sz) ⟨dy, r5, as5, ez, sz _ _ e5, pair_mono (fun _ _ h => h.same sz) p5⟩
end
end One
set_option Elab.async false
set_option linter.all false
set_option maxRecDepth 100000
set_option maxHeartbeats 4000000
/-! The walk, C7: the rows answered. -/
namespace One
open PySem PySem.Spec PyProof.Rows L2
open He (ga ma)
open Vaidxb (Done)
section
variable {P : Program} {w : World} {K : PySem.W.Frag} {mg : Str → Option Value} {base : Heap}
theorem rowIn_is {t : Tbl} {g : Grp} {n : Nat} (h : t.groups[n]? = some g) : rowIn t n = g.row := by
  unfold rowIn
  rw [h]
  rfl
theorem orderD {t : Tbl} {q : Qst} {bs : List KN} {l : List Done} (h : bs.map pairKN = l.zipIdx.map (pairD t q)) : (insAll byKN bs).map (fun b => b.2.2) = (insAll (byD t q) l.zipIdx).map (·.2) := by
  have e1 := insAll_map (lt := byKN) (lt' := fun a b : List Int × Nat => lexI a.1 b.1) pairKN (fun _ _ => rfl) bs
  have e2 := insAll_map (lt := byD t q) (lt' := fun a b : List Int × Nat => lexI a.1 b.1) (pairD t q) (fun _ _ => rfl) l.zipIdx
  rw [h, ← e2] at e1
  have e3 := congrArg (List.map Prod.snd) e1
  rw [List.map_map, List.map_map] at e3
  exact e3
theorem growD {t : Tbl} {q : Qst} {bs : List KN} {l : List Done} (h : bs.map pairKN = l.zipIdx.map (pairD t q)) : bs.Pairwise (fun a b => a.2.2 < b.2.2) := by
  have e1 : (bs.map pairKN).Pairwise (fun a b => a.2 < b.2) := by
    rw [h]
    exact List.pairwise_map.mpr (zipIdx_order l 0)
  exact (List.pairwise_map (R := fun a b : List Int × Nat => a.2 < b.2) (f := pairKN)).mp e1
theorem pick {F : Addr → Done → Prop} {as : List Addr} {l : List Done} (p : Paired F as l) : ∀ Z : List (Done × Nat), (∀ x ∈ Z, l[x.2]? = some x.1) → ∃ as', (Z.map (·.2)).filterMap (fun n => (as[n]?).map V.ref) = refsV as' ∧ Paired F as' (Z.map (·.1))
  | [], _ => ⟨[], rfl, .nil⟩
  | x :: Z, h => by
    obtain ⟨as', e, p'⟩ := pick p Z fun y hy => h y (List.mem_cons_of_mem _ hy)
    obtain ⟨a, ea, fa⟩ := pair_get' p (h x List.mem_cons_self)
    refine ⟨a :: as', ?_, .cons fa p'⟩
    rw [List.map_cons, List.filterMap_cons, ea, e]
    rfl
theorem keyBy_back {q : Qst} {r : List Nat} (h : q.back = true) : keyBy q r = (keyOf q.order r).map fun v => 0 - v := by
  unfold keyBy
  rw [if_pos h]
theorem keyBy_forth {q : Qst} {r : List Nat} (h : q.back = false) : keyBy q r = keyOf q.order r := by
  unfold keyBy
  rw [if_neg (by rw [h]; exact Bool.false_ne_true)]
theorem keyOf_len (cs r : List Nat) : (keyOf cs r).length = cs.length := by
  unfold keyOf
  rw [List.length_map]
def sp_put_in_order (K : PySem.W.Frag) : Sp := fun vs H Q _ => ∃ (b c sp : Addr) (q : Qst) (t : Tbl) (as : List Addr) (l : List Done), vs = [.ref b, .ref c, .ref sp] ∧ QuestionAt K H b q ∧ TableAt K H c t ∧ WfT t ∧ WfQ t.cols q ∧ H sp = some (.lst (refsV as)) ∧ Paired (StepAt K H) as l ∧ l.length ≤ 1000 ∧ (∀ d ∈ l, d.group < t.groups.length) ∧
  ∀ H' r as', Same H H' → H' r = some (.lst (refsV as')) → Paired (StepAt K H') as' (Vaidxb.inOrder t q l) → Q (.ref r) H'
theorem ok_put_in_order (T : Txt K mg) : ∃ fd, FnOk P w K mg base CX0 1 (ga K "put_in_order") fd ["question", "table", "steps"] (sp_put_in_order K) ∧ Binds K fd ["question", "table", "steps"] [] := by
  obtain ⟨fd, F, b⟩ := T.F_put_in_order
  refine ⟨fd, F.ok sc_put_in_order (fun vs H Q E h => let ⟨_, _, _, _, _, _, _, e, _⟩ := h; by rw [e] <;> rfl) (fun cdv A outer s H vs Q E hr h => ⟨_, (pss_cons (ps_set (i := 3) sc_put_in_order.nd rfl (Or.inl rfl) (pe_lst pa_nil))
  (pss_cons (ps_for PassesOwn.never rfl (pi_enum (by rfl) T.b_enumerate (pa_cons (pv 2) pa_nil)) (pg_tup rfl (pgs_cons (pg_name (i := 4) sc_put_in_order.nd rfl (Or.inl rfl)) (pgs_cons (pg_name (i := 5) sc_put_in_order.nd rfl (Or.inr rfl)) pgs_nil)))
    (pss_cons (ps_setLc (i := 6) (own := [("column", 7)]) rfl sc_put_in_order.nd rfl rfl (sw_true rfl rfl rfl (by decide +kernel)) (pi_list (pe_fld (pv 0) rfl)) (blkOk_by (N := ["question", "table", "steps", "found", "place", "step", "key", "column", "value"]) (sc := defScope s_put_in_order) (by decide +kernel)) (fun _ _ _ _ _ => (pg_name (i := 7) sc_put_in_order.nd rfl (Or.inl rfl))) (fun _ _ _ _ _ => pts_nil) (fun _ _ _ _ _ => (pe_ix (ix_listK (K := K) rfl) (pe_fldK (K := K) rfl (pe_ix (ix_listK (K := K) rfl) (pe_fldK (K := K) rfl (pv 1) rfl) (pe_fldK (K := K) rfl (pv 5) rfl) (fun _ _ => rfl)) rfl) (pv 7) (fun _ _ => rfl))))
  (pss_cons (ps_if (pt_cmpR op_eq (pe_fld (pv 0) rfl) pe_int (nomark _))
    (pss_one (ps_setLc (i := 6) (own := [("value", 8)]) rfl sc_put_in_order.nd rfl rfl (sw_true rfl rfl rfl (by decide +kernel)) (pi_list (pv 6)) (blkOk_by (N := ["question", "table", "steps", "found", "place", "step", "key", "column", "value"]) (sc := defScope s_put_in_order) (by decide +kernel)) (fun _ _ _ _ _ => (pg_name (i := 8) sc_put_in_order.nd rfl (Or.inl rfl))) (fun _ _ _ _ _ => pts_nil) (fun _ _ _ _ _ => (pe_op op_sub pe_int (pv 8)))))
    pss_nil)
  (pss_one (ps_expr (pe_bm PySem.F.plainAttrs_list PySem.F.slot_list_append PySem.F.type_list_append mt_append (pv 3) (pa_cons (pe_tup (pa_cons (pv 6) (pa_cons (pv 4) pa_nil))) pa_nil)))))))
  (pss_one (ps_ret (pe_lc (own := [("place", 4), ("key", 6)]) rfl sc_put_in_order.nd (pi_list (pe_callB (cr_sortKN (huOf hr)) (by rfl) T.b_sorted (by decide +kernel) (pa_cons (pv 3) pa_nil))) (blkOk_by (N := ["question", "table", "steps", "found", "place", "step", "key", "column", "value"]) (sc := defScope s_put_in_order) (by decide +kernel)) (fun _ _ _ _ _ => (pg_tupK (K := K) (n := 2) rfl rfl (pgs_cons (pg_name (i := 6) sc_put_in_order.nd rfl (Or.inl rfl)) (pgs_cons (pg_name (i := 4) sc_put_in_order.nd rfl (Or.inl rfl)) pgs_nil)))) (fun _ _ _ _ _ => pts_nil) (fun _ _ _ _ _ => (pe_ix (ix_listK (K := K) rfl) (pv 2) (pv 4) (fun _ _ => rfl)))))))), ?_⟩), b⟩
  obtain ⟨b', c, sp, q, t, as, l, rfl, hq, ht, wt, wq, hsp, pl, ll, hgr, k⟩ := h
  obtain ⟨dq, q1, q2, q3, fas, hb, g1, gf, g2, g3⟩ := id hq
  obtain ⟨dt, tp, gas, hct, htp, hg⟩ := id ht
  have el : as.length = l.length := pl.length
  refine ⟨by show 0 ≤ sizeLine; exact Nat.zero_le _, fun F hF => ?_⟩
  have sF : Same H (upd H F (.lst [])) := sm_new hF
  refine ⟨_, rfl, sp, _, rfl, .of (sF _ _ hsp), ?_⟩
  refine for_it walk_enum (fun j σ H' => ∃ (u v x : Option V) (bs : List KN), σ = [some (.ref b'), some (.ref c), some (.ref sp), some (.ref F), u, v, x, none, none] ∧ Same H (hide F H') ∧ H' F = some (.lst (bs.map fun b => V.ref b.1)) ∧ (∀ b ∈ bs, TupKN K (hide F H') b) ∧
    bs.map pairKN = (l.zipIdx.take j).map (pairD t q)) ⟨none, none, none, [], rfl, ?_, upd_same, (fun _ h => by cases h), rfl⟩ (fun j σ H' _ ⟨_, _, _, _, _, s, _⟩ => .of (hide_same F H' _ _ (s _ _ hsp))) ?_ ?_
  · intro b o hbo
    exact hide_at (ne_of_none hbo hF) (sF _ _ hbo)
  · rintro j y σ H' H3 hj ⟨u, v, x, bs, rfl, sH, FH, TH, eH⟩ ⟨T', x1, y1, rfl, nT, rfl, e1, e2⟩
    cases e1
    obtain ⟨dp, edp, rfl⟩ := refsV_of e2
    obtain ⟨d, ed, hdp⟩ := pair_get pl edp
    have s3 : Same H' (upd H' T' (.tup [.int (j : Nat), .ref dp])) := sm_new nT
    have sH1 : Same H H' := sH.trans (hide_same F H')
    have t3 := sH1.trans s3
    rw [refsV_len, el] at hj
    have ep : l.zipIdx[j]? = some (d, j) := by
      rw [List.getElem?_zipIdx, ed]
      simp
    have dg := hgr d (List.mem_of_getElem? ed)
    have egr : t.groups[d.group]? = some t.groups[d.group] := List.getElem?_eq_getElem dg
    generalize hge : t.groups[d.group] = g at egr
    obtain ⟨gp, egp, hgp⟩ := pair_get' hg egr
    have wg : g.row.length = t.cols := wt.wide g (List.mem_of_getElem? egr)
    obtain ⟨dd, hd1⟩ := hdp.same t3
    have hgp3 := hgp.same t3
    obtain ⟨dgr, pg, hg1, hg2⟩ := id hgp3
    refine ⟨T', _, rfl, .of upd_same, rfl, ?_⟩
    refine ⟨_, _, rfl, _, _, rfl, rfl, _, rfl, rd_Question_order T (t3 _ _ hb) ⟨q2, rfl, ⟨_, .of (t3 _ _ g2)⟩, fun D hD => ?_⟩⟩
    refine lc_of q.order (fun c => some (natV (VaidxBase.valueAt g.row c))) hD (natsV_len _) (by have := wq.ol; omega) (.of (t3 _ _ g2)) (fun m y b H5 hy hb5 s5 R S kR kS => ?_) fun H5 s5 e5 => ?_
    · obtain ⟨cc, ecc, rfl⟩ := natsV_of hy
      rw [hb5] at ecc
      cases ecc
      refine ⟨rfl, _, rfl, rd_Table_groups T (s5 _ _ (t3 _ _ hct)) ⟨_, rfl, rd_Step_group T (s5 _ _ hd1) ⟨tp, _, _, _, rfl, rfl, .of (s5 _ _ (t3 _ _ htp)), atI_nat (refsV_get egp), rd_Group_values_told T (s5 _ _ hg1) ⟨_, rfl, pg, _, _, _, rfl, rfl, .of (s5 _ _ hg2), at_nat (by rw [wg]; exact wq.ocol b (List.mem_of_getElem? hb5)), kR _ _ rfl (Same.refl _)⟩⟩⟩⟩
    · rw [fm_some] at e5
      have e5 : H5 D = some (.lst ((keyOf q.order g.row).map V.int)) := by
        rw [e5, keyOf_v]
        unfold natsV
        rw [List.map_map]
        rfl
      have t5 := t3.trans s5
      have v5 : Same H' H5 := s3.trans s5
      have DF : D ≠ F := (ne_of_none (s3 _ _ FH) hD).symm
      dsimp only
      have bb : decide (V.int (if q.back then 1 else 0) = V.int 1) = q.back := by
        cases q.back <;> rfl
      have lb : bs.length ≤ j := by
        have := congrArg List.length eH
        rw [List.length_map, List.length_map, List.length_take] at this
        omega
      refine if_next (tif_joinV q.back (fun v => [some (.ref b'), some (.ref c), some (.ref sp), some (.ref F), some (natV j), some (.ref dp), some v, none, none]) (fun v H' => ∃ kp, v = .ref kp ∧ H' kp = some (.lst ((keyBy q (rowIn t d.group)).map V.int)) ∧ kp ≠ F) ?_ ?_ ?_ ?_)
      · intro R kR
        have kR := kR H5 (Same.refl _)
        refine ⟨_, rfl, rd_Question_backwards T (t5 _ _ hb) ⟨rfl, _, rfl, ?_⟩⟩
        rw [bb]
        exact kR
      · intro hc H6 D' s6 n6
        refine ⟨_, rfl, D, rfl, ⟨_, .of (s6 _ _ e5)⟩, fun D2 hD2 => ?_⟩
        have lk : (keyOf q.order g.row).length ≤ 4 := by
          rw [keyOf_len]
          exact wq.ol
        refine lc_of (keyOf q.order g.row) (fun v => some (V.int (0 - v))) hD2 (by rw [List.length_map]) (by omega) (.of (s6 _ _ e5)) (fun m y b H7 hy hb7 s7 R S kR kS => ?_) fun H7 s7 e7 => ?_
        · rw [List.getElem?_map, hb7] at hy
          cases hy
          exact ⟨rfl, _, rfl, _, _, rfl, rfl, kR _ _ rfl (Same.refl _)⟩
        · refine n6 (.ref D2) H7 s7 ⟨D2, rfl, ?_, (ne_of_none (s6 _ _ (v5 _ _ FH)) hD2).symm⟩
          rw [e7, fm_some, rowIn_is egr, keyBy_back hc, List.map_map]
          rfl
      · intro hc H6 D' s6 n6
        refine n6 (.ref D) H6 (Same.refl _) ⟨D, rfl, ?_, DF⟩
        rw [s6 _ _ e5, rowIn_is egr, keyBy_forth hc]
      rintro v' H6 s6 ⟨kp, rfl, ekp, nkp⟩
      have v6 : Same H' H6 := v5.trans s6
      have F6 := v6 _ _ FH
      refine ⟨_, rfl, .inl ⟨rfl, _, .of F6⟩, _, rfl, _, rfl, by show 2 ≤ sizeLine; exact sz (by decide), fun z hz => ?_⟩
      have s8 : Same H6 (upd H6 z (.tup [.ref kp, .int (j : Nat)])) := sm_new hz
      have v8 := v6.trans s8
      have zF : z ≠ F := (ne_of_none F6 hz).symm
      refine ⟨F, _, _, rfl, rfl, v8 _ _ FH, szl (by rw [List.length_map]; omega), _, _, _, bs ++ [(z, keyBy q (rowIn t d.group), j)], rfl, ?_, ?_, ?_, ?_⟩
      · rw [hide_upd]
        exact sH.trans (hide_mono v8)
      · rw [upd_same, List.map_append]
        rfl
      · intro b hb7
        rw [hide_upd]
        rcases List.mem_append.mp hb7 with h8 | h8
        · exact kn_same (hide_mono v8) (TH b h8)
        · rw [List.mem_singleton] at h8
          subst h8
          exact ⟨kp, .of (hide_at zF upd_same), .of (hide_at nkp (s8 _ _ ekp))⟩
      · rw [take_more ep, List.map_append, List.map_append, eH]
        rfl
  · rintro σ H' ⟨u, v, x, bs, rfl, sH, FH, TH, eH⟩
    have lz : l.zipIdx.length = l.length := List.length_zipIdx
    rw [refsV_len, el, ← lz, List.take_length] at eH
    have sHH : Same H H' := sH.trans (hide_same F H')
    have lb : bs.length ≤ 1000 := by
      have := congrArg List.length eH
      rw [List.length_map, List.length_map] at this
      omega
    have es := orderD eH
    refine ⟨_, rfl, F, bs, rfl, .of FH, fun b hb => kn_same (hide_same F H') (TH b hb), growD eH, fun S hS => ?_⟩
    have sS : Same H' (upd H' S (.lst ((insAll byKN bs).map fun b => V.ref b.1))) := sm_new hS
    have tS := sHH.trans sS
    refine ⟨S, rfl, ⟨_, .of upd_same⟩, fun D hD => ?_⟩
    have hp := insAll_perm byKN bs
    have lS : (insAll byKN bs).length ≤ 1000 := by
      rw [hp.length_eq]
      exact lb
    refine lc_of (insAll byKN bs) (fun b => (as[b.2.2]?).map V.ref) hD (by rw [List.length_map]) (by omega) (.of upd_same) (fun m y b H5 hy hb5 s5 R St kR kS => ?_) fun H5 s5 e5 => ?_
    · rw [List.getElem?_map, hb5] at hy
      cases hy
      have hbm := hp.subset (List.mem_of_getElem? hb5)
      obtain ⟨kp, k1, k2⟩ := TH b hbm
      have k3 := sqt_same (((hide_same F H').trans sS).trans s5) k1
      have pm : pairKN b ∈ l.zipIdx.map (pairD t q) := by
        rw [← eH]
        exact List.mem_map_of_mem hbm
      obtain ⟨x0, hx0, ex0⟩ := List.mem_map.mp pm
      have e22 : x0.2 = b.2.2 := congrArg Prod.snd ex0
      have hx1 : l[x0.2]? = some x0.1 := by
        have := List.mem_zipIdx_iff_getElem?.mp hx0
        simpa using this
      rw [e22] at hx1
      obtain ⟨sa, esa, hsa⟩ := pair_get' pl hx1
      exact ⟨_, _, rfl, k3, rfl, _, _, rfl, _, _, rfl, rfl, rfl, _, rfl, _, rfl, sp, _, _, _, rfl, rfl, .of (s5 _ _ (tS _ _ hsp)), atI_nat (refsV_get esa), kR _ _ (by rw [esa]; rfl) (Same.refl _)⟩
    · have t5 := tS.trans s5
      have ei : (insAll byKN bs).filterMap (fun b => (as[b.2.2]?).map V.ref) = (((insAll byKN bs).map fun b => b.2.2).filterMap fun n => (as[n]?).map V.ref) := by
        rw [List.filterMap_map]
        rfl
      rw [ei, es] at e5
      obtain ⟨as', ea', pa'⟩ := pick pl (insAll (byD t q) l.zipIdx) fun x0 hx0 => by
        have := List.mem_zipIdx_iff_getElem?.mp ((insAll_perm _ _).subset hx0)
        simpa using this
      rw [ea'] at e5
      rw [inOrder_zip] at k
      exact k H5 D as' t5 e5 (pair_mono (fun _ _ h => h.same t5) pa')
def TupAt (K : PySem.W.Frag) (H : Hp) (a : Addr) (x : Nat × Nat) : Prop := SqT K H a [natV x.1, natV x.2]
theorem TupAt.same {H H' : Hp} {a : Addr} {x : Nat × Nat} (s : Same H H') (h : TupAt K H a x) : TupAt K H' a x := sqt_same s h
def sp_answered (K : PySem.W.Frag) : Sp := fun vs H Q _ => ∃ (b c wa : Addr) (q : Qst) (t : Tbl) (l : List Done) (free : Bool), vs = [.ref b, .ref c, .ref wa] ∧ QuestionAt K H b q ∧ TableAt K H c t ∧ WfT t ∧ WfQ t.cols q ∧ WayAt K H wa l free ∧ l.length ≤ 1000 ∧ (∀ d ∈ l, d.group < t.groups.length) ∧
  ∀ H' r as, Same H H' → H' r = some (.lst (refsV as)) → Paired (TupAt K H') as (Vaidxb.answerOf t q free l) → Q (.ref r) H'
theorem zip_filterD {F : Addr → Done → Prop} (p : Done → Bool) : ∀ {l : List Done} {as : List Addr}, Paired F as l → Paired F (((l.zip as).filter fun x => p x.1).map (·.2)) (l.filter p)
  | _, _, .nil => .nil
  | x :: l, a :: as, .cons h t => by
    rw [List.zip_cons_cons, List.filter_cons, List.filter_cons]
    cases p x with
    | true => exact .cons h (zip_filterD p t)
    | false => exact zip_filterD p t
theorem pos_ne (n : Nat) : decide ((0 : Int) < (n : Int)) = (n != 0) := by
  by_cases h : n = 0
  · subst h
    rfl
  · rw [decide_eq_true (by omega)]
    exact (bne_iff_ne.mpr h).symm
theorem cut1 {limit : Nat} {d : Done} {left : Nat} (h : 0 < limit) : natV (many1 limit d left) = V.int (if (left : Int) < (d.found : Int) then (left : Int) else (d.found : Int)) ∧
    natV (left - many1 limit d left) = V.int ((left : Int) - (if (left : Int) < (d.found : Int) then (left : Int) else (d.found : Int))) := by
  have e : many1 limit d left = min d.found left := if_pos h
  rw [e]
  unfold natV
  by_cases c : (left : Int) < (d.found : Int)
  · rw [if_pos c, Nat.min_eq_right (by omega)]
    exact ⟨rfl, by rw [Int.sub_self, Nat.sub_self]; rfl⟩
  · rw [if_neg c, Nat.min_eq_left (by omega)]
    refine ⟨rfl, ?_⟩
    rw [Int.ofNat_sub (by omega)]
theorem ok_answered (T : Txt K mg) : ∃ fd, FnOk P w K mg base CX0 2 (ga K "answered") fd ["question", "table", "way"] (sp_answered K) ∧ Binds K fd ["question", "table", "way"] [] := by
  obtain ⟨fd, F, b⟩ := T.F_answered
  obtain ⟨_, G_put_in_order, b_put_in_order⟩ := ok_put_in_order (P := P) (w := w) (base := base) T
  refine ⟨fd, F.ok sc_answered (fun vs H Q E h => let ⟨_, _, _, _, _, _, _, e, _⟩ := h; by rw [e] <;> rfl) (fun cdv A outer s H vs Q E hr h => ⟨_, (pss_cons (ps_setLc (i := 4) (own := [("step", 3)]) rfl sc_answered.nd rfl rfl (sw_true rfl rfl rfl (by decide +kernel)) (pi_list (pe_fld (pv 2) rfl)) (blkOk_by (N := ["question", "table", "way", "step", "steps", "found", "left", "many"]) (sc := defScope s_answered) (by decide +kernel)) (fun _ _ _ _ _ => (pg_name (i := 3) sc_answered.nd rfl (Or.inl rfl))) (fun _ _ _ _ _ => (pts_one (pt_cmpR op_gt (pe_fldK (K := K) rfl (pv 3) rfl) pe_int (nomark _)))) (fun _ _ _ _ _ => (pv 3)))
  (pss_cons (ps_if (pt_not (pt_val (pe_fld (pv 2) rfl)))
    (pss_one (ps_set (i := 4) sc_answered.nd rfl (Or.inl rfl) (pe_call G_put_in_order (hr.mono (by decide)) rfl T.g_put_in_order T.k_put_in_order b_put_in_order .nil pass0 (pa_cons (pv 0) (pa_cons (pv 1) (pa_cons (pv 4) pa_nil))))))
    pss_nil)
  (pss_cons (ps_set (i := 5) sc_answered.nd rfl (Or.inl rfl) (pe_lst pa_nil))
  (pss_cons (ps_set (i := 6) sc_answered.nd rfl (Or.inl rfl) (pe_fld (pv 0) rfl))
  (pss_cons (ps_for PassesOwn.never rfl (pi_list (pv 4)) (pg_name (i := 3) sc_answered.nd rfl (Or.inl rfl))
    (pss_cons (ps_set (i := 7) sc_answered.nd rfl (Or.inl rfl) (pe_fld (pv 3) rfl))
  (pss_cons (ps_if (pt_cmpR op_gt (pe_fld (pv 0) rfl) pe_int (nomark _))
    (pss_cons (ps_set (i := 7) sc_answered.nd rfl (Or.inl rfl) (pe_callB (call_min2 rfl) (by rfl) T.b_min (by decide +kernel) (pa_cons (pv 7) (pa_cons (pv 6) pa_nil))))
  (pss_one (ps_aug (i := 6) sc_answered.nd rfl (Or.inl rfl) (pv 7) ip_sub)))
    pss_nil)
  (pss_one (ps_if (pt_cmpR op_gt (pv 7) pe_int (nomark _))
    (pss_one (ps_expr (pe_bm PySem.F.plainAttrs_list PySem.F.slot_list_append PySem.F.type_list_append mt_append (pv 5) (pa_cons (pe_tup (pa_cons (pe_fld (pv 3) rfl) (pa_cons (pv 7) pa_nil))) pa_nil))))
    pss_nil)))))
  (pss_one (ps_ret (pv 5)))))))), ?_⟩), b⟩
  obtain ⟨b', c, wa, q, t, l, free, rfl, hq, ht, wt, wq, hw, ll, hgr, k⟩ := h
  obtain ⟨dq, q1, q2, q3, fas, hb, g1, gf, g2, g3⟩ := id hq
  obtain ⟨dw, wp, was, hw1, hw2, hw3⟩ := id hw
  have el : was.length = l.length := hw3.length
  rw [answer_is] at k
  refine ⟨_, rfl, rd_Way_steps T hw1 ⟨wp, rfl, ⟨_, .of hw2⟩, fun D hD => ?_⟩⟩
  refine lc_of (l.zip was) (fun p => if p.1.found != 0 then some (V.ref p.2) else none) hD (by rw [refsV_len, List.length_zip]; omega) (by rw [List.length_zip]; omega) (.of hw2) (fun m x b H4 hx hb4 s4 R S kR kS => ?_) fun H1 s1 e1 => ?_
  · obtain ⟨sa, ea, rfl⟩ := refsV_of hx
    obtain ⟨d, ed, hd⟩ := pair_get hw3 ea
    rw [zip_get ed ea] at hb4
    cases hb4
    obtain ⟨dd, hd1⟩ := hd.same s4
    refine ⟨rfl, _, rfl, rd_Step_rows_found T hd1 ⟨_, _, rfl, rfl, _, rfl, ?_⟩⟩
    rw [pos_ne]
    refine iteB (fun c => ?_) (fun c => ?_)
    · exact ⟨_, rfl, kR _ _ (if_pos c) (Same.refl _)⟩
    · exact kS (if_neg (by rw [c]; exact Bool.false_ne_true)) _ (Same.refl _)
  · rw [fm_if] at e1
    have p1 : Paired (StepAt K H1) (((l.zip was).filter fun x => x.1.found != 0).map (·.2)) (hitsOf l) := zip_filterD (fun d => d.found != 0) (pair_mono (fun _ _ h => h.same s1) hw3)
    have e1 : H1 D = some (.lst (refsV (((l.zip was).filter fun x => x.1.found != 0).map (·.2)))) := by
      rw [e1]
      unfold refsV
      rw [List.map_map]
      rfl
    generalize (((l.zip was).filter fun x => x.1.found != 0).map (·.2)) = has at *
    have lh : (hitsOf l).length ≤ 1000 := Nat.le_trans (List.length_filter_le _ _) ll
    dsimp only
    refine if_next (tif_joinV (!free) (fun v => [some (.ref b'), some (.ref c), some (.ref wa), none, some v, none, none, none]) (fun v H' => ∃ (r : Addr) (as : List Addr), v = .ref r ∧ H' r = some (.lst (refsV as)) ∧ Paired (StepAt K H') as (putOf t q free l)) ?_ ?_ ?_ ?_)
    · intro R kR
      exact ⟨_, rfl, rd_Way_is_free T (s1 _ _ hw1) ⟨_, rfl, kR H1 (Same.refl _)⟩⟩
    · intro hc H2 D' s2 n2
      have hc : free = false := by simpa using hc
      have t2 := s1.trans s2
      refine ⟨_, rfl, _, rfl, _, rfl, b', c, D, q, t, has, hitsOf l, rfl, hq.same t2, ht.same t2, wt, wq, s2 _ _ e1, pair_mono (fun _ _ h => h.same s2) p1, lh, fun d hd => hgr d (List.mem_filter.mp hd).1, fun H3 r3 as3 s3 e3 p3 => ?_⟩
      refine n2 (.ref r3) H3 s3 ⟨r3, as3, rfl, e3, ?_⟩
      unfold putOf
      rw [if_neg (by rw [hc]; exact Bool.false_ne_true)]
      exact p3
    · intro hc H2 D' s2 n2
      have hc : free = true := by simpa using hc
      refine n2 (.ref D) H2 (Same.refl _) ⟨D, has, rfl, s2 _ _ e1, ?_⟩
      unfold putOf
      rw [if_pos hc]
      exact pair_mono (fun _ _ h => h.same s2) p1
    rintro v' H3 s3 ⟨r, as, rfl, er, pr⟩
    have t3 := s1.trans s3
    have lp : (putOf t q free l).length ≤ 1000 := Nat.le_trans (putOf_len t q free l) ll
    refine ⟨by show 0 ≤ sizeLine; exact Nat.zero_le _, fun F hF => ?_⟩
    have s4 : Same H3 (upd H3 F (.lst [])) := sm_new hF
    have t4 := t3.trans s4
    refine ⟨_, rfl, rd_Question_limit T (t4 _ _ hb) ⟨_, rfl, r, rfl, ⟨_, .of (s4 _ _ er)⟩, ?_⟩⟩
    generalize hP : putOf t q free l = Pl at *
    refine for_list (K := K) (a := r) (xs := refsV as) (fun j σ H' => ∃ (u v : Option V) (left : Nat) (bs : List Addr) (ys : List (Nat × Nat)), σ = [some (.ref b'), some (.ref c), some (.ref wa), u, some (.ref r), some (.ref F), some (natV left), v] ∧ Same H3 (hide F H') ∧ H' F = some (.lst (refsV bs)) ∧ Paired (TupAt K (hide F H')) bs ys ∧ ys.length ≤ j ∧
      ansM q.limit Pl q.limit = ys ++ ansM q.limit (Pl.drop j) left) ⟨none, none, q.limit, [], [], rfl, ?_, upd_same, .nil, Nat.le_refl _, rfl⟩ (fun j σ H' _ ⟨_, _, _, _, _, _, s, _⟩ => .of (hide_same F H' _ _ (s _ _ er))) ?_ ?_
    · exact fun b o hb => hide_at (ne_of_none hb hF) (s4 _ _ hb)
    · rintro j y σ H' hj ⟨u, v, left, bs, ys, rfl, sH, FH, TH, ly, eH⟩
      obtain ⟨sa, ea, rfl⟩ := refsV_of hj
      obtain ⟨d, ed, hd⟩ := pair_get pr ea
      have sH1 : Same H3 H' := sH.trans (hide_same F H')
      obtain ⟨dd, hd1⟩ := hd.same sH1
      have jl : j < Pl.length := (List.getElem?_eq_some_iff.mp ed).1
      rw [drop_cons ed, ansM_cons] at eH
      refine ⟨_, rfl, rd_Step_rows_found T hd1 ?_⟩
      dsimp only
      have hb' := (t3.trans sH1) _ _ hb
      refine if_next (tif_join (decide (0 < q.limit)) [some (.ref b'), some (.ref c), some (.ref wa), some (.ref sa), some (.ref r), some (.ref F), some (natV (if 0 < q.limit then left - many1 q.limit d left else left)), some (natV (many1 q.limit d left))] ?_ ?_ ?_ ?_)
      · intro R kR
        refine ⟨_, rfl, rd_Question_limit T hb' ⟨_, _, rfl, rfl, _, rfl, ?_⟩⟩
        have e : decide ((0 : Int) < (q.limit : Int)) = decide (0 < q.limit) := lt_nat 0 _
        rw [e]
        exact kR _ (Same.refl _)
      · intro hc H5 D' s5 n5
        have hc := of_decide_eq_true hc
        obtain ⟨e1', e2'⟩ := cut1 (d := d) (left := left) hc
        rw [if_pos hc, e1', e2'] at n5
        exact ⟨_, rfl, _, rfl, _, _, rfl, _, rfl, _, rfl, _, _, rfl, rfl, n5⟩
      · intro hc H5 D' s5 n5
        have hc := of_decide_eq_false hc
        have em : many1 q.limit d left = d.found := if_neg hc
        rw [if_neg hc, em] at n5
        exact n5
      intro H5 s5
      have v5 : Same H3 (hide F H5) := sH.trans (hide_mono s5)
      generalize hl7 : (if 0 < q.limit then left - many1 q.limit d left else left) = lf at *
      generalize many1 q.limit d left = mm at *
      dsimp only
      refine tif (decide (0 < mm)) ?_ ?_ ?_
      · intro R kR
        refine ⟨_, rfl, _, _, rfl, rfl, _, rfl, ?_⟩
        have e : decide ((0 : Int) < (mm : Int)) = decide (0 < mm) := lt_nat 0 _
        rw [e]
        exact kR _ (Same.refl _)
      · intro hc H6 s6
        have hc := of_decide_eq_true hc
        rw [if_pos hc] at eH
        have v6 : Same H' H6 := s5.trans s6
        have F6 := v6 _ _ FH
        have lb := TH.length
        refine ⟨_, rfl, .inl ⟨rfl, _, .of F6⟩, _, rfl, rd_Step_group T (v6 _ _ hd1) ⟨_, rfl, by show 2 ≤ sizeLine; exact sz (by decide), fun z hz => ?_⟩⟩
        have s8 : Same H6 (upd H6 z (.tup [natV d.group, natV mm])) := sm_new hz
        have v8 := v6.trans s8
        have zF : z ≠ F := (ne_of_none F6 hz).symm
        refine ⟨F, _, _, rfl, rfl, v8 _ _ FH, szl (by rw [refsV_len]; omega), _, _, lf, bs ++ [z], ys ++ [(d.group, mm)], rfl, ?_, ?_, ?_, ?_, ?_⟩
        · rw [hide_upd]
          exact sH.trans (hide_mono v8)
        · rw [upd_same, refsV_snoc]
        · rw [hide_upd]
          exact Paired.snoc (pair_mono (fun _ _ h => h.same (hide_mono v8)) TH) (.of (hide_at zF upd_same))
        · rw [List.length_append]
          show ys.length + 1 ≤ j + 1
          omega
        · rw [eH, List.append_assoc]
      · intro hc H6 s6
        have hc := of_decide_eq_false hc
        rw [if_neg hc] at eH
        have v6 : Same H' H6 := s5.trans s6
        exact ⟨_, _, lf, bs, ys, rfl, sH.trans (hide_mono v6), v6 _ _ FH, pair_mono (fun _ _ h => h.same (hide_mono v6)) TH, by omega, eH⟩
    · rintro σ H' ⟨u, v, left, bs, ys, rfl, sH, FH, TH, ly, eH⟩
      rw [refsV_len, pr.length, List.drop_length] at eH
      have eH : ansM q.limit Pl q.limit = ys := by rw [eH]; exact List.append_nil ys
      rw [eH] at k
      exact ⟨_, rfl, k H' F bs (t3.trans (sH.trans (hide_same F H'))) FH (pair_mono (fun _ _ h => h.same (hide_same F H')) TH)⟩
end
end One
set_option Elab.async false
set_option linter.all false
set_option maxRecDepth 100000
set_option maxHeartbeats 4000000
/-! The walk, D1: refusals; the desk made. -/
namespace One
open PySem PySem.Spec PyProof.Rows L2
open He (ga ma)
open Vaidxb (Done)
section
variable {P : Program} {w : World} {K : PySem.W.Frag} {mg : Str → Option Value} {base : Heap}
abbrev RF (K : PySem.W.Frag) : Value := .ref (ga K "Refused")
def sp_Refused_init (K : PySem.W.Frag) : Sp := fun vs H Q _ => ∃ (x : Addr) (n : Int), vs = [.ref x, .int n] ∧ H x = some (exo x (ga K "Refused") none) ∧ ∀ H' d, But x H H' → H d = none → d ≠ x → H' x = some (exo x (ga K "Refused") (some d)) → H' d = some (exd d [("why", .int n)]) → Q .non H'
theorem ok_Refused_init (T : Txt K mg) : ∃ fd, FnOk P w K mg base CX0 1 (ma K (ga K "Refused") "__init__") fd ["self", "why"] (sp_Refused_init K) ∧ Binds K fd ["self", "why"] [] := by
  obtain ⟨fd, F, b⟩ := T.F_Refused_init
  refine ⟨fd, F.ok sc_Refused_init (fun vs H Q E h => let ⟨_, _, e, _⟩ := h; by rw [e] <;> rfl) (fun cdv A outer s H vs Q E hr h => ⟨_, (pss_one (ps_ost (pv 0) (pv 1))), ?_⟩), b⟩
  obtain ⟨x, n, rfl, hx, q⟩ := h
  refine ⟨_, rfl, _, rfl, x, _, rfl, T.rx, T.n_Refused_why, .inl ⟨hx, fun dx hd hne => ?_⟩⟩
  refine q _ dx ?_ hd hne upd_same ((upd_ne hne).trans upd_same)
  intro b o hb h
  rw [upd_ne hb]
  exact sm_new hd _ _ h
def sp_refuse_if (K : PySem.W.Frag) : Sp := fun vs H Q E => ∃ (b : Bool) (n : Int), vs = [.bl b, .int n] ∧ (b = false → Q .non H) ∧ (b = true → ∀ d H', Same H H' → H' d = some (.xd [("why", .int n)]) → E (RF K) (some d) H')
theorem ok_refuse_if (T : Txt K mg) : ∃ fd, FnOk P w K mg base (L2.CX P w) 3 (ga K "refuse_if") fd ["truth", "why"] (sp_refuse_if K) ∧ Binds K fd ["truth", "why"] [] := by
  obtain ⟨fd, F, b⟩ := T.F_refuse_if
  obtain ⟨_, G_Refused_init, b_Refused_init⟩ := ok_Refused_init (P := P) (w := w) (base := base) T
  refine ⟨fd, F.okX sc_refuse_if (fun vs H Q E h => let ⟨_, _, e, _⟩ := h; by rw [e] <;> rfl) (fun cdv A outer s H vs Q E hr h => ⟨_, (pss_one (ps_if (pt_val (pv 0))
    (pss_one (ps_raise rfl (takes_of rfl rfl rfl rfl) (pmk_oex T.rx T.ri T.rt G_Refused_init (hr.mono (by decide)) b_Refused_init .nil pass0 rfl T.g_Refused (pa_cons (pv 1) pa_nil))))
    pss_nil)), ?_⟩), b⟩
  obtain ⟨b', n, rfl, kY, kN⟩ := h
  refine ⟨_, rfl, _, rfl, iteB (fun hc => ?_) (fun hc => kY hc)⟩
  refine ⟨_, rfl, by show 1 ≤ 1000; decide, fun a ha => ⟨a, n, rfl, upd_same, fun H' d b1 hd hne e1 e2 => ⟨rfl, d, _, e1, e2, (by rw [upd_ne hne] at hd; exact hd), ?_⟩⟩⟩
  refine kN hc d _ ?_ upd_same
  intro b o h
  have nb : b ≠ a := ne_of_none h ha
  have nd : b ≠ d := ne_of_none h (by rw [upd_ne hne] at hd; exact hd)
  rw [upd_ne nd, del_ne nb]
  exact b1 b o nb (sm_new ha _ _ h)
def TabV (K : PySem.W.Frag) (H : Hp) (v : V) : Option Tbl → Prop
  | none => v = .non
  | some t => ∃ a, v = .ref a ∧ TableAt K H a t ∧ WfT t
def QueV (K : PySem.W.Frag) (H : Hp) (v : V) : Option Qst → Prop
  | none => v = .non
  | some q => ∃ a, v = .ref a ∧ QuestionAt K H a q
def IdxV (K : PySem.W.Frag) (H : Hp) (v : V) : Option Idx → Prop
  | none => v = .non
  | some i => ∃ a, v = .ref a ∧ IndexAt K H a i
structure WfS (s : Vaidxb.State) : Prop where
  q : ∀ t q, s.table = some t → s.question = some q → WfQ t.cols q
  i : ∀ t i, s.table = some t → s.index = some i → WfI t.cols i
def DeskAt (K : PySem.W.Frag) (H : Hp) (d : Addr) (s : Vaidxb.State) : Prop := ∃ dx v0 v1 v2, H d = some (.ins (ga K "Desk") dx (fs_Desk v0 v1 v2)) ∧ TabV K H v0 s.table ∧ QueV K H v1 s.question ∧ IdxV K H v2 s.index ∧ WfS s
section
variable {H H' : Hp} {v : V}
theorem TabV.pres {o : Option Tbl} (k : Pres K H H') (h : TabV K H v o) : TabV K H' v o := by
  cases o with
  | none => exact h
  | some t =>
    obtain ⟨a, e, h, w⟩ := h
    exact ⟨a, e, h.pres k, w⟩
theorem QueV.pres {o : Option Qst} (k : Pres K H H') (h : QueV K H v o) : QueV K H' v o := by
  cases o with
  | none => exact h
  | some t =>
    obtain ⟨a, e, h⟩ := h
    exact ⟨a, e, h.pres k⟩
theorem IdxV.pres {o : Option Idx} (k : Pres K H H') (h : IdxV K H v o) : IdxV K H' v o := by
  cases o with
  | none => exact h
  | some t =>
    obtain ⟨a, e, h⟩ := h
    exact ⟨a, e, h.pres k⟩
theorem DeskAt.same {d : Addr} {s : Vaidxb.State} (k : Same H H') : DeskAt K H d s → DeskAt K H' d s := fun ⟨dx, v0, v1, v2, h0, h1, h2, h3, h4⟩ => ⟨dx, v0, v1, v2, k _ _ h0, h1.pres (.of k), h2.pres (.of k), h3.pres (.of k), h4⟩
end
/-- with an old list taken off the desk stands likewise -/
def Frm (K : PySem.W.Frag) (H H' : Hp) (d : Addr) (s s' : Vaidxb.State) : Prop := ∀ F o, H F = some o → DeskAt K (hide F H) d s → DeskAt K (hide F H') d s'
theorem Frm.of {H H' : Hp} {d : Addr} {s : Vaidxb.State} (k : Same H H') : Frm K H H' d s s := fun F o _ h => h.same (hide_mono k)
theorem Frm.trans {H H1 H2 : Hp} {d : Addr} {s s1 s2 : Vaidxb.State} (a : Frm K H H1 d s s1) (b : Frm K H1 H2 d s1 s2) (k : But d H H1) : Frm K H H2 d s s2 := fun F o h hd => by
  by_cases e : F = d
  · obtain ⟨dx, v0, v1, v2, h0, _⟩ := hd
    unfold hide at h0
    rw [if_pos e.symm] at h0
    cases h0
  · exact b F o (k _ _ e h) (a F o h hd)
/-- a desk's fields are its own -/
theorem DeskAt.fields {H G : Hp} {d dx : Addr} {v0 v1 v2 : V} {s : Vaidxb.State} (k : Same G H) (h0 : H d = some (.ins (ga K "Desk") dx (fs_Desk v0 v1 v2))) (h : DeskAt K G d s) : G d = some (.ins (ga K "Desk") dx (fs_Desk v0 v1 v2)) ∧ TabV K G v0 s.table ∧ QueV K G v1 s.question ∧ IdxV K G v2 s.index ∧ WfS s := by
  obtain ⟨dx', w0, w1, w2, g0, g1⟩ := h
  have e := k _ _ g0
  rw [h0] at e
  unfold fs_Desk at e g0 ⊢
  cases e
  exact ⟨g0, g1⟩
def sp_Desk_init (K : PySem.W.Frag) : Sp := fun vs H Q _ => ∃ (x dx : Addr), vs = [.ref x] ∧ H x = some (.ins (ga K "Desk") dx []) ∧ ∀ H', But x H H' → H' x = some (.ins (ga K "Desk") dx (fs_Desk .non .non .non)) → Q .non H'
theorem ok_Desk_init (T : Txt K mg) : ∃ fd, FnOk P w K mg base CX0 1 (ma K (ga K "Desk") "__init__") fd ["self"] (sp_Desk_init K) ∧ Binds K fd ["self"] [] := by
  obtain ⟨fd, F, b⟩ := T.F_Desk_init
  refine ⟨fd, F.ok sc_Desk_init (fun vs H Q E h => let ⟨_, _, e, _⟩ := h; by rw [e] <;> rfl) (fun cdv A outer s H vs Q E hr h => ⟨_, (pss_cons (ps_fld (pv 0) pe_non rfl)
  (pss_cons (ps_fld (pv 0) pe_non rfl)
  (pss_one (ps_fld (pv 0) pe_non rfl)))), ?_⟩), b⟩
  obtain ⟨x, dx, rfl, hx, q⟩ := h
  refine ⟨_, rfl, x, _, dx, _, rfl, hx, T.cl_Desk, T.n_Desk_table, small rfl, ?_⟩
  refine ⟨_, rfl, x, _, dx, _, rfl, upd_same, T.cl_Desk, T.n_Desk_question, small rfl, ?_⟩
  refine ⟨_, rfl, x, _, dx, _, rfl, upd_same, T.cl_Desk, T.n_Desk_index_told, small rfl, ?_⟩
  exact q _ ((But.wr.trans But.wr).trans But.wr) upd_same
/-- what a call answers: a new list; the desk then as told -/
def ansAt (H0 H : Hp) (r : Addr) (zs : List Int) : Prop := H0 r = none ∧ H r = some (.lst (zs.map V.int))
theorem set_seq {to te : TE} {f : Str} {u : TS} {D : Ends} {σ : L2.St} {H : Hp} {d dx C : Addr} {fs : List (Str × V)} {v : V} (hte : ∀ Q : VK, Q v H → te σ H Q) (hto : ∀ Q : VK, Q (.ref d) H → to σ H Q) (hd : H d = some (.ins C dx fs)) (c : Cls K C) (n : NoAttr K C f) (l : fs.length < 1000)
    (h : ∀ W, But d H W → W d = some (.ins C dx (putF f v fs)) → u D σ W) : tSeq (sFld K to te f) u D σ H :=
  hte _ (hto _ ⟨d, C, dx, fs, rfl, hd, c, n, l, h _ But.wr upd_same⟩)
theorem name_set {i : Nat} {x : V} {to te : TE} {f : Str} {u : TS} {D : Ends} {σ : L2.St} {H : Hp} (h : tSeq (sFld K to te f) u D (σ.set i (some x)) H) : gName i x σ H (tSeq (sFld K to te f) u D) := h
theorem step_table (s : Vaidxb.State) (ns : List Int) : Vaidxb.step s (.table ns) = match tableM ns with
    | none => (s, [-1])
    | some t => (⟨some t, none, none⟩, [(t.cols : Int), (t.groups.length : Int), (VaidxBase.allRows t : Int)]) := by
  rw [tableM_is]
  rfl
def sp_Desk_put_table (K : PySem.W.Frag) : Sp := fun vs H Q _ => ∃ (d np : Addr) (s : Vaidxb.State) (ns : List Int), vs = [.ref d, .ref np] ∧ DeskAt K H d s ∧ H np = some (.lst (ns.map V.int)) ∧ ns.length ≤ 1000 ∧
  ∀ H' r, But d H H' → DeskAt K H' d (Vaidxb.step s (.table ns)).1 → Frm K H H' d s (Vaidxb.step s (.table ns)).1 → ansAt H H' r (Vaidxb.step s (.table ns)).2 → Q (.ref r) H'
theorem ok_Desk_put_table (T : Txt K mg) : ∃ fd, FnOk P w K mg base CX0 4 (ma K (ga K "Desk") "put_table") fd ["self", "numbers"] (sp_Desk_put_table K) ∧ Binds K fd ["self", "numbers"] [] := by
  obtain ⟨fd, F, b⟩ := T.F_Desk_put_table
  obtain ⟨_, G_Table_all_rows, b_Table_all_rows⟩ := ok_Table_all_rows (P := P) (w := w) (base := base) T
  obtain ⟨_, G_table_of, b_table_of⟩ := ok_table_of (P := P) (w := w) (base := base) T
  refine ⟨fd, F.ok sc_Desk_put_table (fun vs H Q E h => let ⟨_, _, _, _, e, _⟩ := h; by rw [e] <;> rfl) (fun cdv A outer s H vs Q E hr h => ⟨_, (pss_cons (ps_try_only rfl rfl ⟨rfl, by decide, Or.inl T.g_NotWhole⟩ takes0 (fun W pn xe tk _ => (pss_one (ps_set (i := 2) sc_Desk_put_table.nd rfl (Or.inl rfl) (pe_callS G_table_of (hr.mono (by decide)) rfl T.g_table_of T.k_table_of b_table_of (fun σ => passAt tk σ) (by exact (pa_cons (pv 1) pa_nil)))))) (fun _ _ _ _ _ _ _ => (pss_one (ps_ret (pe_lst (pa_cons (pe_un un_neg pe_int) pa_nil))))))
  (pss_cons (ps_fld (pv 0) (pv 2) rfl)
  (pss_cons (ps_fld (pv 0) pe_non rfl)
  (pss_cons (ps_fld (pv 0) pe_non rfl)
  (pss_one (ps_ret (pe_lst (pa_cons (pe_fld (pv 2) rfl) (pa_cons (pe_callB call_len_seq (by rfl) T.b_len PySem.boot_len (pa_cons (pe_fld (pv 2) rfl) pa_nil)) (pa_cons (pe_meth0 (pv 2) T.cl_Table T.mt_Table_all_rows G_Table_all_rows (hr.mono (by decide)) b_Table_all_rows .nil pass0) pa_nil)))))))))), ?_⟩), b⟩
  obtain ⟨d, np, st, ns, rfl, hd, hn, hl, k⟩ := h
  rw [step_table] at k
  obtain ⟨dx, v0, v1, v2, h0, h1, h2, h3, h4⟩ := id hd
  refine ⟨_, rfl, np, ns, rfl, hn, hl, fun t a H1 et s1 htn => ?_, fun et H1 s1 => ⟨true, T.eN, fun _ a ha => ?_, fun z => by cases z⟩⟩
  · rw [et] at k
    have wt := wf_table et
    have ht := htn.same (new_same H H1)
    have n1 := s1 _ _ h0
    dsimp only
    refine name_set (set_seq (fun Q q => ⟨_, rfl, q⟩) (fun Q q => ⟨_, rfl, q⟩) n1 T.cl_Desk T.n_Desk_table (small rfl) fun W1 b1 e1 => ?_)
    refine set_seq (fun Q q => q) (fun Q q => ⟨_, rfl, q⟩) e1 T.cl_Desk T.n_Desk_question (small rfl) fun W2 b2 e2 => ?_
    refine set_seq (fun Q q => q) (fun Q q => ⟨_, rfl, q⟩) e2 T.cl_Desk T.n_Desk_index_told (small rfl) fun W b3 e3 => ?_
    have b4 : But d H1 W := (b1.trans b2).trans b3
    have pr : Pres K H1 W := Pres.but b4 n1 T.i_Desk
    have htW := ht.pres pr
    have dW : DeskAt K W d ⟨some t, none, none⟩ := ⟨dx, _, _, _, e3, ⟨a, rfl, htW, wt⟩, rfl, rfl, ⟨(fun _ _ _ z => by cases z), (fun _ _ _ z => by cases z)⟩⟩
    have fr : Frm K H W d st ⟨some t, none, none⟩ := fun F o hF hdF => by
      obtain ⟨f0, f1⟩ := hdF.fields (hide_same F H) h0
      have dF : d ≠ F := fun z => by
        unfold hide at f0
        rw [if_pos z] at f0
        cases f0
      have eW : hide F W d = some (.ins (ga K "Desk") dx (fs_Desk (.ref a) .non .non)) := hide_at dF e3
      exact ⟨dx, _, _, _, eW, ⟨a, rfl, (htn.same (new_hide hF)).pres (hide_pres pr), wt⟩, rfl, rfl, ⟨(fun _ _ _ z => by cases z), (fun _ _ _ z => by cases z)⟩⟩
    obtain ⟨dt, tp, gas, hct, htp, hg⟩ := id htW
    have eg : (refsV gas).length = t.groups.length := by rw [refsV_len]; exact hg.length
    refine ⟨_, rfl, rd_Table_columns T hct ⟨_, rfl, rd_Table_groups T hct ⟨tp, _, rfl, .inl (.of htp), _, rfl, rm_Table_all_rows hct ⟨a, t, rfl, htW, wt, fun H9 s9 => ⟨by show 3 ≤ sizeLine; exact sz (by decide), fun r hr => ?_⟩⟩⟩⟩⟩
    rw [eg]
    exact k _ r (((But.of s1).trans b4).trans (.of (s9.trans (sm_new hr)))) (dW.same (s9.trans (sm_new hr))) (fr.trans (.of (s9.trans (sm_new hr))) ((But.of s1).trans b4)) ⟨(((But.of s1).trans b4).trans (.of s9)).back ⟨_, s9 _ _ e3⟩ hr, upd_same⟩
  · rw [et] at k
    refine ⟨1, rfl, by show 1 ≤ sizeLine; exact sz (by decide), fun r hr => k _ r ((But.of s1).trans (.of (sm_new hr))) ((hd.same s1).same (sm_new hr)) (.of (s1.trans (sm_new hr))) ⟨sm_back s1 hr, upd_same⟩⟩
theorem step_question {s : Vaidxb.State} {t : Tbl} (ht : s.table = some t) (wt : WfT t) (ns : List Int) : Vaidxb.step s (.question ns) = match questionM t.cols ns with
    | none => (s, [-1])
    | some q => ({ s with question := some q }, [(VaidxBase.foundRows t q : Int)]) := by
  rw [questionM_is wt.one]
  show Vaidxb.onTable s _ = _
  unfold Vaidxb.onTable
  rw [ht]
  rfl
theorem step_index {s : Vaidxb.State} {t : Tbl} (ht : s.table = some t) (wt : WfT t) (ns : List Int) : Vaidxb.step s (.index ns) = match indexM t.cols ns with
    | none => (s, [-1])
    | some i => ({ s with index := some i }, [(VaidxBase.entriesIn t i : Int), (VaidxBase.roomOf t i : Int)]) := by
  rw [indexM_is wt.one]
  show Vaidxb.onTable s _ = _
  unfold Vaidxb.onTable
  rw [ht]
  rfl
def sp_Desk_put_question (K : PySem.W.Frag) : Sp := fun vs H Q _ => ∃ (d np : Addr) (s : Vaidxb.State) (t : Tbl) (ns : List Int), vs = [.ref d, .ref np] ∧ DeskAt K H d s ∧ s.table = some t ∧ H np = some (.lst (ns.map V.int)) ∧ ns.length ≤ 1000 ∧
  ∀ H' r, But d H H' → DeskAt K H' d (Vaidxb.step s (.question ns)).1 → Frm K H H' d s (Vaidxb.step s (.question ns)).1 → ansAt H H' r (Vaidxb.step s (.question ns)).2 → Q (.ref r) H'
theorem ok_Desk_put_question (T : Txt K mg) : ∃ fd, FnOk P w K mg base CX0 5 (ma K (ga K "Desk") "put_question") fd ["self", "numbers"] (sp_Desk_put_question K) ∧ Binds K fd ["self", "numbers"] [] := by
  obtain ⟨fd, F, b⟩ := T.F_Desk_put_question
  obtain ⟨_, G_Question_finds, b_Question_finds⟩ := ok_Question_finds (P := P) (w := w) (base := base) T
  obtain ⟨_, G_question_of, b_question_of⟩ := ok_question_of (P := P) (w := w) (base := base) T
  refine ⟨fd, F.ok sc_Desk_put_question (fun vs H Q E h => let ⟨_, _, _, _, _, e, _⟩ := h; by rw [e] <;> rfl) (fun cdv A outer s H vs Q E hr h => ⟨_, (pss_cons (ps_try_only rfl rfl ⟨rfl, by decide, Or.inl T.g_NotWhole⟩ takes0 (fun W pn xe tk _ => (pss_one (ps_set (i := 2) sc_Desk_put_question.nd rfl (Or.inr rfl) (pe_callS G_question_of (hr.mono (by decide)) rfl T.g_question_of T.k_question_of b_question_of (fun σ => passAt tk σ) (by exact (pa_cons (pv 1) (pa_cons (pe_fldK (K := K) rfl (pe_fldK (K := K) rfl (pv 0) rfl) rfl) pa_nil))))))) (fun _ _ _ _ _ _ _ => (pss_one (ps_ret (pe_lst (pa_cons (pe_un un_neg pe_int) pa_nil))))))
  (pss_cons (ps_fld (pv 0) (pv 2) rfl)
  (pss_one (ps_ret (pe_lst (pa_cons (pe_callB (cr_sum rfl) (by rfl) T.b_sum (by decide +kernel) (pa_cons (pe_lc (own := [("group", 3)]) rfl sc_Desk_put_question.nd (pi_list (pe_fld (pe_fld (pv 0) rfl) rfl)) (blkOk_by (N := ["self", "numbers", "question", "group"]) (sc := defScope s_Desk_put_question) (by decide +kernel)) (fun _ _ _ _ _ => (pg_name (i := 3) sc_Desk_put_question.nd rfl (Or.inl rfl))) (fun _ _ _ _ _ => (pts_one (pt_val (pe_meth (pv 2) T.cl_Question T.mt_Question_finds G_Question_finds (hr.mono (by decide)) b_Question_finds .nil pass0 (pa_cons (pv 3) pa_nil))))) (fun _ _ _ _ _ => (pe_fldK (K := K) rfl (pv 3) rfl))) pa_nil)) pa_nil)))))), ?_⟩), b⟩
  obtain ⟨d, np, st, t, ns, rfl, hd, et, hn, hl, k⟩ := h
  obtain ⟨dx, v0, v1, v2, h0, h1, h2, h3, h4⟩ := id hd
  rw [et] at h1
  obtain ⟨ta, rfl, htt, wt⟩ := h1
  rw [step_question et wt] at k
  obtain ⟨dt, tp, gas, hct, htp, hg⟩ := id htt
  refine ⟨_, rfl, _, rfl, rd_Desk_table T h0 (rd_Table_columns T hct ⟨np, ns, t.cols, rfl, hn, hl, wt.one, wt.cols, fun q a H1 eq s1 hqn => ?_, fun eq H1 s1 => ⟨true, T.eN, fun _ a ha => ?_, fun z => by cases z⟩⟩)⟩
  · rw [eq] at k
    have wq := wf_question wt.one wt.cols eq
    have hq := hqn.same (new_same H H1)
    have n1 := s1 _ _ h0
    dsimp only
    refine name_set (set_seq (fun Q q => ⟨_, rfl, q⟩) (fun Q q => ⟨_, rfl, q⟩) n1 T.cl_Desk T.n_Desk_question (small rfl) fun W b1 e1 => ?_)
    have pr : Pres K H1 W := Pres.but b1 n1 T.i_Desk
    have pr0 : Pres K H W := (Pres.of s1).trans pr
    have dW : DeskAt K W d { st with question := some q } := ⟨dx, _, _, _, e1, by show TabV K W _ st.table; rw [et]; exact ⟨ta, rfl, htt.pres pr0, wt⟩, ⟨a, rfl, hq.pres pr⟩, h3.pres pr0, ⟨fun t' q' z1 z2 => by
      have z1 : st.table = some t' := z1
      rw [et] at z1
      cases z1
      cases z2
      exact wq, h4.i⟩⟩
    have fr : Frm K H W d st { st with question := some q } := fun F o hF hdF => by
      obtain ⟨f0, f1, f2, f3, f4⟩ := hdF.fields (hide_same F H) h0
      have dF : d ≠ F := fun z => by
        unfold hide at f0
        rw [if_pos z] at f0
        cases f0
      have eW := hide_at dF e1
      exact ⟨dx, _, _, _, eW, f1.pres (hide_pres pr0), ⟨a, rfl, (hqn.same (new_hide hF)).pres (hide_pres pr)⟩, f3.pres (hide_pres pr0), dW.elim fun _ z => z.elim fun _ z => z.elim fun _ z => z.elim fun _ z => z.2.2.2.2⟩
    obtain ⟨dt2, tp2, gas2, hct2, htp2, hg2⟩ := htt.pres pr0
    obtain ⟨dq, q1, q2, q3, fas, hqa, g1, gf, g2, g3⟩ := hq.pres pr
    have hqW := hq.pres pr
    refine ⟨_, rfl, rd_Desk_table T e1 (rd_Table_groups T hct2 ⟨tp2, rfl, ⟨_, .of htp2⟩, fun D hD => ?_⟩)⟩
    refine lc_of t.groups (fun g => if VaidxBase.found q g.row then some (natV g.count) else none) hD (by rw [refsV_len, hg2.length]) (Nat.le_trans wt.few (by decide)) (.of htp2) (fun j x b H' hx hb' s R S kR kS => ?_) fun H' s e => ?_
    · obtain ⟨ga', ea, rfl⟩ := refsV_of hx
      obtain ⟨g, eg, hga⟩ := pair_get hg2 ea
      rw [hb'] at eg
      cases eg
      have hga := hga.same s
      obtain ⟨dg, pg, hg1', hg2'⟩ := id hga
      refine ⟨rfl, _, rfl, rm_Question_finds (s _ _ hqa) ⟨_, rfl, a, ga', q, b, rfl, hqW.same s, hga, fun f hf => by rw [wt.wide b (List.mem_of_getElem? hb')]; exact wq.fcol f hf, by have := wq.fl; omega, fun H5 s5 => ⟨_, rfl, ?_⟩⟩⟩
      refine iteB (fun c => ?_) (fun c => ?_)
      · exact ⟨_, rfl, rd_Group_count T (s5 _ _ hg1') (kR _ _ (if_pos c) s5)⟩
      · exact kS (if_neg (by rw [c]; exact Bool.false_ne_true)) _ s5
    · obtain ⟨e1', e2'⟩ := counts_sum t.groups fun g => VaidxBase.found q g.row
      rw [e1'] at e
      refine ⟨_, _, rfl, .of e, ?_⟩
      rw [e2']
      refine ⟨by show 1 ≤ sizeLine; exact sz (by decide), fun r hr => ?_⟩
      exact k _ r (((But.of s1).trans b1).trans (.of (s.trans (sm_new hr)))) (dW.same (s.trans (sm_new hr))) (fr.trans (.of (s.trans (sm_new hr))) ((But.of s1).trans b1)) ⟨(((But.of s1).trans b1).trans (.of s)).back ⟨_, s _ _ e1⟩ hr, upd_same⟩
  · rw [eq] at k
    refine ⟨1, rfl, by show 1 ≤ sizeLine; exact sz (by decide), fun r hr => k _ r ((But.of s1).trans (.of (sm_new hr))) ((hd.same s1).same (sm_new hr)) (.of (s1.trans (sm_new hr))) ⟨sm_back s1 hr, upd_same⟩⟩
def sp_Desk_put_index (K : PySem.W.Frag) : Sp := fun vs H Q _ => ∃ (d np : Addr) (s : Vaidxb.State) (t : Tbl) (ns : List Int), vs = [.ref d, .ref np] ∧ DeskAt K H d s ∧ s.table = some t ∧ H np = some (.lst (ns.map V.int)) ∧ ns.length ≤ 1000 ∧
  ∀ H' r, But d H H' → DeskAt K H' d (Vaidxb.step s (.index ns)).1 → Frm K H H' d s (Vaidxb.step s (.index ns)).1 → ansAt H H' r (Vaidxb.step s (.index ns)).2 → Q (.ref r) H'
theorem ok_Desk_put_index (T : Txt K mg) : ∃ fd, FnOk P w K mg base CX0 5 (ma K (ga K "Desk") "put_index") fd ["self", "numbers"] (sp_Desk_put_index K) ∧ Binds K fd ["self", "numbers"] [] := by
  obtain ⟨fd, F, b⟩ := T.F_Desk_put_index
  obtain ⟨_, G_Index_own, b_Index_own⟩ := ok_Index_own (P := P) (w := w) (base := base) T
  obtain ⟨_, G_Index_entries, b_Index_entries⟩ := ok_Index_entries (P := P) (w := w) (base := base) T
  obtain ⟨_, G_index_of, b_index_of⟩ := ok_index_of (P := P) (w := w) (base := base) T
  refine ⟨fd, F.ok sc_Desk_put_index (fun vs H Q E h => let ⟨_, _, _, _, _, e, _⟩ := h; by rw [e] <;> rfl) (fun cdv A outer s H vs Q E hr h => ⟨_, (pss_cons (ps_try_only rfl rfl ⟨rfl, by decide, Or.inl T.g_NotWhole⟩ takes0 (fun W pn xe tk _ => (pss_one (ps_set (i := 2) sc_Desk_put_index.nd rfl (Or.inl rfl) (pe_callS G_index_of (hr.mono (by decide)) rfl T.g_index_of T.k_index_of b_index_of (fun σ => passAt tk σ) (by exact (pa_cons (pv 1) (pa_cons (pe_fldK (K := K) rfl (pe_fldK (K := K) rfl (pv 0) rfl) rfl) pa_nil))))))) (fun _ _ _ _ _ _ _ => (pss_one (ps_ret (pe_lst (pa_cons (pe_un un_neg pe_int) pa_nil))))))
  (pss_cons (ps_fld (pv 0) (pv 2) rfl)
  (pss_cons (ps_set (i := 3) sc_Desk_put_index.nd rfl (Or.inl rfl) (pe_meth (pv 2) T.cl_Index T.mt_Index_entries G_Index_entries (hr.mono (by decide)) b_Index_entries .nil pass0 (pa_cons (pe_fld (pv 0) rfl) pa_nil)))
  (pss_one (ps_ret (pe_lst (pa_cons (pv 3) (pa_cons (pe_op op_mul (pv 3) (pe_op op_add pe_int (pe_callB call_len_seq (by rfl) T.b_len PySem.boot_len (pa_cons (pe_meth0 (pv 2) T.cl_Index T.mt_Index_own G_Index_own (hr.mono (by decide)) b_Index_own .nil pass0) pa_nil)))) pa_nil)))))))), ?_⟩), b⟩
  obtain ⟨d, np, st, t, ns, rfl, hd, et, hn, hl, k⟩ := h
  obtain ⟨dx, v0, v1, v2, h0, h1, h2, h3, h4⟩ := id hd
  rw [et] at h1
  obtain ⟨ta, rfl, htt, wt⟩ := h1
  rw [step_index et wt] at k
  obtain ⟨dt, tp, gas, hct, htp, hg⟩ := id htt
  refine ⟨_, rfl, _, rfl, rd_Desk_table T h0 (rd_Table_columns T hct ⟨np, ns, t.cols, rfl, hn, hl, wt.one, wt.cols, fun i a H1 eq s1 hin => ?_, fun eq H1 s1 => ⟨true, T.eN, fun _ a ha => ?_, fun z => by cases z⟩⟩)⟩
  · rw [eq] at k
    have wi := wf_index wt.one wt.cols eq
    have hi := hin.same (new_same H H1)
    have n1 := s1 _ _ h0
    dsimp only
    refine name_set (set_seq (fun Q q => ⟨_, rfl, q⟩) (fun Q q => ⟨_, rfl, q⟩) n1 T.cl_Desk T.n_Desk_index_told (small rfl) fun W b1 e1 => ?_)
    have pr : Pres K H1 W := Pres.but b1 n1 T.i_Desk
    have pr0 : Pres K H W := (Pres.of s1).trans pr
    have dW : DeskAt K W d { st with index := some i } := ⟨dx, _, _, _, e1, by show TabV K W _ st.table; rw [et]; exact ⟨ta, rfl, htt.pres pr0, wt⟩, h2.pres pr0, ⟨a, rfl, hi.pres pr⟩, ⟨h4.q, fun t' q' z1 z2 => by
      have z1 : st.table = some t' := z1
      rw [et] at z1
      cases z1
      cases z2
      exact wi⟩⟩
    have fr : Frm K H W d st { st with index := some i } := fun F o hF hdF => by
      obtain ⟨f0, f1, f2, f3, f4⟩ := hdF.fields (hide_same F H) h0
      have dF : d ≠ F := fun z => by
        unfold hide at f0
        rw [if_pos z] at f0
        cases f0
      have eW := hide_at dF e1
      exact ⟨dx, _, _, _, eW, f1.pres (hide_pres pr0), f2.pres (hide_pres pr0), ⟨a, rfl, (hin.same (new_hide hF)).pres (hide_pres pr)⟩, dW.elim fun _ z => z.elim fun _ z => z.elim fun _ z => z.elim fun _ z => z.2.2.2.2⟩
    have hiW := hi.pres pr
    obtain ⟨di, p1, p2, cv, hia, hi1, hi2, hi3⟩ := id hiW
    refine ⟨_, rfl, rm_Index_entries hia ⟨_, rfl, rd_Desk_table T e1 ⟨a, ta, i, t, rfl, hiW, htt.pres pr0, wt, wi, fun H2 s2 => ?_⟩⟩⟩
    refine ⟨_, rfl, _, rfl, _, rfl, rm_Index_own (s2 _ _ hia) ⟨a, i, rfl, hiW.same s2, by have := wi.kl; omega, by have := wi.il; omega, fun H3 r3 s3 f3 e3 => ⟨r3, _, rfl, .inl (.of e3), ?_⟩⟩⟩
    have lc : (natsV (VaidxBase.columnsOf i)).length ≤ 8 := by
      rw [natsV_len]
      unfold VaidxBase.columnsOf
      rw [List.length_append]
      have := wi.kl
      have := wi.il
      omega
    have er : (VaidxBase.entriesIn t i : Int) * (1 + ((natsV (VaidxBase.columnsOf i)).length : Int)) = (VaidxBase.roomOf t i : Int) := by
      unfold VaidxBase.roomOf
      rw [natsV_len, Int.natCast_mul, Int.natCast_add, Int.add_comm]
      rfl
    refine ⟨_, _, rfl, rfl, _, _, rfl, rfl, .inr ⟨by omega, by omega⟩, by show 2 ≤ sizeLine; exact sz (by decide), fun r hr => ?_⟩
    have s4 := s2.trans (s3.trans (sm_new (o := .lst [natV (VaidxBase.entriesIn t i), V.int ((VaidxBase.entriesIn t i : Int) * (1 + ((natsV (VaidxBase.columnsOf i)).length : Int)))]) hr))
    refine k _ r (((But.of s1).trans b1).trans (.of s4)) (dW.same s4) (fr.trans (.of s4) ((But.of s1).trans b1)) ?_
    refine ⟨(((But.of s1).trans b1).trans (.of (s2.trans s3))).back ⟨_, (s2.trans s3) _ _ e1⟩ hr, ?_⟩
    dsimp only
    rw [← er]
    exact upd_same
  · rw [eq] at k
    refine ⟨1, rfl, by show 1 ≤ sizeLine; exact sz (by decide), fun r hr => k _ r ((But.of s1).trans (.of (sm_new hr))) ((hd.same s1).same (sm_new hr)) (.of (s1.trans (sm_new hr))) ⟨sm_back s1 hr, upd_same⟩⟩
end
end One
set_option Elab.async false
set_option linter.all false
set_option maxRecDepth 100000
set_option maxHeartbeats 4000000
/-! The walk, D2: what the desk tells. -/
namespace One
open PySem PySem.Spec PyProof.Rows L2
open He (ga ma)
open Vaidxb (Done)
section
variable {P : Program} {w : World} {K : PySem.W.Frag} {mg : Str → Option Value} {base : Heap}
def D3 (K : PySem.W.Frag) (H : Hp) (d : Addr) (t : Tbl) (q : Qst) (i : Idx) : Prop := ∃ dx a b c, H d = some (.ins (ga K "Desk") dx (fs_Desk (.ref a) (.ref b) (.ref c))) ∧ TableAt K H a t ∧ QuestionAt K H b q ∧ IndexAt K H c i ∧ WfT t ∧ WfQ t.cols q ∧ WfI t.cols i
def D2 (K : PySem.W.Frag) (H : Hp) (d : Addr) (t : Tbl) (q : Qst) : Prop := ∃ dx a b v, H d = some (.ins (ga K "Desk") dx (fs_Desk (.ref a) (.ref b) v)) ∧ TableAt K H a t ∧ QuestionAt K H b q ∧ WfT t ∧ WfQ t.cols q
section
variable {H H' : Hp} {d : Addr} {t : Tbl} {q : Qst} {i : Idx}
theorem D3.same (s : Same H H') : D3 K H d t q i → D3 K H' d t q i := fun ⟨dx, a, b, c, h0, h1, h2, h3, h4⟩ => ⟨dx, a, b, c, s _ _ h0, h1.same s, h2.same s, h3.same s, h4⟩
theorem D2.same (s : Same H H') : D2 K H d t q → D2 K H' d t q := fun ⟨dx, a, b, c, h0, h1, h2, h4⟩ => ⟨dx, a, b, c, s _ _ h0, h1.same s, h2.same s, h4⟩
theorem D3.two : D3 K H d t q i → D2 K H d t q := fun ⟨dx, a, b, c, h0, h1, h2, h3, h4, h5, h6⟩ => ⟨dx, a, b, .ref c, h0, h1, h2, h4, h5⟩
theorem DeskAt.three {s : Vaidxb.State} (h : DeskAt K H d s) (et : s.table = some t) (eq : s.question = some q) (ei : s.index = some i) : D3 K H d t q i := by
  obtain ⟨dx, v0, v1, v2, h0, h1, h2, h3, h4⟩ := h
  rw [et] at h1
  rw [eq] at h2
  rw [ei] at h3
  obtain ⟨a, rfl, h1, wt⟩ := h1
  obtain ⟨b, rfl, h2⟩ := h2
  obtain ⟨c, rfl, h3⟩ := h3
  exact ⟨dx, a, b, c, h0, h1, h2, h3, wt, h4.q t q et eq, h4.i t i et ei⟩
theorem DeskAt.two {s : Vaidxb.State} (h : DeskAt K H d s) (et : s.table = some t) (eq : s.question = some q) : D2 K H d t q := by
  obtain ⟨dx, v0, v1, v2, h0, h1, h2, h3, h4⟩ := h
  rw [et] at h1
  rw [eq] at h2
  obtain ⟨a, rfl, h1, wt⟩ := h1
  obtain ⟨b, rfl, h2⟩ := h2
  exact ⟨dx, a, b, v2, h0, h1, h2, wt, h4.q t q et eq⟩
end
theorem entries_get {t : Tbl} {i : Idx} {q : Qst} {g : Grp} (h : g ∈ VaidxBase.entries t i q) : ∃ n : Nat, t.groups[n]? = some g := by
  rw [ranged_entries] at h
  obtain ⟨p, hp, rfl⟩ := List.mem_map.mp h
  exact ⟨p.2, ranged_get hp⟩
theorem entries_len {t : Tbl} {i : Idx} {q : Qst} : (VaidxBase.entries t i q).length ≤ t.groups.length := by
  rw [ranged_entries, List.length_map]
  exact ranged_len t i q
theorem index_len {t : Tbl} {i : Idx} {q : Qst} (wt : WfT t) : (Vaidxb.indexTrace t i q).length ≤ 12 := Nat.le_trans (traced_len _ _ _ _ _ _ _) (Nat.le_trans entries_len wt.few)
theorem whole_len {t : Tbl} {q : Qst} (wt : WfT t) : (Vaidxb.wholeTrace t q).length ≤ 12 := Nat.le_trans (traced_len _ _ _ _ _ _ _) wt.few
theorem index_group {t : Tbl} {i : Idx} {q : Qst} (wt : WfT t) : ∀ d ∈ Vaidxb.indexTrace t i q, d.group < t.groups.length := fun d hd => by
  obtain ⟨g, hg, e⟩ := traced_group _ _ _ _ _ _ _ d hd
  obtain ⟨n, hn⟩ := entries_get hg
  rw [e, place_is wt hn]
  exact (List.getElem?_eq_some_iff.mp hn).1
theorem whole_group {t : Tbl} {q : Qst} (wt : WfT t) : ∀ d ∈ Vaidxb.wholeTrace t q, d.group < t.groups.length := fun d hd => by
  obtain ⟨g, hg, e⟩ := traced_group _ _ _ _ _ _ _ d hd
  obtain ⟨n, hn⟩ := List.getElem?_of_mem hg
  rw [e, place_is wt hn]
  exact (List.getElem?_eq_some_iff.mp hn).1
theorem indexCost_is (t : Tbl) (i : Idx) (q : Qst) : VaidxBase.indexCost t i q = costI (VaidxBase.isFree i q) (Vaidxb.indexTrace t i q) := by
  unfold VaidxBase.indexCost
  rw [indexWork_is]
  rfl
theorem wholeCost_is (t : Tbl) (q : Qst) : VaidxBase.wholeCost t q = costT (VaidxBase.orderLeft q).isEmpty (Vaidxb.wholeTrace t q) := by
  unfold VaidxBase.wholeCost
  rw [wholeWork_is]
  rfl
theorem cover_lt {i : Idx} {q : Qst} : decide (Vaidxb.orNone (Vaidxb.lacking i q) < 0) = VaidxBase.covers i q := by
  rw [covers_lacking]
  cases Vaidxb.lacking i q with
  | none => rfl
  | some c =>
    refine decide_eq_false ?_
    show ¬ ((c : Int) < 0)
    omega
def sp_Desk_does_serve (K : PySem.W.Frag) : Sp := fun vs H Q _ => ∃ (d : Addr) (t : Tbl) (q : Qst) (i : Idx), vs = [.ref d] ∧ D3 K H d t q i ∧ Q (.bl (VaidxBase.serves i q)) H
theorem ok_Desk_does_serve (T : Txt K mg) : ∃ fd, FnOk P w K mg base CX0 3 (ma K (ga K "Desk") "does_serve") fd ["self"] (sp_Desk_does_serve K) ∧ Binds K fd ["self"] [] := by
  obtain ⟨fd, F, b⟩ := T.F_Desk_does_serve
  obtain ⟨_, G_serves, b_serves⟩ := ok_serves (P := P) (w := w) (base := base) T
  refine ⟨fd, F.ok sc_Desk_does_serve (fun vs H Q E h => let ⟨_, _, _, _, e, _⟩ := h; by rw [e] <;> rfl) (fun cdv A outer s H vs Q E hr h => ⟨_, (pss_one (ps_ret (pe_call G_serves (hr.mono (by decide)) rfl T.g_serves T.k_serves b_serves .nil pass0 (pa_cons (pe_fld (pv 0) rfl) (pa_cons (pe_fld (pv 0) rfl) pa_nil))))), ?_⟩), b⟩
  obtain ⟨d, t, q, i, rfl, ⟨dx, a, b', c, h0, h1, h2, h3, h4⟩, k⟩ := h
  exact ⟨_, rfl, rd_Desk_index_told T h0 ⟨_, rfl, rd_Desk_question T h0 ⟨c, b', i, q, rfl, h3, h2, k⟩⟩⟩
def sp_Desk_by_index (K : PySem.W.Frag) : Sp := fun vs H Q _ => ∃ (d : Addr) (t : Tbl) (q : Qst) (i : Idx), vs = [.ref d] ∧ D3 K H d t q i ∧ ∀ H' r, Same H H' → WayAt K H' r (Vaidxb.indexTrace t i q) (VaidxBase.isFree i q) → Q (.ref r) H'
theorem ok_Desk_by_index (T : Txt K mg) : ∃ fd, FnOk P w K mg base CX0 7 (ma K (ga K "Desk") "by_index") fd ["self"] (sp_Desk_by_index K) ∧ Binds K fd ["self"] [] := by
  obtain ⟨fd, F, b⟩ := T.F_Desk_by_index
  obtain ⟨_, G_way_by_index, b_way_by_index⟩ := ok_way_by_index (P := P) (w := w) (base := base) T
  refine ⟨fd, F.ok sc_Desk_by_index (fun vs H Q E h => let ⟨_, _, _, _, e, _⟩ := h; by rw [e] <;> rfl) (fun cdv A outer s H vs Q E hr h => ⟨_, (pss_one (ps_ret (pe_call G_way_by_index (hr.mono (by decide)) rfl T.g_way_by_index T.k_way_by_index b_way_by_index .nil pass0 (pa_cons (pe_fld (pv 0) rfl) (pa_cons (pe_fld (pv 0) rfl) (pa_cons (pe_fld (pv 0) rfl) pa_nil)))))), ?_⟩), b⟩
  obtain ⟨d, t, q, i, rfl, ⟨dx, a, b', c, h0, h1, h2, h3, h4, h5, h6⟩, k⟩ := h
  exact ⟨_, rfl, rd_Desk_index_told T h0 ⟨_, rfl, rd_Desk_question T h0 ⟨_, rfl, rd_Desk_table T h0 ⟨c, b', a, i, q, t, rfl, h3, h2, h1, h4, h6, h5, k⟩⟩⟩⟩
def sp_Desk_by_table (K : PySem.W.Frag) : Sp := fun vs H Q _ => ∃ (d : Addr) (t : Tbl) (q : Qst), vs = [.ref d] ∧ D2 K H d t q ∧ ∀ H' r, Same H H' → WayAt K H' r (Vaidxb.wholeTrace t q) ((VaidxBase.orderLeft q).isEmpty) → Q (.ref r) H'
theorem ok_Desk_by_table (T : Txt K mg) : ∃ fd, FnOk P w K mg base CX0 5 (ma K (ga K "Desk") "by_table") fd ["self"] (sp_Desk_by_table K) ∧ Binds K fd ["self"] [] := by
  obtain ⟨fd, F, b⟩ := T.F_Desk_by_table
  obtain ⟨_, G_way_by_table, b_way_by_table⟩ := ok_way_by_table (P := P) (w := w) (base := base) T
  refine ⟨fd, F.ok sc_Desk_by_table (fun vs H Q E h => let ⟨_, _, _, e, _⟩ := h; by rw [e] <;> rfl) (fun cdv A outer s H vs Q E hr h => ⟨_, (pss_one (ps_ret (pe_call G_way_by_table (hr.mono (by decide)) rfl T.g_way_by_table T.k_way_by_table b_way_by_table .nil pass0 (pa_cons (pe_fld (pv 0) rfl) (pa_cons (pe_fld (pv 0) rfl) pa_nil))))), ?_⟩), b⟩
  obtain ⟨d, t, q, rfl, ⟨dx, a, b', c, h0, h1, h2, h4, h5⟩, k⟩ := h
  exact ⟨_, rfl, rd_Desk_question T h0 ⟨_, rfl, rd_Desk_table T h0 ⟨b', a, q, t, rfl, h2, h1, h4, h5, k⟩⟩⟩
/-- a list of numbers answered, of table, question, index -/
def spA3 (K : PySem.W.Frag) (zs : Tbl → Qst → Idx → List Int) : Sp := fun vs H Q _ => ∃ (d : Addr) (t : Tbl) (q : Qst) (i : Idx), vs = [.ref d] ∧ D3 K H d t q i ∧ ∀ H' r, Same H H' → ansAt H H' r (zs t q i) → Q (.ref r) H'
def planN (t : Tbl) (q : Qst) (i : Idx) : List Int := [(VaidxBase.equalKeys q i.keys : Int), Vaidxb.bool (nextHas i q), Vaidxb.bool (VaidxBase.covers i q), Vaidxb.bool (VaidxBase.isFree i q), (VaidxBase.rowsOf (VaidxBase.entries t i q) : Int)]
abbrev sp_Desk_plan (K : PySem.W.Frag) : Sp := spA3 K planN
theorem ok_Desk_plan (T : Txt K mg) : ∃ fd, FnOk P w K mg base CX0 7 (ma K (ga K "Desk") "plan") fd ["self"] (sp_Desk_plan K) ∧ Binds K fd ["self"] [] := by
  obtain ⟨fd, F, b⟩ := T.F_Desk_plan
  obtain ⟨_, G_entries_in_range, b_entries_in_range⟩ := ok_entries_in_range (P := P) (w := w) (base := base) T
  obtain ⟨_, G_first_not_free, b_first_not_free⟩ := ok_first_not_free (P := P) (w := w) (base := base) T
  obtain ⟨_, G_first_not_covered, b_first_not_covered⟩ := ok_first_not_covered (P := P) (w := w) (base := base) T
  obtain ⟨_, G_next_has_filter, b_next_has_filter⟩ := ok_next_has_filter (P := P) (w := w) (base := base) T
  obtain ⟨_, G_count_equal, b_count_equal⟩ := ok_count_equal (P := P) (w := w) (base := base) T
  refine ⟨fd, F.ok sc_Desk_plan (fun vs H Q E h => let ⟨_, _, _, _, e, _⟩ := h; by rw [e] <;> rfl) (fun cdv A outer s H vs Q E hr h => ⟨_, (pss_cons (ps_set (i := 1) sc_Desk_plan.nd rfl (Or.inl rfl) (pe_fld (pv 0) rfl))
  (pss_cons (ps_set (i := 2) sc_Desk_plan.nd rfl (Or.inl rfl) (pe_fld (pv 0) rfl))
  (pss_cons (ps_set (i := 3) sc_Desk_plan.nd rfl (Or.inl rfl) (pe_lst (pa_cons (pe_call G_count_equal (hr.mono (by decide)) rfl T.g_count_equal T.k_count_equal b_count_equal .nil pass0 (pa_cons (pv 1) (pa_cons (pv 2) pa_nil))) (pa_cons (pe_callTy call_int1 (by rfl) T.b_int (by decide +kernel) (pa_cons (pe_call G_next_has_filter (hr.mono (by decide)) rfl T.g_next_has_filter T.k_next_has_filter b_next_has_filter .nil pass0 (pa_cons (pv 1) (pa_cons (pv 2) pa_nil))) pa_nil)) pa_nil))))
  (pss_cons (ps_set (i := 3) sc_Desk_plan.nd rfl (Or.inl rfl) (pe_op op_cat (pv 3) (pe_lst (pa_cons (pe_callTy call_int1 (by rfl) T.b_int (by decide +kernel) (pa_cons (pe_cmpR op_lt (pe_call G_first_not_covered (hr.mono (by decide)) rfl T.g_first_not_covered T.k_first_not_covered b_first_not_covered .nil pass0 (pa_cons (pv 1) (pa_cons (pv 2) pa_nil))) pe_int (nomark _)) pa_nil)) (pa_cons (pe_callTy call_int1 (by rfl) T.b_int (by decide +kernel) (pa_cons (pe_cmpR op_lt (pe_call G_first_not_free (hr.mono (by decide)) rfl T.g_first_not_free T.k_first_not_free b_first_not_free .nil pass0 (pa_cons (pv 1) (pa_cons (pv 2) pa_nil))) pe_int (nomark _)) pa_nil)) pa_nil)))))
  (pss_one (ps_ret (pe_op op_cat (pv 3) (pe_lst (pa_cons (pe_call G_entries_in_range (hr.mono (by decide)) rfl T.g_entries_in_range T.k_entries_in_range b_entries_in_range .nil pass0 (pa_cons (pv 1) (pa_cons (pv 2) (pa_cons (pe_fld (pv 0) rfl) pa_nil)))) pa_nil))))))))), ?_⟩), b⟩
  obtain ⟨d, t, q, i, rfl, hd, k⟩ := h
  obtain ⟨dx, a, b', c, h0, h1, h2, h3, h4, h5, h6⟩ := id hd
  refine ⟨_, rfl, rd_Desk_index_told T h0 ⟨_, rfl, rd_Desk_question T h0 ?_⟩⟩
  refine ⟨_, rfl, _, rfl, c, b', i, q, rfl, h3, h2, _, rfl, _, rfl, c, b', i, q, rfl, h3, h2, .inr ⟨_, rfl, by show 2 ≤ sizeLine; exact sz (by decide), fun r1 hr1 => ?_⟩⟩
  have s1 : Same H (upd H r1 _) := sm_new (o := .lst [natV (VaidxBase.equalKeys q i.keys), V.int (if nextHas i q = true then 1 else 0)]) hr1
  have kl := h6.kl
  have il := h6.il
  refine ⟨_, rfl, _, rfl, _, rfl, c, b', i, q, rfl, h3.same s1, h2.same s1, kl, il, needed_len h5, fun H2 s2 => ⟨_, _, rfl, rfl, .inr ⟨_, rfl, ?_⟩⟩⟩
  have t2 := s1.trans s2
  refine ⟨_, rfl, _, rfl, c, b', i, q, rfl, h3.same t2, h2.same t2, kl, h5.ol, fun H3 s3 => ⟨_, _, rfl, rfl, .inr ⟨_, rfl, by show 2 ≤ sizeLine; exact sz (by decide), fun r2 hr2 => ?_⟩⟩⟩
  have t3 := t2.trans s3
  have e1 : H3 r1 = _ := (s2.trans s3) _ _ upd_same
  have s4 : Same H3 (upd H3 r2 _) := sm_new (o := .lst [V.int (if decide (Vaidxb.orNone (Vaidxb.lacking i q) < 0) = true then 1 else 0), V.int (if decide (Vaidxb.orNone (Vaidxb.unfree i q) < 0) = true then 1 else 0)]) hr2
  have t4 := t3.trans s4
  refine ⟨r1, r2, _, _, rfl, rfl, s4 _ _ e1, upd_same, by show 4 ≤ sizeLine; exact sz (by decide), fun r3 hr3 => ?_⟩
  have s5 := sm_new (o := .lst ([natV (VaidxBase.equalKeys q i.keys), V.int (if nextHas i q = true then 1 else 0)] ++ [V.int (if decide (Vaidxb.orNone (Vaidxb.lacking i q) < 0) = true then 1 else 0), V.int (if decide (Vaidxb.orNone (Vaidxb.unfree i q) < 0) = true then 1 else 0)])) hr3
  have t5 := t4.trans s5
  refine ⟨_, rfl, _, rfl, _, rfl, _, rfl, rd_Desk_table T (t5 _ _ h0) ⟨c, b', a, i, q, t, rfl, h3.same t5, h2.same t5, h1.same t5, h4, h6, h5, fun H6 s6 => ⟨by show 1 ≤ sizeLine; exact sz (by decide), fun r4 hr4 => ?_⟩⟩⟩
  have s7 := sm_new (o := .lst [natV (VaidxBase.rowsOf (VaidxBase.entries t i q))]) hr4
  have t7 := (t5.trans s6).trans s7
  refine ⟨r3, r4, _, _, rfl, rfl, (s6.trans s7) _ _ upd_same, upd_same, by show 5 ≤ sizeLine; exact sz (by decide), fun r5 hr5 => ?_⟩
  refine k _ r5 (t7.trans (sm_new hr5)) ?_
  refine ⟨sm_back t7 hr5, ?_⟩
  unfold planN
  rw [upd_same, cover_lt, free_int]
  rfl
def whyN (t : Tbl) (q : Qst) (i : Idx) : List Int := [Vaidxb.orNone (Vaidxb.unserved i q), Vaidxb.orNone (Vaidxb.lacking i q), Vaidxb.orNone (Vaidxb.unfree i q)]
abbrev sp_Desk_why_not (K : PySem.W.Frag) : Sp := spA3 K whyN
theorem ok_Desk_why_not (T : Txt K mg) : ∃ fd, FnOk P w K mg base CX0 5 (ma K (ga K "Desk") "why_not") fd ["self"] (sp_Desk_why_not K) ∧ Binds K fd ["self"] [] := by
  obtain ⟨fd, F, b⟩ := T.F_Desk_why_not
  obtain ⟨_, G_first_not_free, b_first_not_free⟩ := ok_first_not_free (P := P) (w := w) (base := base) T
  obtain ⟨_, G_first_not_covered, b_first_not_covered⟩ := ok_first_not_covered (P := P) (w := w) (base := base) T
  obtain ⟨_, G_Desk_does_serve, b_Desk_does_serve⟩ := ok_Desk_does_serve (P := P) (w := w) (base := base) T
  refine ⟨fd, F.ok sc_Desk_why_not (fun vs H Q E h => let ⟨_, _, _, _, e, _⟩ := h; by rw [e] <;> rfl) (fun cdv A outer s H vs Q E hr h => ⟨_, (pss_cons (ps_set (i := 1) sc_Desk_why_not.nd rfl (Or.inl rfl) (pe_un un_neg pe_int))
  (pss_cons (ps_if (pt_not (pt_val (pe_meth0 (pv 0) T.cl_Desk T.mt_Desk_does_serve G_Desk_does_serve (hr.mono (by decide)) b_Desk_does_serve .nil pass0)))
    (pss_one (ps_set (i := 1) sc_Desk_why_not.nd rfl (Or.inl rfl) (pe_fld (pe_fld (pe_fld (pv 0) rfl) rfl) rfl)))
    pss_nil)
  (pss_cons (ps_set (i := 2) sc_Desk_why_not.nd rfl (Or.inl rfl) (pe_fld (pv 0) rfl))
  (pss_one (ps_ret (pe_lst (pa_cons (pv 1) (pa_cons (pe_call G_first_not_covered (hr.mono (by decide)) rfl T.g_first_not_covered T.k_first_not_covered b_first_not_covered .nil pass0 (pa_cons (pv 2) (pa_cons (pe_fld (pv 0) rfl) pa_nil))) (pa_cons (pe_call G_first_not_free (hr.mono (by decide)) rfl T.g_first_not_free T.k_first_not_free b_first_not_free .nil pass0 (pa_cons (pv 2) (pa_cons (pe_fld (pv 0) rfl) pa_nil))) pa_nil))))))))), ?_⟩), b⟩
  obtain ⟨d, t, q, i, rfl, hd, k⟩ := h
  obtain ⟨dx, a, b', c, h0, h1, h2, h3, h4, h5, h6⟩ := id hd
  have kl := h6.kl
  have il := h6.il
  refine ⟨1, rfl, ?_⟩
  dsimp only
  refine if_next (tif_join (!VaidxBase.serves i q) [some (.ref d), some (.int (Vaidxb.orNone (Vaidxb.unserved i q))), none] ?_ ?_ ?_ ?_)
  · intro R kR
    exact ⟨_, rfl, rm_Desk_does_serve h0 ⟨d, t, q, i, rfl, hd, _, rfl, kR H (Same.refl _)⟩⟩
  · intro hc H2 D' s2 n2
    have hc : VaidxBase.serves i q = false := by simpa using hc
    obtain ⟨f, ef⟩ := only_of_not_serves hc
    obtain ⟨di, p1, p2, cv, hia, hi1, hi2, hi3⟩ := h3.same s2
    rw [ef] at hi3
    obtain ⟨fa, rfl, df, hfa⟩ := hi3
    have eu : Vaidxb.orNone (Vaidxb.unserved i q) = (f.col : Int) := by
      rw [unserved_eq, hc, ef]
      rfl
    rw [eu] at n2
    exact ⟨_, rfl, rd_Desk_index_told T (s2 _ _ h0) (rd_Index_condition T hia (rd_Filter_column T hfa n2))⟩
  · intro hc H2 D' s2 n2
    have hc : VaidxBase.serves i q = true := by simpa using hc
    have eu : Vaidxb.orNone (Vaidxb.unserved i q) = -1 := by
      rw [unserved_eq, hc]
      rfl
    rw [eu] at n2
    exact n2
  intro H2 s2
  refine ⟨_, rfl, rd_Desk_index_told T (s2 _ _ h0) ⟨_, rfl, _, rfl, _, rfl, rd_Desk_question T (s2 _ _ h0) ⟨c, b', i, q, rfl, h3.same s2, h2.same s2, kl, il, needed_len h5, fun H3 s3 => ?_⟩⟩⟩
  have t3 := s2.trans s3
  refine ⟨_, rfl, _, rfl, rd_Desk_question T (t3 _ _ h0) ⟨c, b', i, q, rfl, h3.same t3, h2.same t3, kl, h5.ol, fun H4 s4 => ⟨by show 3 ≤ sizeLine; exact sz (by decide), fun r hr => k _ r ((t3.trans s4).trans (sm_new hr)) ⟨sm_back (t3.trans s4) hr, upd_same⟩⟩⟩⟩
def workN (t : Tbl) (q : Qst) (i : Idx) : List Int := [(sumT (Vaidxb.indexTrace t i q) : Int), (sumL (Vaidxb.indexTrace t i q) : Int), (sortedOf (VaidxBase.isFree i q) (Vaidxb.indexTrace t i q) : Int), (costI (VaidxBase.isFree i q) (Vaidxb.indexTrace t i q) : Int)]
abbrev sp_Desk_work (K : PySem.W.Frag) : Sp := spA3 K workN
theorem ok_Desk_work (T : Txt K mg) : ∃ fd, FnOk P w K mg base CX0 8 (ma K (ga K "Desk") "work") fd ["self"] (sp_Desk_work K) ∧ Binds K fd ["self"] [] := by
  obtain ⟨fd, F, b⟩ := T.F_Desk_work
  obtain ⟨_, G_Way_cost_by_index, b_Way_cost_by_index⟩ := ok_Way_cost_by_index (P := P) (w := w) (base := base) T
  obtain ⟨_, G_Way_sorted_rows, b_Way_sorted_rows⟩ := ok_Way_sorted_rows (P := P) (w := w) (base := base) T
  obtain ⟨_, G_Way_looked, b_Way_looked⟩ := ok_Way_looked (P := P) (w := w) (base := base) T
  obtain ⟨_, G_Way_touched, b_Way_touched⟩ := ok_Way_touched (P := P) (w := w) (base := base) T
  obtain ⟨_, G_Desk_by_index, b_Desk_by_index⟩ := ok_Desk_by_index (P := P) (w := w) (base := base) T
  refine ⟨fd, F.ok sc_Desk_work (fun vs H Q E h => let ⟨_, _, _, _, e, _⟩ := h; by rw [e] <;> rfl) (fun cdv A outer s H vs Q E hr h => ⟨_, (pss_cons (ps_set (i := 1) sc_Desk_work.nd rfl (Or.inl rfl) (pe_meth0 (pv 0) T.cl_Desk T.mt_Desk_by_index G_Desk_by_index (hr.mono (by decide)) b_Desk_by_index .nil pass0))
  (pss_one (ps_ret (pe_lst (pa_cons (pe_meth0 (pv 1) T.cl_Way T.mt_Way_touched G_Way_touched (hr.mono (by decide)) b_Way_touched .nil pass0) (pa_cons (pe_meth0 (pv 1) T.cl_Way T.mt_Way_looked G_Way_looked (hr.mono (by decide)) b_Way_looked .nil pass0) (pa_cons (pe_meth0 (pv 1) T.cl_Way T.mt_Way_sorted_rows G_Way_sorted_rows (hr.mono (by decide)) b_Way_sorted_rows .nil pass0) (pa_cons (pe_meth0 (pv 1) T.cl_Way T.mt_Way_cost_by_index G_Way_cost_by_index (hr.mono (by decide)) b_Way_cost_by_index .nil pass0) pa_nil)))))))), ?_⟩), b⟩
  obtain ⟨d, t, q, i, rfl, hd, k⟩ := h
  obtain ⟨dx, a, b', c, h0, h1, h2, h3, h4, h5, h6⟩ := id hd
  have ll := index_len (i := i) (q := q) h4
  refine ⟨_, rfl, rm_Desk_by_index h0 ⟨d, t, q, i, rfl, hd, fun H1 r1 s1 w1 => ?_⟩⟩
  obtain ⟨dw, wp, was, hw1, hw2, hw3⟩ := id w1
  refine ⟨_, rfl, rm_Way_touched hw1 ⟨r1, _, _, rfl, w1, by omega, fun H2 s2 => ?_⟩⟩
  refine ⟨_, rfl, rm_Way_looked (s2 _ _ hw1) ⟨r1, _, _, rfl, w1.same s2, by omega, fun H3 s3 => ?_⟩⟩
  have t3 := s2.trans s3
  refine ⟨_, rfl, rm_Way_sorted_rows (t3 _ _ hw1) ⟨r1, _, _, rfl, w1.same t3, by omega, fun H4 s4 => ?_⟩⟩
  have t4 := t3.trans s4
  refine ⟨_, rfl, rm_Way_cost_by_index (t4 _ _ hw1) ⟨r1, _, _, rfl, w1.same t4, by omega, fun H5 s5 => ?_⟩⟩
  exact ⟨by show 4 ≤ sizeLine; exact sz (by decide), fun r hr => k _ r (((s1.trans t4).trans s5).trans (sm_new hr)) ⟨sm_back ((s1.trans t4).trans s5) hr, upd_same⟩⟩
def wholeN (t : Tbl) (q : Qst) : List Int := [(sumT (Vaidxb.wholeTrace t q) : Int), (sortedOf (VaidxBase.orderLeft q).isEmpty (Vaidxb.wholeTrace t q) : Int), (costT (VaidxBase.orderLeft q).isEmpty (Vaidxb.wholeTrace t q) : Int)]
def sp_Desk_whole (K : PySem.W.Frag) : Sp := fun vs H Q _ => ∃ (d : Addr) (t : Tbl) (q : Qst), vs = [.ref d] ∧ D2 K H d t q ∧ ∀ H' r, Same H H' → ansAt H H' r (wholeN t q) → Q (.ref r) H'
theorem ok_Desk_whole (T : Txt K mg) : ∃ fd, FnOk P w K mg base CX0 6 (ma K (ga K "Desk") "whole") fd ["self"] (sp_Desk_whole K) ∧ Binds K fd ["self"] [] := by
  obtain ⟨fd, F, b⟩ := T.F_Desk_whole
  obtain ⟨_, G_Way_cost_by_table, b_Way_cost_by_table⟩ := ok_Way_cost_by_table (P := P) (w := w) (base := base) T
  obtain ⟨_, G_Way_sorted_rows, b_Way_sorted_rows⟩ := ok_Way_sorted_rows (P := P) (w := w) (base := base) T
  obtain ⟨_, G_Way_touched, b_Way_touched⟩ := ok_Way_touched (P := P) (w := w) (base := base) T
  obtain ⟨_, G_Desk_by_table, b_Desk_by_table⟩ := ok_Desk_by_table (P := P) (w := w) (base := base) T
  refine ⟨fd, F.ok sc_Desk_whole (fun vs H Q E h => let ⟨_, _, _, e, _⟩ := h; by rw [e] <;> rfl) (fun cdv A outer s H vs Q E hr h => ⟨_, (pss_cons (ps_set (i := 1) sc_Desk_whole.nd rfl (Or.inl rfl) (pe_meth0 (pv 0) T.cl_Desk T.mt_Desk_by_table G_Desk_by_table (hr.mono (by decide)) b_Desk_by_table .nil pass0))
  (pss_one (ps_ret (pe_lst (pa_cons (pe_meth0 (pv 1) T.cl_Way T.mt_Way_touched G_Way_touched (hr.mono (by decide)) b_Way_touched .nil pass0) (pa_cons (pe_meth0 (pv 1) T.cl_Way T.mt_Way_sorted_rows G_Way_sorted_rows (hr.mono (by decide)) b_Way_sorted_rows .nil pass0) (pa_cons (pe_meth0 (pv 1) T.cl_Way T.mt_Way_cost_by_table G_Way_cost_by_table (hr.mono (by decide)) b_Way_cost_by_table .nil pass0) pa_nil))))))), ?_⟩), b⟩
  obtain ⟨d, t, q, rfl, hd, k⟩ := h
  obtain ⟨dx, a, b', v, h0, h1, h2, h4, h5⟩ := id hd
  have ll := whole_len (q := q) h4
  refine ⟨_, rfl, rm_Desk_by_table h0 ⟨d, t, q, rfl, hd, fun H1 r1 s1 w1 => ?_⟩⟩
  obtain ⟨dw, wp, was, hw1, hw2, hw3⟩ := id w1
  refine ⟨_, rfl, rm_Way_touched hw1 ⟨r1, _, _, rfl, w1, by omega, fun H2 s2 => ?_⟩⟩
  refine ⟨_, rfl, rm_Way_sorted_rows (s2 _ _ hw1) ⟨r1, _, _, rfl, w1.same s2, by omega, fun H4 s4 => ?_⟩⟩
  have t4 := s2.trans s4
  refine ⟨_, rfl, rm_Way_cost_by_table (t4 _ _ hw1) ⟨r1, _, _, rfl, w1.same t4, by omega, fun H5 s5 => ?_⟩⟩
  exact ⟨by show 3 ≤ sizeLine; exact sz (by decide), fun r hr => k _ r (((s1.trans t4).trans s5).trans (sm_new hr)) ⟨sm_back ((s1.trans t4).trans s5) hr, upd_same⟩⟩
end
end One
set_option Elab.async false
set_option linter.all false
set_option maxRecDepth 100000
set_option maxHeartbeats 4000000
/-! The walk, D3: what the desk tells, on. -/
namespace One
open PySem PySem.Spec PyProof.Rows L2
open He (ga ma)
open Vaidxb (Done)
section
variable {P : Program} {w : World} {K : PySem.W.Frag} {mg : Str → Option Value} {base : Heap}
def bestN (t : Tbl) (q : Qst) (i : Idx) : List Int := if (VaidxBase.serves i q && decide (VaidxBase.indexCost t i q < VaidxBase.wholeCost t q)) = true then [1, (VaidxBase.indexCost t i q : Int), (VaidxBase.wholeCost t q : Int)] else [0, (VaidxBase.wholeCost t q : Int), if VaidxBase.serves i q = true then (VaidxBase.indexCost t i q : Int) else -1]
abbrev sp_Desk_best (K : PySem.W.Frag) : Sp := spA3 K bestN
theorem ok_Desk_best (T : Txt K mg) : ∃ fd, FnOk P w K mg base CX0 8 (ma K (ga K "Desk") "best") fd ["self"] (sp_Desk_best K) ∧ Binds K fd ["self"] [] := by
  obtain ⟨fd, F, b⟩ := T.F_Desk_best
  obtain ⟨_, G_Desk_does_serve, b_Desk_does_serve⟩ := ok_Desk_does_serve (P := P) (w := w) (base := base) T
  obtain ⟨_, G_Way_cost_by_index, b_Way_cost_by_index⟩ := ok_Way_cost_by_index (P := P) (w := w) (base := base) T
  obtain ⟨_, G_Desk_by_index, b_Desk_by_index⟩ := ok_Desk_by_index (P := P) (w := w) (base := base) T
  obtain ⟨_, G_Way_cost_by_table, b_Way_cost_by_table⟩ := ok_Way_cost_by_table (P := P) (w := w) (base := base) T
  obtain ⟨_, G_Desk_by_table, b_Desk_by_table⟩ := ok_Desk_by_table (P := P) (w := w) (base := base) T
  refine ⟨fd, F.ok sc_Desk_best (fun vs H Q E h => let ⟨_, _, _, _, e, _⟩ := h; by rw [e] <;> rfl) (fun cdv A outer s H vs Q E hr h => ⟨_, (pss_cons (ps_set (i := 1) sc_Desk_best.nd rfl (Or.inl rfl) (pe_meth0 (pe_meth0 (pv 0) T.cl_Desk T.mt_Desk_by_table G_Desk_by_table (hr.mono (by decide)) b_Desk_by_table .nil pass0) T.cl_Way T.mt_Way_cost_by_table G_Way_cost_by_table (hr.mono (by decide)) b_Way_cost_by_table .nil pass0))
  (pss_cons (ps_set (i := 2) sc_Desk_best.nd rfl (Or.inl rfl) (pe_un un_neg pe_int))
  (pss_cons (ps_if (pt_val (pe_meth0 (pv 0) T.cl_Desk T.mt_Desk_does_serve G_Desk_does_serve (hr.mono (by decide)) b_Desk_does_serve .nil pass0))
    (pss_cons (ps_set (i := 2) sc_Desk_best.nd rfl (Or.inl rfl) (pe_meth0 (pe_meth0 (pv 0) T.cl_Desk T.mt_Desk_by_index G_Desk_by_index (hr.mono (by decide)) b_Desk_by_index .nil pass0) T.cl_Way T.mt_Way_cost_by_index G_Way_cost_by_index (hr.mono (by decide)) b_Way_cost_by_index .nil pass0))
  (pss_one (ps_if (pt_cmpR op_lt (pv 2) (pv 1) (nomark _))
    (pss_one (ps_ret (pe_lst (pa_cons pe_int (pa_cons (pv 2) (pa_cons (pv 1) pa_nil))))))
    pss_nil)))
    pss_nil)
  (pss_one (ps_ret (pe_lst (pa_cons pe_int (pa_cons (pv 1) (pa_cons (pv 2) pa_nil))))))))), ?_⟩), b⟩
  obtain ⟨d, t, q, i, rfl, hd, k⟩ := h
  obtain ⟨dx, a, b', c, h0, h1, h2, h3, h4, h5, h6⟩ := id hd
  have ll := whole_len (q := q) h4
  have li := index_len (i := i) (q := q) h4
  unfold bestN at k
  rw [indexCost_is, wholeCost_is] at k
  refine ⟨_, rfl, rm_Desk_by_table h0 ⟨d, t, q, rfl, hd.two, fun H1 r1 s1 w1 => ?_⟩⟩
  obtain ⟨dw, wp, was, hw1, hw2, hw3⟩ := id w1
  refine rm_Way_cost_by_table hw1 ⟨r1, _, _, rfl, w1, by omega, fun H2 s2 => ?_⟩
  have t2 := s1.trans s2
  refine ⟨1, rfl, ?_⟩
  refine ⟨_, rfl, rm_Desk_does_serve (t2 _ _ h0) ⟨d, t, q, i, rfl, hd.same t2, _, rfl, iteB (fun hs => ?_) (fun hs => ?_)⟩⟩
  · rw [hs] at k
    refine ⟨_, rfl, rm_Desk_by_index (t2 _ _ h0) ⟨d, t, q, i, rfl, hd.same t2, fun H3 r3 s3 w3 => ?_⟩⟩
    obtain ⟨dw3, wp3, was3, hw31, hw32, hw33⟩ := id w3
    refine rm_Way_cost_by_index hw31 ⟨r3, _, _, rfl, w3, by omega, fun H4 s4 => ?_⟩
    have t4 := (t2.trans s3).trans s4
    refine ⟨_, rfl, _, rfl, _, _, rfl, rfl, _, rfl, ?_⟩
    have e : decide ((costI (VaidxBase.isFree i q) (Vaidxb.indexTrace t i q) : Int) < (costT (VaidxBase.orderLeft q).isEmpty (Vaidxb.wholeTrace t q) : Int)) = decide (costI (VaidxBase.isFree i q) (Vaidxb.indexTrace t i q) < costT (VaidxBase.orderLeft q).isEmpty (Vaidxb.wholeTrace t q)) := lt_nat _ _
    rw [e]
    refine iteB (fun hc => ?_) (fun hc => ?_)
    · rw [hc] at k
      exact ⟨_, rfl, _, rfl, by show 3 ≤ sizeLine; exact sz (by decide), fun r hr => k _ r (t4.trans (sm_new hr)) ⟨sm_back t4 hr, upd_same⟩⟩
    · rw [hc] at k
      exact ⟨_, rfl, _, rfl, by show 3 ≤ sizeLine; exact sz (by decide), fun r hr => k _ r (t4.trans (sm_new hr)) ⟨sm_back t4 hr, upd_same⟩⟩
  · rw [hs] at k
    exact ⟨_, rfl, _, rfl, by show 3 ≤ sizeLine; exact sz (by decide), fun r hr => k _ r (t2.trans (sm_new hr)) ⟨sm_back t2 hr, upd_same⟩⟩
/-- which way a number means -/
def WayOf (K : PySem.W.Frag) (H : Hp) (d : Addr) (n : Int) (t : Tbl) (q : Qst) (l : List Done) (free : Bool) : Prop := (n = 1 → ∃ i, D3 K H d t q i ∧ l = Vaidxb.indexTrace t i q ∧ free = VaidxBase.isFree i q) ∧ (n ≠ 1 → l = Vaidxb.wholeTrace t q ∧ free = (VaidxBase.orderLeft q).isEmpty)
theorem WayOf.same {H H' : Hp} {d : Addr} {n : Int} {t : Tbl} {q : Qst} {l : List Done} {free : Bool} (s : Same H H') (h : WayOf K H d n t q l free) : WayOf K H' d n t q l free := ⟨fun e => by
  obtain ⟨i, h1, h2⟩ := h.1 e
  exact ⟨i, h1.same s, h2⟩, h.2⟩
theorem WayOf.len {H : Hp} {d : Addr} {n : Int} {t : Tbl} {q : Qst} {l : List Done} {free : Bool} (wt : WfT t) (h : WayOf K H d n t q l free) : l.length ≤ 12 ∧ ∀ d ∈ l, d.group < t.groups.length := by
  by_cases e : n = 1
  · obtain ⟨i, _, rfl, _⟩ := h.1 e
    exact ⟨index_len wt, index_group wt⟩
  · obtain ⟨rfl, _⟩ := h.2 e
    exact ⟨whole_len wt, whole_group wt⟩
def sp_Desk_way (K : PySem.W.Frag) : Sp := fun vs H Q _ => ∃ (d : Addr) (n : Int) (t : Tbl) (q : Qst) (l : List Done) (free : Bool), vs = [.ref d, .int n] ∧ D2 K H d t q ∧ WayOf K H d n t q l free ∧ ∀ H' r, Same H H' → WayAt K H' r l free → Q (.ref r) H'
theorem ok_Desk_way (T : Txt K mg) : ∃ fd, FnOk P w K mg base CX0 8 (ma K (ga K "Desk") "way") fd ["self", "number"] (sp_Desk_way K) ∧ Binds K fd ["self", "number"] [] := by
  obtain ⟨fd, F, b⟩ := T.F_Desk_way
  obtain ⟨_, G_Desk_by_table, b_Desk_by_table⟩ := ok_Desk_by_table (P := P) (w := w) (base := base) T
  obtain ⟨_, G_Desk_by_index, b_Desk_by_index⟩ := ok_Desk_by_index (P := P) (w := w) (base := base) T
  refine ⟨fd, F.ok sc_Desk_way (fun vs H Q E h => let ⟨_, _, _, _, _, _, e, _⟩ := h; by rw [e] <;> rfl) (fun cdv A outer s H vs Q E hr h => ⟨_, (pss_cons (ps_if (pt_cmpR op_eq (pv 1) pe_int (nomark _))
    (pss_one (ps_ret (pe_meth0 (pv 0) T.cl_Desk T.mt_Desk_by_index G_Desk_by_index (hr.mono (by decide)) b_Desk_by_index .nil pass0)))
    pss_nil)
  (pss_one (ps_ret (pe_meth0 (pv 0) T.cl_Desk T.mt_Desk_by_table G_Desk_by_table (hr.mono (by decide)) b_Desk_by_table .nil pass0)))), ?_⟩), b⟩
  obtain ⟨d, n, t, q, l, free, rfl, hd, hw, k⟩ := h
  obtain ⟨dx, a, b', v, h0, h1, h2, h4, h5⟩ := id hd
  refine ⟨_, rfl, rfl, _, rfl, ?_⟩
  rw [eq_int]
  refine iteB (fun hc => ?_) (fun hc => ?_)
  · obtain ⟨i, h3, rfl, rfl⟩ := hw.1 (of_decide_eq_true hc)
    exact ⟨_, rfl, rm_Desk_by_index h0 ⟨d, t, q, i, rfl, h3, k⟩⟩
  · obtain ⟨rfl, rfl⟩ := hw.2 (of_decide_eq_false hc)
    exact ⟨_, rfl, rm_Desk_by_table h0 ⟨d, t, q, rfl, hd, k⟩⟩
def ansN (a : List (Nat × Nat)) : List Int := (a.length : Int) :: a.flatMap fun x => [(x.1 : Int), (x.2 : Int)]
theorem pairs_len : ∀ a : List (Nat × Nat), (a.flatMap fun x => [(x.1 : Int), (x.2 : Int)]).length = 2 * a.length
  | [] => rfl
  | x :: a => by
    rw [List.flatMap_cons, List.length_append, pairs_len a, List.length_cons, List.length_cons, List.length_cons, List.length_nil]
    omega
def sp_Desk_answer (K : PySem.W.Frag) : Sp := fun vs H Q _ => ∃ (d : Addr) (n : Int) (t : Tbl) (q : Qst) (l : List Done) (free : Bool), vs = [.ref d, .int n] ∧ D2 K H d t q ∧ WayOf K H d n t q l free ∧ ∀ H' r, Same H H' → ansAt H H' r (ansN (Vaidxb.answerOf t q free l)) → Q (.ref r) H'
theorem ok_Desk_answer (T : Txt K mg) : ∃ fd, FnOk P w K mg base CX0 9 (ma K (ga K "Desk") "answer") fd ["self", "number"] (sp_Desk_answer K) ∧ Binds K fd ["self", "number"] [] := by
  obtain ⟨fd, F, b⟩ := T.F_Desk_answer
  obtain ⟨_, G_answered, b_answered⟩ := ok_answered (P := P) (w := w) (base := base) T
  obtain ⟨_, G_Desk_way, b_Desk_way⟩ := ok_Desk_way (P := P) (w := w) (base := base) T
  refine ⟨fd, F.ok sc_Desk_answer (fun vs H Q E h => let ⟨_, _, _, _, _, _, e, _⟩ := h; by rw [e] <;> rfl) (fun cdv A outer s H vs Q E hr h => ⟨_, (pss_cons (ps_set (i := 2) sc_Desk_answer.nd rfl (Or.inl rfl) (pe_call G_answered (hr.mono (by decide)) rfl T.g_answered T.k_answered b_answered .nil pass0 (pa_cons (pe_fld (pv 0) rfl) (pa_cons (pe_fld (pv 0) rfl) (pa_cons (pe_meth (pv 0) T.cl_Desk T.mt_Desk_way G_Desk_way (hr.mono (by decide)) b_Desk_way .nil pass0 (pa_cons (pv 1) pa_nil)) pa_nil)))))
  (pss_cons (ps_set (i := 3) sc_Desk_answer.nd rfl (Or.inl rfl) (pe_lst (pa_cons (pe_callB call_len_seq (by rfl) T.b_len PySem.boot_len (pa_cons (pv 2) pa_nil)) pa_nil)))
  (pss_cons (ps_for PassesOwn.never rfl (pi_list (pv 2)) (pg_tup rfl (pgs_cons (pg_name (i := 4) sc_Desk_answer.nd rfl (Or.inl rfl)) (pgs_cons (pg_name (i := 5) sc_Desk_answer.nd rfl (Or.inl rfl)) pgs_nil)))
    (pss_one (ps_set (i := 3) sc_Desk_answer.nd rfl (Or.inl rfl) (pe_op op_cat (pv 3) (pe_lst (pa_cons (pv 4) (pa_cons (pv 5) pa_nil)))))))
  (pss_one (ps_ret (pv 3)))))), ?_⟩), b⟩
  obtain ⟨d, n, t, q, l, free, rfl, hd, hw, k⟩ := h
  obtain ⟨dx, a, b', v, h0, h1, h2, h4, h5⟩ := id hd
  obtain ⟨ll, lg⟩ := hw.len h4
  refine ⟨_, rfl, rd_Desk_question T h0 ⟨_, rfl, rd_Desk_table T h0 ⟨_, rfl, rm_Desk_way h0 ⟨_, rfl, d, n, t, q, l, free, rfl, hd, hw, fun H1 r1 s1 w1 => ?_⟩⟩⟩⟩
  refine ⟨b', a, r1, q, t, l, free, rfl, h2.same s1, h1.same s1, h4, h5, w1, by omega, lg, fun H2 r2 as s2 e2 p2 => ?_⟩
  have la : (Vaidxb.answerOf t q free l).length ≤ 12 := by
    rw [answer_is]
    exact Nat.le_trans (ansM_len _ _ _) (Nat.le_trans (putOf_len _ _ _ _) ll)
  generalize Vaidxb.answerOf t q free l = ys at *
  have el := p2.length
  refine ⟨_, rfl, r2, _, rfl, .inl (.of e2), ?_⟩
  refine ⟨by show 1 ≤ sizeLine; exact sz (by decide), fun F hF => ?_⟩
  have s3 : Same H2 (upd H2 F (.lst [V.int ((refsV as).length : Nat)])) := sm_new hF
  have t3 := (s1.trans s2).trans s3
  have F0 : H F = none := sm_back (s1.trans s2) hF
  refine ⟨_, rfl, r2, rfl, ⟨_, .of (s3 _ _ e2)⟩, ?_⟩
  refine for_list (K := K) (a := r2) (xs := refsV as) (fun j σ H' => ∃ (x y : Option V) (r : Addr), σ = [some (.ref d), some (.int n), some (.ref r2), some (.ref r), x, y] ∧ Same H2 H' ∧ H r = none ∧ H' r = some (.lst (((ys.length : Int) :: (ys.take j).flatMap fun x => [(x.1 : Int), (x.2 : Int)]).map V.int))) ⟨none, none, F, rfl, s3, F0, ?_⟩ (fun j σ H' _ ⟨_, _, _, _, s, _⟩ => .of (s _ _ e2)) ?_ ?_
  · rw [upd_same, refsV_len, el]
    rfl
  · rintro j y σ H' hj ⟨x, y2, r, rfl, sH, nr, rH⟩
    obtain ⟨ta, ea, rfl⟩ := refsV_of hj
    obtain ⟨z, ez, hz⟩ := pair_get p2 ea
    have hz := hz.same sH
    refine ⟨ta, _, rfl, hz, rfl, _, _, rfl, _, _, rfl, rfl, ?_⟩
    refine ⟨_, rfl, _, rfl, _, rfl, by show 2 ≤ sizeLine; exact sz (by decide), fun D hD => ?_⟩
    have s5 : Same H' (upd H' D (.lst [natV z.1, natV z.2])) := sm_new hD
    have lt : (ys.take j).length ≤ 12 := by
      rw [List.length_take]
      omega
    refine ⟨r, D, _, _, rfl, rfl, s5 _ _ rH, upd_same, sz ?_, fun G hG => ⟨_, _, G, rfl, (sH.trans s5).trans (sm_new hG), sm_back ((s1.trans s2).trans (sH.trans s5)) hG, ?_⟩⟩
    · rw [List.length_map, List.length_cons, pairs_len, List.length_cons, List.length_cons, List.length_nil]
      omega
    · rw [upd_same, take_more ez, List.flatMap_append, ← List.cons_append, List.map_append]
      rfl
  · rintro σ H' ⟨x, y2, r, rfl, sH, nr, rH⟩
    rw [refsV_len, el, List.take_length] at rH
    exact ⟨_, rfl, k H' r ((s1.trans s2).trans sH) ⟨nr, rH⟩⟩
def rowsN (t : Tbl) (q : Qst) (i : Idx) : List Int := [(sumT (Vaidxb.indexTrace t i q) : Int), (sumL (Vaidxb.indexTrace t i q) : Int), (sortedOf (VaidxBase.isFree i q) (Vaidxb.indexTrace t i q) : Int), (sumF (Vaidxb.indexTrace t i q) : Int)] ++
  ((Vaidxb.indexTrace t i q).flatMap fun d => List.replicate d.found d.group).map fun (n : Nat) => (n : Int)
def sp_Desk_rows_told (K : PySem.W.Frag) : Sp := fun vs H Q E => ∃ (d : Addr) (t : Tbl) (q : Qst) (i : Idx), vs = [.ref d] ∧ D3 K H d t q i ∧ (VaidxBase.rowsOf (VaidxBase.entries t i q) ≤ 300 → ∀ H' r, Same H H' → ansAt H H' r (rowsN t q i) → Q (.ref r) H') ∧
  (¬ VaidxBase.rowsOf (VaidxBase.entries t i q) ≤ 300 → ∀ d' H', Same H H' → H' d' = some (.xd [("why", .int (-4))]) → E (RF K) (some d') H')
theorem ok_Desk_rows_told (T : Txt K mg) : ∃ fd, FnOk P w K mg base (L2.CX P w) 8 (ma K (ga K "Desk") "rows_told") fd ["self"] (sp_Desk_rows_told K) ∧ Binds K fd ["self"] [] := by
  obtain ⟨fd, F, b⟩ := T.F_Desk_rows_told
  obtain ⟨_, G_Way_found, b_Way_found⟩ := ok_Way_found (P := P) (w := w) (base := base) T
  obtain ⟨_, G_Way_sorted_rows, b_Way_sorted_rows⟩ := ok_Way_sorted_rows (P := P) (w := w) (base := base) T
  obtain ⟨_, G_Way_looked, b_Way_looked⟩ := ok_Way_looked (P := P) (w := w) (base := base) T
  obtain ⟨_, G_Way_touched, b_Way_touched⟩ := ok_Way_touched (P := P) (w := w) (base := base) T
  obtain ⟨_, G_Way_rows, b_Way_rows⟩ := ok_Way_rows (P := P) (w := w) (base := base) T
  obtain ⟨_, G_Desk_by_index, b_Desk_by_index⟩ := ok_Desk_by_index (P := P) (w := w) (base := base) T
  obtain ⟨_, G_refuse_if, b_refuse_if⟩ := ok_refuse_if (P := P) (w := w) (base := base) T
  obtain ⟨_, G_entries_in_range, b_entries_in_range⟩ := ok_entries_in_range (P := P) (w := w) (base := base) T
  refine ⟨fd, F.okX sc_Desk_rows_told (fun vs H Q E h => let ⟨_, _, _, _, e, _⟩ := h; by rw [e] <;> rfl) (fun cdv A outer s H vs Q E hr h => ⟨_, (pss_cons (ps_expr (pe_call G_refuse_if (hr.mono (by decide)) rfl T.g_refuse_if T.k_refuse_if b_refuse_if .nil (passes_call (takes_of rfl rfl rfl rfl) fun _ _ _ _ h => h) (pa_cons (pe_cmpR op_gt (pe_call G_entries_in_range (hr.mono (by decide)) rfl T.g_entries_in_range T.k_entries_in_range b_entries_in_range .nil pass0 (pa_cons (pe_fld (pv 0) rfl) (pa_cons (pe_fld (pv 0) rfl) (pa_cons (pe_fld (pv 0) rfl) pa_nil)))) (pe_gint rfl T.c_MOST_ENTRIES) (nomark _)) (pa_cons (pe_un un_neg pe_int) pa_nil))))
  (pss_cons (ps_set (i := 1) sc_Desk_rows_told.nd rfl (Or.inl rfl) (pe_meth0 (pv 0) T.cl_Desk T.mt_Desk_by_index G_Desk_by_index (hr.mono (by decide)) b_Desk_by_index .nil pass0))
  (pss_one (ps_ret (pe_op op_cat (pe_lst (pa_cons (pe_meth0 (pv 1) T.cl_Way T.mt_Way_touched G_Way_touched (hr.mono (by decide)) b_Way_touched .nil pass0) (pa_cons (pe_meth0 (pv 1) T.cl_Way T.mt_Way_looked G_Way_looked (hr.mono (by decide)) b_Way_looked .nil pass0) (pa_cons (pe_meth0 (pv 1) T.cl_Way T.mt_Way_sorted_rows G_Way_sorted_rows (hr.mono (by decide)) b_Way_sorted_rows .nil pass0) (pa_cons (pe_meth0 (pv 1) T.cl_Way T.mt_Way_found G_Way_found (hr.mono (by decide)) b_Way_found .nil pass0) pa_nil))))) (pe_meth0 (pv 1) T.cl_Way T.mt_Way_rows G_Way_rows (hr.mono (by decide)) b_Way_rows .nil pass0)))))), ?_⟩), b⟩
  obtain ⟨d, t, q, i, rfl, hd, kY, kN⟩ := h
  obtain ⟨dx, a, b', c, h0, h1, h2, h3, h4, h5, h6⟩ := id hd
  have li := index_len (i := i) (q := q) h4
  refine ⟨_, rfl, rd_Desk_index_told T h0 ⟨_, rfl, rd_Desk_question T h0 ⟨_, rfl, rd_Desk_table T h0 ⟨c, b', a, i, q, t, rfl, h3, h2, h1, h4, h6, h5, fun H1 s1 => ?_⟩⟩⟩⟩
  refine ⟨_, _, rfl, rfl, 4, rfl, _, _, rfl, fun hc => ?_, fun hc d' H2 s2 e2 => ?_⟩
  · have hc := of_decide_eq_false hc
    have hle : VaidxBase.rowsOf (VaidxBase.entries t i q) ≤ 300 := by omega
    have hsf : sumF (Vaidxb.indexTrace t i q) ≤ 300 := Nat.le_trans (traced_sumF_le _ _ _ _ _ _ _) hle
    refine ⟨_, rfl, rm_Desk_by_index (s1 _ _ h0) ⟨d, t, q, i, rfl, hd.same s1, fun H2 r2 s2 w2 => ?_⟩⟩
    obtain ⟨dw, wp, was, hw1, hw2, hw3⟩ := id w2
    refine ⟨_, rfl, rm_Way_touched hw1 ⟨r2, _, _, rfl, w2, by omega, fun H3 s3 => ?_⟩⟩
    refine ⟨_, rfl, rm_Way_looked (s3 _ _ hw1) ⟨r2, _, _, rfl, w2.same s3, by omega, fun H4 s4 => ?_⟩⟩
    have t4 := s3.trans s4
    refine ⟨_, rfl, rm_Way_sorted_rows (t4 _ _ hw1) ⟨r2, _, _, rfl, w2.same t4, by omega, fun H5 s5 => ?_⟩⟩
    have t5 := t4.trans s5
    refine ⟨_, rfl, rm_Way_found (t5 _ _ hw1) ⟨r2, _, _, rfl, w2.same t5, by omega, fun H6 s6 => ?_⟩⟩
    have t6 := t5.trans s6
    refine ⟨by show 4 ≤ sizeLine; exact sz (by decide), fun D hD => ?_⟩
    have s7 : Same H6 (upd H6 D _) := sm_new (o := .lst [natV (sumT (Vaidxb.indexTrace t i q)), natV (sumL (Vaidxb.indexTrace t i q)), natV (sortedOf (VaidxBase.isFree i q) (Vaidxb.indexTrace t i q)), natV (sumF (Vaidxb.indexTrace t i q))]) hD
    have t7 := t6.trans s7
    refine ⟨_, rfl, rm_Way_rows (t7 _ _ hw1) ⟨r2, _, _, rfl, w2.same t7, by omega, by omega, fun H8 r8 s8 f8 e8 => ?_⟩⟩
    refine ⟨D, r8, _, _, rfl, rfl, s8 _ _ upd_same, e8, sz ?_, fun G hG => ?_⟩
    · rw [natsV_len, found_len]
      show 4 + _ ≤ _
      omega
    · refine kY hle _ G ((((s1.trans s2).trans t7).trans s8).trans (sm_new hG)) ?_
      refine ⟨sm_back (((s1.trans s2).trans t7).trans s8) hG, ?_⟩
      unfold rowsN
      rw [upd_same, List.map_append, natsV_ints]
      rfl
  · have hc := of_decide_eq_true hc
    exact kN (by omega) d' H2 (s1.trans s2) e2
def prefN (t : Tbl) (q : Qst) (i : Idx) : List Int := (i.keys.length : Int) :: (List.range i.keys.length).map fun k => (VaidxBase.indexCost t (Vaidxb.shorter i (k + 1)) q : Int)
theorem WfI.shorter {n : Nat} {i : Idx} (h : WfI n i) (k : Nat) : WfI n (Vaidxb.shorter i k) := by
  refine ⟨fun c hc => h.kcol c (List.mem_of_mem_take hc), h.ccol, ?_, h.il⟩
  show (i.keys.take k).length ≤ 4
  rw [List.length_take]
  have := h.kl
  omega
abbrev sp_Desk_prefixes (K : PySem.W.Frag) : Sp := spA3 K prefN
theorem ok_Desk_prefixes (T : Txt K mg) : ∃ fd, FnOk P w K mg base CX0 7 (ma K (ga K "Desk") "prefixes") fd ["self"] (sp_Desk_prefixes K) ∧ Binds K fd ["self"] [] := by
  obtain ⟨fd, F, b⟩ := T.F_Desk_prefixes
  obtain ⟨_, G_Way_cost_by_index, b_Way_cost_by_index⟩ := ok_Way_cost_by_index (P := P) (w := w) (base := base) T
  obtain ⟨_, G_way_by_index, b_way_by_index⟩ := ok_way_by_index (P := P) (w := w) (base := base) T
  obtain ⟨_, G_Index_first_keys, b_Index_first_keys⟩ := ok_Index_first_keys (P := P) (w := w) (base := base) T
  refine ⟨fd, F.ok sc_Desk_prefixes (fun vs H Q E h => let ⟨_, _, _, _, e, _⟩ := h; by rw [e] <;> rfl) (fun cdv A outer s H vs Q E hr h => ⟨_, (pss_cons (ps_set (i := 1) sc_Desk_prefixes.nd rfl (Or.inl rfl) (pe_callB call_len_seq (by rfl) T.b_len PySem.boot_len (pa_cons (pe_fld (pe_fld (pv 0) rfl) rfl) pa_nil)))
  (pss_cons (ps_set (i := 2) sc_Desk_prefixes.nd rfl (Or.inl rfl) (pe_lst (pa_cons (pv 1) pa_nil)))
  (pss_cons (ps_for PassesOwn.never rfl (pi_range2 rfl T.b_range (pa_cons pe_int (pa_cons (pe_op op_add (pv 1) pe_int) pa_nil))) (pg_name (i := 3) sc_Desk_prefixes.nd rfl (Or.inl rfl))
    (pss_cons (ps_set (i := 4) sc_Desk_prefixes.nd rfl (Or.inl rfl) (pe_meth (pe_fld (pv 0) rfl) T.cl_Index T.mt_Index_first_keys G_Index_first_keys (hr.mono (by decide)) b_Index_first_keys .nil pass0 (pa_cons (pv 3) pa_nil)))
  (pss_one (ps_expr (pe_bm PySem.F.plainAttrs_list PySem.F.slot_list_append PySem.F.type_list_append mt_append (pv 2) (pa_cons (pe_meth0 (pe_call G_way_by_index (hr.mono (by decide)) rfl T.g_way_by_index T.k_way_by_index b_way_by_index .nil pass0 (pa_cons (pv 4) (pa_cons (pe_fld (pv 0) rfl) (pa_cons (pe_fld (pv 0) rfl) pa_nil)))) T.cl_Way T.mt_Way_cost_by_index G_Way_cost_by_index (hr.mono (by decide)) b_Way_cost_by_index .nil pass0) pa_nil))))))
  (pss_one (ps_ret (pv 2)))))), ?_⟩), b⟩
  obtain ⟨d, t, q, i, rfl, hd, k⟩ := h
  obtain ⟨dx, a, b', c, h0, h1, h2, h3, h4, h5, h6⟩ := id hd
  obtain ⟨di, p1, p2, cv, hia, hi1, hi2, hi3⟩ := id h3
  have kl := h6.kl
  refine ⟨_, rfl, rd_Desk_index_told T h0 (rd_Index_key_columns T hia ⟨p1, _, rfl, .inl (.of hi1), ?_⟩)⟩
  rw [natsV_len]
  refine ⟨_, rfl, by show 1 ≤ sizeLine; exact sz (by decide), fun F hF => ?_⟩
  have s1 : Same H (upd H F (.lst [V.int (i.keys.length : Nat)])) := sm_new hF
  refine ⟨_, rfl, _, _, rfl, rfl, 1, (i.keys.length : Int) + 1, rfl, ⟨by omega, by omega, by omega, by omega⟩, ?_⟩
  have en : ((i.keys.length : Int) + 1 - 1).toNat = i.keys.length := by omega
  rw [en]
  refine for_range (lo := 1) (n := i.keys.length) (fun j σ H' => ∃ (x y : Option V), σ = [some (.ref d), some (natV i.keys.length), some (.ref F), x, y] ∧ Same H H' ∧ H' F = some (.lst (((i.keys.length : Int) :: (List.range j).map fun m => (VaidxBase.indexCost t (Vaidxb.shorter i (m + 1)) q : Int)).map V.int))) ⟨none, none, rfl, s1, upd_same⟩ ?_ ?_
  · rintro j σ H' hj ⟨x, y, rfl, sH, eF⟩
    refine ⟨_, rfl, rd_Desk_index_told T (sH _ _ h0) ⟨_, _, _, rfl, sH _ _ hia, rfl, ⟨_, rfl, c, i, j + 1, by show [V.ref c, V.int (1 + (j : Int))] = _; rw [show (1 + (j : Int)) = ((j + 1 : Nat) : Int) by omega]; rfl, h3.same sH, by omega, fun H2 r2 s2 i2 => ?_⟩⟩⟩
    have t2 := sH.trans s2
    refine ⟨_, rfl, .inl ⟨rfl, _, .of (s2 _ _ eF)⟩, _, rfl, _, rfl, rd_Desk_question T (t2 _ _ h0) ⟨_, rfl, rd_Desk_table T (t2 _ _ h0) ⟨r2, b', a, Vaidxb.shorter i (j + 1), q, t, rfl, i2, h2.same t2, h1.same t2, h4, h6.shorter _, h5, fun H3 r3 s3 w3 => ?_⟩⟩⟩
    obtain ⟨dw3, wp3, was3, hw31, hw32, hw33⟩ := id w3
    refine rm_Way_cost_by_index hw31 ⟨r3, _, _, rfl, w3, by have := index_len (i := Vaidxb.shorter i (j + 1)) (q := q) h4; omega, fun H4 s4 => ?_⟩
    have v4 := (s2.trans s3).trans s4
    refine ⟨F, _, _, rfl, rfl, v4 _ _ eF, szl ?_, _, _, rfl, sm_mut (sH.trans v4) hF, ?_⟩
    · rw [List.length_map, List.length_cons, List.length_map, List.length_range]
      omega
    · rw [upd_same, List.range_succ, List.map_append, ← List.cons_append, List.map_append, ← indexCost_is]
      rfl
  · rintro σ H' ⟨x, y, rfl, sH, eF⟩
    exact ⟨_, rfl, k H' F sH ⟨hF, eF⟩⟩
end
end One
set_option Elab.async false
set_option linter.all false
set_option maxRecDepth 100000
set_option maxHeartbeats 4000000
/-! The walk, D4: a call looked at, told, answered. -/
namespace One
open PySem PySem.Spec PyProof.Rows L2
open He (ga ma)
open Vaidxb (Done)
section
variable {P : Program} {w : World} {K : PySem.W.Frag} {mg : Str → Option Value} {base : Heap}
/-- whether a call needs the index -/
def byIx (call : Nat) (z : Int) : Bool := if [8, 9].contains call = true then decide (z = 1) else ![6, 8, 9].contains call
/-- the number by which a call on a table is refused -/
def lookM (s : Vaidxb.State) (call : Nat) (z : Int) : Option Int :=
  if ([8, 9].contains call && !(decide (0 ≤ z) && decide (z ≤ 1))) = true then some (-5) else
  match s.question with
  | none => some (-9)
  | some q => if byIx call z = true then (match s.index with
    | none => some (-7)
    | some i => if (![4, 7].contains call && !VaidxBase.serves i q) = true then some (-6) else none) else none
def sp_Desk_look (K : PySem.W.Frag) : Sp := fun vs H Q E => ∃ (d np : Addr) (s : Vaidxb.State) (t : Tbl) (call : Nat) (ns : List Int) (z : Int), vs = [.ref d, natV call, .ref np] ∧ DeskAt K H d s ∧ s.table = some t ∧ H np = some (.lst (ns.map V.int)) ∧ ([8, 9].contains call = true → ns[0]? = some z) ∧
  (lookM s call z = none → ∀ H', Same H H' → Q .non H') ∧ (∀ n, lookM s call z = some n → ∀ d' H', Same H H' → H' d' = some (.xd [("why", .int n)]) → E (RF K) (some d') H')
theorem ok_Desk_look (T : Txt K mg) : ∃ fd, FnOk P w K mg base (L2.CX P w) 4 (ma K (ga K "Desk") "look") fd ["self", "call", "numbers"] (sp_Desk_look K) ∧ Binds K fd ["self", "call", "numbers"] [] := by
  obtain ⟨fd, F, b⟩ := T.F_Desk_look
  obtain ⟨_, G_refuse_if, b_refuse_if⟩ := ok_refuse_if (P := P) (w := w) (base := base) T
  obtain ⟨_, G_Desk_does_serve, b_Desk_does_serve⟩ := ok_Desk_does_serve (P := P) (w := w) (base := base) T
  refine ⟨fd, F.okX sc_Desk_look (fun vs H Q E h => let ⟨_, _, _, _, _, _, _, e, _⟩ := h; by rw [e] <;> rfl) (fun cdv A outer s H vs Q E hr h => ⟨_, (pss_cons (ps_set (i := 3) sc_Desk_look.nd rfl (Or.inl rfl) (pe_cmpR op_notIn_seq (pv 1) (pe_tup (pa_cons (pe_gint rfl T.c_WHOLE) (pa_cons (pe_gint rfl T.c_TRACE) (pa_cons (pe_gint rfl T.c_ANSWER) pa_nil)))) (by rfl)))
  (pss_cons (ps_if (pt_cmpR op_in_seq (pv 1) (pe_tup (pa_cons (pe_gint rfl T.c_TRACE) (pa_cons (pe_gint rfl T.c_ANSWER) pa_nil))) (by rfl))
    (pss_cons (ps_expr (pe_call G_refuse_if (hr.mono (by decide)) rfl T.g_refuse_if T.k_refuse_if b_refuse_if .nil (passes_call (takes_of rfl rfl rfl rfl) fun _ _ _ _ h => h) (pa_cons (pe_not (pe_chain op_le op_le pe_int (pe_ix ix_list (pv 2) pe_int (fun _ _ => rfl)) pe_int)) (pa_cons (pe_un un_neg pe_int) pa_nil))))
  (pss_one (ps_set (i := 3) sc_Desk_look.nd rfl (Or.inl rfl) (pe_cmpR op_eq (pe_ix ix_list (pv 2) pe_int (fun _ _ => rfl)) pe_int (nomark _)))))
    pss_nil)
  (pss_cons (ps_expr (pe_call G_refuse_if (hr.mono (by decide)) rfl T.g_refuse_if T.k_refuse_if b_refuse_if .nil (passes_call (takes_of rfl rfl rfl rfl) fun _ _ _ _ h => h) (pa_cons (pe_cmpR op_isN (pe_fld (pv 0) rfl) pe_non (nomark _)) (pa_cons (pe_un un_neg pe_int) pa_nil))))
  (pss_one (ps_if (pt_val (pv 3))
    (pss_cons (ps_expr (pe_call G_refuse_if (hr.mono (by decide)) rfl T.g_refuse_if T.k_refuse_if b_refuse_if .nil (passes_call (takes_of rfl rfl rfl rfl) fun _ _ _ _ h => h) (pa_cons (pe_cmpR op_isN (pe_fld (pv 0) rfl) pe_non (nomark _)) (pa_cons (pe_un un_neg pe_int) pa_nil))))
  (pss_one (ps_expr (pe_call G_refuse_if (hr.mono (by decide)) rfl T.g_refuse_if T.k_refuse_if b_refuse_if .nil (passes_call (takes_of rfl rfl rfl rfl) fun _ _ _ _ h => h) (pa_cons (pe_and (pe_cmpR op_notIn_seq (pv 1) (pe_tup (pa_cons (pe_gint rfl T.c_WHY) (pa_cons (pe_gint rfl T.c_BEST) pa_nil))) (by rfl)) (pe_one (pe_not (pe_meth0 (pv 0) T.cl_Desk T.mt_Desk_does_serve G_Desk_does_serve (hr.mono (by decide)) b_Desk_does_serve .nil pass0)))) (pa_cons (pe_un un_neg pe_int) pa_nil))))))
    pss_nil))))), ?_⟩), b⟩
  obtain ⟨d, np, st, t, call, ns, z, rfl, hd, et, hn, hz, kY, kN⟩ := h
  refine ⟨_, rfl, by show 3 ≤ sizeLine; exact sz (by decide), fun p1 hp1 => ?_⟩
  have s1 : Same H (upd H p1 (.tup (natsV [6, 8, 9]))) := sm_new hp1
  have in1 (neg : Bool) (l : List Nat) : (if neg = true then !inV (natV call) (natsV l) else inV (natV call) (natsV l)) = (if neg = true then !l.contains call else l.contains call) := by
    rw [in_nats]
  refine ⟨p1, _, rfl, .inr (.of upd_same), rfl, flat_nats [6, 8, 9], ?_⟩
  have eA : (if true = true then !inV (natV call) [V.int 6, V.int 8, V.int 9] else inV (natV call) [V.int 6, V.int 8, V.int 9]) = ![6, 8, 9].contains call := in1 true [6, 8, 9]
  rw [eA]
  obtain ⟨dx, v0, v1, v2, h0, h1, h2, h3, h4⟩ := id hd
  dsimp only
  refine if_next (tif_joinV ([8, 9].contains call) (fun _ => [some (.ref d), some (natV call), some (.ref np), some (.bl (byIx call z))]) (fun _ _ => ([8, 9].contains call && !(decide (0 ≤ z) && decide (z ≤ 1))) = false) ?_ ?_ ?_ ?_)
  · intro R kR
    refine ⟨_, rfl, by show 2 ≤ sizeLine; exact sz (by decide), fun p2 hp2 => ⟨p2, _, rfl, .inr (.of upd_same), rfl, flat_nats [8, 9], _, rfl, ?_⟩⟩
    have eB : (if false = true then !inV (natV call) [V.int 8, V.int 9] else inV (natV call) [V.int 8, V.int 9]) = [8, 9].contains call := in1 false [8, 9]
    rw [eB]
    exact kR _ (sm_new hp2)
  · intro hc H2 D' s2 n2
    have ez : atI (ns.map V.int) 0 = some (V.int z) := atI_nat (ints_get (hz hc))
    have hn2 := (s1.trans s2) _ _ hn
    have eb : byIx call z = decide (z = 1) := by
      unfold byIx
      rw [if_pos hc]
    refine ⟨_, rfl, np, _, _, _, rfl, rfl, .of hn2, ez, _, _, rfl, rfl, _, rfl, iteB (fun c1 => ?_) (fun c1 => ?_)⟩
    · refine ⟨_, _, rfl, rfl, _, rfl, 5, rfl, _, _, rfl, fun hf => ?_, fun hf d' H3 s3 e3 => ?_⟩
      · refine ⟨_, rfl, np, _, _, _, rfl, rfl, .of hn2, ez, rfl, ?_⟩
        rw [eq_int, ← eb]
        refine n2 .non H2 (Same.refl _) ?_
        rw [hc, c1]
        simpa using hf
      · refine kN (-5) ?_ d' H3 ((s1.trans s2).trans s3) e3
        unfold lookM
        rw [if_pos]
        rw [hc, c1]
        simpa using hf
    · refine ⟨_, rfl, 5, rfl, _, _, rfl, (fun hf => by cases hf), fun hf d' H3 s3 e3 => ?_⟩
      refine kN (-5) ?_ d' H3 ((s1.trans s2).trans s3) e3
      unfold lookM
      rw [if_pos]
      rw [hc, c1]
      rfl
  · intro hc H2 D' s2 n2
    have eb : byIx call z = ![6, 8, 9].contains call := by
      unfold byIx
      rw [if_neg (by rw [hc]; exact Bool.false_ne_true)]
    rw [eb] at n2
    refine n2 .non H2 (Same.refl _) ?_
    rw [hc]
    rfl
  intro _ H2 s2 hno
  have eL : lookM st call z = match st.question with
      | none => some (-9)
      | some q => if byIx call z = true then (match st.index with
        | none => some (-7)
        | some i => if (![4, 7].contains call && !VaidxBase.serves i q) = true then some (-6) else none) else none := by
    unfold lookM
    rw [if_neg (by rw [hno]; exact Bool.false_ne_true)]
  rw [eL] at kY kN
  have t2 := s1.trans s2
  cases eq : st.question with
  | none =>
    rw [eq] at h2 kN
    have h2 : v1 = .non := h2
    subst h2
    refine ⟨_, rfl, rd_Desk_question T (t2 _ _ h0) ⟨rfl, 9, rfl, _, _, rfl, (fun hf => by cases hf), fun hf d' H3 s3 e3 => kN (-9) rfl d' H3 (t2.trans s3) e3⟩⟩
  | some q =>
    rw [eq] at h2
    simp only [eq] at kY kN
    obtain ⟨qa, rfl, hq⟩ := h2
    refine ⟨_, rfl, rd_Desk_question T (t2 _ _ h0) ⟨rfl, 9, rfl, _, _, rfl, (fun hf => ?_), (fun hf => by cases hf)⟩⟩
    refine ⟨_, rfl, _, rfl, iteB (fun hb => ?_) (fun hb => ?_)⟩
    · rw [if_pos hb] at kY kN
      cases ei : st.index with
      | none =>
        rw [ei] at h3
        simp only [ei] at kN
        have h3 : v2 = .non := h3
        subst h3
        refine ⟨_, rfl, rd_Desk_index_told T (t2 _ _ h0) ⟨rfl, 7, rfl, _, _, rfl, (fun hf => by cases hf), fun hf d' H3 s3 e3 => kN (-7) rfl d' H3 (t2.trans s3) e3⟩⟩
      | some i =>
        have hd3 := hd.three et eq ei
        rw [ei] at h3
        simp only [ei] at kY kN
        obtain ⟨ia, rfl, hi⟩ := h3
        refine ⟨_, rfl, rd_Desk_index_told T (t2 _ _ h0) ⟨rfl, 7, rfl, _, _, rfl, (fun hf => ?_), (fun hf => by cases hf)⟩⟩
        refine ⟨_, rfl, by show 2 ≤ sizeLine; exact sz (by decide), fun p3 hp3 => ?_⟩
        have s3 : Same H2 (upd H2 p3 (.tup (natsV [4, 7]))) := sm_new hp3
        have t3 := t2.trans s3
        have eC : (if true = true then !inV (natV call) [V.int 4, V.int 7] else inV (natV call) [V.int 4, V.int 7]) = ![4, 7].contains call := in1 true [4, 7]
        refine ⟨p3, _, rfl, .inr (.of upd_same), rfl, flat_nats [4, 7], _, rfl, ?_⟩
        rw [eC]
        refine iteB (fun hc => ?_) (fun hc => ?_)
        · rw [hc] at kY kN
          refine ⟨_, rfl, rm_Desk_does_serve (t3 _ _ h0) ⟨d, t, q, i, rfl, hd3.same t3, _, rfl, 6, rfl, _, _, rfl, fun hf => ?_, fun hf d' H4 s4 e4 => ?_⟩⟩
          · rw [hf] at kY
            exact kY rfl _ t3
          · rw [hf] at kN
            exact kN (-6) rfl d' H4 (t3.trans s4) e4
        · rw [hc] at kY kN
          refine ⟨6, rfl, _, _, rfl, (fun hf => kY rfl _ t3), (fun hf => by cases hf)⟩
    · rw [if_neg (by rw [hb]; exact Bool.false_ne_true)] at kY
      exact kY rfl _ t2
end
end One
set_option Elab.async false
set_option linter.all false
set_option maxRecDepth 100000
set_option maxHeartbeats 4000000
/-! The walk, D5: what the specification's step answers, by the looks. -/
namespace One
open PySem PySem.Spec PyProof.Rows L2
open He (ga ma)
open Vaidxb (Done)
section
variable {s : Vaidxb.State} {t : Tbl}
theorem on_question (ht : s.table = some t) (f : Tbl → Qst → List Int) : Vaidxb.onQuestion s f = match s.question with
    | none => (s, [-9])
    | some q => (s, f t q) := by
  unfold Vaidxb.onQuestion Vaidxb.onTable
  rw [ht]
  cases s.question <;> rfl
theorem on_index (ht : s.table = some t) (f : Tbl → Qst → Idx → List Int) : Vaidxb.onIndex s f = match s.question with
    | none => (s, [-9])
    | some q => (match s.index with
      | none => (s, [-7])
      | some i => (s, f t q i)) := by
  unfold Vaidxb.onIndex
  rw [on_question ht]
  cases s.question with
  | none => rfl
  | some q => cases s.index <;> rfl
theorem on_serving (ht : s.table = some t) (f : Tbl → Qst → Idx → List Int) : Vaidxb.onServing s f = match s.question with
    | none => (s, [-9])
    | some q => (match s.index with
      | none => (s, [-7])
      | some i => if VaidxBase.serves i q = true then (s, f t q i) else (s, [-6])) := by
  unfold Vaidxb.onServing
  rw [on_index ht]
  cases s.question with
  | none => rfl
  | some q =>
    cases s.index with
    | none => rfl
    | some i =>
      show (s, if VaidxBase.serves i q = true then f t q i else [-6]) = if VaidxBase.serves i q = true then (s, f t q i) else (s, [-6])
      cases VaidxBase.serves i q <;> rfl
/-- by the index that serves -/
theorem look_serving {call : Nat} {z : Int} (h : [8, 9].contains call = false ∨ z = 1) (h6 : [8, 9].contains call = false → [6, 8, 9].contains call = false) (h47 : [4, 7].contains call = false) : lookM s call z = match s.question with
    | none => some (-9)
    | some q => (match s.index with
      | none => some (-7)
      | some i => if VaidxBase.serves i q = true then none else some (-6)) := by
  have e0 : ([8, 9].contains call && !(decide (0 ≤ z) && decide (z ≤ 1))) = false := by
    rcases h with h | h
    · rw [h]; rfl
    · rw [h, Bool.and_eq_false_iff]
      exact .inr rfl
  have e1 : byIx call z = true := by
    unfold byIx
    rcases h with h | h
    · rw [if_neg (by rw [h]; exact Bool.false_ne_true), h6 h]
      rfl
    · rw [h]
      by_cases c : [8, 9].contains call = true
      · rw [if_pos c]
        rfl
      · rw [if_neg c, h6 (by simpa using c)]
        rfl
  unfold lookM
  rw [e0, if_neg Bool.false_ne_true, h47]
  cases s.question with
  | none => rfl
  | some q =>
    show (if byIx call z = true then _ else _) = _
    rw [if_pos e1]
    cases s.index with
    | none => rfl
    | some i =>
      show (if (!false && !VaidxBase.serves i q) = true then some (-6) else none) = if VaidxBase.serves i q = true then none else some (-6)
      cases VaidxBase.serves i q <;> rfl
theorem look_index {call : Nat} {z : Int} (h : [8, 9].contains call = false) (h6 : [6, 8, 9].contains call = false) (h47 : [4, 7].contains call = true) : lookM s call z = match s.question with
    | none => some (-9)
    | some q => (match s.index with
      | none => some (-7)
      | some i => none) := by
  have e1 : byIx call z = true := by
    unfold byIx
    rw [if_neg (by rw [h]; exact Bool.false_ne_true), h6]
    rfl
  unfold lookM
  rw [h, h47]
  cases s.question with
  | none => rfl
  | some q =>
    show (if byIx call z = true then _ else _) = _
    rw [if_pos e1]
    cases s.index <;> rfl
theorem look_question {call : Nat} {z : Int} (h : byIx call z = false) (h0 : ([8, 9].contains call && !(decide (0 ≤ z) && decide (z ≤ 1))) = false) : lookM s call z = match s.question with
    | none => some (-9)
    | some q => none := by
  unfold lookM
  rw [h0, if_neg Bool.false_ne_true]
  cases s.question with
  | none => rfl
  | some q =>
    show (if byIx call z = true then _ else _) = _
    rw [if_neg (by rw [h]; exact Bool.false_ne_true)]
theorem serving_no {o : Option Int} {f : Tbl → Qst → Idx → List Int} (ht : s.table = some t) (e : o = match s.question with
    | none => some (-9)
    | some q => (match s.index with
      | none => some (-7)
      | some i => if VaidxBase.serves i q = true then none else some (-6))) : (∀ n, o = some n → Vaidxb.onServing s f = (s, [n])) ∧ (o = none → ∃ q i, s.question = some q ∧ s.index = some i ∧ Vaidxb.onServing s f = (s, f t q i)) := by
  rw [on_serving ht]
  subst e
  cases eq : s.question with
  | none => exact ⟨fun n h => by cases h; rfl, fun h => by cases h⟩
  | some q =>
    cases ei : s.index with
    | none => exact ⟨fun n h => by cases h; rfl, fun h => by cases h⟩
    | some i =>
      show (∀ n, (if VaidxBase.serves i q = true then none else some (-6)) = some n → (if VaidxBase.serves i q = true then (s, f t q i) else (s, [-6])) = (s, [n])) ∧ ((if VaidxBase.serves i q = true then none else some (-6 : Int)) = none → ∃ q' i', some q = some q' ∧ some i = some i' ∧ (if VaidxBase.serves i q = true then (s, f t q i) else (s, [-6])) = (s, f t q' i'))
      cases VaidxBase.serves i q with
      | true => exact ⟨(fun n h => by cases h), fun _ => ⟨q, i, rfl, rfl, rfl⟩⟩
      | false => exact ⟨fun n h => by cases h; rfl, fun h => by cases h⟩
theorem index_no {o : Option Int} {f : Tbl → Qst → Idx → List Int} (ht : s.table = some t) (e : o = match s.question with
    | none => some (-9)
    | some q => (match s.index with
      | none => some (-7)
      | some i => none)) : (∀ n, o = some n → Vaidxb.onIndex s f = (s, [n])) ∧ (o = none → ∃ q i, s.question = some q ∧ s.index = some i ∧ Vaidxb.onIndex s f = (s, f t q i)) := by
  rw [on_index ht]
  subst e
  cases eq : s.question with
  | none => exact ⟨fun n h => by cases h; rfl, fun h => by cases h⟩
  | some q =>
    cases ei : s.index with
    | none => exact ⟨fun n h => by cases h; rfl, fun h => by cases h⟩
    | some i => exact ⟨(fun n h => by cases h), fun _ => ⟨q, i, rfl, rfl, rfl⟩⟩
theorem question_no {o : Option Int} {f : Tbl → Qst → List Int} (ht : s.table = some t) (e : o = match s.question with
    | none => some (-9)
    | some q => none) : (∀ n, o = some n → Vaidxb.onQuestion s f = (s, [n])) ∧ (o = none → ∃ q, s.question = some q ∧ Vaidxb.onQuestion s f = (s, f t q)) := by
  rw [on_question ht]
  subst e
  cases eq : s.question with
  | none => exact ⟨fun n h => by cases h; rfl, fun h => by cases h⟩
  | some q => exact ⟨(fun n h => by cases h), fun _ => ⟨q, rfl, rfl⟩⟩
/-- the way by its number -/
def WayIs (s : Vaidxb.State) (k : Int) (q : Qst) (t : Tbl) (l : List Done) (free : Bool) : Prop := (k = 1 → ∃ i, s.index = some i ∧ l = Vaidxb.indexTrace t i q ∧ free = VaidxBase.isFree i q) ∧ (k ≠ 1 → l = Vaidxb.wholeTrace t q ∧ free = (VaidxBase.orderLeft q).isEmpty)
theorem way_no {call : Nat} (hc : call = 8 ∨ call = 9) {k : Int} {f : Tbl → Qst → Bool → List Done → List Int} (ht : s.table = some t) : (∀ n, lookM s call k = some n → Vaidxb.onWay s k f = (s, [n])) ∧
    (lookM s call k = none → ∃ q l free, s.question = some q ∧ WayIs s k q t l free ∧ Vaidxb.onWay s k f = (s, f t q free l)) := by
  have c1 : [8, 9].contains call = true := by rcases hc with rfl | rfl <;> rfl
  have c2 : [4, 7].contains call = false := by rcases hc with rfl | rfl <;> rfl
  unfold Vaidxb.onWay
  by_cases k0 : k = 0
  · rw [if_pos k0]
    subst k0
    have e := look_question (s := s) (call := call) (z := 0) (by unfold byIx; rw [if_pos c1]; rfl) (by rw [c1]; rfl)
    obtain ⟨h1, h2⟩ := question_no (f := fun t q => f t q ((VaidxBase.orderLeft q).isEmpty) (Vaidxb.wholeTrace t q)) ht e
    refine ⟨h1, fun h => ?_⟩
    obtain ⟨q, eq, es⟩ := h2 h
    exact ⟨q, _, _, eq, ⟨(fun z => by cases z), fun _ => ⟨rfl, rfl⟩⟩, es⟩
  · rw [if_neg k0]
    by_cases k1 : k = 1
    · rw [if_pos k1]
      subst k1
      have e := look_serving (s := s) (call := call) (z := 1) (.inr rfl) (fun z => by rw [c1] at z; cases z) c2
      obtain ⟨h1, h2⟩ := serving_no (f := fun t q i => f t q (VaidxBase.isFree i q) (Vaidxb.indexTrace t i q)) ht e
      refine ⟨h1, fun h => ?_⟩
      obtain ⟨q, i, eq, ei, es⟩ := h2 h
      exact ⟨q, _, _, eq, ⟨fun _ => ⟨i, ei, rfl, rfl⟩, fun z => absurd rfl z⟩, es⟩
    · rw [if_neg k1]
      have e : lookM s call k = some (-5) := by
        unfold lookM
        rw [if_pos]
        rw [c1, Bool.true_and, Bool.not_eq_true', Bool.and_eq_false_iff]
        by_cases h : 0 ≤ k
        · exact .inr (decide_eq_false (by omega))
        · exact .inl (decide_eq_false h)
      rw [e]
      refine ⟨fun n h => ?_, fun h => by cases h⟩
      cases h
      unfold Vaidxb.onTable
      rw [ht]
def fTrace : Tbl → Qst → Bool → List Done → List Int := fun _ _ _ l => Vaidxb.int l.length :: l.flatMap Vaidxb.doneTold
def fAnswer : Tbl → Qst → Bool → List Done → List Int := fun t q free l => let a := Vaidxb.answerOf t q free l
    Vaidxb.int a.length :: a.flatMap fun x => [Vaidxb.int x.1, Vaidxb.int x.2]
def traceN (l : List Done) : List Int := (l.length :: l.flatMap doneN).map fun (n : Nat) => (n : Int)
theorem traceN_is (l : List Done) : Vaidxb.int l.length :: l.flatMap Vaidxb.doneTold = traceN l := by
  unfold traceN
  rw [List.map_cons, List.map_flatMap]
  rfl
theorem step_refused (ht : s.table = some t) : ∀ (c : Vaidxb.Call) (n : Int), 3 ≤ callNo c → lookM s (callNo c) (callZ c) = some n → Vaidxb.step s c = (s, [n])
  | .table _, n, h3, _ => absurd (show 3 ≤ 0 from h3) (by decide)
  | .question _, n, h3, _ => absurd (show 3 ≤ 1 from h3) (by decide)
  | .index _, n, h3, _ => absurd (show 3 ≤ 2 from h3) (by decide)
  | .plan, n, _, h => (serving_no ht (look_serving (call := 3) (.inl rfl) (fun _ => rfl) rfl)).1 n h
  | .why, n, _, h => (index_no ht (look_index (call := 4) rfl rfl rfl)).1 n h
  | .work, n, _, h => (serving_no ht (look_serving (call := 5) (.inl rfl) (fun _ => rfl) rfl)).1 n h
  | .whole, n, _, h => (question_no ht (look_question (call := 6) rfl rfl)).1 n h
  | .best, n, _, h => (index_no ht (look_index (call := 7) rfl rfl rfl)).1 n h
  | .trace k, n, _, h => (way_no (f := fTrace) (.inl rfl) ht).1 n h
  | .answer k, n, _, h => (way_no (f := fAnswer) (.inr rfl) ht).1 n h
  | .rows, n, _, h => (serving_no ht (look_serving (call := 10) (.inl rfl) (fun _ => rfl) rfl)).1 n h
  | .prefixes, n, _, h => (serving_no ht (look_serving (call := 11) (.inl rfl) (fun _ => rfl) rfl)).1 n h
theorem tell_plan (ht : s.table = some t) (h : lookM s 3 0 = none) : ∃ q i, s.question = some q ∧ s.index = some i ∧ Vaidxb.step s .plan = (s, planN t q i) := (serving_no ht (look_serving (call := 3) (.inl rfl) (fun _ => rfl) rfl)).2 h
theorem tell_why (ht : s.table = some t) (h : lookM s 4 0 = none) : ∃ q i, s.question = some q ∧ s.index = some i ∧ Vaidxb.step s .why = (s, whyN t q i) := (index_no ht (look_index (call := 4) rfl rfl rfl)).2 h
theorem tell_work (ht : s.table = some t) (h : lookM s 5 0 = none) : ∃ q i, s.question = some q ∧ s.index = some i ∧ Vaidxb.step s .work = (s, workN t q i) := by
  obtain ⟨q, i, eq, ei, es⟩ := (serving_no (f := fun t q i => let w := VaidxBase.indexWork t i q; [Vaidxb.int w.touched, Vaidxb.int w.looked, Vaidxb.int w.sorted, Vaidxb.int (VaidxBase.indexCost t i q)]) ht (look_serving (call := 5) (.inl rfl) (fun _ => rfl) rfl)).2 h
  refine ⟨q, i, eq, ei, ?_⟩
  have es : Vaidxb.step s .work = _ := es
  rw [es]
  dsimp only
  rw [indexCost_is, indexWork_is]
  rfl
theorem tell_whole (ht : s.table = some t) (h : lookM s 6 0 = none) : ∃ q, s.question = some q ∧ Vaidxb.step s .whole = (s, wholeN t q) := by
  obtain ⟨q, eq, es⟩ := (question_no (f := fun t q => let w := VaidxBase.wholeWork t q; [Vaidxb.int w.touched, Vaidxb.int w.sorted, Vaidxb.int (VaidxBase.wholeCost t q)]) ht (look_question (call := 6) rfl rfl)).2 h
  refine ⟨q, eq, ?_⟩
  have es : Vaidxb.step s .whole = _ := es
  rw [es]
  dsimp only
  rw [wholeCost_is, wholeWork_is]
  rfl
theorem tell_best (ht : s.table = some t) (h : lookM s 7 0 = none) : ∃ q i, s.question = some q ∧ s.index = some i ∧ Vaidxb.step s .best = (s, bestN t q i) := (index_no ht (look_index (call := 7) rfl rfl rfl)).2 h
theorem tell_trace {k : Int} (ht : s.table = some t) (h : lookM s 8 k = none) : ∃ q l free, s.question = some q ∧ WayIs s k q t l free ∧ Vaidxb.step s (.trace k) = (s, traceN l) := by
  obtain ⟨q, l, free, eq, hw, es⟩ := (way_no (f := fTrace) (.inl rfl) ht).2 h
  refine ⟨q, l, free, eq, hw, ?_⟩
  rw [← traceN_is]
  exact es
theorem tell_answer {k : Int} (ht : s.table = some t) (h : lookM s 9 k = none) : ∃ q l free, s.question = some q ∧ WayIs s k q t l free ∧ Vaidxb.step s (.answer k) = (s, ansN (Vaidxb.answerOf t q free l)) := (way_no (f := fAnswer) (.inr rfl) ht).2 h
theorem tell_prefixes (ht : s.table = some t) (h : lookM s 11 0 = none) : ∃ q i, s.question = some q ∧ s.index = some i ∧ Vaidxb.step s .prefixes = (s, prefN t q i) := by
  obtain ⟨q, i, eq, ei, es⟩ := (serving_no (f := fun t q i => let l := Vaidxb.prefixCosts t i q; Vaidxb.int l.length :: l.map Vaidxb.int) ht (look_serving (call := 11) (.inl rfl) (fun _ => rfl) rfl)).2 h
  refine ⟨q, i, eq, ei, ?_⟩
  have es : Vaidxb.step s .prefixes = _ := es
  rw [es]
  unfold prefN Vaidxb.prefixCosts
  dsimp only
  rw [List.length_map, List.length_range, List.map_map]
  rfl
theorem tell_rows (ht : s.table = some t) (wt : WfT t) (h : lookM s 10 0 = none) : ∃ q i, s.question = some q ∧ s.index = some i ∧ Vaidxb.step s .rows = (s, if VaidxBase.rowsOf (VaidxBase.entries t i q) ≤ 300 then rowsN t q i else [-4]) := by
  obtain ⟨q, i, eq, ei, es⟩ := (serving_no (f := fun t q i => if Vaidxb.ROWS < VaidxBase.rowsOf (VaidxBase.entries t i q) then [-4] else (let m := Vaidxb.indexMachine t i q; [Vaidxb.int m.work.touched, Vaidxb.int m.work.looked, Vaidxb.int m.work.sorted, Vaidxb.int m.hits.length] ++ m.hits.map Vaidxb.int)) ht (look_serving (call := 10) (.inl rfl) (fun _ => rfl) rfl)).2 h
  refine ⟨q, i, eq, ei, ?_⟩
  have es : Vaidxb.step s .rows = _ := es
  rw [es]
  dsimp only
  by_cases hr : VaidxBase.rowsOf (VaidxBase.entries t i q) ≤ 300
  · rw [if_pos hr, if_neg (by show ¬ 300 < _; omega)]
    obtain ⟨m1, m2, m3, m4⟩ := machine_is t i q fun g hg => by
      obtain ⟨n, hn⟩ := entries_get hg
      rw [place_is wt hn]
      exact rowIn_is hn
    rw [m1, m2, m3, m4, found_len]
    rfl
  · rw [if_neg hr, if_pos (by show 300 < _; omega)]
end
end One
set_option Elab.async false
set_option linter.all false
set_option maxRecDepth 100000
set_option maxHeartbeats 4000000
/-! The walk, D6: a call told, answered. -/
namespace One
open PySem PySem.Spec PyProof.Rows L2
open He (ga ma)
open Vaidxb (Done)
section
variable {P : Program} {w : World} {K : PySem.W.Frag} {mg : Str → Option Value} {base : Heap}
theorem ansAt.of {H0 H1 H : Hp} {r : Addr} {s : Vaidxb.State} {c : Vaidxb.Call} {zs : List Int} (e : Vaidxb.step s c = (s, zs)) (k : Same H0 H1) (h : ansAt H1 H r zs) : ansAt H0 H r (Vaidxb.step s c).2 := by
  rw [e]
  exact ⟨sm_back k h.1, h.2⟩
theorem is_plan {c : Vaidxb.Call} (h : (callNo c == 3) = true) : c = .plan := by
  cases c <;> first | rfl | cases h
theorem is_why {c : Vaidxb.Call} (h : (callNo c == 4) = true) : c = .why := by
  cases c <;> first | rfl | cases h
theorem is_work {c : Vaidxb.Call} (h : (callNo c == 5) = true) : c = .work := by
  cases c <;> first | rfl | cases h
theorem is_whole {c : Vaidxb.Call} (h : (callNo c == 6) = true) : c = .whole := by
  cases c <;> first | rfl | cases h
theorem is_best {c : Vaidxb.Call} (h : (callNo c == 7) = true) : c = .best := by
  cases c <;> first | rfl | cases h
theorem is_rows {c : Vaidxb.Call} (h : (callNo c == 10) = true) : c = .rows := by
  cases c <;> first | rfl | cases h
theorem is_prefixes {c : Vaidxb.Call} (h : (callNo c == 11) = true) : c = .prefixes := by
  cases c <;> first | rfl | cases h
theorem is_table {c : Vaidxb.Call} (h : (callNo c == 0) = true) : ∃ l, c = .table l := by
  cases c <;> first | exact ⟨_, rfl⟩ | cases h
theorem is_question {c : Vaidxb.Call} (h : (callNo c == 1) = true) : ∃ l, c = .question l := by
  cases c <;> first | exact ⟨_, rfl⟩ | cases h
theorem is_index {c : Vaidxb.Call} (h : (callNo c == 2) = true) : ∃ l, c = .index l := by
  cases c <;> first | exact ⟨_, rfl⟩ | cases h
theorem is_trace {c : Vaidxb.Call} (h : (callNo c == 8) = true) : ∃ l, c = .trace l := by
  cases c <;> first | exact ⟨_, rfl⟩ | cases h
theorem is_answer {c : Vaidxb.Call} (h : (callNo c == 9) = true) : ∃ l, c = .answer l := by
  cases c <;> first | exact ⟨_, rfl⟩ | cases h
theorem call_z (c : Vaidxb.Call) : [8, 9].contains (callNo c) = true → (callNs c)[0]? = some (callZ c) := by
  cases c <;> intro h <;> first | rfl | cases h
theorem call_le (c : Vaidxb.Call) : callNo c ≤ 11 := by
  cases c <;> (simp only [callNo]; omega)
theorem WayIs.of {H : Hp} {d : Addr} {s : Vaidxb.State} {k : Int} {q : Qst} {t : Tbl} {l : List Done} {free : Bool} (hd : DeskAt K H d s) (et : s.table = some t) (eq : s.question = some q) (h : WayIs s k q t l free) : WayOf K H d k t q l free := ⟨fun e => by
  obtain ⟨i, ei, h2⟩ := h.1 e
  exact ⟨i, hd.three et eq ei, h2⟩, h.2⟩
theorem Frm.step {H H' : Hp} {d : Addr} {s : Vaidxb.State} {c : Vaidxb.Call} {zs : List Int} (e : Vaidxb.step s c = (s, zs)) (h : Frm K H H' d s s) : Frm K H H' d s (Vaidxb.step s c).1 := by
  rw [e]
  exact h
theorem DeskAt.step {H : Hp} {d : Addr} {s : Vaidxb.State} {c : Vaidxb.Call} {zs : List Int} (e : Vaidxb.step s c = (s, zs)) (h : DeskAt K H d s) : DeskAt K H d (Vaidxb.step s c).1 := by
  rw [e]
  exact h
theorem way_none {s : Vaidxb.State} (et : s.table = none) (k : Int) (f : Tbl → Qst → Bool → List Done → List Int) : Vaidxb.onWay s k f = (s, [-8]) := by
  have ot : ∀ f, Vaidxb.onTable s f = (s, [-8]) := fun f => by
    unfold Vaidxb.onTable
    rw [et]
  unfold Vaidxb.onWay Vaidxb.onServing Vaidxb.onIndex Vaidxb.onQuestion
  simp only [ot, ite_self]
theorem step_no_table {s : Vaidxb.State} {c : Vaidxb.Call} (et : s.table = none) (h : (callNo c == 0) = false) : Vaidxb.step s c = (s, [-8]) := by
  have ot : ∀ f, Vaidxb.onTable s f = (s, [-8]) := fun f => by
    unfold Vaidxb.onTable
    rw [et]
  cases c with
  | table l => cases h
  | trace k => exact way_none et k fTrace
  | answer k => exact way_none et k fAnswer
  | _ => exact ot _
def sp_call_told (K : PySem.W.Frag) : Sp := fun vs H Q E => ∃ (d np rp : Addr) (s : Vaidxb.State) (c : Vaidxb.Call), vs = [.ref d, natV (callNo c), .ref np, .ref rp] ∧ DeskAt K H d s ∧ H np = some (.lst ((callNs c).map V.int)) ∧ H rp = some (.lst ((callRow c).map V.int)) ∧ (callRow c).length ≤ 1000 ∧
  (∀ H' r, But d H H' → DeskAt K H' d (Vaidxb.step s c).1 → Frm K H H' d s (Vaidxb.step s c).1 → ansAt H H' r (Vaidxb.step s c).2 → Q (.ref r) H') ∧ (∀ n d' H', Vaidxb.step s c = (s, [n]) → Same H H' → H' d' = some (.xd [("why", .int n)]) → E (RF K) (some d') H')
theorem ok_call_told (T : Txt K mg) : ∃ fd, FnOk P w K mg base (L2.CX P w) 10 (ga K "call_told") fd ["desk", "call", "numbers", "row"] (sp_call_told K) ∧ Binds K fd ["desk", "call", "numbers", "row"] [] := by
  obtain ⟨fd, F, b⟩ := T.F_call_told
  obtain ⟨_, G_Desk_prefixes, b_Desk_prefixes⟩ := ok_Desk_prefixes (P := P) (w := w) (base := base) T
  obtain ⟨_, G_Desk_rows_told, b_Desk_rows_told⟩ := ok_Desk_rows_told (P := P) (w := w) (base := base) T
  obtain ⟨_, G_Desk_answer, b_Desk_answer⟩ := ok_Desk_answer (P := P) (w := w) (base := base) T
  obtain ⟨_, G_Way_trace, b_Way_trace⟩ := ok_Way_trace (P := P) (w := w) (base := base) T
  obtain ⟨_, G_Desk_way, b_Desk_way⟩ := ok_Desk_way (P := P) (w := w) (base := base) T
  obtain ⟨_, G_Desk_best, b_Desk_best⟩ := ok_Desk_best (P := P) (w := w) (base := base) T
  obtain ⟨_, G_Desk_whole, b_Desk_whole⟩ := ok_Desk_whole (P := P) (w := w) (base := base) T
  obtain ⟨_, G_Desk_work, b_Desk_work⟩ := ok_Desk_work (P := P) (w := w) (base := base) T
  obtain ⟨_, G_Desk_why_not, b_Desk_why_not⟩ := ok_Desk_why_not (P := P) (w := w) (base := base) T
  obtain ⟨_, G_Desk_plan, b_Desk_plan⟩ := ok_Desk_plan (P := P) (w := w) (base := base) T
  obtain ⟨_, G_Desk_look, b_Desk_look⟩ := ok_Desk_look (P := P) (w := w) (base := base) T
  obtain ⟨_, G_Desk_put_index, b_Desk_put_index⟩ := ok_Desk_put_index (P := P) (w := w) (base := base) T
  obtain ⟨_, G_Desk_put_question, b_Desk_put_question⟩ := ok_Desk_put_question (P := P) (w := w) (base := base) T
  obtain ⟨_, G_refuse_if, b_refuse_if⟩ := ok_refuse_if (P := P) (w := w) (base := base) T
  obtain ⟨_, G_Desk_put_table, b_Desk_put_table⟩ := ok_Desk_put_table (P := P) (w := w) (base := base) T
  refine ⟨fd, F.okX sc_call_told (fun vs H Q E h => let ⟨_, _, _, _, _, e, _⟩ := h; by rw [e] <;> rfl) (fun cdv A outer s H vs Q E hr h => ⟨_, (pss_cons (ps_if (pt_cmpR op_eq (pv 1) (pe_gint rfl T.c_TABLE) (nomark _))
    (pss_one (ps_ret (pe_meth (pv 0) T.cl_Desk T.mt_Desk_put_table G_Desk_put_table (hr.mono (by decide)) b_Desk_put_table .nil pass0 (pa_cons (pv 3) pa_nil))))
    pss_nil)
  (pss_cons (ps_expr (pe_call G_refuse_if (hr.mono (by decide)) rfl T.g_refuse_if T.k_refuse_if b_refuse_if .nil (passes_call (takes_of rfl rfl rfl rfl) fun _ _ _ _ h => h) (pa_cons (pe_cmpR op_isN (pe_fld (pv 0) rfl) pe_non (nomark _)) (pa_cons (pe_un un_neg pe_int) pa_nil))))
  (pss_cons (ps_if (pt_cmpR op_eq (pv 1) (pe_gint rfl T.c_QUESTION) (nomark _))
    (pss_one (ps_ret (pe_meth (pv 0) T.cl_Desk T.mt_Desk_put_question G_Desk_put_question (hr.mono (by decide)) b_Desk_put_question .nil pass0 (pa_cons (pv 3) pa_nil))))
    pss_nil)
  (pss_cons (ps_if (pt_cmpR op_eq (pv 1) (pe_gint rfl T.c_INDEX) (nomark _))
    (pss_one (ps_ret (pe_meth (pv 0) T.cl_Desk T.mt_Desk_put_index G_Desk_put_index (hr.mono (by decide)) b_Desk_put_index .nil pass0 (pa_cons (pv 3) pa_nil))))
    pss_nil)
  (pss_cons (ps_expr (pe_meth (pv 0) T.cl_Desk T.mt_Desk_look G_Desk_look (hr.mono (by decide)) b_Desk_look .nil (passes_call (takes_of rfl rfl rfl rfl) fun _ _ _ _ h => h) (pa_cons (pv 1) (pa_cons (pv 2) pa_nil))))
  (pss_cons (ps_if (pt_cmpR op_eq (pv 1) (pe_gint rfl T.c_PLAN) (nomark _))
    (pss_one (ps_ret (pe_meth0 (pv 0) T.cl_Desk T.mt_Desk_plan G_Desk_plan (hr.mono (by decide)) b_Desk_plan .nil pass0)))
    pss_nil)
  (pss_cons (ps_if (pt_cmpR op_eq (pv 1) (pe_gint rfl T.c_WHY) (nomark _))
    (pss_one (ps_ret (pe_meth0 (pv 0) T.cl_Desk T.mt_Desk_why_not G_Desk_why_not (hr.mono (by decide)) b_Desk_why_not .nil pass0)))
    pss_nil)
  (pss_cons (ps_if (pt_cmpR op_eq (pv 1) (pe_gint rfl T.c_WORK) (nomark _))
    (pss_one (ps_ret (pe_meth0 (pv 0) T.cl_Desk T.mt_Desk_work G_Desk_work (hr.mono (by decide)) b_Desk_work .nil pass0)))
    pss_nil)
  (pss_cons (ps_if (pt_cmpR op_eq (pv 1) (pe_gint rfl T.c_WHOLE) (nomark _))
    (pss_one (ps_ret (pe_meth0 (pv 0) T.cl_Desk T.mt_Desk_whole G_Desk_whole (hr.mono (by decide)) b_Desk_whole .nil pass0)))
    pss_nil)
  (pss_cons (ps_if (pt_cmpR op_eq (pv 1) (pe_gint rfl T.c_BEST) (nomark _))
    (pss_one (ps_ret (pe_meth0 (pv 0) T.cl_Desk T.mt_Desk_best G_Desk_best (hr.mono (by decide)) b_Desk_best .nil pass0)))
    pss_nil)
  (pss_cons (ps_if (pt_cmpR op_eq (pv 1) (pe_gint rfl T.c_TRACE) (nomark _))
    (pss_one (ps_ret (pe_meth0 (pe_meth (pv 0) T.cl_Desk T.mt_Desk_way G_Desk_way (hr.mono (by decide)) b_Desk_way .nil pass0 (pa_cons (pe_ix ix_list (pv 2) pe_int (fun _ _ => rfl)) pa_nil)) T.cl_Way T.mt_Way_trace G_Way_trace (hr.mono (by decide)) b_Way_trace .nil pass0)))
    pss_nil)
  (pss_cons (ps_if (pt_cmpR op_eq (pv 1) (pe_gint rfl T.c_ANSWER) (nomark _))
    (pss_one (ps_ret (pe_meth (pv 0) T.cl_Desk T.mt_Desk_answer G_Desk_answer (hr.mono (by decide)) b_Desk_answer .nil pass0 (pa_cons (pe_ix ix_list (pv 2) pe_int (fun _ _ => rfl)) pa_nil))))
    pss_nil)
  (pss_cons (ps_if (pt_cmpR op_eq (pv 1) (pe_gint rfl T.c_ROWS_TOLD) (nomark _))
    (pss_one (ps_ret (pe_meth0 (pv 0) T.cl_Desk T.mt_Desk_rows_told G_Desk_rows_told (hr.mono (by decide)) b_Desk_rows_told .nil (passes_call (takes_of rfl rfl rfl rfl) fun _ _ _ _ h => h))))
    pss_nil)
  (pss_one (ps_ret (pe_meth0 (pv 0) T.cl_Desk T.mt_Desk_prefixes G_Desk_prefixes (hr.mono (by decide)) b_Desk_prefixes .nil pass0)))))))))))))))), ?_⟩), b⟩
  obtain ⟨d, np, rp, st, c, rfl, hd, hn, hrp, hl, kY, kN⟩ := h
  refine ⟨_, rfl, rfl, _, rfl, ?_⟩
  rw [show decide (natV (callNo c) = V.int 0) = (callNo c == 0) from eq_nat _ 0]
  refine iteB (fun h0 => ?_) (fun h0 => ?_)
  · obtain ⟨l, rfl⟩ := is_table h0
    obtain ⟨dx, v0, v1, v2, g0, g1, g2, g3, g4⟩ := id hd
    exact ⟨_, rfl, rm_Desk_put_table g0 ⟨_, rfl, d, rp, st, l, rfl, hd, hrp, hl, kY⟩⟩
  obtain ⟨dx, v0, v1, v2, g0, g1, g2, g3, g4⟩ := id hd
  cases et : st.table with
  | none =>
    rw [et] at g1
    have g1 : v0 = .non := g1
    subst g1
    refine ⟨_, rfl, rd_Desk_table T g0 ⟨rfl, 8, rfl, _, _, rfl, (fun hf => by cases hf), fun hf d' H3 s3 e3 => kN (-8) d' H3 ?_ s3 e3⟩⟩
    exact step_no_table et h0
  | some t =>
  rw [et] at g1
  obtain ⟨ta, rfl, htt, wt⟩ := g1
  refine ⟨_, rfl, rd_Desk_table T g0 ⟨rfl, 8, rfl, _, _, rfl, (fun hf => ?_), (fun hf => by cases hf)⟩⟩
  refine ⟨_, rfl, rfl, _, rfl, ?_⟩
  rw [show decide (natV (callNo c) = V.int 1) = (callNo c == 1) from eq_nat _ 1]
  refine iteB (fun h1 => ?_) (fun h1 => ?_)
  · obtain ⟨l, rfl⟩ := is_question h1
    exact ⟨_, rfl, rm_Desk_put_question g0 ⟨_, rfl, d, rp, st, t, l, rfl, hd, et, hrp, hl, kY⟩⟩
  refine ⟨_, rfl, rfl, _, rfl, ?_⟩
  rw [show decide (natV (callNo c) = V.int 2) = (callNo c == 2) from eq_nat _ 2]
  refine iteB (fun h2 => ?_) (fun h2 => ?_)
  · obtain ⟨l, rfl⟩ := is_index h2
    exact ⟨_, rfl, rm_Desk_put_index g0 ⟨_, rfl, d, rp, st, t, l, rfl, hd, et, hrp, hl, kY⟩⟩
  have h3' : 3 ≤ callNo c := by
    have h0 : callNo c ≠ 0 := by simpa using h0
    have h1 : callNo c ≠ 1 := by simpa using h1
    have h2 : callNo c ≠ 2 := by simpa using h2
    omega
  refine ⟨_, rfl, rm_Desk_look g0 ⟨_, rfl, _, rfl, d, np, st, t, callNo c, callNs c, callZ c, rfl, hd, et, hn, call_z c, fun hL H2 s2 => ?_, fun n hL d' H3 s3 e3 => kN n d' H3 (step_refused et c n h3' hL) s3 e3⟩⟩
  have hd2 := hd.same s2
  have g2' := s2 _ _ g0
  have kA : ∀ {zs : List Int}, Vaidxb.step st c = (st, zs) → ∀ H' r, Same H2 H' → ansAt H2 H' r zs → Q (.ref r) H' := fun es H' r s' ha => kY H' r (.of (s2.trans s')) ((hd2.same s').step es) ((Frm.of (s2.trans s')).step es) (ha.of es s2)
  refine ⟨_, rfl, rfl, _, rfl, ?_⟩
  rw [show decide (natV (callNo c) = V.int 3) = (callNo c == 3) from eq_nat _ 3]
  refine iteB (fun h3 => ?_) (fun h3 => ?_)
  · have e := is_plan h3
    subst e
    obtain ⟨q, i, eq, ei, es⟩ := tell_plan et hL
    exact ⟨_, rfl, rm_Desk_plan g2' ⟨d, t, q, i, rfl, hd2.three et eq ei, kA es⟩⟩
  refine ⟨_, rfl, rfl, _, rfl, ?_⟩
  rw [show decide (natV (callNo c) = V.int 4) = (callNo c == 4) from eq_nat _ 4]
  refine iteB (fun h4 => ?_) (fun h4 => ?_)
  · have e := is_why h4
    subst e
    obtain ⟨q, i, eq, ei, es⟩ := tell_why et hL
    exact ⟨_, rfl, rm_Desk_why_not g2' ⟨d, t, q, i, rfl, hd2.three et eq ei, kA es⟩⟩
  refine ⟨_, rfl, rfl, _, rfl, ?_⟩
  rw [show decide (natV (callNo c) = V.int 5) = (callNo c == 5) from eq_nat _ 5]
  refine iteB (fun h5 => ?_) (fun h5 => ?_)
  · have e := is_work h5
    subst e
    obtain ⟨q, i, eq, ei, es⟩ := tell_work et hL
    exact ⟨_, rfl, rm_Desk_work g2' ⟨d, t, q, i, rfl, hd2.three et eq ei, kA es⟩⟩
  refine ⟨_, rfl, rfl, _, rfl, ?_⟩
  rw [show decide (natV (callNo c) = V.int 6) = (callNo c == 6) from eq_nat _ 6]
  refine iteB (fun h6 => ?_) (fun h6 => ?_)
  · have e := is_whole h6
    subst e
    obtain ⟨q, eq, es⟩ := tell_whole et hL
    exact ⟨_, rfl, rm_Desk_whole g2' ⟨d, t, q, rfl, hd2.two et eq, kA es⟩⟩
  refine ⟨_, rfl, rfl, _, rfl, ?_⟩
  rw [show decide (natV (callNo c) = V.int 7) = (callNo c == 7) from eq_nat _ 7]
  refine iteB (fun h7 => ?_) (fun h7 => ?_)
  · have e := is_best h7
    subst e
    obtain ⟨q, i, eq, ei, es⟩ := tell_best et hL
    exact ⟨_, rfl, rm_Desk_best g2' ⟨d, t, q, i, rfl, hd2.three et eq ei, kA es⟩⟩
  refine ⟨_, rfl, rfl, _, rfl, ?_⟩
  rw [show decide (natV (callNo c) = V.int 8) = (callNo c == 8) from eq_nat _ 8]
  refine iteB (fun h8 => ?_) (fun h8 => ?_)
  · obtain ⟨z, rfl⟩ := is_trace h8
    obtain ⟨q, l, free, eq, hw, es⟩ := tell_trace et hL
    have hw2 := hw.of hd2 et eq
    have hl12 := (hw2.len wt).1
    refine ⟨_, rfl, rm_Desk_way g2' ⟨_, rfl, np, _, _, _, rfl, rfl, .of (s2 _ _ hn), rfl, d, z, t, q, l, free, rfl, hd2.two et eq, hw2, fun H3 r3 s3 w3 => ?_⟩⟩
    obtain ⟨dw, wp, was, hw31, hw32, hw33⟩ := id w3
    refine rm_Way_trace hw31 ⟨r3, l, free, rfl, w3, by omega, fun H4 r4 s4 f4 e4 => kA es H4 r4 (s3.trans s4) ?_⟩
    refine ⟨sm_back s3 f4, ?_⟩
    unfold traceN
    rw [e4, natsV_ints]
  refine ⟨_, rfl, rfl, _, rfl, ?_⟩
  rw [show decide (natV (callNo c) = V.int 9) = (callNo c == 9) from eq_nat _ 9]
  refine iteB (fun h9 => ?_) (fun h9 => ?_)
  · obtain ⟨z, rfl⟩ := is_answer h9
    obtain ⟨q, l, free, eq, hw, es⟩ := tell_answer et hL
    have hw2 := hw.of hd2 et eq
    exact ⟨_, rfl, rm_Desk_answer g2' ⟨_, rfl, np, _, _, _, rfl, rfl, .of (s2 _ _ hn), rfl, d, z, t, q, l, free, rfl, hd2.two et eq, hw2, kA es⟩⟩
  refine ⟨_, rfl, rfl, _, rfl, ?_⟩
  rw [show decide (natV (callNo c) = V.int 10) = (callNo c == 10) from eq_nat _ 10]
  refine iteB (fun h10 => ?_) (fun h10 => ?_)
  · have e := is_rows h10
    subst e
    obtain ⟨q, i, eq, ei, es⟩ := tell_rows et wt hL
    refine ⟨_, rfl, rm_Desk_rows_told g2' ⟨d, t, q, i, rfl, hd2.three et eq ei, fun hle => ?_, fun hle d' H3 s3 e3 => ?_⟩⟩
    · rw [if_pos hle] at es
      exact kA es
    · rw [if_neg hle] at es
      exact kN (-4) d' H3 es (s2.trans s3) e3
  have e : c = .prefixes := by
    refine is_prefixes ?_
    have := call_le c
    have h3 : callNo c ≠ 3 := by simpa using h3
    have h4 : callNo c ≠ 4 := by simpa using h4
    have h5 : callNo c ≠ 5 := by simpa using h5
    have h6 : callNo c ≠ 6 := by simpa using h6
    have h7 : callNo c ≠ 7 := by simpa using h7
    have h8 : callNo c ≠ 8 := by simpa using h8
    have h9 : callNo c ≠ 9 := by simpa using h9
    have h10 : callNo c ≠ 10 := by simpa using h10
    have : callNo c = 11 := by omega
    rw [this]
    rfl
  subst e
  obtain ⟨q, i, eq, ei, es⟩ := tell_prefixes et hL
  exact ⟨_, rfl, rm_Desk_prefixes g2' ⟨d, t, q, i, rfl, hd2.three et eq ei, kA es⟩⟩
def sp_answer_of (K : PySem.W.Frag) : Sp := fun vs H Q E => ∃ (d np rp : Addr) (s : Vaidxb.State) (c : Vaidxb.Call), vs = [.ref d, natV (callNo c), .ref np, .ref rp] ∧ DeskAt K H d s ∧ H np = some (.lst ((callNs c).map V.int)) ∧ H rp = some (.lst ((callRow c).map V.int)) ∧ (callRow c).length ≤ 1000 ∧
  (∀ H' r, But d H H' → DeskAt K H' d (Vaidxb.step s c).1 → Frm K H H' d s (Vaidxb.step s c).1 → ansAt H H' r (Vaidxb.step s c).2 → Q (.ref r) H')
theorem ok_answer_of (T : Txt K mg) : ∃ fd, FnOk P w K mg base CX0 11 (ga K "answer_of") fd ["desk", "call", "numbers", "row"] (sp_answer_of K) ∧ Binds K fd ["desk", "call", "numbers", "row"] [] := by
  obtain ⟨fd, F, b⟩ := T.F_answer_of
  obtain ⟨_, G_call_told, b_call_told⟩ := ok_call_told (P := P) (w := w) (base := base) T
  refine ⟨fd, F.ok sc_answer_of (fun vs H Q E h => let ⟨_, _, _, _, _, e, _⟩ := h; by rw [e] <;> rfl) (fun cdv A outer s H vs Q E hr h => ⟨_, (pss_one (ps_try_as (i := 4) rfl rfl sc_answer_of.nd rfl rfl ⟨rfl, by decide, Or.inl T.g_Refused⟩ takes0 (fun W pn xe tk _ => (pss_one (ps_ret (pe_callS G_call_told (hr.mono (by decide)) rfl T.g_call_told T.k_call_told b_call_told (fun σ => passAt tk σ) (by exact (pa_cons (pv 0) (pa_cons (pv 1) (pa_cons (pv 2) (pa_cons (pv 3) pa_nil))))))))) (fun a oe cls d pn hz hf => (pss_one (ps_ret (pe_lst (pa_cons (pe_xf T.rf T.n_Refused_why hz hf (pv 4)) pa_nil))))))), ?_⟩), b⟩
  obtain ⟨d, np, rp, st, c, rfl, hd, hn, hrp, hl, k⟩ := h
  refine ⟨_, rfl, _, rfl, _, rfl, _, rfl, d, np, rp, st, c, rfl, hd, hn, hrp, hl, k, fun n d' H' es s' e' => ⟨true, T.eR, fun _ a ha => ?_, fun z => by cases z⟩⟩
  refine ⟨_, rfl, rfl, rfl, d', _, _, rfl, e', rfl, by show 1 ≤ sizeLine; exact sz (by decide), fun r hr => ?_⟩
  have t2 := s'.trans (sm_new (o := .lst [V.int n]) hr)
  refine k _ r (.of t2) ((hd.same t2).step es) ((Frm.of t2).step es) ?_
  rw [es]
  exact ⟨sm_back s' hr, upd_same⟩
end
end One
set_option Elab.async false
set_option linter.all false
set_option maxRecDepth 100000
set_option maxHeartbeats 4000000
/-! The walk, E: the calls read and answered. -/
namespace One
open PySem PySem.Spec PyProof.Rows L2
open He (ga ma)
open Vaidxb (Done)
section
variable {P : Program} {w : World} {K : PySem.W.Frag} {mg : Str → Option Value} {base : Heap}
def sp_CallReader_init (K : PySem.W.Frag) : Sp := fun vs H Q _ => ∃ (x dx : Addr) (c : V), vs = [.ref x, c] ∧ H x = some (.ins (ga K "CallReader") dx []) ∧ ∀ H', But x H H' → H' x = some (.ins (ga K "CallReader") dx (fs_CallReader c (natV 0))) → Q .non H'
theorem ok_CallReader_init (T : Txt K mg) : ∃ fd, FnOk P w K mg base CX0 1 (ma K (ga K "CallReader") "__init__") fd ["self", "calls"] (sp_CallReader_init K) ∧ Binds K fd ["self", "calls"] [] := by
  obtain ⟨fd, F, b⟩ := T.F_CallReader_init
  refine ⟨fd, F.ok sc_CallReader_init (fun vs H Q E h => let ⟨_, _, _, e, _⟩ := h; by rw [e] <;> rfl) (fun cdv A outer s H vs Q E hr h => ⟨_, (pss_cons (ps_fld (pv 0) (pv 1) rfl)
  (pss_one (ps_fld (pv 0) pe_int rfl))), ?_⟩), b⟩
  obtain ⟨x, dx, c, rfl, hx, q⟩ := h
  refine ⟨_, rfl, _, rfl, x, _, dx, _, rfl, hx, T.cl_CallReader, T.n_CallReader_calls, small rfl, ?_⟩
  refine ⟨_, rfl, x, _, dx, _, rfl, upd_same, T.cl_CallReader, T.n_CallReader_at, small rfl, ?_⟩
  exact q _ (But.wr.trans But.wr) upd_same
def CRAt (K : PySem.W.Frag) (H : Hp) (a np : Addr) (ns : List Int) (i : Nat) : Prop := ∃ dx, H a = some (.ins (ga K "CallReader") dx (fs_CallReader (.ref np) (natV i))) ∧ SqL K H np (ns.map V.int)
def sp_CallReader_is_done (K : PySem.W.Frag) : Sp := fun vs H Q _ => ∃ (a np : Addr) (ns : List Int) (i : Nat), vs = [.ref a] ∧ CRAt K H a np ns i ∧ Q (.bl (decide (ns.length ≤ i))) H
theorem ok_CallReader_is_done (T : Txt K mg) : ∃ fd, FnOk P w K mg base CX0 1 (ma K (ga K "CallReader") "is_done") fd ["self"] (sp_CallReader_is_done K) ∧ Binds K fd ["self"] [] := by
  obtain ⟨fd, F, b⟩ := T.F_CallReader_is_done
  refine ⟨fd, F.ok sc_CallReader_is_done (fun vs H Q E h => let ⟨_, _, _, _, e, _⟩ := h; by rw [e] <;> rfl) (fun cdv A outer s H vs Q E hr h => ⟨_, (pss_one (ps_ret (pe_cmpR op_ge (pe_fld (pv 0) rfl) (pe_callB call_len_seq (by rfl) T.b_len PySem.boot_len (pa_cons (pe_fld (pv 0) rfl) pa_nil)) (nomark _)))), ?_⟩), b⟩
  obtain ⟨a, np, ns, i, rfl, ⟨dx, ha, hn⟩, q⟩ := h
  refine ⟨_, rfl, rd_CallReader_at T ha ⟨_, rfl, rd_CallReader_calls T ha ⟨np, _, rfl, .inl hn, _, _, rfl, rfl, ?_⟩⟩⟩
  rw [List.length_map]
  have e : decide ((ns.length : Int) ≤ (i : Int)) = decide (ns.length ≤ i) := le_nat _ _
  rw [← e] at q
  exact q
theorem sql_but {H H' : Hp} {d a C dx : Addr} {fs : List (Str × V)} {xs : List V} (k : But d H H') (hd : H d = some (.ins C dx fs)) (h : SqL K H a xs) : SqL K H' a xs := by
  rcases h with (h | ⟨o, h⟩) | h
  · exact .inl (.inl (k _ _ (ne_of h hd (by intro z; cases z)) h))
  · exact .inl (.inr ⟨o, k _ _ (ne_of h hd (by intro z; cases z)) h⟩)
  · exact .inr h
theorem cut_at (xs : List V) (i m : Nat) (h : i + m ≤ xs.length) : cutV xs (some (i : Int)) (some ((i + m : Nat) : Int)) = (xs.drop i).take m := by
  unfold cutV
  rw [HT.sIx_nat, HT.sIx_nat, Nat.min_eq_left h, Nat.min_eq_left (show i ≤ xs.length by omega), Nat.add_sub_cancel_left]
def sp_CallReader_next_some (K : PySem.W.Frag) : Sp := fun vs H Q _ => ∃ (a np : Addr) (ns : List Int) (i m : Nat), vs = [.ref a, natV m] ∧ CRAt K H a np ns i ∧ i + m ≤ ns.length ∧
  ∀ H' r, But a H H' → H r = none → CRAt K H' a np ns (i + m) → H' r = some (.lst (((ns.drop i).take m).map V.int)) → Q (.ref r) H'
theorem ok_CallReader_next_some (T : Txt K mg) : ∃ fd, FnOk P w K mg base CX0 1 (ma K (ga K "CallReader") "next_some") fd ["self", "many"] (sp_CallReader_next_some K) ∧ Binds K fd ["self", "many"] [] := by
  obtain ⟨fd, F, b⟩ := T.F_CallReader_next_some
  refine ⟨fd, F.ok sc_CallReader_next_some (fun vs H Q E h => let ⟨_, _, _, _, _, e, _⟩ := h; by rw [e] <;> rfl) (fun cdv A outer s H vs Q E hr h => ⟨_, (pss_cons (ps_fldaug (pv 0) (pv 1) in_add)
  (pss_one (ps_ret (pe_slice sl_list (pe_fld (pv 0) rfl) (po_some (pe_op op_sub (pe_fld (pv 0) rfl) (pv 1))) (po_some (pe_fld (pv 0) rfl)))))), ?_⟩), b⟩
  obtain ⟨a, np, ns, i, m, rfl, ⟨dx, ha, hn⟩, hl, q⟩ := h
  refine ⟨_, rfl, a, _, dx, _, _, rfl, ha, T.cl_CallReader, T.n_CallReader_at, rfl, _, rfl, _, _, rfl, rfl, dx, _, ha, small rfl, ?_⟩
  have b1 : But a H (upd H a (.ins (ga K "CallReader") dx (fs_CallReader (.ref np) (natV (i + m))))) := But.wr
  have e1 : (upd H a (.ins (ga K "CallReader") dx (fs_CallReader (.ref np) (natV (i + m))))) a = some (.ins (ga K "CallReader") dx (fs_CallReader (.ref np) (natV (i + m)))) := upd_same
  have n1 := sql_but b1 ha hn
  refine ⟨_, rfl, rd_CallReader_calls T e1 ⟨_, rfl, rd_CallReader_at T e1 ⟨_, rfl, _, _, rfl, rfl, _, rfl, _, rfl, rd_CallReader_at T e1 ⟨_, rfl, np, _, rfl, n1, fun r hr => ?_⟩⟩⟩⟩
  have ei : ((i + m : Nat) : Int) - (m : Int) = (i : Int) := by omega
  rw [ei, cut_at _ _ _ (by rw [List.length_map]; exact hl), ← List.map_drop, ← List.map_take]
  refine q _ r (b1.trans (.of (sm_new hr))) ?_ ⟨dx, sm_new hr _ _ e1, sql_same (sm_new hr) n1⟩ upd_same
  exact b1.back ⟨_, e1⟩ hr
theorem num_at (c : Vaidxb.Call) : atI [V.int 0, V.int 0, V.int 0, V.int 0, V.int 0, V.int 0, V.int 0, V.int 0, V.int 1, V.int 1, V.int 0, V.int 0] (callNo c : Int) = some (natV (callNs c).length) := by
  cases c <;> rfl
theorem rows_at (c : Vaidxb.Call) : atI [V.int 1, V.int 1, V.int 1, V.int 0, V.int 0, V.int 0, V.int 0, V.int 0, V.int 0, V.int 0, V.int 0, V.int 0] (callNo c : Int) = some (V.int (if callNo c < 3 then 1 else 0)) := by
  cases c <;> rfl
theorem rows_of (c : Vaidxb.Call) (h : ¬ callNo c < 3) : callRow c = [] := by
  cases c <;> first | rfl | exact absurd (show (0 : Nat) < 3 by decide) h | exact absurd (show (1 : Nat) < 3 by decide) h | exact absurd (show (2 : Nat) < 3 by decide) h
theorem tif_joinG {t : TT} {s1 s2 : TS} {D : Ends} {σ : L2.St} {H : Hp} (c : Bool) (N : V → L2.St) (G : V → Hp → Prop) (ht : ∀ R : Bool → Hp → Prop, R c H → t σ H R)
    (h1 : c = true → ∀ (D' : Ends), (∀ v H2, G v H2 → D'.nx (N v) H2) → s1 D' σ H) (h2 : c = false → ∀ (D' : Ends), (∀ v H2, G v H2 → D'.nx (N v) H2) → s2 D' σ H) (hn : ∀ v H', G v H' → D.nx (N v) H') : tIfS t s1 s2 D σ H := by
  refine ht _ ?_
  cases c with
  | true => exact iteT (h1 rfl D hn)
  | false => exact iteF (h2 rfl D hn)
theorem DeskAt.but {H H' : Hp} {d x C xd : Addr} {fs : List (Str × V)} {s : Vaidxb.State} (k : But x H H') (hx : H x = some (.ins C xd fs)) (n : C ∉ imm K) (h : d ≠ x) : DeskAt K H d s → DeskAt K H' d s := fun ⟨dx, v0, v1, v2, h0, h1, h2, h3, h4⟩ => ⟨dx, v0, v1, v2, k _ _ h h0, h1.pres (.but k hx n), h2.pres (.but k hx n), h3.pres (.but k hx n), h4⟩
theorem hide_but {F x : Addr} {H H' : Hp} (k : But x H H') : But x (hide F H) (hide F H') := fun b o n h => by
  have nb : b ≠ F := fun z => by
    unfold hide at h
    rw [if_pos z] at h
    cases h
  exact hide_at nb (k b o n (hide_same F H _ _ h))
/-- what the calls are of, as a promise to the caller -/
def sp_answers (K : PySem.W.Frag) : Sp := fun vs H Q _ => ∃ (a : Addr) (ns : List Int), vs = [.ref a] ∧ SqL K H a (ns.map V.int) ∧ PyVaidxb.answers_asked ns = true ∧ ∀ H' p, H' p = some (.lst ((PyVaidxb.answers ns).map V.int)) → Q (.ref p) H'
theorem ok_answersF (T : Txt K mg) {fd : FuncData} (F : Fun K "answers" "answers" s_answers (ga K "answers") fd) : FnOk P w K mg base CX0 12 (ga K "answers") fd ["calls"] (sp_answers K) := by
  obtain ⟨_, G_CallReader_is_done, b_CallReader_is_done⟩ := ok_CallReader_is_done (P := P) (w := w) (base := base) T
  obtain ⟨_, G_answer_of, b_answer_of⟩ := ok_answer_of (P := P) (w := w) (base := base) T
  obtain ⟨_, G_CallReader_next_some, b_CallReader_next_some⟩ := ok_CallReader_next_some (P := P) (w := w) (base := base) T
  obtain ⟨_, G_CallReader_init, b_CallReader_init⟩ := ok_CallReader_init (P := P) (w := w) (base := base) T
  obtain ⟨_, G_Desk_init, b_Desk_init⟩ := ok_Desk_init (P := P) (w := w) (base := base) T
  refine F.ok sc_answers (fun vs H Q E h => let ⟨_, _, e, _⟩ := h; by rw [e] <;> rfl) (fun cdv A outer s H vs Q E hr h => ⟨_, (pss_cons (ps_set (i := 1) sc_answers.nd rfl (Or.inl rfl) (pe_make0 T.m_Desk G_Desk_init (hr.mono (by decide)) rfl T.g_Desk b_Desk_init .nil pass0))
  (pss_cons (ps_set (i := 2) sc_answers.nd rfl (Or.inl rfl) (pe_make T.m_CallReader G_CallReader_init (hr.mono (by decide)) rfl T.g_CallReader b_CallReader_init .nil pass0 (pa_cons (pv 0) pa_nil)))
  (pss_cons (ps_set (i := 3) sc_answers.nd rfl (Or.inl rfl) (pe_lst pa_nil))
  (pss_cons (ps_while PassesOwn.never (pt_not (pt_val (pe_meth0 (pv 2) T.cl_CallReader T.mt_CallReader_is_done G_CallReader_is_done (hr.mono (by decide)) b_CallReader_is_done .nil pass0)))
    (pss_cons (ps_set (i := 4) sc_answers.nd rfl (Or.inl rfl) (pe_ix ix_list (pe_meth (pv 2) T.cl_CallReader T.mt_CallReader_next_some G_CallReader_next_some (hr.mono (by decide)) b_CallReader_next_some .nil pass0 (pa_cons pe_int pa_nil)) pe_int (fun _ _ => rfl)))
  (pss_cons (ps_set (i := 5) sc_answers.nd rfl (Or.inl rfl) (pe_meth (pv 2) T.cl_CallReader T.mt_CallReader_next_some G_CallReader_next_some (hr.mono (by decide)) b_CallReader_next_some .nil pass0 (pa_cons (pe_ix ix_tup (pe_glob (v := .ref (ga K "NUMBERS")) rfl T.g_NUMBERS rfl) (pv 4) (fun _ _ => rfl)) pa_nil)))
  (pss_cons (ps_set (i := 6) sc_answers.nd rfl (Or.inl rfl) (pe_lst pa_nil))
  (pss_cons (ps_if (pt_cmpR op_gt (pe_ix ix_tup (pe_glob (v := .ref (ga K "ROWS")) rfl T.g_ROWS rfl) (pv 4) (fun _ _ => rfl)) pe_int (nomark _))
    (pss_one (ps_set (i := 6) sc_answers.nd rfl (Or.inl rfl) (pe_meth (pv 2) T.cl_CallReader T.mt_CallReader_next_some G_CallReader_next_some (hr.mono (by decide)) b_CallReader_next_some .nil pass0 (pa_cons (pe_ix ix_list (pe_meth (pv 2) T.cl_CallReader T.mt_CallReader_next_some G_CallReader_next_some (hr.mono (by decide)) b_CallReader_next_some .nil pass0 (pa_cons pe_int pa_nil)) pe_int (fun _ _ => rfl)) pa_nil))))
    pss_nil)
  (pss_cons (ps_set (i := 7) sc_answers.nd rfl (Or.inl rfl) (pe_call G_answer_of (hr.mono (by decide)) rfl T.g_answer_of T.k_answer_of b_answer_of .nil pass0 (pa_cons (pv 1) (pa_cons (pv 4) (pa_cons (pv 5) (pa_cons (pv 6) pa_nil))))))
  (pss_cons (ps_expr (pe_bm PySem.F.plainAttrs_list PySem.F.slot_list_append PySem.F.type_list_append mt_append (pv 3) (pa_cons (pe_callB call_len_seq (by rfl) T.b_len PySem.boot_len (pa_cons (pv 7) pa_nil)) pa_nil)))
  (pss_one (ps_expr (pe_bm PySem.F.plainAttrs_list PySem.F.slot_list_extend PySem.F.type_list_extend mt_extend (pv 3) (pa_cons (pv 7) pa_nil)))))))))))
  (pss_one (ps_ret (pv 3))))))), ?_⟩)
  obtain ⟨a, ns, rfl, ha, hq, k⟩ := h
  obtain ⟨cs, en, hr, ea, hsz⟩ := asked_calls hq
  intro d dx nd ndx hne
  refine ⟨d, dx, rfl, upd_same, fun H1 b1 e1 => ⟨rfl, ?_⟩⟩
  have s1 : Same H H1 := made nd ndx b1
  refine ⟨_, rfl, fun x xd nx nxd nex => ⟨x, xd, _, rfl, upd_same, fun H2 b2 e2 => ⟨rfl, ?_⟩⟩⟩
  have s2 : Same H1 H2 := made nx nxd b2
  have d2 : DeskAt K H2 d Vaidxb.start := ⟨dx, _, _, _, s2 _ _ e1, rfl, rfl, rfl, ⟨(fun _ _ z => by cases z), (fun _ _ z => by cases z)⟩⟩
  have r2 : CRAt K H2 x a ns 0 := ⟨xd, e2, sql_same (s1.trans s2) ha⟩
  refine ⟨by show 0 ≤ sizeLine; exact Nat.zero_le _, fun F hF => ?_⟩
  have s3 : Same H2 (upd H2 F (.lst [])) := sm_new hF
  have dx1 : d ≠ x := ne_of_none e1 nx
  have dF : d ≠ F := ne_of_none (s2 _ _ e1) hF
  have xF : x ≠ F := ne_of_none e2 hF
  have cr3 : CRAt K (upd H2 F (.lst [])) x a ns 0 := by
    obtain ⟨q1, q2, q3⟩ := r2
    exact ⟨q1, s3 _ _ q2, sql_same s3 q3⟩
  refine ⟨fun m σ H' => ∃ (cs' : List Vaidxb.Call) (i : Nat) (st : Vaidxb.State) (done : List Int) (u v y z : Option V), m = cs'.length ∧ σ = [some (.ref a), some (.ref d), some (.ref x), some (.ref F), u, v, y, z] ∧ CRAt K H' x a ns i ∧ SqL K (hide F H') a (ns.map V.int) ∧ DeskAt K (hide F H') d st ∧ H' F = some (.lst (done.map V.int)) ∧ ns.drop i = cs'.flatMap flatC ∧ i ≤ ns.length ∧ (∀ c ∈ cs', (callRow c).length ≤ 1000) ∧ PyVaidxb.answers ns = done ++ toldAll st cs', ⟨_, cs, 0, Vaidxb.start, [], none, none, none, none, rfl, rfl, cr3, ?_, ?_, upd_same, en, Nat.zero_le _, hr, ea⟩, ?_⟩
  · rw [hide_upd]
    refine sql_same ?_ (sql_same (s1.trans s2) ha)
    exact fun b o hb => hide_at (ne_of_none hb hF) hb
  · rw [hide_upd]
    refine d2.same ?_
    exact fun b o hb => hide_at (ne_of_none hb hF) hb
  rintro m σ H' ⟨cs', i, st, done, u, v, y, z, rfl, rfl, cH, hH, dH, fH, eR, li, hrow, eA⟩
  obtain ⟨xd', x', aH⟩ := id cH
  refine ⟨_, rfl, rm_CallReader_is_done x' ⟨x, a, ns, i, rfl, cH, _, rfl, iteB (fun hc => ?_) (fun hc => ?_)⟩⟩
  · have hc : ¬ ns.length ≤ i := by simpa using hc
    cases cs' with
    | nil =>
      have : ns.drop i = [] := eR
      rw [List.drop_eq_nil_iff] at this
      exact absurd this hc
    | cons c cs' =>
      refine ⟨fun σ' H2 => ∃ (i : Nat) (st : Vaidxb.State) (done : List Int) (u v y z : Option V), σ' = [some (.ref a), some (.ref d), some (.ref x), some (.ref F), u, v, y, z] ∧ CRAt K H2 x a ns i ∧ SqL K (hide F H2) a (ns.map V.int) ∧ DeskAt K (hide F H2) d st ∧ H2 F = some (.lst (done.map V.int)) ∧ ns.drop i = cs'.flatMap flatC ∧ i ≤ ns.length ∧ (∀ c ∈ cs', (callRow c).length ≤ 1000) ∧ PyVaidxb.answers ns = done ++ toldAll st cs',
        fun σ' H2 ⟨i, st, done, u, v, y, z, e⟩ => ⟨cs'.length, Nat.lt_succ_self _, cs', i, st, done, u, v, y, z, rfl, e⟩, ?_⟩
      rw [List.flatMap_cons] at eR
      have hrc := hrow c List.mem_cons_self
      have lR : (flatC c).length ≤ ns.length - i := by
        have := congrArg List.length eR
        rw [List.length_drop, List.length_append] at this
        omega
      have lC : (flatC c).length = 1 + (callNs c).length + (rowPart c).length := by
        unfold flatC
        rw [List.length_cons, List.length_append]
        omega
      refine ⟨_, rfl, rm_CallReader_next_some x' ⟨x, a, ns, i, 1, rfl, cH, by omega, fun H3 r3 b3 f3 c3 e3 => ?_⟩⟩
      have t1 : (ns.drop i).take 1 = [(callNo c : Int)] := by
        rw [eR]
        rfl
      rw [t1] at e3
      refine ⟨r3, _, _, _, rfl, rfl, .of e3, rfl, ?_⟩
      obtain ⟨xd3, x3, aH3⟩ := id c3
      have q1 : ns.drop (i + 1) = callNs c ++ (rowPart c ++ cs'.flatMap flatC) := by
        rw [← List.drop_drop, eR]
        show callNs c ++ rowPart c ++ cs'.flatMap flatC = _
        rw [List.append_assoc]
      refine ⟨_, rfl, rm_CallReader_next_some x3 ⟨_, rfl, _, _, _, _, rfl, rfl, T.s_NUMBERS H3, num_at c, x, a, ns, i + 1, (callNs c).length, rfl, c3, by omega, fun H4 r4 b4 f4 c4 e4 => ?_⟩⟩
      obtain ⟨xd4, x4, aH4⟩ := id c4
      have t4 : (ns.drop (i + 1)).take (callNs c).length = callNs c := by
        rw [q1, List.take_left]
      rw [t4] at e4
      have q2 : ns.drop (i + 1 + (callNs c).length) = rowPart c ++ cs'.flatMap flatC := by
        rw [← List.drop_drop, q1, List.drop_left]
      refine ⟨by show 0 ≤ sizeLine; exact Nat.zero_le _, fun R0 hR0 => ?_⟩
      have s5 : Same H4 (upd H4 R0 (.lst [])) := sm_new hR0
      have b5 : But x H' (upd H4 R0 (.lst [])) := (b3.trans b4).trans (.of s5)
      have x5 := s5 _ _ x4
      have c5 : CRAt K (upd H4 R0 (.lst [])) x a ns (i + 1 + (callNs c).length) := ⟨xd4, x5, sql_same s5 aH4⟩
      have e45 : (upd H4 R0 (.lst [])) r4 = some (.lst ((callNs c).map V.int)) := s5 _ _ e4
      have n4 : r4 ≠ x := (ne_of_none x3 f4).symm
      dsimp only
      refine if_next (tif_joinG (decide (callNo c < 3)) (fun v => [some (.ref a), some (.ref d), some (.ref x), some (.ref F), some (natV (callNo c)), some (.ref r4), some v, z])
        (fun v H6 => But x H' H6 ∧ ∃ rp i', v = .ref rp ∧ H6 rp = some (.lst ((callRow c).map V.int)) ∧ CRAt K H6 x a ns i' ∧ ns.drop i' = cs'.flatMap flatC ∧ i' ≤ ns.length ∧ H6 r4 = some (.lst ((callNs c).map V.int))) ?_ ?_ ?_ ?_)
      · intro R kR
        refine ⟨_, rfl, _, _, _, _, rfl, rfl, T.s_ROWS _, rows_at c, _, _, rfl, rfl, _, rfl, ?_⟩
        by_cases h3 : callNo c < 3
        · rw [if_pos h3]
          rw [decide_eq_true h3] at kR
          exact kR
        · rw [if_neg h3]
          rw [decide_eq_false h3] at kR
          exact kR
      · intro hc3 D' n6
        have hc3 := of_decide_eq_true hc3
        have ep : rowPart c = ((callRow c).length : Int) :: callRow c := if_pos hc3
        rw [ep] at q2 lC
        rw [List.length_cons] at lC
        refine ⟨_, rfl, rm_CallReader_next_some x5 ⟨_, rfl, rm_CallReader_next_some x5 ⟨x, a, ns, _, 1, rfl, c5, by omega, fun H6 r6 b6 f6 c6 e6 => ?_⟩⟩⟩
        have t6 : (ns.drop (i + 1 + (callNs c).length)).take 1 = [((callRow c).length : Int)] := by
          rw [q2]
          rfl
        rw [t6] at e6
        have q3 : ns.drop (i + 1 + (callNs c).length + 1) = callRow c ++ cs'.flatMap flatC := by
          rw [← List.drop_drop, q2]
          rfl
        refine ⟨r6, _, _, _, rfl, rfl, .of e6, rfl, x, a, ns, _, (callRow c).length, rfl, c6, by omega, fun H7 r7 b7 f7 c7 e7 => ?_⟩
        have t7 : (ns.drop (i + 1 + (callNs c).length + 1)).take (callRow c).length = callRow c := by
          rw [q3, List.take_left]
        rw [t7] at e7
        refine n6 (.ref r7) H7 ⟨(b5.trans b6).trans b7, r7, _, rfl, e7, c7, ?_, by omega, b7 _ _ n4 (b6 _ _ n4 e45)⟩
        rw [← List.drop_drop, q3, List.drop_left]
      · intro hc3 D' n6
        have hc3 := of_decide_eq_false hc3
        have ep : rowPart c = [] := if_neg hc3
        rw [ep] at q2
        refine n6 (.ref R0) _ ⟨b5, R0, _, rfl, ?_, c5, q2, ?_, e45⟩
        · rw [upd_same, rows_of c hc3]
          rfl
        · omega
      rintro v' H6 ⟨b6, rp, i', rfl, erp, c6, q6, li6, e46⟩
      obtain ⟨xd6, x6, aH6⟩ := id c6
      have hx' : hide F H' x = some _ := hide_at xF x'
      have dH6' : DeskAt K (hide F H6) d st := dH.but (hide_but b6) hx' T.i_CallReader dx1
      have dH6 : DeskAt K H6 d st := dH6'.same (hide_same F H6)
      have F6 : H6 F = some (.lst (done.map V.int)) := b6 _ _ xF.symm fH
      refine ⟨_, rfl, _, rfl, _, rfl, _, rfl, d, r4, rp, st, c, rfl, dH6, e46, erp, hrc, fun H9 r9 b9 d9 fr9 a9 => ?_⟩
      obtain ⟨nr9, e9⟩ := a9
      have F9 : H9 F = some (.lst (done.map V.int)) := b9 _ _ dF.symm F6
      have x9 := b9 _ _ dx1.symm x6
      have dd6 : ∃ C xd fs, H6 d = some (.ins C xd fs) := by
        obtain ⟨z0, z1, z2, z3, z4, _⟩ := dH6
        exact ⟨_, _, _, z4⟩
      obtain ⟨C6, xd7, fs6, ed6⟩ := dd6
      have h9 : SqL K (hide F H9) a (ns.map V.int) := sql_but (hide_but b9) (hide_at dF ed6) (sql_but (hide_but b6) hx' hH)
      have c9 : CRAt K H9 x a ns i' := ⟨xd6, x9, sql_but b9 ed6 aH6⟩
      have dH9 : DeskAt K (hide F H9) d (Vaidxb.step st c).1 := fr9 F _ F6 dH6'
      have eA9 : PyVaidxb.answers ns = (done ++ [((Vaidxb.step st c).2.length : Int)] ++ (Vaidxb.step st c).2) ++ toldAll (Vaidxb.step st c).1 cs' := by
        rw [eA, List.append_assoc, List.append_assoc]
        rfl
      have lA : done.length + 1 + (Vaidxb.step st c).2.length ≤ 10000000 := by
        have := congrArg List.length eA9
        rw [List.length_append, List.length_append, List.length_append, List.length_singleton] at this
        omega
      have r9F : r9 ≠ F := ne_of_none F6 nr9 |>.symm
      have sl : 10000001 ≤ sizeLine := by
        rw [sizeLine_eq]
        omega
      generalize (Vaidxb.step st c).2 = zs at *
      refine ⟨_, rfl, .inl ⟨rfl, _, .of F9⟩, _, rfl, r9, _, rfl, .inl (.of e9), F, _, _, rfl, rfl, F9, by rw [List.length_map]; omega, ?_⟩
      rw [List.length_map]
      refine ⟨_, rfl, .inl ⟨rfl, _, .of upd_same⟩, _, rfl, F, r9, _, _, rfl, rfl, upd_same, (upd_ne r9F).trans e9, ?_, i', (Vaidxb.step st c).1, done ++ [(zs.length : Int)] ++ zs, _, _, _, _, rfl, ?_, ?_, ?_, ?_, q6, li6, fun c0 h0 => hrow c0 (List.mem_cons_of_mem _ h0), eA9⟩
      · rw [List.length_append, List.length_map, List.length_map]
        show done.length + 1 + zs.length ≤ _
        omega
      · refine ⟨xd6, (upd_ne xF).trans ((upd_ne xF).trans x9), ?_⟩
        refine sql_same (hide_same F _) ?_
        rw [hide_upd, hide_upd]
        exact h9
      · rw [hide_upd, hide_upd]
        exact h9
      · rw [hide_upd, hide_upd]
        exact dH9
      · rw [upd_same, List.map_append, List.map_append]
        rfl
  · have hc : ns.length ≤ i := by simpa using hc
    have e0 : ns.drop i = [] := List.drop_eq_nil_iff.mpr hc
    rw [e0] at eR
    have ecs : cs' = [] := by
      cases cs' with
      | nil => rfl
      | cons c l =>
        rw [List.flatMap_cons] at eR
        cases eR
    subst ecs
    have eA : PyVaidxb.answers ns = done := by
      rw [eA]
      exact List.append_nil done
    refine ⟨_, rfl, k H' F ?_⟩
    rw [eA]
    exact fH
end
end One
set_option Elab.async false
set_option linter.all false
set_option maxRecDepth 100000
set_option maxHeartbeats 0
/-! The head: facts of the top by names, the run, the end (printed by genhead.py). -/
namespace One
open PySem PySem.Spec PyProof.Rows L2
open He (ga ma)
/-! ### what the head looks at beside He's facts -/
def tupB (K : PySem.W.Frag) (a : Addr) (xs : List V) : Bool := match K.lookup a with
  | some ⟨.type c, _, .seq its _, _⟩ => decide (c = "tuple") && (decide (its.size ≤ 1000) && He.relAll xs its.toList)
  | _ => false
theorem tupB_ok {K : PySem.W.Frag} {a : Addr} {xs : List V} (h : tupB K a xs = true) (H : Hp) : SqT K H a xs := by
  unfold tupB at h
  cases e : K.lookup a with
  | none =>
    rw [e] at h
    cases h
  | some o =>
    obtain ⟨oc, od, dt, sl⟩ := o
    rw [e] at h
    cases oc with
    | type c =>
      cases dt with
      | seq its n =>
        have h : (decide (c = "tuple") && (decide (its.size ≤ 1000) && He.relAll xs its.toList)) = true := h
        obtain ⟨h1, h⟩ := He.ba h
        obtain ⟨h2, h3⟩ := He.ba h
        have h1 := of_decide_eq_true h1
        subst h1
        exact .inr ⟨_, its, n, e, rfl, rfl, Nat.le_trans (of_decide_eq_true h2) (sz (by decide)), He.relAll_ok h3⟩
      | _ => cases h
    | _ => cases dt <;> cases h
def oexC (K : PySem.W.Frag) (C : Addr) : Bool := match K.lookup C with
  | some ⟨.type t, _, .cls cd, sl⟩ => (match cd.mro, sl.toList with
    | .ref C' :: bm, [_, _, _, _, some (.builtin n), _] => decide (t = "type") && (decide (C' = C) && (decide (n = "ValueError.__new__") && (!cd.hasDel && (cd.hasDict && PySem.HandSPX.refsVE bm))))
    | _, _ => false)
  | _ => false
def oexB (K : PySem.W.Frag) (C : Addr) : Bool := oexC K C && (He.eqO (PySem.W.findIn K (.ref C) "__setattr__") (some (some (.builtin "object.__setattr__"))) && (decide (PySem.W.subIn K (.ref C) (.type "BaseException") = some true) && (decide (PySem.W.typeIn K (.ref C) = some (.type "type")) && PySem.W.keepIn K (.ref C))))
theorem oexB_ok {K : PySem.W.Frag} {C : Addr} (h : oexB K C = true) : OexC K C := by
  obtain ⟨h0, h⟩ := He.ba h
  obtain ⟨h1, h⟩ := He.ba h
  obtain ⟨h2, h⟩ := He.ba h
  obtain ⟨h3, h4⟩ := He.ba h
  refine ⟨?_, He.eqO_ok h1, of_decide_eq_true h2, of_decide_eq_true h3, h4⟩
  unfold oexC at h0
  split at h0
  · rename_i t dd cd sl ho
    split at h0
    · rename_i C' bm k0 k1 k2 k3 n k5 hm hs
      obtain ⟨a1, h0⟩ := He.ba h0
      obtain ⟨a2, h0⟩ := He.ba h0
      obtain ⟨a3, h0⟩ := He.ba h0
      obtain ⟨a4, h0⟩ := He.ba h0
      obtain ⟨a5, a6⟩ := He.ba h0
      have a1 := of_decide_eq_true a1
      have a2 := of_decide_eq_true a2
      have a3 := of_decide_eq_true a3
      have b4 : cd.hasDel = false := by simpa using a4
      clear a4
      subst a1 a2 a3
      obtain ⟨nm, bs, mro, ns, qn, hd, sn, sub, ab, col, del⟩ := cd
      dsimp only at hm b4 a5
      subst hm b4 a5
      have hsl : sl = #[k0, k1, k2, k3, some (.builtin "ValueError.__new__"), k5] := by
        obtain ⟨l⟩ := sl
        simp only at hs
        rw [hs]
      subst hsl
      exact ⟨nm, qn, ns, bs, bm, sn, sub, ab, col, dd, k0, k1, k2, k3, k5, ho, a6⟩
    · cases h0
  · cases h0
/-! ### facts by names -/
def fas0 : List He.Fa := [.glo "Filter", .cls "Filter", .mkr "Filter", .noat "Filter" "column", .noat "Filter" "low", .noat "Filter" "high", .meth "Filter" "passes", .meth "Filter" "is_equal", .meth "Filter" "is_within", .glo "Group", .cls "Group", .mkr "Group", .noat "Group" "values_told", .noat "Group" "count", .glo "Table", .cls "Table", .mkr "Table", .noat "Table" "columns", .noat "Table" "groups", .meth "Table" "all_rows", .glo "Question", .cls "Question", .mkr "Question", .noat "Question" "filters", .noat "Question" "order", .noat "Question" "backwards", .noat "Question" "wanted", .noat "Question" "limit", .noat "Question" "asked", .meth "Question" "filter_of", .meth "Question" "is_equal", .meth "Question" "finds", .meth "Question" "needed", .meth "Question" "without_equal", .glo "Index", .cls "Index", .mkr "Index", .noat "Index" "key_columns", .noat "Index" "included", .noat "Index" "condition"]
def fas1 : List He.Fa := [.meth "Index" "own", .meth "Index" "has", .meth "Index" "entries", .meth "Index" "first_keys", .glo "NumberReader", .cls "NumberReader", .mkr "NumberReader", .noat "NumberReader" "numbers", .noat "NumberReader" "at", .meth "NumberReader" "number", .meth "NumberReader" "end", .meth "NumberReader" "some_columns", .meth "NumberReader" "a_filter", .glo "Step", .cls "Step", .mkr "Step", .noat "Step" "group", .noat "Step" "rows_touched", .noat "Step" "rows_looked", .noat "Step" "rows_found", .meth "Step" "told", .glo "Way", .cls "Way", .mkr "Way", .noat "Way" "steps", .noat "Way" "is_free", .meth "Way" "touched", .meth "Way" "looked", .meth "Way" "found", .meth "Way" "sorted_rows", .meth "Way" "cost_by_index", .meth "Way" "cost_by_table", .meth "Way" "trace", .meth "Way" "rows", .glo "Desk", .cls "Desk", .mkr "Desk", .noat "Desk" "table", .noat "Desk" "question", .noat "Desk" "index_told"]
def fas2 : List He.Fa := [.meth "Desk" "put_table", .meth "Desk" "put_question", .meth "Desk" "put_index", .meth "Desk" "does_serve", .meth "Desk" "by_index", .meth "Desk" "by_table", .meth "Desk" "plan", .meth "Desk" "why_not", .meth "Desk" "work", .meth "Desk" "whole", .meth "Desk" "best", .meth "Desk" "way", .meth "Desk" "answer", .meth "Desk" "rows_told", .meth "Desk" "prefixes", .meth "Desk" "look", .glo "CallReader", .cls "CallReader", .mkr "CallReader", .noat "CallReader" "calls", .noat "CallReader" "at", .meth "CallReader" "is_done", .meth "CallReader" "next_some", .glo "table_of", .keep "table_of", .glo "question_of", .keep "question_of", .glo "index_of", .keep "index_of", .glo "serves", .keep "serves", .glo "first_not_covered", .keep "first_not_covered", .glo "first_not_free", .keep "first_not_free", .glo "count_equal", .keep "count_equal", .glo "next_has_filter", .keep "next_has_filter", .glo "range_filters"]
def fas3 : List He.Fa := [.keep "range_filters", .glo "all_pass", .keep "all_pass", .glo "in_range", .keep "in_range", .glo "entries_in_range", .keep "entries_in_range", .glo "steps_of", .keep "steps_of", .glo "way_by_index", .keep "way_by_index", .glo "way_by_table", .keep "way_by_table", .glo "put_in_order", .keep "put_in_order", .glo "answered", .keep "answered", .glo "refuse_if", .keep "refuse_if", .glo "call_told", .keep "call_told", .glo "answer_of", .keep "answer_of", .glo "answers", .keep "answers", .free "len", .free "sum", .free "range", .free "enumerate", .free "sorted", .free "min", .free "int", .free "list", .int "MOST_COLUMNS" 4, .int "MOST_GROUPS" 12, .int "MOST_ROWS" 1000000, .int "MOST_VALUE" 9, .int "MOST_LIMIT" 1000000, .int "MOST_ASKED" 1000, .int "COST_TOUCHED" 1]
def fas4 : List He.Fa := [.int "COST_ROW" 2, .int "COST_LOOKED" 4, .int "COST_SORTED" 3, .int "TABLE" 0, .int "QUESTION" 1, .int "INDEX" 2, .int "PLAN" 3, .int "WHY" 4, .int "WORK" 5, .int "WHOLE" 6, .int "BEST" 7, .int "TRACE" 8, .int "ANSWER" 9, .int "ROWS_TOLD" 10, .int "MOST_ENTRIES" 300, .glo "NUMBERS", .glo "ROWS", .glo "NotWhole", .exc "NotWhole", .exm "NotWhole" "NotWhole" true, .glo "Refused", .noat "Refused" "why", .exm "Refused" "Refused" true]
def fas : List He.Fa := fas0 ++ fas1 ++ fas2 ++ fas3 ++ fas4
def fns0 : List He.FnD := [⟨("Filter", some "__init__"), "__init__", "Filter.__init__", defArgs s_Filter_init, defBody s_Filter_init, defScope s_Filter_init⟩, ⟨("Filter", some "passes"), "passes", "Filter.passes", defArgs s_Filter_passes, defBody s_Filter_passes, defScope s_Filter_passes⟩, ⟨("Filter", some "is_equal"), "is_equal", "Filter.is_equal", defArgs s_Filter_is_equal, defBody s_Filter_is_equal, defScope s_Filter_is_equal⟩, ⟨("Filter", some "is_within"), "is_within", "Filter.is_within", defArgs s_Filter_is_within, defBody s_Filter_is_within, defScope s_Filter_is_within⟩, ⟨("Group", some "__init__"), "__init__", "Group.__init__", defArgs s_Group_init, defBody s_Group_init, defScope s_Group_init⟩, ⟨("Table", some "__init__"), "__init__", "Table.__init__", defArgs s_Table_init, defBody s_Table_init, defScope s_Table_init⟩, ⟨("Table", some "all_rows"), "all_rows", "Table.all_rows", defArgs s_Table_all_rows, defBody s_Table_all_rows, defScope s_Table_all_rows⟩, ⟨("Question", some "__init__"), "__init__", "Question.__init__", defArgs s_Question_init, defBody s_Question_init, defScope s_Question_init⟩, ⟨("Question", some "filter_of"), "filter_of", "Question.filter_of", defArgs s_Question_filter_of, defBody s_Question_filter_of, defScope s_Question_filter_of⟩, ⟨("Question", some "is_equal"), "is_equal", "Question.is_equal", defArgs s_Question_is_equal, defBody s_Question_is_equal, defScope s_Question_is_equal⟩, ⟨("Question", some "finds"), "finds", "Question.finds", defArgs s_Question_finds, defBody s_Question_finds, defScope s_Question_finds⟩, ⟨("Question", some "needed"), "needed", "Question.needed", defArgs s_Question_needed, defBody s_Question_needed, defScope s_Question_needed⟩, ⟨("Question", some "without_equal"), "without_equal", "Question.without_equal", defArgs s_Question_without_equal, defBody s_Question_without_equal, defScope s_Question_without_equal⟩, ⟨("Index", some "__init__"), "__init__", "Index.__init__", defArgs s_Index_init, defBody s_Index_init, defScope s_Index_init⟩, ⟨("Index", some "own"), "own", "Index.own", defArgs s_Index_own, defBody s_Index_own, defScope s_Index_own⟩, ⟨("Index", some "has"), "has", "Index.has", defArgs s_Index_has, defBody s_Index_has, defScope s_Index_has⟩, ⟨("Index", some "entries"), "entries", "Index.entries", defArgs s_Index_entries, defBody s_Index_entries, defScope s_Index_entries⟩, ⟨("Index", some "first_keys"), "first_keys", "Index.first_keys", defArgs s_Index_first_keys, defBody s_Index_first_keys, defScope s_Index_first_keys⟩, ⟨("NumberReader", some "__init__"), "__init__", "NumberReader.__init__", defArgs s_NumberReader_init, defBody s_NumberReader_init, defScope s_NumberReader_init⟩, ⟨("NumberReader", some "number"), "number", "NumberReader.number", defArgs s_NumberReader_number, defBody s_NumberReader_number, defScope s_NumberReader_number⟩, ⟨("NumberReader", some "end"), "end", "NumberReader.end", defArgs s_NumberReader_end, defBody s_NumberReader_end, defScope s_NumberReader_end⟩, ⟨("NumberReader", some "some_columns"), "some_columns", "NumberReader.some_columns", defArgs s_NumberReader_some_columns, defBody s_NumberReader_some_columns, defScope s_NumberReader_some_columns⟩, ⟨("NumberReader", some "a_filter"), "a_filter", "NumberReader.a_filter", defArgs s_NumberReader_a_filter, defBody s_NumberReader_a_filter, defScope s_NumberReader_a_filter⟩, ⟨("table_of", none), "table_of", "table_of", defArgs s_table_of, defBody s_table_of, defScope s_table_of⟩, ⟨("question_of", none), "question_of", "question_of", defArgs s_question_of, defBody s_question_of, defScope s_question_of⟩, ⟨("index_of", none), "index_of", "index_of", defArgs s_index_of, defBody s_index_of, defScope s_index_of⟩, ⟨("Step", some "__init__"), "__init__", "Step.__init__", defArgs s_Step_init, defBody s_Step_init, defScope s_Step_init⟩, ⟨("Step", some "told"), "told", "Step.told", defArgs s_Step_told, defBody s_Step_told, defScope s_Step_told⟩, ⟨("Way", some "__init__"), "__init__", "Way.__init__", defArgs s_Way_init, defBody s_Way_init, defScope s_Way_init⟩, ⟨("Way", some "touched"), "touched", "Way.touched", defArgs s_Way_touched, defBody s_Way_touched, defScope s_Way_touched⟩, ⟨("Way", some "looked"), "looked", "Way.looked", defArgs s_Way_looked, defBody s_Way_looked, defScope s_Way_looked⟩, ⟨("Way", some "found"), "found", "Way.found", defArgs s_Way_found, defBody s_Way_found, defScope s_Way_found⟩, ⟨("Way", some "sorted_rows"), "sorted_rows", "Way.sorted_rows", defArgs s_Way_sorted_rows, defBody s_Way_sorted_rows, defScope s_Way_sorted_rows⟩, ⟨("Way", some "cost_by_index"), "cost_by_index", "Way.cost_by_index", defArgs s_Way_cost_by_index, defBody s_Way_cost_by_index, defScope s_Way_cost_by_index⟩, ⟨("Way", some "cost_by_table"), "cost_by_table", "Way.cost_by_table", defArgs s_Way_cost_by_table, defBody s_Way_cost_by_table, defScope s_Way_cost_by_table⟩, ⟨("Way", some "trace"), "trace", "Way.trace", defArgs s_Way_trace, defBody s_Way_trace, defScope s_Way_trace⟩, ⟨("Way", some "rows"), "rows", "Way.rows", defArgs s_Way_rows, defBody s_Way_rows, defScope s_Way_rows⟩, ⟨("serves", none), "serves", "serves", defArgs s_serves, defBody s_serves, defScope s_serves⟩, ⟨("first_not_covered", none), "first_not_covered", "first_not_covered", defArgs s_first_not_covered, defBody s_first_not_covered, defScope s_first_not_covered⟩, ⟨("first_not_free", none), "first_not_free", "first_not_free", defArgs s_first_not_free, defBody s_first_not_free, defScope s_first_not_free⟩]
def fns1 : List He.FnD := [⟨("count_equal", none), "count_equal", "count_equal", defArgs s_count_equal, defBody s_count_equal, defScope s_count_equal⟩, ⟨("next_has_filter", none), "next_has_filter", "next_has_filter", defArgs s_next_has_filter, defBody s_next_has_filter, defScope s_next_has_filter⟩, ⟨("range_filters", none), "range_filters", "range_filters", defArgs s_range_filters, defBody s_range_filters, defScope s_range_filters⟩, ⟨("all_pass", none), "all_pass", "all_pass", defArgs s_all_pass, defBody s_all_pass, defScope s_all_pass⟩, ⟨("in_range", none), "in_range", "in_range", defArgs s_in_range, defBody s_in_range, defScope s_in_range⟩, ⟨("entries_in_range", none), "entries_in_range", "entries_in_range", defArgs s_entries_in_range, defBody s_entries_in_range, defScope s_entries_in_range⟩, ⟨("steps_of", none), "steps_of", "steps_of", defArgs s_steps_of, defBody s_steps_of, defScope s_steps_of⟩, ⟨("way_by_index", none), "way_by_index", "way_by_index", defArgs s_way_by_index, defBody s_way_by_index, defScope s_way_by_index⟩, ⟨("way_by_table", none), "way_by_table", "way_by_table", defArgs s_way_by_table, defBody s_way_by_table, defScope s_way_by_table⟩, ⟨("put_in_order", none), "put_in_order", "put_in_order", defArgs s_put_in_order, defBody s_put_in_order, defScope s_put_in_order⟩, ⟨("answered", none), "answered", "answered", defArgs s_answered, defBody s_answered, defScope s_answered⟩, ⟨("Refused", some "__init__"), "__init__", "Refused.__init__", defArgs s_Refused_init, defBody s_Refused_init, defScope s_Refused_init⟩, ⟨("refuse_if", none), "refuse_if", "refuse_if", defArgs s_refuse_if, defBody s_refuse_if, defScope s_refuse_if⟩, ⟨("Desk", some "__init__"), "__init__", "Desk.__init__", defArgs s_Desk_init, defBody s_Desk_init, defScope s_Desk_init⟩, ⟨("Desk", some "put_table"), "put_table", "Desk.put_table", defArgs s_Desk_put_table, defBody s_Desk_put_table, defScope s_Desk_put_table⟩, ⟨("Desk", some "put_question"), "put_question", "Desk.put_question", defArgs s_Desk_put_question, defBody s_Desk_put_question, defScope s_Desk_put_question⟩, ⟨("Desk", some "put_index"), "put_index", "Desk.put_index", defArgs s_Desk_put_index, defBody s_Desk_put_index, defScope s_Desk_put_index⟩, ⟨("Desk", some "does_serve"), "does_serve", "Desk.does_serve", defArgs s_Desk_does_serve, defBody s_Desk_does_serve, defScope s_Desk_does_serve⟩, ⟨("Desk", some "by_index"), "by_index", "Desk.by_index", defArgs s_Desk_by_index, defBody s_Desk_by_index, defScope s_Desk_by_index⟩, ⟨("Desk", some "by_table"), "by_table", "Desk.by_table", defArgs s_Desk_by_table, defBody s_Desk_by_table, defScope s_Desk_by_table⟩, ⟨("Desk", some "plan"), "plan", "Desk.plan", defArgs s_Desk_plan, defBody s_Desk_plan, defScope s_Desk_plan⟩, ⟨("Desk", some "why_not"), "why_not", "Desk.why_not", defArgs s_Desk_why_not, defBody s_Desk_why_not, defScope s_Desk_why_not⟩, ⟨("Desk", some "work"), "work", "Desk.work", defArgs s_Desk_work, defBody s_Desk_work, defScope s_Desk_work⟩, ⟨("Desk", some "whole"), "whole", "Desk.whole", defArgs s_Desk_whole, defBody s_Desk_whole, defScope s_Desk_whole⟩, ⟨("Desk", some "best"), "best", "Desk.best", defArgs s_Desk_best, defBody s_Desk_best, defScope s_Desk_best⟩, ⟨("Desk", some "way"), "way", "Desk.way", defArgs s_Desk_way, defBody s_Desk_way, defScope s_Desk_way⟩, ⟨("Desk", some "answer"), "answer", "Desk.answer", defArgs s_Desk_answer, defBody s_Desk_answer, defScope s_Desk_answer⟩, ⟨("Desk", some "rows_told"), "rows_told", "Desk.rows_told", defArgs s_Desk_rows_told, defBody s_Desk_rows_told, defScope s_Desk_rows_told⟩, ⟨("Desk", some "prefixes"), "prefixes", "Desk.prefixes", defArgs s_Desk_prefixes, defBody s_Desk_prefixes, defScope s_Desk_prefixes⟩, ⟨("Desk", some "look"), "look", "Desk.look", defArgs s_Desk_look, defBody s_Desk_look, defScope s_Desk_look⟩, ⟨("call_told", none), "call_told", "call_told", defArgs s_call_told, defBody s_call_told, defScope s_call_told⟩, ⟨("answer_of", none), "answer_of", "answer_of", defArgs s_answer_of, defBody s_answer_of, defScope s_answer_of⟩, ⟨("CallReader", some "__init__"), "__init__", "CallReader.__init__", defArgs s_CallReader_init, defBody s_CallReader_init, defScope s_CallReader_init⟩, ⟨("CallReader", some "is_done"), "is_done", "CallReader.is_done", defArgs s_CallReader_is_done, defBody s_CallReader_is_done, defScope s_CallReader_is_done⟩, ⟨("CallReader", some "next_some"), "next_some", "CallReader.next_some", defArgs s_CallReader_next_some, defBody s_CallReader_next_some, defScope s_CallReader_next_some⟩, ⟨("answers", none), "answers", "answers", defArgs s_answers, defBody s_answers, defScope s_answers⟩]
def fns : List He.FnD := fns0 ++ fns1
def exl0 (K : PySem.W.Frag) : List Bool := [tupB K (ga K "NUMBERS") [.int 0, .int 0, .int 0, .int 0, .int 0, .int 0, .int 0, .int 0, .int 1, .int 1, .int 0, .int 0], tupB K (ga K "ROWS") [.int 1, .int 1, .int 1, .int 0, .int 0, .int 0, .int 0, .int 0, .int 0, .int 0, .int 0, .int 0], oexB K (ga K "Refused"), He.eqO (PySem.W.findIn K (.ref (ga K "Refused")) "__init__") (some (some (.ref (ma K (ga K "Refused") "__init__")))), decide (PySem.W.typeIn K (.ref (ma K (ga K "Refused") "__init__")) = some (.type "function")), xfB K (ga K "Refused"), PySem.W.keepIn K (.ref (ma K (ga K "Filter") "__init__")), PySem.W.keepIn K (.ref (ma K (ga K "Group") "__init__")), PySem.W.keepIn K (.ref (ma K (ga K "Table") "__init__")), PySem.W.keepIn K (.ref (ma K (ga K "Question") "__init__")), PySem.W.keepIn K (.ref (ma K (ga K "Index") "__init__")), PySem.W.keepIn K (.ref (ma K (ga K "NumberReader") "__init__")), PySem.W.keepIn K (.ref (ma K (ga K "Step") "__init__")), PySem.W.keepIn K (.ref (ma K (ga K "Way") "__init__")), PySem.W.keepIn K (.ref (ma K (ga K "Desk") "__init__")), PySem.W.keepIn K (.ref (ma K (ga K "CallReader") "__init__")), PySem.W.keepIn K (.ref (ma K (ga K "Refused") "__init__")), !(imm K).contains (ga K "NumberReader"), !(imm K).contains (ga K "Desk"), !(imm K).contains (ga K "CallReader"), !(ga K "Desk" == ga K "CallReader")]
def exl (K : PySem.W.Frag) : List Bool := exl0 K
abbrev AlX : Type := He.Al × Bool
def obsX (K : PySem.W.Frag) : AlX := (He.obsE fas fns K, (exl K).all id)
def valX : AlX := (He.valE fns, true)
def hookX : PySem.W.Hook where
  α := AlX
  obs := fun s => obsX (He.frG s.heap.get? (He.asG s.heap.get? 5))
  val := fun _ => valX
  says := fun _ h => ∃ K : PySem.W.Frag, K.In h ∧ obsX K = valX
  of := fun _ _ e => ⟨_, He.frG_in, e⟩
  keeps := fun _ _ _ ⟨K, hK, c⟩ k => ⟨K, PySem.W.Frag.In.keeps hK k, c⟩
def obT (s : PySem.W.SharedT) : AlX := obsX (He.frG (HandSHeadRun.getT s) (He.asG (HandSHeadRun.getT s) 5))
theorem obT_eq (s : PySem.W.SharedT) : obT s = hookX.obs s.abs := by
  have e : HandSHeadRun.getT s = s.abs.heap.get? := funext (HandSHeadRun.getT_eq s)
  unfold obT
  rw [e] <;> rfl
theorem fnf {K : PySem.W.Frag} (c : He.SaysE fas fns K) (i : Nat) {p : Str × Option Str} {x q : Str} {st : Stmt} {ps : List Str} (h : fns[i]? = some ⟨p, x, q, defArgs st, defBody st, defScope st⟩) (hk : PySem.W.keepIn K (.ref (He.fAd K p)) = true)
    (hb : ∀ (kV doc pm : Value) (an : Option Addr) (cdv ct : Value) (us : List Value), us.length = ps.length → bindArgs (PySem.W.fnOf x q (defArgs st) (defBody st) (defScope st) .none kV doc pm an cdv ct) ⟨us, []⟩ = pure (ps.zip us)) : FnF K x q st (He.fAd K p) ps := by
  obtain ⟨oc, od, osl, kV, doc, pm, an, cdv, ct, l, e⟩ := c.def_ i h
  have F := fun_mk (st := st) l e hk
  exact ⟨_, F, F.binds hb⟩
theorem exn {K : PySem.W.Frag} (c : (exl K).all id = true) (i : Nat) {b : Bool} (h : (exl K)[i]? = some b) : b = true := List.all_eq_true.mp c b (List.mem_of_getElem? h)
theorem not_mem_of {l : List Addr} {a : Addr} (h : (!l.contains a) = true) : a ∉ l := by
  intro m
  have : l.contains a = true := List.contains_iff_mem.mpr m
  rw [this] at h
  cases h
section
variable {K : PySem.W.Frag} {h : Heap} {mg : Str → Option Value}
theorem t_Filter (X : K.In h) (G : h.Ns mainGlobals mg) (c : He.SaysE fas fns K) (e : (exl K).all id = true) : T_Filter K mg where
  g := He.glo_ok X G (c.fact 0 (f := .glo "Filter") rfl)
  cl := He.cls_ok (c.fact 1 (f := .cls "Filter") rfl)
  m := He.mkr_ok (c.fact 2 (f := .mkr "Filter") rfl)
  n_column := He.noat_ok (c.fact 3 (f := .noat "Filter" "column") rfl)
  n_low := He.noat_ok (c.fact 4 (f := .noat "Filter" "low") rfl)
  n_high := He.noat_ok (c.fact 5 (f := .noat "Filter" "high") rfl)
  mt_passes := He.meth_ok (c.fact 6 (f := .meth "Filter" "passes") rfl)
  mt_is_equal := He.meth_ok (c.fact 7 (f := .meth "Filter" "is_equal") rfl)
  mt_is_within := He.meth_ok (c.fact 8 (f := .meth "Filter" "is_within") rfl)
  F_init := fnf (ps := ["self", "column", "low", "high"]) (st := s_Filter_init) c 0 rfl (exn e 6 rfl) fun _ _ _ _ _ _ us hl => match us, hl with | [_, _, _, _], _ => rfl
  F_passes := fnf (ps := ["self", "values"]) (st := s_Filter_passes) c 1 rfl (He.meth_ok (c.fact 6 (f := .meth "Filter" "passes") rfl)).kp fun _ _ _ _ _ _ us hl => match us, hl with | [_, _], _ => rfl
  F_is_equal := fnf (ps := ["self"]) (st := s_Filter_is_equal) c 2 rfl (He.meth_ok (c.fact 7 (f := .meth "Filter" "is_equal") rfl)).kp fun _ _ _ _ _ _ us hl => match us, hl with | [_], _ => rfl
  F_is_within := fnf (ps := ["self", "other"]) (st := s_Filter_is_within) c 3 rfl (He.meth_ok (c.fact 8 (f := .meth "Filter" "is_within") rfl)).kp fun _ _ _ _ _ _ us hl => match us, hl with | [_, _], _ => rfl
theorem t_Group (X : K.In h) (G : h.Ns mainGlobals mg) (c : He.SaysE fas fns K) (e : (exl K).all id = true) : T_Group K mg where
  g := He.glo_ok X G (c.fact 9 (f := .glo "Group") rfl)
  cl := He.cls_ok (c.fact 10 (f := .cls "Group") rfl)
  m := He.mkr_ok (c.fact 11 (f := .mkr "Group") rfl)
  n_values_told := He.noat_ok (c.fact 12 (f := .noat "Group" "values_told") rfl)
  n_count := He.noat_ok (c.fact 13 (f := .noat "Group" "count") rfl)
  F_init := fnf (ps := ["self", "values", "count"]) (st := s_Group_init) c 4 rfl (exn e 7 rfl) fun _ _ _ _ _ _ us hl => match us, hl with | [_, _, _], _ => rfl
theorem t_Table (X : K.In h) (G : h.Ns mainGlobals mg) (c : He.SaysE fas fns K) (e : (exl K).all id = true) : T_Table K mg where
  g := He.glo_ok X G (c.fact 14 (f := .glo "Table") rfl)
  cl := He.cls_ok (c.fact 15 (f := .cls "Table") rfl)
  m := He.mkr_ok (c.fact 16 (f := .mkr "Table") rfl)
  n_columns := He.noat_ok (c.fact 17 (f := .noat "Table" "columns") rfl)
  n_groups := He.noat_ok (c.fact 18 (f := .noat "Table" "groups") rfl)
  mt_all_rows := He.meth_ok (c.fact 19 (f := .meth "Table" "all_rows") rfl)
  F_init := fnf (ps := ["self", "columns", "groups"]) (st := s_Table_init) c 5 rfl (exn e 8 rfl) fun _ _ _ _ _ _ us hl => match us, hl with | [_, _, _], _ => rfl
  F_all_rows := fnf (ps := ["self"]) (st := s_Table_all_rows) c 6 rfl (He.meth_ok (c.fact 19 (f := .meth "Table" "all_rows") rfl)).kp fun _ _ _ _ _ _ us hl => match us, hl with | [_], _ => rfl
theorem t_Question (X : K.In h) (G : h.Ns mainGlobals mg) (c : He.SaysE fas fns K) (e : (exl K).all id = true) : T_Question K mg where
  g := He.glo_ok X G (c.fact 20 (f := .glo "Question") rfl)
  cl := He.cls_ok (c.fact 21 (f := .cls "Question") rfl)
  m := He.mkr_ok (c.fact 22 (f := .mkr "Question") rfl)
  n_filters := He.noat_ok (c.fact 23 (f := .noat "Question" "filters") rfl)
  n_order := He.noat_ok (c.fact 24 (f := .noat "Question" "order") rfl)
  n_backwards := He.noat_ok (c.fact 25 (f := .noat "Question" "backwards") rfl)
  n_wanted := He.noat_ok (c.fact 26 (f := .noat "Question" "wanted") rfl)
  n_limit := He.noat_ok (c.fact 27 (f := .noat "Question" "limit") rfl)
  n_asked := He.noat_ok (c.fact 28 (f := .noat "Question" "asked") rfl)
  mt_filter_of := He.meth_ok (c.fact 29 (f := .meth "Question" "filter_of") rfl)
  mt_is_equal := He.meth_ok (c.fact 30 (f := .meth "Question" "is_equal") rfl)
  mt_finds := He.meth_ok (c.fact 31 (f := .meth "Question" "finds") rfl)
  mt_needed := He.meth_ok (c.fact 32 (f := .meth "Question" "needed") rfl)
  mt_without_equal := He.meth_ok (c.fact 33 (f := .meth "Question" "without_equal") rfl)
  F_init := fnf (ps := ["self", "filters", "order", "backwards", "wanted", "limit", "asked"]) (st := s_Question_init) c 7 rfl (exn e 9 rfl) fun _ _ _ _ _ _ us hl => match us, hl with | [_, _, _, _, _, _, _], _ => rfl
  F_filter_of := fnf (ps := ["self", "column"]) (st := s_Question_filter_of) c 8 rfl (He.meth_ok (c.fact 29 (f := .meth "Question" "filter_of") rfl)).kp fun _ _ _ _ _ _ us hl => match us, hl with | [_, _], _ => rfl
  F_is_equal := fnf (ps := ["self", "column"]) (st := s_Question_is_equal) c 9 rfl (He.meth_ok (c.fact 30 (f := .meth "Question" "is_equal") rfl)).kp fun _ _ _ _ _ _ us hl => match us, hl with | [_, _], _ => rfl
  F_finds := fnf (ps := ["self", "group"]) (st := s_Question_finds) c 10 rfl (He.meth_ok (c.fact 31 (f := .meth "Question" "finds") rfl)).kp fun _ _ _ _ _ _ us hl => match us, hl with | [_, _], _ => rfl
  F_needed := fnf (ps := ["self"]) (st := s_Question_needed) c 11 rfl (He.meth_ok (c.fact 32 (f := .meth "Question" "needed") rfl)).kp fun _ _ _ _ _ _ us hl => match us, hl with | [_], _ => rfl
  F_without_equal := fnf (ps := ["self", "columns"]) (st := s_Question_without_equal) c 12 rfl (He.meth_ok (c.fact 33 (f := .meth "Question" "without_equal") rfl)).kp fun _ _ _ _ _ _ us hl => match us, hl with | [_, _], _ => rfl
theorem t_Index (X : K.In h) (G : h.Ns mainGlobals mg) (c : He.SaysE fas fns K) (e : (exl K).all id = true) : T_Index K mg where
  g := He.glo_ok X G (c.fact 34 (f := .glo "Index") rfl)
  cl := He.cls_ok (c.fact 35 (f := .cls "Index") rfl)
  m := He.mkr_ok (c.fact 36 (f := .mkr "Index") rfl)
  n_key_columns := He.noat_ok (c.fact 37 (f := .noat "Index" "key_columns") rfl)
  n_included := He.noat_ok (c.fact 38 (f := .noat "Index" "included") rfl)
  n_condition := He.noat_ok (c.fact 39 (f := .noat "Index" "condition") rfl)
  mt_own := He.meth_ok (c.fact 40 (f := .meth "Index" "own") rfl)
  mt_has := He.meth_ok (c.fact 41 (f := .meth "Index" "has") rfl)
  mt_entries := He.meth_ok (c.fact 42 (f := .meth "Index" "entries") rfl)
  mt_first_keys := He.meth_ok (c.fact 43 (f := .meth "Index" "first_keys") rfl)
  F_init := fnf (ps := ["self", "keys", "included", "condition"]) (st := s_Index_init) c 13 rfl (exn e 10 rfl) fun _ _ _ _ _ _ us hl => match us, hl with | [_, _, _, _], _ => rfl
  F_own := fnf (ps := ["self"]) (st := s_Index_own) c 14 rfl (He.meth_ok (c.fact 40 (f := .meth "Index" "own") rfl)).kp fun _ _ _ _ _ _ us hl => match us, hl with | [_], _ => rfl
  F_has := fnf (ps := ["self", "group"]) (st := s_Index_has) c 15 rfl (He.meth_ok (c.fact 41 (f := .meth "Index" "has") rfl)).kp fun _ _ _ _ _ _ us hl => match us, hl with | [_, _], _ => rfl
  F_entries := fnf (ps := ["self", "table"]) (st := s_Index_entries) c 16 rfl (He.meth_ok (c.fact 42 (f := .meth "Index" "entries") rfl)).kp fun _ _ _ _ _ _ us hl => match us, hl with | [_, _], _ => rfl
  F_first_keys := fnf (ps := ["self", "many"]) (st := s_Index_first_keys) c 17 rfl (He.meth_ok (c.fact 43 (f := .meth "Index" "first_keys") rfl)).kp fun _ _ _ _ _ _ us hl => match us, hl with | [_, _], _ => rfl
theorem t_NumberReader (X : K.In h) (G : h.Ns mainGlobals mg) (c : He.SaysE fas fns K) (e : (exl K).all id = true) : T_NumberReader K mg where
  g := He.glo_ok X G (c.fact 44 (f := .glo "NumberReader") rfl)
  cl := He.cls_ok (c.fact 45 (f := .cls "NumberReader") rfl)
  m := He.mkr_ok (c.fact 46 (f := .mkr "NumberReader") rfl)
  n_numbers := He.noat_ok (c.fact 47 (f := .noat "NumberReader" "numbers") rfl)
  n_at := He.noat_ok (c.fact 48 (f := .noat "NumberReader" "at") rfl)
  mt_number := He.meth_ok (c.fact 49 (f := .meth "NumberReader" "number") rfl)
  mt_end := He.meth_ok (c.fact 50 (f := .meth "NumberReader" "end") rfl)
  mt_some_columns := He.meth_ok (c.fact 51 (f := .meth "NumberReader" "some_columns") rfl)
  mt_a_filter := He.meth_ok (c.fact 52 (f := .meth "NumberReader" "a_filter") rfl)
  F_init := fnf (ps := ["self", "numbers"]) (st := s_NumberReader_init) c 18 rfl (exn e 11 rfl) fun _ _ _ _ _ _ us hl => match us, hl with | [_, _], _ => rfl
  F_number := fnf (ps := ["self", "low", "high"]) (st := s_NumberReader_number) c 19 rfl (He.meth_ok (c.fact 49 (f := .meth "NumberReader" "number") rfl)).kp fun _ _ _ _ _ _ us hl => match us, hl with | [_, _, _], _ => rfl
  F_end := fnf (ps := ["self"]) (st := s_NumberReader_end) c 20 rfl (He.meth_ok (c.fact 50 (f := .meth "NumberReader" "end") rfl)).kp fun _ _ _ _ _ _ us hl => match us, hl with | [_], _ => rfl
  F_some_columns := fnf (ps := ["self", "columns", "known"]) (st := s_NumberReader_some_columns) c 21 rfl (He.meth_ok (c.fact 51 (f := .meth "NumberReader" "some_columns") rfl)).kp fun _ _ _ _ _ _ us hl => match us, hl with | [_, _, _], _ => rfl
  F_a_filter := fnf (ps := ["self", "columns"]) (st := s_NumberReader_a_filter) c 22 rfl (He.meth_ok (c.fact 52 (f := .meth "NumberReader" "a_filter") rfl)).kp fun _ _ _ _ _ _ us hl => match us, hl with | [_, _], _ => rfl
theorem t_Step (X : K.In h) (G : h.Ns mainGlobals mg) (c : He.SaysE fas fns K) (e : (exl K).all id = true) : T_Step K mg where
  g := He.glo_ok X G (c.fact 53 (f := .glo "Step") rfl)
  cl := He.cls_ok (c.fact 54 (f := .cls "Step") rfl)
  m := He.mkr_ok (c.fact 55 (f := .mkr "Step") rfl)
  n_group := He.noat_ok (c.fact 56 (f := .noat "Step" "group") rfl)
  n_rows_touched := He.noat_ok (c.fact 57 (f := .noat "Step" "rows_touched") rfl)
  n_rows_looked := He.noat_ok (c.fact 58 (f := .noat "Step" "rows_looked") rfl)
  n_rows_found := He.noat_ok (c.fact 59 (f := .noat "Step" "rows_found") rfl)
  mt_told := He.meth_ok (c.fact 60 (f := .meth "Step" "told") rfl)
  F_init := fnf (ps := ["self", "group", "touched", "looked", "found"]) (st := s_Step_init) c 26 rfl (exn e 12 rfl) fun _ _ _ _ _ _ us hl => match us, hl with | [_, _, _, _, _], _ => rfl
  F_told := fnf (ps := ["self"]) (st := s_Step_told) c 27 rfl (He.meth_ok (c.fact 60 (f := .meth "Step" "told") rfl)).kp fun _ _ _ _ _ _ us hl => match us, hl with | [_], _ => rfl
theorem t_Way (X : K.In h) (G : h.Ns mainGlobals mg) (c : He.SaysE fas fns K) (e : (exl K).all id = true) : T_Way K mg where
  g := He.glo_ok X G (c.fact 61 (f := .glo "Way") rfl)
  cl := He.cls_ok (c.fact 62 (f := .cls "Way") rfl)
  m := He.mkr_ok (c.fact 63 (f := .mkr "Way") rfl)
  n_steps := He.noat_ok (c.fact 64 (f := .noat "Way" "steps") rfl)
  n_is_free := He.noat_ok (c.fact 65 (f := .noat "Way" "is_free") rfl)
  mt_touched := He.meth_ok (c.fact 66 (f := .meth "Way" "touched") rfl)
  mt_looked := He.meth_ok (c.fact 67 (f := .meth "Way" "looked") rfl)
  mt_found := He.meth_ok (c.fact 68 (f := .meth "Way" "found") rfl)
  mt_sorted_rows := He.meth_ok (c.fact 69 (f := .meth "Way" "sorted_rows") rfl)
  mt_cost_by_index := He.meth_ok (c.fact 70 (f := .meth "Way" "cost_by_index") rfl)
  mt_cost_by_table := He.meth_ok (c.fact 71 (f := .meth "Way" "cost_by_table") rfl)
  mt_trace := He.meth_ok (c.fact 72 (f := .meth "Way" "trace") rfl)
  mt_rows := He.meth_ok (c.fact 73 (f := .meth "Way" "rows") rfl)
  F_init := fnf (ps := ["self", "steps", "is_free"]) (st := s_Way_init) c 28 rfl (exn e 13 rfl) fun _ _ _ _ _ _ us hl => match us, hl with | [_, _, _], _ => rfl
  F_touched := fnf (ps := ["self"]) (st := s_Way_touched) c 29 rfl (He.meth_ok (c.fact 66 (f := .meth "Way" "touched") rfl)).kp fun _ _ _ _ _ _ us hl => match us, hl with | [_], _ => rfl
  F_looked := fnf (ps := ["self"]) (st := s_Way_looked) c 30 rfl (He.meth_ok (c.fact 67 (f := .meth "Way" "looked") rfl)).kp fun _ _ _ _ _ _ us hl => match us, hl with | [_], _ => rfl
  F_found := fnf (ps := ["self"]) (st := s_Way_found) c 31 rfl (He.meth_ok (c.fact 68 (f := .meth "Way" "found") rfl)).kp fun _ _ _ _ _ _ us hl => match us, hl with | [_], _ => rfl
  F_sorted_rows := fnf (ps := ["self"]) (st := s_Way_sorted_rows) c 32 rfl (He.meth_ok (c.fact 69 (f := .meth "Way" "sorted_rows") rfl)).kp fun _ _ _ _ _ _ us hl => match us, hl with | [_], _ => rfl
  F_cost_by_index := fnf (ps := ["self"]) (st := s_Way_cost_by_index) c 33 rfl (He.meth_ok (c.fact 70 (f := .meth "Way" "cost_by_index") rfl)).kp fun _ _ _ _ _ _ us hl => match us, hl with | [_], _ => rfl
  F_cost_by_table := fnf (ps := ["self"]) (st := s_Way_cost_by_table) c 34 rfl (He.meth_ok (c.fact 71 (f := .meth "Way" "cost_by_table") rfl)).kp fun _ _ _ _ _ _ us hl => match us, hl with | [_], _ => rfl
  F_trace := fnf (ps := ["self"]) (st := s_Way_trace) c 35 rfl (He.meth_ok (c.fact 72 (f := .meth "Way" "trace") rfl)).kp fun _ _ _ _ _ _ us hl => match us, hl with | [_], _ => rfl
  F_rows := fnf (ps := ["self"]) (st := s_Way_rows) c 36 rfl (He.meth_ok (c.fact 73 (f := .meth "Way" "rows") rfl)).kp fun _ _ _ _ _ _ us hl => match us, hl with | [_], _ => rfl
theorem t_Desk (X : K.In h) (G : h.Ns mainGlobals mg) (c : He.SaysE fas fns K) (e : (exl K).all id = true) : T_Desk K mg where
  g := He.glo_ok X G (c.fact 74 (f := .glo "Desk") rfl)
  cl := He.cls_ok (c.fact 75 (f := .cls "Desk") rfl)
  m := He.mkr_ok (c.fact 76 (f := .mkr "Desk") rfl)
  n_table := He.noat_ok (c.fact 77 (f := .noat "Desk" "table") rfl)
  n_question := He.noat_ok (c.fact 78 (f := .noat "Desk" "question") rfl)
  n_index_told := He.noat_ok (c.fact 79 (f := .noat "Desk" "index_told") rfl)
  mt_put_table := He.meth_ok (c.fact 80 (f := .meth "Desk" "put_table") rfl)
  mt_put_question := He.meth_ok (c.fact 81 (f := .meth "Desk" "put_question") rfl)
  mt_put_index := He.meth_ok (c.fact 82 (f := .meth "Desk" "put_index") rfl)
  mt_does_serve := He.meth_ok (c.fact 83 (f := .meth "Desk" "does_serve") rfl)
  mt_by_index := He.meth_ok (c.fact 84 (f := .meth "Desk" "by_index") rfl)
  mt_by_table := He.meth_ok (c.fact 85 (f := .meth "Desk" "by_table") rfl)
  mt_plan := He.meth_ok (c.fact 86 (f := .meth "Desk" "plan") rfl)
  mt_why_not := He.meth_ok (c.fact 87 (f := .meth "Desk" "why_not") rfl)
  mt_work := He.meth_ok (c.fact 88 (f := .meth "Desk" "work") rfl)
  mt_whole := He.meth_ok (c.fact 89 (f := .meth "Desk" "whole") rfl)
  mt_best := He.meth_ok (c.fact 90 (f := .meth "Desk" "best") rfl)
  mt_way := He.meth_ok (c.fact 91 (f := .meth "Desk" "way") rfl)
  mt_answer := He.meth_ok (c.fact 92 (f := .meth "Desk" "answer") rfl)
  mt_rows_told := He.meth_ok (c.fact 93 (f := .meth "Desk" "rows_told") rfl)
  mt_prefixes := He.meth_ok (c.fact 94 (f := .meth "Desk" "prefixes") rfl)
  mt_look := He.meth_ok (c.fact 95 (f := .meth "Desk" "look") rfl)
  F_init := fnf (ps := ["self"]) (st := s_Desk_init) c 53 rfl (exn e 14 rfl) fun _ _ _ _ _ _ us hl => match us, hl with | [_], _ => rfl
  F_put_table := fnf (ps := ["self", "numbers"]) (st := s_Desk_put_table) c 54 rfl (He.meth_ok (c.fact 80 (f := .meth "Desk" "put_table") rfl)).kp fun _ _ _ _ _ _ us hl => match us, hl with | [_, _], _ => rfl
  F_put_question := fnf (ps := ["self", "numbers"]) (st := s_Desk_put_question) c 55 rfl (He.meth_ok (c.fact 81 (f := .meth "Desk" "put_question") rfl)).kp fun _ _ _ _ _ _ us hl => match us, hl with | [_, _], _ => rfl
  F_put_index := fnf (ps := ["self", "numbers"]) (st := s_Desk_put_index) c 56 rfl (He.meth_ok (c.fact 82 (f := .meth "Desk" "put_index") rfl)).kp fun _ _ _ _ _ _ us hl => match us, hl with | [_, _], _ => rfl
  F_does_serve := fnf (ps := ["self"]) (st := s_Desk_does_serve) c 57 rfl (He.meth_ok (c.fact 83 (f := .meth "Desk" "does_serve") rfl)).kp fun _ _ _ _ _ _ us hl => match us, hl with | [_], _ => rfl
  F_by_index := fnf (ps := ["self"]) (st := s_Desk_by_index) c 58 rfl (He.meth_ok (c.fact 84 (f := .meth "Desk" "by_index") rfl)).kp fun _ _ _ _ _ _ us hl => match us, hl with | [_], _ => rfl
  F_by_table := fnf (ps := ["self"]) (st := s_Desk_by_table) c 59 rfl (He.meth_ok (c.fact 85 (f := .meth "Desk" "by_table") rfl)).kp fun _ _ _ _ _ _ us hl => match us, hl with | [_], _ => rfl
  F_plan := fnf (ps := ["self"]) (st := s_Desk_plan) c 60 rfl (He.meth_ok (c.fact 86 (f := .meth "Desk" "plan") rfl)).kp fun _ _ _ _ _ _ us hl => match us, hl with | [_], _ => rfl
  F_why_not := fnf (ps := ["self"]) (st := s_Desk_why_not) c 61 rfl (He.meth_ok (c.fact 87 (f := .meth "Desk" "why_not") rfl)).kp fun _ _ _ _ _ _ us hl => match us, hl with | [_], _ => rfl
  F_work := fnf (ps := ["self"]) (st := s_Desk_work) c 62 rfl (He.meth_ok (c.fact 88 (f := .meth "Desk" "work") rfl)).kp fun _ _ _ _ _ _ us hl => match us, hl with | [_], _ => rfl
  F_whole := fnf (ps := ["self"]) (st := s_Desk_whole) c 63 rfl (He.meth_ok (c.fact 89 (f := .meth "Desk" "whole") rfl)).kp fun _ _ _ _ _ _ us hl => match us, hl with | [_], _ => rfl
  F_best := fnf (ps := ["self"]) (st := s_Desk_best) c 64 rfl (He.meth_ok (c.fact 90 (f := .meth "Desk" "best") rfl)).kp fun _ _ _ _ _ _ us hl => match us, hl with | [_], _ => rfl
  F_way := fnf (ps := ["self", "number"]) (st := s_Desk_way) c 65 rfl (He.meth_ok (c.fact 91 (f := .meth "Desk" "way") rfl)).kp fun _ _ _ _ _ _ us hl => match us, hl with | [_, _], _ => rfl
  F_answer := fnf (ps := ["self", "number"]) (st := s_Desk_answer) c 66 rfl (He.meth_ok (c.fact 92 (f := .meth "Desk" "answer") rfl)).kp fun _ _ _ _ _ _ us hl => match us, hl with | [_, _], _ => rfl
  F_rows_told := fnf (ps := ["self"]) (st := s_Desk_rows_told) c 67 rfl (He.meth_ok (c.fact 93 (f := .meth "Desk" "rows_told") rfl)).kp fun _ _ _ _ _ _ us hl => match us, hl with | [_], _ => rfl
  F_prefixes := fnf (ps := ["self"]) (st := s_Desk_prefixes) c 68 rfl (He.meth_ok (c.fact 94 (f := .meth "Desk" "prefixes") rfl)).kp fun _ _ _ _ _ _ us hl => match us, hl with | [_], _ => rfl
  F_look := fnf (ps := ["self", "call", "numbers"]) (st := s_Desk_look) c 69 rfl (He.meth_ok (c.fact 95 (f := .meth "Desk" "look") rfl)).kp fun _ _ _ _ _ _ us hl => match us, hl with | [_, _, _], _ => rfl
theorem t_CallReader (X : K.In h) (G : h.Ns mainGlobals mg) (c : He.SaysE fas fns K) (e : (exl K).all id = true) : T_CallReader K mg where
  g := He.glo_ok X G (c.fact 96 (f := .glo "CallReader") rfl)
  cl := He.cls_ok (c.fact 97 (f := .cls "CallReader") rfl)
  m := He.mkr_ok (c.fact 98 (f := .mkr "CallReader") rfl)
  n_calls := He.noat_ok (c.fact 99 (f := .noat "CallReader" "calls") rfl)
  n_at := He.noat_ok (c.fact 100 (f := .noat "CallReader" "at") rfl)
  mt_is_done := He.meth_ok (c.fact 101 (f := .meth "CallReader" "is_done") rfl)
  mt_next_some := He.meth_ok (c.fact 102 (f := .meth "CallReader" "next_some") rfl)
  F_init := fnf (ps := ["self", "calls"]) (st := s_CallReader_init) c 72 rfl (exn e 15 rfl) fun _ _ _ _ _ _ us hl => match us, hl with | [_, _], _ => rfl
  F_is_done := fnf (ps := ["self"]) (st := s_CallReader_is_done) c 73 rfl (He.meth_ok (c.fact 101 (f := .meth "CallReader" "is_done") rfl)).kp fun _ _ _ _ _ _ us hl => match us, hl with | [_], _ => rfl
  F_next_some := fnf (ps := ["self", "many"]) (st := s_CallReader_next_some) c 74 rfl (He.meth_ok (c.fact 102 (f := .meth "CallReader" "next_some") rfl)).kp fun _ _ _ _ _ _ us hl => match us, hl with | [_, _], _ => rfl
theorem t_funs (X : K.In h) (G : h.Ns mainGlobals mg) (c : He.SaysE fas fns K) : T_funs K mg where
  g_table_of := He.glo_ok X G (c.fact 103 (f := .glo "table_of") rfl)
  k_table_of := He.keep_ok (c.fact 104 (f := .keep "table_of") rfl)
  F_table_of := fnf (ps := ["numbers"]) (st := s_table_of) c 23 rfl (He.keep_ok (c.fact 104 (f := .keep "table_of") rfl)) fun _ _ _ _ _ _ us hl => match us, hl with | [_], _ => rfl
  g_question_of := He.glo_ok X G (c.fact 105 (f := .glo "question_of") rfl)
  k_question_of := He.keep_ok (c.fact 106 (f := .keep "question_of") rfl)
  F_question_of := fnf (ps := ["numbers", "columns"]) (st := s_question_of) c 24 rfl (He.keep_ok (c.fact 106 (f := .keep "question_of") rfl)) fun _ _ _ _ _ _ us hl => match us, hl with | [_, _], _ => rfl
  g_index_of := He.glo_ok X G (c.fact 107 (f := .glo "index_of") rfl)
  k_index_of := He.keep_ok (c.fact 108 (f := .keep "index_of") rfl)
  F_index_of := fnf (ps := ["numbers", "columns"]) (st := s_index_of) c 25 rfl (He.keep_ok (c.fact 108 (f := .keep "index_of") rfl)) fun _ _ _ _ _ _ us hl => match us, hl with | [_, _], _ => rfl
  g_serves := He.glo_ok X G (c.fact 109 (f := .glo "serves") rfl)
  k_serves := He.keep_ok (c.fact 110 (f := .keep "serves") rfl)
  F_serves := fnf (ps := ["index", "question"]) (st := s_serves) c 37 rfl (He.keep_ok (c.fact 110 (f := .keep "serves") rfl)) fun _ _ _ _ _ _ us hl => match us, hl with | [_, _], _ => rfl
  g_first_not_covered := He.glo_ok X G (c.fact 111 (f := .glo "first_not_covered") rfl)
  k_first_not_covered := He.keep_ok (c.fact 112 (f := .keep "first_not_covered") rfl)
  F_first_not_covered := fnf (ps := ["index", "question"]) (st := s_first_not_covered) c 38 rfl (He.keep_ok (c.fact 112 (f := .keep "first_not_covered") rfl)) fun _ _ _ _ _ _ us hl => match us, hl with | [_, _], _ => rfl
  g_first_not_free := He.glo_ok X G (c.fact 113 (f := .glo "first_not_free") rfl)
  k_first_not_free := He.keep_ok (c.fact 114 (f := .keep "first_not_free") rfl)
  F_first_not_free := fnf (ps := ["index", "question"]) (st := s_first_not_free) c 39 rfl (He.keep_ok (c.fact 114 (f := .keep "first_not_free") rfl)) fun _ _ _ _ _ _ us hl => match us, hl with | [_, _], _ => rfl
  g_count_equal := He.glo_ok X G (c.fact 115 (f := .glo "count_equal") rfl)
  k_count_equal := He.keep_ok (c.fact 116 (f := .keep "count_equal") rfl)
  F_count_equal := fnf (ps := ["index", "question"]) (st := s_count_equal) c 40 rfl (He.keep_ok (c.fact 116 (f := .keep "count_equal") rfl)) fun _ _ _ _ _ _ us hl => match us, hl with | [_, _], _ => rfl
  g_next_has_filter := He.glo_ok X G (c.fact 117 (f := .glo "next_has_filter") rfl)
  k_next_has_filter := He.keep_ok (c.fact 118 (f := .keep "next_has_filter") rfl)
  F_next_has_filter := fnf (ps := ["index", "question"]) (st := s_next_has_filter) c 41 rfl (He.keep_ok (c.fact 118 (f := .keep "next_has_filter") rfl)) fun _ _ _ _ _ _ us hl => match us, hl with | [_, _], _ => rfl
  g_range_filters := He.glo_ok X G (c.fact 119 (f := .glo "range_filters") rfl)
  k_range_filters := He.keep_ok (c.fact 120 (f := .keep "range_filters") rfl)
  F_range_filters := fnf (ps := ["index", "question"]) (st := s_range_filters) c 42 rfl (He.keep_ok (c.fact 120 (f := .keep "range_filters") rfl)) fun _ _ _ _ _ _ us hl => match us, hl with | [_, _], _ => rfl
  g_all_pass := He.glo_ok X G (c.fact 121 (f := .glo "all_pass") rfl)
  k_all_pass := He.keep_ok (c.fact 122 (f := .keep "all_pass") rfl)
  F_all_pass := fnf (ps := ["filters", "group"]) (st := s_all_pass) c 43 rfl (He.keep_ok (c.fact 122 (f := .keep "all_pass") rfl)) fun _ _ _ _ _ _ us hl => match us, hl with | [_, _], _ => rfl
  g_in_range := He.glo_ok X G (c.fact 123 (f := .glo "in_range") rfl)
  k_in_range := He.keep_ok (c.fact 124 (f := .keep "in_range") rfl)
  F_in_range := fnf (ps := ["index", "question", "table"]) (st := s_in_range) c 44 rfl (He.keep_ok (c.fact 124 (f := .keep "in_range") rfl)) fun _ _ _ _ _ _ us hl => match us, hl with | [_, _, _], _ => rfl
  g_entries_in_range := He.glo_ok X G (c.fact 125 (f := .glo "entries_in_range") rfl)
  k_entries_in_range := He.keep_ok (c.fact 126 (f := .keep "entries_in_range") rfl)
  F_entries_in_range := fnf (ps := ["index", "question", "table"]) (st := s_entries_in_range) c 45 rfl (He.keep_ok (c.fact 126 (f := .keep "entries_in_range") rfl)) fun _ _ _ _ _ _ us hl => match us, hl with | [_, _, _], _ => rfl
  g_steps_of := He.glo_ok X G (c.fact 127 (f := .glo "steps_of") rfl)
  k_steps_of := He.keep_ok (c.fact 128 (f := .keep "steps_of") rfl)
  F_steps_of := fnf (ps := ["question", "table", "numbers", "looked_filters", "is_free"]) (st := s_steps_of) c 46 rfl (He.keep_ok (c.fact 128 (f := .keep "steps_of") rfl)) fun _ _ _ _ _ _ us hl => match us, hl with | [_, _, _, _, _], _ => rfl
  g_way_by_index := He.glo_ok X G (c.fact 129 (f := .glo "way_by_index") rfl)
  k_way_by_index := He.keep_ok (c.fact 130 (f := .keep "way_by_index") rfl)
  F_way_by_index := fnf (ps := ["index", "question", "table"]) (st := s_way_by_index) c 47 rfl (He.keep_ok (c.fact 130 (f := .keep "way_by_index") rfl)) fun _ _ _ _ _ _ us hl => match us, hl with | [_, _, _], _ => rfl
  g_way_by_table := He.glo_ok X G (c.fact 131 (f := .glo "way_by_table") rfl)
  k_way_by_table := He.keep_ok (c.fact 132 (f := .keep "way_by_table") rfl)
  F_way_by_table := fnf (ps := ["question", "table"]) (st := s_way_by_table) c 48 rfl (He.keep_ok (c.fact 132 (f := .keep "way_by_table") rfl)) fun _ _ _ _ _ _ us hl => match us, hl with | [_, _], _ => rfl
  g_put_in_order := He.glo_ok X G (c.fact 133 (f := .glo "put_in_order") rfl)
  k_put_in_order := He.keep_ok (c.fact 134 (f := .keep "put_in_order") rfl)
  F_put_in_order := fnf (ps := ["question", "table", "steps"]) (st := s_put_in_order) c 49 rfl (He.keep_ok (c.fact 134 (f := .keep "put_in_order") rfl)) fun _ _ _ _ _ _ us hl => match us, hl with | [_, _, _], _ => rfl
  g_answered := He.glo_ok X G (c.fact 135 (f := .glo "answered") rfl)
  k_answered := He.keep_ok (c.fact 136 (f := .keep "answered") rfl)
  F_answered := fnf (ps := ["question", "table", "way"]) (st := s_answered) c 50 rfl (He.keep_ok (c.fact 136 (f := .keep "answered") rfl)) fun _ _ _ _ _ _ us hl => match us, hl with | [_, _, _], _ => rfl
  g_refuse_if := He.glo_ok X G (c.fact 137 (f := .glo "refuse_if") rfl)
  k_refuse_if := He.keep_ok (c.fact 138 (f := .keep "refuse_if") rfl)
  F_refuse_if := fnf (ps := ["truth", "why"]) (st := s_refuse_if) c 52 rfl (He.keep_ok (c.fact 138 (f := .keep "refuse_if") rfl)) fun _ _ _ _ _ _ us hl => match us, hl with | [_, _], _ => rfl
  g_call_told := He.glo_ok X G (c.fact 139 (f := .glo "call_told") rfl)
  k_call_told := He.keep_ok (c.fact 140 (f := .keep "call_told") rfl)
  F_call_told := fnf (ps := ["desk", "call", "numbers", "row"]) (st := s_call_told) c 70 rfl (He.keep_ok (c.fact 140 (f := .keep "call_told") rfl)) fun _ _ _ _ _ _ us hl => match us, hl with | [_, _, _, _], _ => rfl
  g_answer_of := He.glo_ok X G (c.fact 141 (f := .glo "answer_of") rfl)
  k_answer_of := He.keep_ok (c.fact 142 (f := .keep "answer_of") rfl)
  F_answer_of := fnf (ps := ["desk", "call", "numbers", "row"]) (st := s_answer_of) c 71 rfl (He.keep_ok (c.fact 142 (f := .keep "answer_of") rfl)) fun _ _ _ _ _ _ us hl => match us, hl with | [_, _, _, _], _ => rfl
  g_answers := He.glo_ok X G (c.fact 143 (f := .glo "answers") rfl)
  k_answers := He.keep_ok (c.fact 144 (f := .keep "answers") rfl)
  F_answers := fnf (ps := ["calls"]) (st := s_answers) c 75 rfl (He.keep_ok (c.fact 144 (f := .keep "answers") rfl)) fun _ _ _ _ _ _ us hl => match us, hl with | [_], _ => rfl
theorem txt_of (X : K.In h) (G : h.Ns mainGlobals mg) (z : obsX K = valX) : Txt K mg := by
  have c : He.SaysE fas fns K := congrArg (fun y : AlX => y.1) z
  have e : (exl K).all id = true := congrArg (fun y : AlX => y.2) z
  exact {
    t_Filter := t_Filter X G c e
    t_Group := t_Group X G c e
    t_Table := t_Table X G c e
    t_Question := t_Question X G c e
    t_Index := t_Index X G c e
    t_NumberReader := t_NumberReader X G c e
    t_Step := t_Step X G c e
    t_Way := t_Way X G c e
    t_Desk := t_Desk X G c e
    t_CallReader := t_CallReader X G c e
    fs := t_funs X G c
    b_len := He.free_ok X G (c.fact 145 (f := .free "len") rfl)
    b_sum := He.free_ok X G (c.fact 146 (f := .free "sum") rfl)
    b_range := He.free_ok X G (c.fact 147 (f := .free "range") rfl)
    b_enumerate := He.free_ok X G (c.fact 148 (f := .free "enumerate") rfl)
    b_sorted := He.free_ok X G (c.fact 149 (f := .free "sorted") rfl)
    b_min := He.free_ok X G (c.fact 150 (f := .free "min") rfl)
    b_int := He.free_ok X G (c.fact 151 (f := .free "int") rfl)
    b_list := He.free_ok X G (c.fact 152 (f := .free "list") rfl)
    c_MOST_COLUMNS := He.int_ok X G (c.fact 153 (f := .int "MOST_COLUMNS" 4) rfl)
    c_MOST_GROUPS := He.int_ok X G (c.fact 154 (f := .int "MOST_GROUPS" 12) rfl)
    c_MOST_ROWS := He.int_ok X G (c.fact 155 (f := .int "MOST_ROWS" 1000000) rfl)
    c_MOST_VALUE := He.int_ok X G (c.fact 156 (f := .int "MOST_VALUE" 9) rfl)
    c_MOST_LIMIT := He.int_ok X G (c.fact 157 (f := .int "MOST_LIMIT" 1000000) rfl)
    c_MOST_ASKED := He.int_ok X G (c.fact 158 (f := .int "MOST_ASKED" 1000) rfl)
    c_COST_TOUCHED := He.int_ok X G (c.fact 159 (f := .int "COST_TOUCHED" 1) rfl)
    c_COST_ROW := He.int_ok X G (c.fact 160 (f := .int "COST_ROW" 2) rfl)
    c_COST_LOOKED := He.int_ok X G (c.fact 161 (f := .int "COST_LOOKED" 4) rfl)
    c_COST_SORTED := He.int_ok X G (c.fact 162 (f := .int "COST_SORTED" 3) rfl)
    c_TABLE := He.int_ok X G (c.fact 163 (f := .int "TABLE" 0) rfl)
    c_QUESTION := He.int_ok X G (c.fact 164 (f := .int "QUESTION" 1) rfl)
    c_INDEX := He.int_ok X G (c.fact 165 (f := .int "INDEX" 2) rfl)
    c_PLAN := He.int_ok X G (c.fact 166 (f := .int "PLAN" 3) rfl)
    c_WHY := He.int_ok X G (c.fact 167 (f := .int "WHY" 4) rfl)
    c_WORK := He.int_ok X G (c.fact 168 (f := .int "WORK" 5) rfl)
    c_WHOLE := He.int_ok X G (c.fact 169 (f := .int "WHOLE" 6) rfl)
    c_BEST := He.int_ok X G (c.fact 170 (f := .int "BEST" 7) rfl)
    c_TRACE := He.int_ok X G (c.fact 171 (f := .int "TRACE" 8) rfl)
    c_ANSWER := He.int_ok X G (c.fact 172 (f := .int "ANSWER" 9) rfl)
    c_ROWS_TOLD := He.int_ok X G (c.fact 173 (f := .int "ROWS_TOLD" 10) rfl)
    c_MOST_ENTRIES := He.int_ok X G (c.fact 174 (f := .int "MOST_ENTRIES" 300) rfl)
    g_NUMBERS := He.glo_ok X G (c.fact 175 (f := .glo "NUMBERS") rfl)
    s_NUMBERS := tupB_ok (exn e 0 rfl)
    g_ROWS := He.glo_ok X G (c.fact 176 (f := .glo "ROWS") rfl)
    s_ROWS := tupB_ok (exn e 1 rfl)
    g_NotWhole := He.glo_ok X G (c.fact 177 (f := .glo "NotWhole") rfl)
    xN := He.exc_ok (c.fact 178 (f := .exc "NotWhole") rfl)
    eN := He.exm_ok (c.fact 179 (f := .exm "NotWhole" "NotWhole" true) rfl)
    g_Refused := He.glo_ok X G (c.fact 180 (f := .glo "Refused") rfl)
    rx := oexB_ok (exn e 2 rfl)
    ri := He.eqO_ok (exn e 3 rfl)
    rt := of_decide_eq_true (exn e 4 rfl)
    rf := xfB_ok (exn e 5 rfl)
    n_Refused_why := He.noat_ok (c.fact 181 (f := .noat "Refused" "why") rfl)
    eR := He.exm_ok (c.fact 182 (f := .exm "Refused" "Refused" true) rfl)
    F_Refused_init := fnf (ps := ["self", "why"]) (st := s_Refused_init) c 51 rfl (exn e 16 rfl) fun _ _ _ _ _ _ us hl => match us, hl with | [_, _], _ => rfl
    i_NumberReader := not_mem_of (exn e 17 rfl)
    i_Desk := not_mem_of (exn e 18 rfl)
    i_CallReader := not_mem_of (exn e 19 rfl)
    dc := fun q => by
      have := (exn e 20 rfl)
      rw [q, beq_self_eq_true] at this
      cases this }
theorem ans_fd (c : He.SaysE fas fns K) : ∃ fd, Fun K "answers" "answers" s_answers (ga K "answers") fd ∧ ∀ (s : Shared) (us : List Value), us.length = (["calls"] : List Str).length → BindsTo s fd ⟨us, []⟩ ((["calls"] : List Str).zip us) := by
  obtain ⟨oc, od, osl, kV, doc, pm, an, cdv, ct, l, e⟩ := c.def_ 75 rfl
  exact ⟨_, fun_mk (st := s_answers) l e (He.keep_ok (c.fact 144 (f := .keep "answers") rfl)), fun s us hu => match us, hu with | [_], _ => .of_eq rfl⟩
end
def names0 : List PySem.Str := ["MOST_COLUMNS", "MOST_GROUPS", "MOST_ROWS", "MOST_VALUE", "MOST_LIMIT", "MOST_ASKED", "COST_TOUCHED", "COST_ROW", "COST_LOOKED", "COST_SORTED", "TABLE", "QUESTION", "INDEX", "PLAN", "WHY", "WORK", "WHOLE", "BEST", "TRACE", "ANSWER", "ROWS_TOLD", "MOST_ENTRIES", "NUMBERS", "ROWS", "Filter", "Group", "Table", "Question", "Index", "NumberReader"]
def names1 : List PySem.Str := ["Step", "Way", "Desk", "CallReader", "NotWhole", "Refused", "table_of", "question_of", "index_of", "serves", "first_not_covered", "first_not_free", "count_equal", "next_has_filter", "range_filters", "all_pass", "in_range", "entries_in_range", "steps_of", "way_by_index", "way_by_table", "put_in_order", "answered", "refuse_if", "call_told", "answer_of"]
def names : List PySem.Str := names0 ++ names1
abbrev RR : PySem.W.OpenSpec := PySem.Challenge.rw_oneindex_s01_answers
abbrev qv : Program := PySem.W.view RR.prog [59]
theorem run (w : World) : HandSHeadRun.RunEqS RR qv hookX obT 6000 names w := by
  intro os
  kernel_rfl
/-- the row's end where the written part is found in the heap: Z tells what is known of it -/
theorem walk_found {r : PySem.W.OpenSpec} {k : Nat} {q : Program} {loose : List Str} {XP : (Str → Option Value) → Heap → Prop} {YP : World → Heap → Prop} {Z : PySem.W.Frag → Prop} {d : DefRec} {CX : CXT} {ps : List Str} {sp : PySem.W.Frag → Sp}
    (well : r.wellSaid = true) (df : d.params.defaults = []) (len : r.args.length = ps.length) (room : Room k callerA) (found : ∀ w h, YP w h → ∃ K : PySem.W.Frag, K.In h ∧ Z K)
    (F : ∀ (K : PySem.W.Frag) (w : World) (mg : Str → Option Value) (fa : Addr) (h : Heap), Z K → K.In h → h.Ns mainGlobals mg → mg d.name = some (.ref fa) → ∃ fd : FuncData, (∀ (s : Shared) (us : List Value), us.length = ps.length → BindsTo s fd ⟨us, []⟩ (ps.zip us)) ∧ ∀ base : Heap, FnOk r.prog w K mg base CX k fa fd ps (sp K))
    (S : ∀ (K : PySem.W.Frag) (H : Hp) (xs : List V) (a : PySem.W.Codec.denoteAll r.args), PySem.W.Codec.app r.args r.asked a = true → DwAll K H xs (PySem.W.Codec.encAll r.args a) → sp K xs H (fun v H' => Dw K H' v (r.ret.enc (PySem.W.Codec.app r.args r.f a))) fun _ _ _ => False)
    (none : ∀ (H : Hp) (s : Shared) (e : Value) (s' : Shared), CX [] H s (fun _ _ _ => False) e s' → False) : PySem.W.WalkOS q loose XP YP r d [] (fun f vs => PySem.call f vs) := by
  intro w a b mg mb G Y
  obtain ⟨K, X, z⟩ := found w _ Y
  exact L2.walk_spec (YP := fun _ h => K.In h) (K := fun _ => K) (CX := fun _ => CX) (sp := fun _ => sp K) well df len room (fun _ _ y => y) (fun w mg fa h _ X G e => (F K w mg fa h z X G e).imp fun _ y => ⟨y.1, fun base _ _ => y.2 base⟩) (fun _ H xs a _ _ hq hx => S K H xs a hq hx) (fun _ H s e s' => none H s e s') w a b mg mb G X
end One
open PySem PySem.W PySem.Calls PyProof.Rows
theorem PySem.Challenge.cw_oneindex_s01_answers_holds : PySem.Challenge.rw_oneindex_s01_answers.Holds := by
  w_on
  refine HandSHeadRun.head_spec (r := PySem.Challenge.rw_oneindex_s01_answers) (q := One.qv) (H := One.hookX) (ob := One.obT) (M := 6000) (loose := One.names) (d := HandSHeadRun.topDef PySem.Challenge.rw_oneindex_s01_answers.prog 59) (kwd := []) One.obT_eq
    (by kernel_rfl) (fun s => by kernel_rfl) One.run (by kernel_rfl) (by kernel_rfl) (by kernel_rfl) os_shapes (by first | assumption | decide +kernel) (by decide +kernel) ⟨rfl, rfl, rfl, rfl, rfl, by decide +kernel⟩ ?hw ?hc
  case hw => exact ⟨[.list [.int 3]], by decide +kernel, by decide +kernel⟩
  case hc =>
    refine One.walk_found (r := PySem.Challenge.rw_oneindex_s01_answers) (k := 12) (Z := fun K => One.obsX K = One.valX) (CX := L2.CX0) (ps := ["calls"]) (sp := One.sp_answers) (by decide +kernel) (by kernel_rfl) rfl ⟨rfl, by decide, by decide⟩ (fun _ _ y => y) ?F ?S (fun _ _ _ _ z => z)
    case F =>
      intro K w mg fa h c KX G hmg
      have T := One.txt_of KX G c
      have hmg : mg ("answers" : PySem.Str) = some (.ref fa) := by
        have e : (HandSHeadRun.topDef PySem.Challenge.rw_oneindex_s01_answers.prog 59).name = ("answers" : PySem.Str) := by kernel_rfl
        rw [← e]
        exact hmg
      have e := hmg.symm.trans T.g_answers
      cases e
      obtain ⟨fd, F, b⟩ := One.ans_fd (congrArg (fun y : One.AlX => y.1) c)
      exact ⟨fd, b, fun base => One.ok_answersF T F⟩
    case S =>
      intro K H xs a hask hx
      cases hx with
      | cons h1 h2 =>
        cases h2
        cases h1 with
        | lst hs ha =>
          have e := L2.ints_dw a.1 _ ha
          subst e
          exact ⟨_, a.1, rfl, hs, hask, fun H' p hp => .lst (L2.SqL.of hp) (L2.dw_ints _)⟩
