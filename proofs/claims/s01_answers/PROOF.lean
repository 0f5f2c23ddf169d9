import PyProof.Rows.All
import Wide.All
import OpenK.AllK
import Wide.FinOn
import PyProof.EqAt
import PyProof.EqKinds
import PyProof.TupleCall
import Open.SpecLaws
import KE.OsGo
import PyWideLaws
import KE.BitLaws
import PySem.Challenge.RW_lostthings_s01_answers
import HandS.ForSpec
import HandS.Comp
import HandS.ExcInit
import HandS.ExcField
import HandS.Evl
set_option Elab.async false
set_option linter.all false
/-! Part 1: the mirror of the program on plain numbers, and that it answers as the specification says. No program in sight. -/
namespace My
/-- what an office has, as the program keeps it: a claim's value 10 is one that's left out -/
structure M where
  wrong : Nat
  things : List (List Nat)
  claims : List (List Nat)
def M.fresh (w : Nat) : M := ⟨w, [], []⟩
def isErr (told had : Nat) : Bool := told != 10 && told != had
def errs (c t : List Nat) : Nat := ((List.range 4).filter fun k => isErr (c.getD k 0) (t.getD k 0)).length
def M.nt (m : M) : Nat := m.things.length
def M.nc (m : M) : Nat := m.claims.length
def M.errors (m : M) (c t : Nat) : Nat := errs (m.claims.getD c []) (m.things.getD t [])
def M.fits (m : M) (c t : Nat) : Bool := decide (m.errors c t ≤ m.wrong)
def M.fitting (m : M) (c : Nat) : List Nat := (List.range m.nt).filter (m.fits c)
def M.given (m : M) (p : List Nat) : Nat := (p.filter fun t => !(t == m.nt)).length
def M.offTo (m : M) (p : List Nat) (i : Nat) : Nat := ((List.range i).map fun c => if p.getD c 0 = m.nt then 0 else m.errors c (p.getD c 0)).sum
def M.off (m : M) (p : List Nat) : Nat := m.offTo p p.length
def M.choices (m : M) (b : List Nat) : List Nat := ((m.fitting b.length).filter fun t => !b.contains t) ++ [m.nt]
def M.goneOn (m : M) (some : List (List Nat)) : List (List Nat) := some.flatMap fun b => (m.choices b).map fun t => b ++ [t]
def M.poss (m : M) : Nat → List (List Nat)
  | 0 => [[]]
  | k + 1 => m.goneOn (m.poss k)
def M.unfitAt (m : M) (p : List Nat) (c : Nat) : Bool := !(p.getD c 0 == m.nt) && !m.fits c (p.getD c 0)
def M.twiceAt (m : M) (p : List Nat) (c : Nat) : Bool := !(p.getD c 0 == m.nt) && (p.take c).contains (p.getD c 0)
def M.unfit (m : M) (p : List Nat) : Option Nat := (List.range p.length).find? (m.unfitAt p)
def M.twice (m : M) (p : List Nat) : Option Nat := (List.range p.length).find? (m.twiceAt p)
def most (l : List Nat) : Nat := l.foldl max 0
def least : List Nat → Nat
  | [] => 0
  | a :: r => r.foldl min a
def M.fulls (m : M) : List (List Nat) := (m.poss m.nc).filter fun p => m.given p == most ((m.poss m.nc).map m.given)
def M.bests (m : M) : List (List Nat) := m.fulls.filter fun p => m.off p == least (m.fulls.map m.off)
def M.has (m : M) (c : Nat) : List Nat := (List.range (m.nt + 1)).filter fun t => (m.fulls.map fun p => p.getD c 0).contains t
def M.claimsIn (m : M) (s : Nat) : List Nat := (List.range m.nc).filter fun c => s.testBit c
def M.fitsOne (m : M) (some : List Nat) (t : Nat) : Bool := some.any fun c => m.fits c t
def M.thingsFor (m : M) (s : Nat) : List Nat := (List.range m.nt).filter fun t => m.fitsOne (m.claimsIn s) t
def M.shortBy (m : M) (s : Nat) : Nat := (m.claimsIn s).length - (m.thingsFor s).length
def M.worse (m : M) (f s : Nat) : Nat := if m.shortBy f < m.shortBy s then s else f
def M.shortest (m : M) : Nat := (List.range (2 ^ m.nc)).foldl m.worse 0
def M.isPlan (m : M) (p : List Nat) : Bool := p.length == m.nc && p.all fun t => decide (t ≤ m.nt)
def zs (l : List Nat) : List Int := l.map fun (n : Nat) => (n : Int)
/-- what a call does: what is had then, what is answered; true: it is refused -/
structure Out where
  m : M
  bad : Bool
  l : List Int
def no (m : M) (l : List Int) : Out := ⟨m, true, l⟩
def M.begins (m : M) (w : Nat) : Out := if w ≤ 4 then ⟨M.fresh w, false, [0]⟩ else no m [-1]
def M.thing (m : M) (f : List Nat) : Out := if (f.all fun v => decide (v ≤ 9)) = true then (if m.nt < 5 then ⟨{ m with things := m.things ++ [f] }, false, [(m.nt : Int)]⟩ else no m [-5]) else no m [-1]
def M.claim (m : M) (f : List Nat) : Out := if (f.all fun v => decide (v ≤ 10)) = true then (if m.nc < 5 then ⟨{ m with claims := m.claims ++ [f] }, false, [(m.nc : Int)]⟩ else no m [-5]) else no m [-1]
def M.fitsC (m : M) (c : Nat) : Out := if c < m.nc then ⟨m, false, ((m.fitting c).length : Int) :: zs ((m.fitting c).flatMap fun t => [t, m.errors c t])⟩ else no m [-2]
def M.check (m : M) (p : List Nat) : Out := if m.isPlan p = true then (match m.unfit p with
    | some c => no m [-6, (c : Int)]
    | none => match m.twice p with
      | some c => no m [-7, (c : Int)]
      | none => ⟨m, false, [(m.given p : Int), (m.off p : Int)]⟩) else no m [-1]
def M.best (m : M) : Out := ⟨m, false, [(m.given (m.bests.headD []) : Int), (m.off (m.bests.headD []) : Int), (m.bests.length : Int)] ++ zs (m.bests.headD [])⟩
def M.hasC (m : M) (c : Nat) : Out := if c < m.nc then ⟨m, false, ((m.has c).length : Int) :: zs (m.has c)⟩ else no m [-2]
def M.why (m : M) : Out := ⟨m, false, [(m.shortBy m.shortest : Int), (m.shortest : Int)] ++ zs (m.thingsFor m.shortest)⟩
/-- which call it is, and its numbers -/
def M.deed (m : M) (w : Nat) (p : List Nat) : Out :=
  if w = 0 then m.begins (p.headD 0) else if w = 1 then m.thing p else if w = 2 then m.claim p else if w = 3 then m.fitsC (p.headD 0) else if w = 4 then m.check p else if w = 5 then m.best else if w = 6 then m.hasC (p.headD 0) else m.why
/-- what always holds of what is had -/
structure M.Wf (m : M) : Prop where
  t5 : m.things.length ≤ 5
  c5 : m.claims.length ≤ 5
  t4 : ∀ f ∈ m.things, f.length = 4
  c4 : ∀ f ∈ m.claims, f.length = 4

/-! ### the specification's office -/
def opt (v : Nat) : Option Nat := if v = 10 then none else some v
def M.o (m : M) : Si86.Office := ⟨m.wrong, m.things, m.claims.map fun f => f.map opt⟩
theorem o_none (m : M) : m.o.none_ = m.nt := rfl
theorem o_nc (m : M) : m.o.claims.length = m.nc := List.length_map ..
theorem getD_lt {α : Type} {l : List α} {i : Nat} {d : α} (h : i < l.length) : l.getD i d = l[i] := by
  rw [List.getD_eq_getElem?_getD, List.getElem?_eq_getElem h]
  rfl
theorem getD_mem {α : Type} {l : List α} {i : Nat} {d : α} (h : i < l.length) : l.getD i d ∈ l := by
  rw [getD_lt h]
  exact List.getElem_mem h
theorem errors_eq {m : M} (W : m.Wf) {c t : Nat} (hc : c < m.nc) : m.o.errors c t = m.errors c t := by
  unfold Si86.Office.errors M.errors errs
  refine congrArg List.length (List.filter_congr fun k hk => ?_)
  have hk4 : k < 4 := List.mem_range.mp hk
  have e1 : m.o.claim c = (m.claims.getD c []).map opt := by
    show (m.claims.map fun f => f.map opt).getD c [] = _
    have hc' : c < m.claims.length := hc
    rw [getD_lt (by rw [List.length_map]; exact hc'), List.getElem_map, getD_lt hc']
  have l4 : (m.claims.getD c []).length = 4 := W.c4 _ (getD_mem hc)
  have hk' : k < (m.claims.getD c []).length := by rw [l4]; exact hk4
  rw [e1, getD_lt (by rw [List.length_map]; exact hk'), List.getElem_map, getD_lt hk']
  show (match opt ((m.claims.getD c [])[k]) with
    | none => false
    | some v => v != (m.things.getD t []).getD k 0) = isErr ((m.claims.getD c [])[k]) ((m.things.getD t []).getD k 0)
  generalize (m.claims.getD c [])[k] = v
  generalize (m.things.getD t []).getD k 0 = u
  unfold opt isErr
  by_cases h : v = 10
  · subst h
    simp
  · rw [if_neg h]
    simp [h]
theorem fits_eq {m : M} (W : m.Wf) {c t : Nat} (hc : c < m.nc) (ht : t < m.nt) : m.o.fits c t = m.fits c t := by
  unfold Si86.Office.fits M.fits
  rw [errors_eq W hc, o_nc, decide_eq_true hc, decide_eq_true (show t < m.o.things.length from ht)]
  rfl

/-! ### the plans -/
theorem rows_snoc (k : Nat) : ∀ n : Nat, Si86.rows k (n + 1) = (Si86.rows k n).flatMap fun l => (List.range (k + 1)).map fun t => l ++ [t]
  | 0 => by
    show ((List.range (k + 1)).flatMap fun t => ([[]] : List (List Nat)).map fun l => t :: l) = ([[]] : List (List Nat)).flatMap fun l => (List.range (k + 1)).map fun t => l ++ [t]
    rw [List.flatMap_cons, List.flatMap_nil, List.append_nil]
    induction List.range (k + 1) with
    | nil => rfl
    | cons a r ih =>
      rw [List.flatMap_cons, List.map_cons, ih]
      rfl
  | n + 1 => by
    have ih := rows_snoc k n
    show ((List.range (k + 1)).flatMap fun t => (Si86.rows k (n + 1)).map fun l => t :: l) = ((List.range (k + 1)).flatMap fun t => (Si86.rows k n).map fun l => t :: l).flatMap fun l => (List.range (k + 1)).map fun t => l ++ [t]
    rw [ih, List.flatMap_assoc]
    refine congrArg (fun f => List.flatMap f (List.range (k + 1))) (funext fun t => ?_)
    rw [List.map_flatMap, List.flatMap_map]
    refine congrArg (fun f => List.flatMap f (Si86.rows k n)) (funext fun l => ?_)
    rw [List.map_map]
    rfl
theorem rows_in {k : Nat} : ∀ {n : Nat} {l : List Nat}, l ∈ Si86.rows k n → l.length = n ∧ ∀ t ∈ l, t ≤ k
  | 0, l, h => by
    have e : l = [] := by
      have h' : l ∈ ([[]] : List (List Nat)) := h
      simpa using h'
    subst e
    exact ⟨rfl, fun t h => by cases h⟩
  | n + 1, l, h => by
    have h' : l ∈ (List.range (k + 1)).flatMap fun t => (Si86.rows k n).map fun l => t :: l := h
    obtain ⟨t, ht, h2⟩ := List.mem_flatMap.mp h'
    obtain ⟨r, hr, e⟩ := List.mem_map.mp h2
    subst e
    obtain ⟨a, b⟩ := rows_in hr
    refine ⟨by rw [List.length_cons, a], fun u hu => ?_⟩
    have hk := List.mem_range.mp ht
    rcases List.mem_cons.mp hu with e | e
    · omega
    · exact b u e
/-- a beginning that can be -/
def M.okAt (m : M) (l : List Nat) (c : Nat) : Bool := l.getD c 0 == m.nt || (m.fits c (l.getD c 0) && !(l.take c).contains (l.getD c 0))
def M.ok (m : M) (l : List Nat) : Bool := (List.range l.length).all (m.okAt l)
theorem all_congr {α : Type} {l : List α} {p q : α → Bool} (h : ∀ x ∈ l, p x = q x) : l.all p = l.all q := by
  induction l with
  | nil => rfl
  | cons a r ih =>
    rw [List.all_cons, List.all_cons, h a List.mem_cons_self, ih fun x hx => h x (List.mem_cons_of_mem _ hx)]
theorem getD_app_left {α : Type} {l r : List α} {i : Nat} {d : α} (h : i < l.length) : (l ++ r).getD i d = l.getD i d := by
  rw [List.getD_eq_getElem?_getD, List.getD_eq_getElem?_getD, List.getElem?_append_left h]
theorem getD_app_last {α : Type} {l : List α} {x d : α} : (l ++ [x]).getD l.length d = x := by
  rw [List.getD_eq_getElem?_getD, List.getElem?_append_right (Nat.le_refl _), Nat.sub_self]
  rfl
theorem ok_snoc (m : M) (l : List Nat) (t : Nat) : m.ok (l ++ [t]) = (m.ok l && (t == m.nt || (m.fits l.length t && !l.contains t))) := by
  unfold M.ok
  rw [List.length_append, List.length_singleton, List.range_succ, List.all_append]
  congr 1
  · refine all_congr fun c hc => ?_
    have hc' := List.mem_range.mp hc
    unfold M.okAt
    rw [getD_app_left hc', List.take_append_of_le_length (Nat.le_of_lt hc')]
  · rw [List.all_cons, List.all_nil, Bool.and_true]
    unfold M.okAt
    rw [getD_app_last, List.take_left]
theorem flatMap_filter {α β : Type} (p : α → Bool) (f : α → List β) : ∀ l : List α, (l.filter p).flatMap f = l.flatMap fun x => if p x = true then f x else []
  | [] => rfl
  | a :: r => by
    rw [List.flatMap_cons, ← flatMap_filter p f r]
    by_cases h : p a = true
    · rw [List.filter_cons_of_pos h, List.flatMap_cons, if_pos h]
    · rw [List.filter_cons_of_neg h, if_neg h, List.nil_append]
theorem flatMap_congr {α β : Type} {f g : α → List β} : ∀ {l : List α}, (∀ x ∈ l, f x = g x) → l.flatMap f = l.flatMap g
  | [], _ => rfl
  | a :: r, h => by
    rw [List.flatMap_cons, List.flatMap_cons, h a List.mem_cons_self, flatMap_congr fun x hx => h x (List.mem_cons_of_mem _ hx)]
theorem choices_eq (m : M) (l : List Nat) : (List.range (m.nt + 1)).filter (fun t => m.ok (l ++ [t])) = if m.ok l = true then m.choices l else [] := by
  by_cases h : m.ok l = true
  · rw [if_pos h, List.range_succ, List.filter_append]
    unfold M.choices M.fitting
    congr 1
    · rw [List.filter_filter]
      refine List.filter_congr fun t ht => ?_
      have ht' : t < m.nt := List.mem_range.mp ht
      have hn : (t == m.nt) = false := by
        rw [beq_eq_false_iff_ne]
        omega
      rw [ok_snoc, h, hn]
      show (m.fits l.length t && !l.contains t) = _
      rw [Bool.and_comm]
    · rw [List.filter_cons_of_pos (by rw [ok_snoc, h, beq_self_eq_true]; rfl)]
      rfl
  · rw [if_neg h]
    refine List.filter_eq_nil_iff.mpr fun t _ => ?_
    rw [ok_snoc]
    cases e : m.ok l with
    | true => exact absurd e h
    | false => simp
theorem poss_eq (m : M) : ∀ k : Nat, m.poss k = (Si86.rows m.nt k).filter m.ok
  | 0 => rfl
  | k + 1 => by
    show m.goneOn (m.poss k) = _
    rw [poss_eq m k, rows_snoc]
    unfold M.goneOn
    rw [flatMap_filter, List.filter_flatMap]
    refine flatMap_congr fun l _ => ?_
    rw [List.filter_map]
    show _ = ((List.range (m.nt + 1)).filter fun t => m.ok (l ++ [t])).map fun t => l ++ [t]
    rw [choices_eq]
    by_cases h : m.ok l = true
    · rw [if_pos h, if_pos h]
    · rw [if_neg h, if_neg h]
      rfl
theorem find_congr {α : Type} {p q : α → Bool} : ∀ {l : List α}, (∀ x ∈ l, p x = q x) → l.find? p = l.find? q
  | [], _ => rfl
  | a :: r, h => by
    rw [List.find?_cons, List.find?_cons, h a List.mem_cons_self, find_congr fun x hx => h x (List.mem_cons_of_mem _ hx)]
theorem any_range_take (l : List Nat) (c : Nat) (x : Nat) (hc : c ≤ l.length) : (List.range c).any (fun d => l.getD d 0 == x) = (l.take c).contains x := by
  rw [Bool.eq_iff_iff, List.any_eq_true, List.contains_iff_mem]
  constructor
  · rintro ⟨d, hd, e⟩
    have hd' := List.mem_range.mp hd
    have e' : l.getD d 0 = x := by simpa using e
    rw [← e', getD_lt (by omega)]
    refine List.mem_iff_getElem.mpr ⟨d, by rw [List.length_take]; omega, ?_⟩
    rw [List.getElem_take]
  · intro h
    obtain ⟨d, hd, e⟩ := List.mem_iff_getElem.mp h
    rw [List.length_take] at hd
    refine ⟨d, List.mem_range.mpr (by omega), ?_⟩
    rw [List.getElem_take] at e
    rw [getD_lt (by omega), e]
    exact beq_self_eq_true x
theorem bad_eq {m : M} (W : m.Wf) {l : List Nat} (hl : l.length = m.nc) (ht : ∀ t ∈ l, t ≤ m.nt) : m.o.bad l = m.unfit l := by
  unfold Si86.Office.bad M.unfit
  refine find_congr fun c hc => ?_
  have hc' : c < l.length := List.mem_range.mp hc
  unfold M.unfitAt
  show (!(l.getD c 0 == m.nt) && !m.o.fits c (l.getD c 0)) = _
  by_cases h : l.getD c 0 = m.nt
  · rw [h, beq_self_eq_true]
    rfl
  · have := ht _ (getD_mem (d := 0) hc')
    rw [fits_eq W (by omega) (by omega)]
theorem twice_eq {m : M} {l : List Nat} : m.o.twice l = m.twice l := by
  unfold Si86.Office.twice M.twice
  refine find_congr fun c hc => ?_
  have hc' : c < l.length := List.mem_range.mp hc
  unfold M.twiceAt
  show (!(l.getD c 0 == m.nt) && _) = _
  rw [any_range_take l c _ (Nat.le_of_lt hc')]
theorem none_iff_all {α : Type} {p q : α → Bool} : ∀ {l : List α}, ((l.find? p).isNone && (l.find? q).isNone) = l.all fun x => !p x && !q x
  | [] => rfl
  | a :: r => by
    rw [List.all_cons, ← none_iff_all (l := r), List.find?_cons, List.find?_cons]
    cases p a <;> cases q a <;> simp
theorem told_eq {m : M} {l : List Nat} : m.o.told l = m.isPlan l := by
  unfold Si86.Office.told M.isPlan
  rw [o_nc]
  rfl
theorem isPlan_of {m : M} {l : List Nat} (hl : l.length = m.nc) (ht : ∀ t ∈ l, t ≤ m.nt) : m.isPlan l = true := by
  unfold M.isPlan
  rw [hl, beq_self_eq_true, Bool.true_and]
  exact List.all_eq_true.mpr fun t h => decide_eq_true (ht t h)
theorem of_isPlan {m : M} {l : List Nat} (h : m.isPlan l = true) : l.length = m.nc ∧ ∀ t ∈ l, t ≤ m.nt := by
  unfold M.isPlan at h
  rw [Bool.and_eq_true] at h
  exact ⟨by simpa using h.1, fun t ht => of_decide_eq_true (List.all_eq_true.mp h.2 t ht)⟩
theorem right_eq {m : M} (W : m.Wf) {l : List Nat} (hl : l.length = m.nc) (ht : ∀ t ∈ l, t ≤ m.nt) : m.o.right l = m.ok l := by
  unfold Si86.Office.right
  rw [told_eq, isPlan_of hl ht, Bool.true_and, bad_eq W hl ht, twice_eq]
  unfold M.unfit M.twice M.ok
  rw [none_iff_all]
  refine all_congr fun c _ => ?_
  unfold M.unfitAt M.twiceAt M.okAt
  cases l.getD c 0 == m.nt <;> cases m.fits c (l.getD c 0) <;> cases (l.take c).contains (l.getD c 0) <;> rfl
theorem plans_eq {m : M} (W : m.Wf) : m.o.plans = m.poss m.nc := by
  unfold Si86.Office.plans
  rw [poss_eq, o_nc]
  refine List.filter_congr fun l hl => ?_
  obtain ⟨a, b⟩ := rows_in hl
  exact right_eq W a b
theorem poss_in {m : M} {k : Nat} {l : List Nat} (h : l ∈ m.poss k) : l.length = k ∧ ∀ t ∈ l, t ≤ m.nt := by
  rw [poss_eq] at h
  exact rows_in (List.mem_filter.mp h).1
theorem fulls_eq {m : M} (W : m.Wf) : m.o.fulls = m.fulls := by
  unfold Si86.Office.fulls M.fulls
  rw [plans_eq W]
  rfl
theorem fulls_in {m : M} {l : List Nat} (h : l ∈ m.fulls) : l.length = m.nc ∧ ∀ t ∈ l, t ≤ m.nt := poss_in (List.mem_filter.mp h).1
theorem off_eq {m : M} (W : m.Wf) {l : List Nat} (hl : l.length ≤ m.nc) : m.o.off l = m.off l := by
  unfold Si86.Office.off M.off M.offTo
  refine congrArg List.sum (List.map_congr_left fun c hc => ?_)
  have hc' : c < l.length := List.mem_range.mp hc
  by_cases h : l.getD c 0 = m.nt
  · rw [if_pos (show l.getD c 0 = m.o.none_ from h), if_pos h]
  · rw [if_neg (show ¬ l.getD c 0 = m.o.none_ from h), if_neg h, errors_eq W (by omega)]

/-! ### most, least -/
theorem foldl_max_ge : ∀ (l : List Nat) (a : Nat), a ≤ l.foldl max a ∧ ∀ x ∈ l, x ≤ l.foldl max a
  | [], a => ⟨Nat.le_refl _, fun x h => by cases h⟩
  | b :: r, a => by
    obtain ⟨h1, h2⟩ := foldl_max_ge r (max a b)
    rw [List.foldl_cons]
    refine ⟨Nat.le_trans (Nat.le_max_left a b) h1, fun x hx => ?_⟩
    rcases List.mem_cons.mp hx with e | e
    · rw [e]
      exact Nat.le_trans (Nat.le_max_right a b) h1
    · exact h2 x e
theorem foldl_max_le {u : Nat} : ∀ (l : List Nat) (a : Nat), a ≤ u → (∀ x ∈ l, x ≤ u) → l.foldl max a ≤ u
  | [], a, h, _ => h
  | b :: r, a, h, k => by
    rw [List.foldl_cons]
    exact foldl_max_le r (max a b) (Nat.max_le.mpr ⟨h, k b List.mem_cons_self⟩) fun x hx => k x (List.mem_cons_of_mem _ hx)
theorem most_is {l : List Nat} {x : Nat} (h : x ∈ l) (k : ∀ y ∈ l, y ≤ x) : most l = x :=
  Nat.le_antisymm (foldl_max_le l 0 (Nat.zero_le _) k) ((foldl_max_ge l 0).2 x h)
theorem foldl_min_le : ∀ (l : List Nat) (a : Nat), l.foldl min a ≤ a ∧ ∀ x ∈ l, l.foldl min a ≤ x
  | [], a => ⟨Nat.le_refl _, fun x h => by cases h⟩
  | b :: r, a => by
    obtain ⟨h1, h2⟩ := foldl_min_le r (min a b)
    rw [List.foldl_cons]
    refine ⟨Nat.le_trans h1 (Nat.min_le_left a b), fun x hx => ?_⟩
    rcases List.mem_cons.mp hx with e | e
    · rw [e]
      exact Nat.le_trans h1 (Nat.min_le_right a b)
    · exact h2 x e
theorem foldl_min_ge {u : Nat} : ∀ (l : List Nat) (a : Nat), u ≤ a → (∀ x ∈ l, u ≤ x) → u ≤ l.foldl min a
  | [], a, h, _ => h
  | b :: r, a, h, k => by
    rw [List.foldl_cons]
    exact foldl_min_ge r (min a b) (Nat.le_min.mpr ⟨h, k b List.mem_cons_self⟩) fun x hx => k x (List.mem_cons_of_mem _ hx)
theorem least_is {l : List Nat} {x : Nat} (h : x ∈ l) (k : ∀ y ∈ l, x ≤ y) : least l = x := by
  cases l with
  | nil => cases h
  | cons a r =>
    refine Nat.le_antisymm ?_ (foldl_min_ge r a (k a List.mem_cons_self) fun y hy => k y (List.mem_cons_of_mem _ hy))
    rcases List.mem_cons.mp h with e | e
    · rw [e]
      exact (foldl_min_le r a).1
    · exact (foldl_min_le r a).2 x e
theorem least_le {l : List Nat} {x : Nat} (h : x ∈ l) : least l ≤ x := by
  cases l with
  | nil => cases h
  | cons a r =>
    rcases List.mem_cons.mp h with e | e
    · rw [e]
      exact (foldl_min_le r a).1
    · exact (foldl_min_le r a).2 x e
theorem foldl_min_mem : ∀ (l : List Nat) (a : Nat), l.foldl min a = a ∨ l.foldl min a ∈ l
  | [], a => .inl rfl
  | b :: r, a => by
    rw [List.foldl_cons]
    rcases foldl_min_mem r (min a b) with e | e
    · rcases Nat.le_total a b with h | h
      · left
        rw [e, Nat.min_eq_left h]
      · right
        rw [e, Nat.min_eq_right h]
        exact List.mem_cons_self
    · exact .inr (List.mem_cons_of_mem _ e)
theorem least_mem {l : List Nat} (h : l ≠ []) : least l ∈ l := by
  cases l with
  | nil => exact absurd rfl h
  | cons a r =>
    rcases foldl_min_mem r a with e | e
    · show r.foldl min a ∈ a :: r
      rw [e]
      exact List.mem_cons_self
    · exact List.mem_cons_of_mem _ e
theorem foldl_max_mem : ∀ (l : List Nat) (a : Nat), l.foldl max a = a ∨ l.foldl max a ∈ l
  | [], a => .inl rfl
  | b :: r, a => by
    rw [List.foldl_cons]
    rcases foldl_max_mem r (max a b) with e | e
    · rcases Nat.le_total a b with h | h
      · right
        rw [e, Nat.max_eq_right h]
        exact List.mem_cons_self
      · left
        rw [e, Nat.max_eq_left h]
    · exact .inr (List.mem_cons_of_mem _ e)
theorem most_mem {l : List Nat} (h : l ≠ []) : most l ∈ l := by
  rcases foldl_max_mem l 0 with e | e
  · cases l with
    | nil => exact absurd rfl h
    | cons a r =>
      have h1 := (foldl_max_ge (a :: r) 0).2 a List.mem_cons_self
      rw [e] at h1
      have : a = 0 := by omega
      show (a :: r).foldl max 0 ∈ a :: r
      rw [e, this]
      exact List.mem_cons_self
  · exact e

/-! ### there are plans, full ones, best ones -/
theorem choices_ne (m : M) (b : List Nat) : m.choices b ≠ [] := by
  unfold M.choices
  intro h
  have := congrArg List.length h
  rw [List.length_append] at this
  simp at this
theorem poss_ne (m : M) : ∀ k : Nat, m.poss k ≠ []
  | 0 => by
    intro h
    cases h
  | k + 1 => by
    intro h
    have h' : m.goneOn (m.poss k) = [] := h
    unfold M.goneOn at h'
    cases e : m.poss k with
    | nil => exact poss_ne m k e
    | cons b r =>
      rw [e, List.flatMap_cons] at h'
      have h2 := (List.append_eq_nil_iff.mp h').1
      exact choices_ne m b (List.map_eq_nil_iff.mp h2)
theorem fulls_ne (m : M) : m.fulls ≠ [] := by
  have h : most ((m.poss m.nc).map m.given) ∈ (m.poss m.nc).map m.given := most_mem fun e => poss_ne m m.nc (List.map_eq_nil_iff.mp e)
  obtain ⟨p, hp, e⟩ := List.mem_map.mp h
  intro e2
  have : p ∈ m.fulls := List.mem_filter.mpr ⟨hp, by rw [e]; exact beq_self_eq_true _⟩
  rw [e2] at this
  cases this
theorem bests_ne (m : M) : m.bests ≠ [] := by
  have h : least (m.fulls.map m.off) ∈ m.fulls.map m.off := least_mem fun e => fulls_ne m (List.map_eq_nil_iff.mp e)
  obtain ⟨p, hp, e⟩ := List.mem_map.mp h
  intro e2
  have : p ∈ m.bests := List.mem_filter.mpr ⟨hp, by rw [e]; exact beq_self_eq_true _⟩
  rw [e2] at this
  cases this
theorem bests_in {m : M} {l : List Nat} (h : l ∈ m.bests) : l ∈ m.fulls ∧ m.off l = least (m.fulls.map m.off) :=
  ⟨(List.mem_filter.mp h).1, by simpa using (List.mem_filter.mp h).2⟩

/-! ### how many -/
theorem range_len_le {p : Nat → Bool} (n : Nat) : ((List.range n).filter p).length ≤ n := by
  have := List.length_filter_le p (List.range n)
  rw [List.length_range] at this
  exact this
theorem choices_len (m : M) (b : List Nat) : (m.choices b).length ≤ m.nt + 1 := by
  unfold M.choices
  rw [List.length_append, List.length_singleton]
  have h1 := List.length_filter_le (fun t => !b.contains t) (m.fitting b.length)
  have h2 : (m.fitting b.length).length ≤ m.nt := range_len_le _
  omega
theorem goneOn_len (m : M) : ∀ l : List (List Nat), (m.goneOn l).length ≤ l.length * (m.nt + 1)
  | [] => Nat.zero_le _
  | b :: r => by
    show (((m.choices b).map fun t => b ++ [t]) ++ m.goneOn r).length ≤ (r.length + 1) * (m.nt + 1)
    have h1 := goneOn_len m r
    have h2 := choices_len m b
    rw [List.length_append, List.length_map, Nat.add_mul, Nat.one_mul]
    omega
theorem poss_len (m : M) : ∀ k : Nat, (m.poss k).length ≤ (m.nt + 1) ^ k
  | 0 => Nat.le_refl _
  | k + 1 => by
    have h1 := goneOn_len m (m.poss k)
    have h2 := Nat.mul_le_mul_right (m.nt + 1) (poss_len m k)
    rw [Nat.pow_succ]
    exact Nat.le_trans h1 h2
theorem poss_small {m : M} (W : m.Wf) {k : Nat} (hk : k ≤ 5) : (m.poss k).length ≤ 7776 := by
  have h1 := poss_len m k
  have h2 : (m.nt + 1) ^ k ≤ 6 ^ k := Nat.pow_le_pow_left (by have := W.t5; unfold M.nt; omega) k
  have h3 : 6 ^ k ≤ 6 ^ 5 := Nat.pow_le_pow_right (by omega) hk
  have h4 : 6 ^ 5 = 7776 := by decide
  omega
theorem fulls_small {m : M} (W : m.Wf) : m.fulls.length ≤ 7776 :=
  Nat.le_trans (List.length_filter_le _ _) (poss_small W W.c5)

/-! ### the best ones -/
theorem offs_yes {m : M} {a : List Nat} {d : Nat} (h : (m.off a == d) = true) (r : List (List Nat)) : ((a :: r).filter fun l => m.off l == d) = a :: r.filter fun l => m.off l == d := List.filter_cons_of_pos (p := fun l => m.off l == d) h
theorem offs_no {m : M} {a : List Nat} {d : Nat} (h : ¬ (m.off a == d) = true) (r : List (List Nat)) : ((a :: r).filter fun l => m.off l == d) = r.filter fun l => m.off l == d := List.filter_cons_of_neg (p := fun l => m.off l == d) h
def pick (m : M) (r : Option Si86.Best) (l : List Nat) : Option Si86.Best := match r with
  | none => some ⟨m.off l, 1, l⟩
  | some x => if m.off l < x.off then some ⟨m.off l, 1, l⟩ else if m.off l = x.off then some { x with many := x.many + 1 } else some x
theorem pick_some (m : M) : ∀ (L : List (List Nat)) (x : Si86.Best), ∃ y, L.foldl (pick m) (some x) = some y ∧ y.off = (L.map m.off).foldl min x.off ∧
    (y.off = x.off → y.many = x.many + (L.filter fun l => m.off l == y.off).length ∧ y.row = x.row) ∧
    (y.off ≠ x.off → y.many = (L.filter fun l => m.off l == y.off).length ∧ y.row = (L.filter fun l => m.off l == y.off).headD [])
  | [], x => ⟨x, rfl, rfl, fun _ => ⟨rfl, rfl⟩, fun h => absurd rfl h⟩
  | a :: r, x => by
    rw [List.foldl_cons, List.map_cons, List.foldl_cons]
    by_cases h1 : m.off a < x.off
    · have e : pick m (some x) a = some ⟨m.off a, 1, a⟩ := if_pos h1
      rw [e]
      obtain ⟨y, h, ho, hs, hn⟩ := pick_some m r ⟨m.off a, 1, a⟩
      rw [Nat.min_eq_right (Nat.le_of_lt h1)]
      have hle := (foldl_min_le (r.map m.off) (m.off a)).1
      have ho' : y.off = (r.map m.off).foldl min (m.off a) := ho
      refine ⟨y, h, ho, fun q => absurd q (by omega), fun _ => ?_⟩
      by_cases h2 : y.off = m.off a
      · obtain ⟨a1, a2⟩ := hs h2
        have e2 : (m.off a == y.off) = true := by simp [h2]
        rw [offs_yes e2, List.length_cons, a1, a2]
        exact ⟨Nat.add_comm _ _, rfl⟩
      · obtain ⟨a1, a2⟩ := hn h2
        have e2 : ¬ (m.off a == y.off) = true := by
          intro q
          exact h2 (by simpa using q : m.off a = y.off).symm
        rw [offs_no e2]
        exact ⟨a1, a2⟩
    · have hge : x.off ≤ m.off a := Nat.le_of_not_lt h1
      rw [Nat.min_eq_left hge]
      by_cases h3 : m.off a = x.off
      · have e : pick m (some x) a = some { x with many := x.many + 1 } := (if_neg h1).trans (if_pos h3)
        rw [e]
        obtain ⟨y, h, ho, hs, hn⟩ := pick_some m r { x with many := x.many + 1 }
        refine ⟨y, h, ho, fun q => ?_, fun q => ?_⟩
        · obtain ⟨a1, a2⟩ := hs q
          have e2 : (m.off a == y.off) = true := by simp [h3, q]
          rw [offs_yes e2, List.length_cons, a1, a2]
          exact ⟨by show x.many + 1 + _ = x.many + (_ + 1); omega, rfl⟩
        · have e2 : ¬ (m.off a == y.off) = true := by
            intro z
            exact q ((by simpa using z : m.off a = y.off).symm.trans h3)
          rw [offs_no e2]
          exact hn q
      · have e : pick m (some x) a = some x := (if_neg h1).trans (if_neg h3)
        rw [e]
        obtain ⟨y, h, ho, hs, hn⟩ := pick_some m r x
        have hle := (foldl_min_le (r.map m.off) x.off).1
        have e2 : ¬ (m.off a == y.off) = true := by
          intro z
          have z' : m.off a = y.off := by simpa using z
          omega
        refine ⟨y, h, ho, fun q => ?_, fun q => ?_⟩
        · rw [offs_no e2]
          exact hs q
        · rw [offs_no e2]
          exact hn q
theorem foldl_congr {α β : Type} {f g : β → α → β} : ∀ {l : List α} {b : β}, (∀ c, ∀ x ∈ l, f c x = g c x) → l.foldl f b = l.foldl g b
  | [], _, _ => rfl
  | a :: r, b, h => by
    rw [List.foldl_cons, List.foldl_cons, h b a List.mem_cons_self]
    exact foldl_congr fun c x hx => h c x (List.mem_cons_of_mem _ hx)
theorem best_eq {m : M} (W : m.Wf) : m.o.best = some ⟨least (m.fulls.map m.off), m.bests.length, m.bests.headD []⟩ := by
  have e : m.o.best = m.fulls.foldl (pick m) none := by
    unfold Si86.Office.best
    rw [fulls_eq W]
    refine foldl_congr fun r l hl => ?_
    have hl' := (fulls_in hl).1
    unfold pick
    rw [off_eq W (Nat.le_of_eq hl')]
    cases r <;> rfl
  rw [e]
  unfold M.bests
  have hne := fulls_ne m
  generalize m.fulls = L at hne
  cases L with
  | nil => exact absurd rfl hne
  | cons a r =>
    rw [List.foldl_cons]
    obtain ⟨y, h, ho, hs, hn⟩ := pick_some m r ⟨m.off a, 1, a⟩
    have e1 : pick m none a = some ⟨m.off a, 1, a⟩ := rfl
    have ho' : y.off = least ((a :: r).map m.off) := ho
    rw [e1, h, ← ho']
    refine congrArg some ?_
    by_cases h2 : y.off = m.off a
    · obtain ⟨a1, a2⟩ := hs h2
      have e2 : (m.off a == y.off) = true := by simp [h2]
      rw [offs_yes e2, List.length_cons, List.headD_cons]
      obtain ⟨yo, ym, yr⟩ := y
      have a1' : ym = 1 + (r.filter fun l => m.off l == yo).length := a1
      have a2' : yr = a := a2
      show Si86.Best.mk yo ym yr = Si86.Best.mk yo _ _
      rw [a1', a2', Nat.add_comm]
    · obtain ⟨a1, a2⟩ := hn h2
      have e2 : ¬ (m.off a == y.off) = true := by
        intro q
        exact h2 (by simpa using q : m.off a = y.off).symm
      rw [offs_no e2]
      obtain ⟨yo, ym, yr⟩ := y
      have a1' : ym = (r.filter fun l => m.off l == yo).length := a1
      have a2' : yr = (r.filter fun l => m.off l == yo).headD [] := a2
      show Si86.Best.mk yo ym yr = Si86.Best.mk yo _ _
      rw [a1', a2']
theorem headD_mem {α : Type} {l : List α} {d : α} (h : l ≠ []) : l.headD d ∈ l := by
  cases l with
  | nil => exact absurd rfl h
  | cons a r => exact List.mem_cons_self
theorem best_off (m : M) : m.off (m.bests.headD []) = least (m.fulls.map m.off) := (bests_in (headD_mem (bests_ne m))).2

/-! ### has, why -/
theorem has_eq {m : M} (W : m.Wf) (c : Nat) : m.o.has c = m.has c := by
  unfold Si86.Office.has M.has
  rw [fulls_eq W]
  refine List.filter_congr fun t _ => ?_
  rw [Bool.eq_iff_iff, List.any_eq_true, List.contains_iff_mem, List.mem_map]
  constructor
  · rintro ⟨p, hp, e⟩
    exact ⟨p, hp, by simpa using e⟩
  · rintro ⟨p, hp, e⟩
    exact ⟨p, hp, by simpa using e⟩
theorem members_eq (m : M) (s : Nat) : m.o.members s = m.claimsIn s := by
  unfold Si86.Office.members M.claimsIn
  rw [o_nc]
theorem any_congr {α : Type} {l : List α} {p q : α → Bool} (h : ∀ x ∈ l, p x = q x) : l.any p = l.any q := by
  induction l with
  | nil => rfl
  | cons a r ih =>
    rw [List.any_cons, List.any_cons, h a List.mem_cons_self, ih fun x hx => h x (List.mem_cons_of_mem _ hx)]
theorem reach_eq {m : M} (W : m.Wf) (s : Nat) : m.o.reach s = m.thingsFor s := by
  unfold Si86.Office.reach M.thingsFor
  refine List.filter_congr fun t ht => ?_
  rw [members_eq]
  unfold M.fitsOne
  refine any_congr fun c hc => ?_
  exact fits_eq W (List.mem_range.mp (List.mem_filter.mp hc).1) (List.mem_range.mp ht)
theorem short_eq {m : M} (W : m.Wf) (s : Nat) : m.o.short s = m.shortBy s := by
  unfold Si86.Office.short M.shortBy
  rw [members_eq, reach_eq W]
theorem why_eq {m : M} (W : m.Wf) : m.o.why = m.shortest := by
  unfold Si86.Office.why M.shortest
  rw [o_nc]
  refine foldl_congr fun f s _ => ?_
  rw [short_eq W, short_eq W]
  rfl
end My

/-! Part 2: each call answers as the specification says; the list of calls read, the answers told. -/
namespace My
/-- a call: which, and its numbers; what may be handed in -/
abbrev Row := Nat × List Nat
def Shape (r : Row) : Prop := (r.1 = 0 ∧ r.2.length = 1) ∨ (r.1 = 1 ∧ r.2.length = 4) ∨ (r.1 = 2 ∧ r.2.length = 4) ∨ (r.1 = 3 ∧ r.2.length = 1) ∨ r.1 = 4 ∨ (r.1 = 5 ∧ r.2 = []) ∨ (r.1 = 6 ∧ r.2.length = 1) ∨ (r.1 = 7 ∧ r.2 = [])
theorem wf_fresh (w : Nat) : (M.fresh w).Wf := ⟨Nat.zero_le _, Nat.zero_le _, (fun f h => by cases h), (fun f h => by cases h)⟩
theorem zs_nil : zs [] = [] := rfl
theorem zs_cons (a : Nat) (l : List Nat) : zs (a :: l) = (a : Int) :: zs l := rfl
theorem zs_append (l r : List Nat) : zs (l ++ r) = zs l ++ zs r := List.map_append
/-- what the specification answers to a call is what the mirror does -/
def Same1 (m : M) (q : Si86.Call) (x : Out) : Prop := (Si86.step m.o q).1 = x.m.o ∧ (Si86.step m.o q).2.v :: (Si86.step m.o q).2.l = x.l ∧ x.m.Wf
theorem begins_is {m : M} (W : m.Wf) (e : Nat) : Same1 m (.begins e) (m.begins e) := by
  unfold Same1 M.begins Si86.step
  by_cases h : e ≤ 4
  · have h' : ¬ Si86.FEATURES < e := by
      show ¬ 4 < e
      omega
    dsimp only
    rw [if_pos h, if_neg h']
    exact ⟨rfl, rfl, wf_fresh e⟩
  · have h' : Si86.FEATURES < e := by
      show 4 < e
      omega
    dsimp only
    rw [if_neg h, if_pos h']
    exact ⟨rfl, rfl, W⟩
theorem thing_is {m : M} (W : m.Wf) {f : List Nat} (hf : f.length = 4) : Same1 m (.thing f) (m.thing f) := by
  unfold Same1 M.thing Si86.step
  have e : (f.all fun v => decide (v < Si86.VALUES)) = f.all fun v => decide (v ≤ 9) := all_congr fun v _ => decide_eq_decide.mpr (by show v < 10 ↔ v ≤ 9; omega)
  dsimp only
  rw [e]
  have hl : ¬ f.length ≠ Si86.FEATURES := fun q => q hf
  by_cases h : (f.all fun v => decide (v ≤ 9)) = true
  · rw [if_pos h, if_neg (fun q => q.elim hl fun z => by rw [h] at z; cases z)]
    by_cases h5 : m.nt < 5
    · rw [if_pos h5, if_neg (show ¬ Si86.THINGS ≤ m.o.things.length by show ¬ 5 ≤ m.nt; omega)]
      refine ⟨rfl, rfl, ⟨?_, W.c5, fun g hg => ?_, W.c4⟩⟩
      · show (m.things ++ [f]).length ≤ 5
        rw [List.length_append, List.length_singleton]
        exact h5
      · rcases List.mem_append.mp hg with q | q
        · exact W.t4 g q
        · rw [List.mem_singleton.mp q]
          exact hf
    · rw [if_neg h5, if_pos (show Si86.THINGS ≤ m.o.things.length by show 5 ≤ m.nt; omega)]
      exact ⟨rfl, rfl, W⟩
  · have h' : (f.all fun v => decide (v ≤ 9)) = false := by simpa using h
    rw [if_neg h, if_pos (.inr h')]
    exact ⟨rfl, rfl, W⟩
theorem claim_is {m : M} (W : m.Wf) {f : List Nat} (hf : f.length = 4) : Same1 m (.claim f) (m.claim f) := by
  unfold Same1 M.claim Si86.step
  have e : (f.all fun v => decide (v ≤ Si86.VALUES)) = f.all fun v => decide (v ≤ 10) := rfl
  dsimp only
  rw [e, o_nc]
  have hl : ¬ f.length ≠ Si86.FEATURES := fun q => q hf
  by_cases h : (f.all fun v => decide (v ≤ 10)) = true
  · rw [if_pos h, if_neg (fun q => q.elim hl fun z => by rw [h] at z; cases z)]
    by_cases h5 : m.nc < 5
    · rw [if_pos h5, if_neg (show ¬ Si86.CLAIMS ≤ m.nc by show ¬ 5 ≤ m.nc; omega)]
      refine ⟨?_, rfl, ⟨W.t5, ?_, W.t4, fun g hg => ?_⟩⟩
      · show Si86.Office.mk m.wrong m.things ((m.claims.map fun f => f.map opt) ++ [f.map opt]) = Si86.Office.mk m.wrong m.things ((m.claims ++ [f]).map fun f => f.map opt)
        rw [List.map_append]
        rfl
      · show (m.claims ++ [f]).length ≤ 5
        rw [List.length_append, List.length_singleton]
        exact h5
      · rcases List.mem_append.mp hg with q | q
        · exact W.c4 g q
        · rw [List.mem_singleton.mp q]
          exact hf
    · rw [if_neg h5, if_pos (show Si86.CLAIMS ≤ m.nc by show 5 ≤ m.nc; omega)]
      exact ⟨rfl, rfl, W⟩
  · have h' : (f.all fun v => decide (v ≤ 10)) = false := by simpa using h
    rw [if_neg h, if_pos (.inr h')]
    exact ⟨rfl, rfl, W⟩
theorem fitting_eq {m : M} (W : m.Wf) {c : Nat} (hc : c < m.nc) : (List.range m.o.things.length).filter (m.o.fits c) = m.fitting c := by
  unfold M.fitting
  refine List.filter_congr fun t ht => ?_
  exact fits_eq W hc (List.mem_range.mp ht)
theorem fits_is {m : M} (W : m.Wf) (c : Nat) : Same1 m (.fits c) (m.fitsC c) := by
  unfold Same1 M.fitsC Si86.step
  dsimp only
  rw [o_nc]
  by_cases h : c < m.nc
  · rw [if_pos h, if_neg (by omega)]
    dsimp only
    rw [fitting_eq W h]
    refine ⟨rfl, ?_, W⟩
    refine congrArg (List.cons _) (congrArg zs (flatMap_congr fun t _ => ?_))
    rw [errors_eq W h]
  · rw [if_neg h, if_pos (by omega)]
    exact ⟨rfl, rfl, W⟩
theorem check_is {m : M} (W : m.Wf) (p : List Nat) : Same1 m (.check p) (m.check p) := by
  unfold Same1 M.check Si86.step
  dsimp only
  rw [told_eq]
  by_cases h : m.isPlan p = true
  · obtain ⟨a, b⟩ := of_isPlan h
    rw [if_pos h, if_neg (by rw [h]; decide)]
    dsimp only
    rw [bad_eq W a b, twice_eq, off_eq W (Nat.le_of_eq a)]
    cases m.unfit p with
    | some c => exact ⟨rfl, rfl, W⟩
    | none =>
      cases m.twice p with
      | some c => exact ⟨rfl, rfl, W⟩
      | none => exact ⟨rfl, rfl, W⟩
  · have h' : m.isPlan p = false := by simpa using h
    rw [if_neg h, if_pos h']
    exact ⟨rfl, rfl, W⟩
theorem best_is {m : M} (W : m.Wf) : Same1 m .best m.best := by
  unfold Same1 M.best Si86.step
  dsimp only
  rw [best_eq W, best_off]
  exact ⟨rfl, rfl, W⟩
theorem has_is {m : M} (W : m.Wf) (c : Nat) : Same1 m (.has c) (m.hasC c) := by
  unfold Same1 M.hasC Si86.step
  dsimp only
  rw [o_nc]
  by_cases h : c < m.nc
  · rw [if_pos h, if_neg (by omega)]
    dsimp only
    rw [has_eq W]
    exact ⟨rfl, rfl, W⟩
  · rw [if_neg h, if_pos (by omega)]
    exact ⟨rfl, rfl, W⟩
theorem why_is {m : M} (W : m.Wf) : Same1 m .why m.why := by
  unfold Same1 M.why Si86.step
  dsimp only
  rw [why_eq W, short_eq W, reach_eq W]
  exact ⟨rfl, rfl, W⟩

/-! ### a call from its numbers -/
theorem len1 {l : List Nat} (h : l.length = 1) : l = [l.headD 0] := by
  cases l with
  | nil => cases h
  | cons a r =>
    cases r with
    | nil => rfl
    | cons b s => simp at h
/-- the specification's call of a row of numbers, and that the mirror does the same -/
theorem callOf_is {p : Int} {xs : List Int} (h : (Si86Neutral.callOf (p :: xs)).isSome = true) : Shape (p.toNat, xs.map Int.toNat) ∧
    ∃ q, Si86Neutral.callOf (p :: xs) = some q ∧ ∀ m : M, m.Wf → Same1 m q (m.deed p.toNat (xs.map Int.toNat)) := by
  unfold Si86Neutral.callOf at h ⊢
  rw [List.map_cons] at h ⊢
  generalize p.toNat = w at h ⊢
  generalize xs.map Int.toNat = ps at h ⊢
  split at h
  · rename_i e he
    obtain ⟨rfl, rfl⟩ := List.cons.inj he
    exact ⟨.inl ⟨rfl, rfl⟩, _, rfl, fun m W => begins_is W e⟩
  · rename_i a b c d he
    obtain ⟨rfl, rfl⟩ := List.cons.inj he
    exact ⟨.inr (.inl ⟨rfl, rfl⟩), _, rfl, fun m W => thing_is W rfl⟩
  · rename_i a b c d he
    obtain ⟨rfl, rfl⟩ := List.cons.inj he
    exact ⟨.inr (.inr (.inl ⟨rfl, rfl⟩)), _, rfl, fun m W => claim_is W rfl⟩
  · rename_i c he
    obtain ⟨rfl, rfl⟩ := List.cons.inj he
    exact ⟨.inr (.inr (.inr (.inl ⟨rfl, rfl⟩))), _, rfl, fun m W => fits_is W c⟩
  · rename_i r he
    obtain ⟨rfl, rfl⟩ := List.cons.inj he
    refine ⟨.inr (.inr (.inr (.inr (.inl rfl)))), .check ps, ?_, fun m W => check_is W ps⟩
    split at h
    · rename_i h6
      exact if_pos h6
    · cases h
  · rename_i he
    obtain ⟨rfl, rfl⟩ := List.cons.inj he
    exact ⟨.inr (.inr (.inr (.inr (.inr (.inl ⟨rfl, rfl⟩))))), _, rfl, fun m W => best_is W⟩
  · rename_i c he
    obtain ⟨rfl, rfl⟩ := List.cons.inj he
    exact ⟨.inr (.inr (.inr (.inr (.inr (.inr (.inl ⟨rfl, rfl⟩)))))), _, rfl, fun m W => has_is W c⟩
  · rename_i he
    obtain ⟨rfl, rfl⟩ := List.cons.inj he
    exact ⟨.inr (.inr (.inr (.inr (.inr (.inr (.inr ⟨rfl, rfl⟩)))))), _, rfl, fun m W => why_is W⟩
  · cases h

/-! ### a list of calls -/
/-- one call more: what is had, what was answered so far -/
def play (s : M × List Int) (r : Row) : M × List Int := ((s.1.deed r.1 r.2).m, s.2 ++ (((s.1.deed r.1 r.2).l.length : Int) :: (s.1.deed r.1 r.2).l))
def flat (r : Row) : List Nat := r.1 :: r.2.length :: (r.2 ++ [0])
def run (rs : List Row) : M × List Int := rs.foldl play (M.fresh 0, [])
def rowOf (c : List (List Int)) : Row := match c with
  | (p :: xs) :: _ => (p.toNat, xs.map Int.toNat)
  | _ => (0, [])
/-- one call of the document's -/
def Good (c : List (List Int)) : Prop := ∃ p xs, c = [p :: xs] ∧ (∀ z ∈ p :: xs, 0 ≤ z) ∧ (Si86Neutral.callOf (p :: xs)).isSome = true
theorem good_of {c : List (List Int)} (ok : PyWide.okCall c) (h : Si86Neutral.asked1 c = true) : Good c := by
  obtain ⟨p, ns, xs, rfl⟩ := ok
  unfold Si86Neutral.asked1 at h
  rw [Bool.and_eq_true, Bool.and_eq_true] at h
  obtain ⟨h1, h2, h3⟩ := h
  have e : xs = [] := by
    have : (((p :: ns) :: xs).length == 1) = true := h1
    rw [List.length_cons] at this
    have h0 : xs.length = 0 := by simpa using this
    exact List.length_eq_zero_iff.mp h0
  subst e
  refine ⟨p, ns, rfl, fun z hz => ?_, h3⟩
  have := List.all_eq_true.mp h2 z hz
  unfold Si86Neutral.natural at this
  rw [Bool.and_eq_true] at this
  exact of_decide_eq_true this.1
theorem nonneg_back : ∀ {xs : List Int}, (∀ z ∈ xs, 0 ≤ z) → xs = zs (xs.map Int.toNat)
  | [], _ => rfl
  | a :: r, h => by
    rw [List.map_cons, zs_cons, ← nonneg_back fun z hz => h z (List.mem_cons_of_mem _ hz)]
    have := h a List.mem_cons_self
    have e : ((a.toNat : Nat) : Int) = a := Int.toNat_of_nonneg this
    rw [e]
theorem put_is : ∀ {cs : List (List (List Int))}, (∀ c ∈ cs, Good c) → PyWide.put cs = zs ((cs.map rowOf).flatMap flat)
  | [], _ => rfl
  | c :: r, h => by
    obtain ⟨p, xs, rfl, hz, _⟩ := h c List.mem_cons_self
    have ih := put_is fun c hc => h c (List.mem_cons_of_mem _ hc)
    have e1 : p = ((p.toNat : Nat) : Int) := (Int.toNat_of_nonneg (hz p List.mem_cons_self)).symm
    have e2 := nonneg_back fun z hq => hz z (List.mem_cons_of_mem _ hq)
    show PyWide.put1 [p :: xs] ++ PyWide.put r = zs (((p.toNat :: (xs.map Int.toNat).length :: (xs.map Int.toNat ++ [0])) ++ (r.map rowOf).flatMap flat))
    rw [ih, zs_append, zs_cons, zs_cons, zs_append, ← e2, ← e1, List.length_map]
    rfl
theorem play_is : ∀ {cs : List (List (List Int))} (m : M) (acc : List Int), m.Wf → (∀ c ∈ cs, Good c) → acc ++ PyFlat.told (PyFlat.played Si86Neutral.step m.o cs) = ((cs.map rowOf).foldl play (m, acc)).2
  | [], m, acc, _, _ => by
    show acc ++ [] = acc
    exact List.append_nil acc
  | c :: r, m, acc, W, h => by
    obtain ⟨p, xs, rfl, hz, hs⟩ := h c List.mem_cons_self
    obtain ⟨_, q, e, k⟩ := callOf_is hs
    obtain ⟨k1, k2, k3⟩ := k m W
    have e1 : Si86Neutral.step m.o [p :: xs] = ((m.deed p.toNat (xs.map Int.toNat)).m.o, (m.deed p.toNat (xs.map Int.toNat)).l) := by
      unfold Si86Neutral.step
      rw [List.headD_cons, e]
      show ((Si86.step m.o q).1, (Si86.step m.o q).2.v :: (Si86.step m.o q).2.l) = _
      rw [k1, k2]
    have e2 : PyFlat.played Si86Neutral.step m.o ([p :: xs] :: r) = (m.deed p.toNat (xs.map Int.toNat)).l :: PyFlat.played Si86Neutral.step (m.deed p.toNat (xs.map Int.toNat)).m.o r := by
      show (Si86Neutral.step m.o [p :: xs]).2 :: PyFlat.played Si86Neutral.step (Si86Neutral.step m.o [p :: xs]).1 r = _
      rw [e1]
    rw [e2]
    have e3 : PyFlat.told ((m.deed p.toNat (xs.map Int.toNat)).l :: PyFlat.played Si86Neutral.step (m.deed p.toNat (xs.map Int.toNat)).m.o r) =
        (((m.deed p.toNat (xs.map Int.toNat)).l.length : Int) :: (m.deed p.toNat (xs.map Int.toNat)).l) ++ PyFlat.told (PyFlat.played Si86Neutral.step (m.deed p.toNat (xs.map Int.toNat)).m.o r) := rfl
    rw [e3, ← List.append_assoc, play_is _ _ k3 fun c hc => h c (List.mem_cons_of_mem _ hc)]
    rfl
theorem play_wf {m : M} {acc : List Int} {r : Row} (h : ∃ c, Good c ∧ r = rowOf c) (W : m.Wf) : (play (m, acc) r).1.Wf := by
  obtain ⟨c, ⟨p, xs, rfl, hz, hs⟩, rfl⟩ := h
  obtain ⟨_, q, e, k⟩ := callOf_is hs
  exact (k m W).2.2
theorem play_len (s : M × List Int) (r : Row) : s.2.length ≤ (play s r).2.length := by
  unfold play
  rw [List.length_append]
  exact Nat.le_add_right _ _
theorem plays_len : ∀ (rs : List Row) (s : M × List Int), s.2.length ≤ (rs.foldl play s).2.length
  | [], _ => Nat.le_refl _
  | r :: rs, s => Nat.le_trans (play_len s r) (plays_len rs (play s r))
/-- what a request is: its rows; what is answered -/
structure Asked (ns : List Int) (rs : List Row) : Prop where
  list : ns = zs (rs.flatMap flat)
  shape : ∀ r ∈ rs, Shape r
  wf : ∀ i, (run (rs.take i)).1.Wf
  ans : PySi86.answers ns = (run rs).2
  len : ∀ i, (run (rs.take i)).2.length ≤ 10000000
theorem runs_wf : ∀ {rs : List Row} {s : M × List Int}, (∀ r ∈ rs, ∃ c, Good c ∧ r = rowOf c) → s.1.Wf → (rs.foldl play s).1.Wf
  | [], _, _, W => W
  | r :: rs, s, h, W => runs_wf (rs := rs) (s := play s r) (fun q hq => h q (List.mem_cons_of_mem _ hq)) (play_wf (h r List.mem_cons_self) W)
theorem asked_of {ns : List Int} (h : PySi86.answers_asked ns = true) : ∃ rs, Asked ns rs := by
  unfold PySi86.answers_asked at h
  cases e : PySi86.calls ns with
  | none =>
    rw [e] at h
    cases h
  | some cs =>
    rw [e] at h
    have h' : (!cs.isEmpty && cs.all PySi86.fits && PyFlat.atMost 60 cs && Si86Neutral.asked cs && PyFlat.short 10000000 (PySi86.answers ns)) = true := h
    rw [Bool.and_eq_true, Bool.and_eq_true] at h'
    obtain ⟨⟨_, ha⟩, hs⟩ := h'
    obtain ⟨hput, hok⟩ := PyWide.put_calls ns.length ns cs e
    have hg : ∀ c ∈ cs, Good c := fun c hc => good_of (hok c hc) (by
      unfold Si86Neutral.asked at ha
      rw [Bool.and_eq_true] at ha
      exact List.all_eq_true.mp ha.1 c hc)
    have hans : PySi86.answers ns = (run (cs.map rowOf)).2 := by
      unfold PySi86.answers
      rw [e]
      have := play_is (cs := cs) (M.fresh 0) [] (wf_fresh 0) hg
      rw [List.nil_append] at this
      exact this
    have hgr : ∀ r ∈ cs.map rowOf, ∃ c, Good c ∧ r = rowOf c := fun r hr => by
      obtain ⟨c, hc, e⟩ := List.mem_map.mp hr
      exact ⟨c, hg c hc, e.symm⟩
    refine ⟨cs.map rowOf, ⟨hput.trans (put_is hg), fun r hr => ?_, fun i => ?_, hans, fun i => ?_⟩⟩
    · obtain ⟨c, ⟨p, xs, rfl, hz, hs⟩, rfl⟩ := hgr r hr
      exact (callOf_is hs).1
    · exact runs_wf (fun r hr => hgr r (List.mem_of_mem_take hr)) (wf_fresh 0)
    · have hl : (run (cs.map rowOf)).2.length ≤ 10000000 := by
        rw [← hans]
        exact of_decide_eq_true hs
      refine Nat.le_trans ?_ hl
      have e2 : run (cs.map rowOf) = ((cs.map rowOf).drop i).foldl play (run ((cs.map rowOf).take i)) := by
        unfold run
        rw [← List.foldl_append, List.take_append_drop]
      rw [e2]
      exact plays_len _ _
end My

set_option maxRecDepth 100000
set_option maxHeartbeats 2000000
/-! Part 3: words of this proof over the layer. -/
namespace My
open PySem PySem.Spec PyProof.Rows L2 Evl
def top (i : Nat) : Stmt := PySem.Challenge.pw_lostthings_s01_answers.main.body.getD i (.Pass ⟨0, 0, 0, 0⟩)
abbrev vN (n : Nat) : V := V.int (n : Int)
abbrev nats (l : List Nat) : List V := l.map vN

/-! ### defs, methods, classes by name -/
structure Def (P : Program) (w : World) (K : PySem.W.Frag) (mg : Str → Option Value) (base : Heap) (CX : CXT) (k : Nat) (x : Str) (ps : List Str) (sp : Sp) : Prop where
  ex : ∃ (f : Addr) (fd : FuncData), mg x = some (.ref f) ∧ PySem.W.keepIn K (.ref f) = true ∧ Binds K fd ps [] ∧ FnOk P w K mg base CX k f fd ps sp
structure Met (P : Program) (w : World) (K : PySem.W.Frag) (mg : Str → Option Value) (base : Heap) (CX : CXT) (k : Nat) (C : Addr) (m : Str) (ps : List Str) (sp : Sp) : Prop where
  ex : ∃ (f : Addr) (fd : FuncData), Meth K C m f ∧ Binds K fd ps [] ∧ FnOk P w K mg base CX k f fd ps sp
structure Mak (P : Program) (w : World) (K : PySem.W.Frag) (mg : Str → Option Value) (base : Heap) (k : Nat) (C : Addr) (x : Str) (ps : List Str) (sp : Sp) : Prop where
  ex : ∃ (f : Addr) (fd : FuncData), Mk K C f ∧ mg x = some (.ref C) ∧ Binds K fd ps [] ∧ FnOk P w K mg base CX0 k f fd ps sp
/-- the text of a def, of a method -/
structure TxF (K : PySem.W.Frag) (mg : Str → Option Value) (x : Str) (st : Stmt) : Prop where
  ex : ∃ (f : Addr) (fd : FuncData), mg x = some (.ref f) ∧ Fun K x x st f fd
structure TxM (K : PySem.W.Frag) (C : Addr) (m q : Str) (st : Stmt) : Prop where
  ex : ∃ (f : Addr) (fd : FuncData), PySem.W.findIn K (.ref C) m = some (some (.ref f)) ∧ PySem.W.isFn K (.ref f) = true ∧ Fun K m q st f fd
section
variable {X : Cx} {CX : CXT} {k : Nat} {C : Addr} {ps : List Str} {sp : Sp} {E : XK} {x m : Str} {p pos apos : Pos} {e o : Expr} {es : List Expr} {ta : TE} {t : TA}
theorem pe_def (D : Def X.prog X.w X.K X.mg X.base CX0 k x ps sp) (hr : Room k X.A) (ha : PA X (e :: es) t) (hg : Gl X x := by rfl) (hdb : (x == ("__debug__" : Str)) = false := by decide)
    (he : starEach (e :: es) X.env = (false, eval e X.env) :: starEach es X.env := by rfl) (hpl : (backTo pos (starEach es X.env)).any (·.1) = false := by rfl) : PE X (.Call (.Name x p) (e :: es) [] pos) (tCall sp [] E0 t) := by
  obtain ⟨f, fd, h1, h2, h3, h4⟩ := D.ex
  exact pe_call h4 hr hg h1 h2 h3 .nil pass0 ha hdb he hpl
theorem pe_defX (D : Def X.prog X.w X.K X.mg X.base (L2.CX X.prog X.w) k x ps sp) (hr : Room k X.A) (hx : Passes (L2.CX X.prog X.w) X E) (ha : PA X (e :: es) t) (hg : Gl X x := by rfl) (hdb : (x == ("__debug__" : Str)) = false := by decide)
    (he : starEach (e :: es) X.env = (false, eval e X.env) :: starEach es X.env := by rfl) (hpl : (backTo pos (starEach es X.env)).any (·.1) = false := by rfl) : PE X (.Call (.Name x p) (e :: es) [] pos) (tCall sp [] E t) := by
  obtain ⟨f, fd, h1, h2, h3, h4⟩ := D.ex
  exact pe_call h4 hr hg h1 h2 h3 .nil hx ha hdb he hpl
theorem pe_met {pl : Sem Bool} (he : PE X o ta) (c : Cls X.K C) (D : Met X.prog X.w X.K X.mg X.base CX0 k C m ps sp) (hr : Room k X.A) (ha : PA X (e :: es) t)
    (hst : starEach (e :: es) X.env = (false, eval e X.env) :: starEach es X.env := by rfl) (hpl : (backTo pos (starEach es X.env)).any (·.1) = false := by rfl)
    (ht : eval (.Call (.Attribute o m apos) (e :: es) [] pos) X.env = (do
      let ov ← eval o X.env
      standAt apos.atName
      let (f, first) ← holding [ov] (getMethod ov m pl)
      callWith pos f first (backTo pos (starEach (e :: es) X.env)) (backToKw pos (keywordEach [] X.env))) := by rfl) :
    PE X (.Call (.Attribute o m apos) (e :: es) [] pos) (tMeth C m sp [] E0 ta t) := by
  obtain ⟨f, fd, h1, h3, h4⟩ := D.ex
  exact pe_meth he c h1 h4 hr h3 .nil pass0 ha hst hpl ht
theorem pe_metX {pl : Sem Bool} (he : PE X o ta) (c : Cls X.K C) (D : Met X.prog X.w X.K X.mg X.base (L2.CX X.prog X.w) k C m ps sp) (hr : Room k X.A) (hx : Passes (L2.CX X.prog X.w) X E) (ha : PA X (e :: es) t)
    (hst : starEach (e :: es) X.env = (false, eval e X.env) :: starEach es X.env := by rfl) (hpl : (backTo pos (starEach es X.env)).any (·.1) = false := by rfl)
    (ht : eval (.Call (.Attribute o m apos) (e :: es) [] pos) X.env = (do
      let ov ← eval o X.env
      standAt apos.atName
      let (f, first) ← holding [ov] (getMethod ov m pl)
      callWith pos f first (backTo pos (starEach (e :: es) X.env)) (backToKw pos (keywordEach [] X.env))) := by rfl) :
    PE X (.Call (.Attribute o m apos) (e :: es) [] pos) (tMeth C m sp [] E ta t) := by
  obtain ⟨f, fd, h1, h3, h4⟩ := D.ex
  exact pe_meth he c h1 h4 hr h3 .nil hx ha hst hpl ht
theorem pe_met0 {pl : Sem Bool} (he : PE X o ta) (c : Cls X.K C) (D : Met X.prog X.w X.K X.mg X.base CX0 k C m ps sp) (hr : Room k X.A)
    (ht : eval (.Call (.Attribute o m apos) [] [] pos) X.env = (do
      let ov ← eval o X.env
      standAt apos.atName
      let (f, first) ← holding [ov] (getMethod ov m pl)
      callWith pos f first (backTo pos (starEach [] X.env)) (backToKw pos (keywordEach [] X.env))) := by rfl) :
    PE X (.Call (.Attribute o m apos) [] [] pos) (tMeth C m sp [] E0 ta tNil) := by
  obtain ⟨f, fd, h1, h3, h4⟩ := D.ex
  exact pe_meth0 he c h1 h4 hr h3 .nil pass0 ht
theorem pe_mak (D : Mak X.prog X.w X.K X.mg X.base k C x ps sp) (hr : Room (k + 1) X.A) (ha : PA X (e :: es) t) (hg : Gl X x := by rfl) (hdb : (x == ("__debug__" : Str)) = false := by decide)
    (he : starEach (e :: es) X.env = (false, eval e X.env) :: starEach es X.env := by rfl) (hpl : (backTo pos (starEach es X.env)).any (·.1) = false := by rfl) : PE X (.Call (.Name x p) (e :: es) [] pos) (tMake C sp [] E0 t) := by
  obtain ⟨f, fd, h1, h2, h3, h4⟩ := D.ex
  exact pe_make h1 h4 hr hg h2 h3 .nil pass0 ha hdb he hpl
theorem pe_mak0 (D : Mak X.prog X.w X.K X.mg X.base k C x ps sp) (hr : Room (k + 1) X.A) (hg : Gl X x := by rfl) (hdb : (x == ("__debug__" : Str)) = false := by decide) : PE X (.Call (.Name x p) [] [] pos) (tMake C sp [] E0 tNil) := by
  obtain ⟨f, fd, h1, h2, h3, h4⟩ := D.ex
  exact pe_make0 h1 h4 hr hg h2 h3 .nil pass0 hdb
/-- a whole number of the module -/
theorem pe_k {i : Int} (h : ∃ t, X.mg x = some (.int i t)) (hg : Gl X x := by rfl) (hd : (x == ("__debug__" : Str)) = false := by decide) : PE X (.Name x pos) (tC (.int i)) := by
  obtain ⟨t, h⟩ := h
  exact pe_glob hg h ⟨t, rfl⟩ hd
end
section
variable {P : Program} {w : World} {K : PySem.W.Frag} {mg : Str → Option Value} {base : Heap} {x m q : Str} {st : Stmt} {C : Addr} {N ps : List Str} {k : Nat} {sp : Sp}
theorem Def.of (T : TxF K mg x st) (S : FnScope N ps (defScope st)) (hb : ∀ (kV doc pm : Value) (an : Option Addr) (cdv ct : Value) (us : List Value), us.length = ps.length → bindArgs (PySem.W.fnOf x x (defArgs st) (defBody st) (defScope st) .none kV doc pm an cdv ct) ⟨us, []⟩ = pure (ps.zip us))
    (len : ∀ vs H Q E, sp vs H Q E → vs.length = ps.length)
    (hbody : ∀ (f : Addr) (cdv : Value) (A : Around) (outer : List Env) (s : Shared) (H : Hp) (vs : List V) (Q : VK) (E : XK), Room k (A.deeper (envOfC x (defScope st) s.heap.objs.size f cdv)) → sp vs H Q E →
      ∃ t, PSs (cxOf CX0 P w K mg base N x (defScope st) f cdv A outer s H E).nox (defBody st) t ∧ t { nx := fun _ H' => Q .non H', rt := Q } (start N vs) H) : Def P w K mg base CX0 (k + 1) x ps sp := by
  obtain ⟨f, fd, h, F⟩ := T.ex
  exact ⟨f, fd, h, F.kp, F.binds hb, F.ok S len (hbody f)⟩
theorem Def.ofX (T : TxF K mg x st) (S : FnScope N ps (defScope st)) (hb : ∀ (kV doc pm : Value) (an : Option Addr) (cdv ct : Value) (us : List Value), us.length = ps.length → bindArgs (PySem.W.fnOf x x (defArgs st) (defBody st) (defScope st) .none kV doc pm an cdv ct) ⟨us, []⟩ = pure (ps.zip us))
    (len : ∀ vs H Q E, sp vs H Q E → vs.length = ps.length)
    (hbody : ∀ (f : Addr) (cdv : Value) (A : Around) (outer : List Env) (s : Shared) (H : Hp) (vs : List V) (Q : VK) (E : XK), Room k (A.deeper (envOfC x (defScope st) s.heap.objs.size f cdv)) → sp vs H Q E →
      ∃ t, PSs (cxOf (L2.CX P w) P w K mg base N x (defScope st) f cdv A outer s H E) (defBody st) t ∧ t { nx := fun _ H' => Q .non H', rt := Q } (start N vs) H) : Def P w K mg base (L2.CX P w) (k + 1) x ps sp := by
  obtain ⟨f, fd, h, F⟩ := T.ex
  exact ⟨f, fd, h, F.kp, F.binds hb, F.okX S len (hbody f)⟩
theorem Met.of (T : TxM K C m q st) (S : FnScope N ps (defScope st)) (hb : ∀ (kV doc pm : Value) (an : Option Addr) (cdv ct : Value) (us : List Value), us.length = ps.length → bindArgs (PySem.W.fnOf m q (defArgs st) (defBody st) (defScope st) .none kV doc pm an cdv ct) ⟨us, []⟩ = pure (ps.zip us))
    (len : ∀ vs H Q E, sp vs H Q E → vs.length = ps.length)
    (hbody : ∀ (f : Addr) (cdv : Value) (A : Around) (outer : List Env) (s : Shared) (H : Hp) (vs : List V) (Q : VK) (E : XK), Room k (A.deeper (envOfC q (defScope st) s.heap.objs.size f cdv)) → sp vs H Q E →
      ∃ t, PSs (cxOf CX0 P w K mg base N q (defScope st) f cdv A outer s H E).nox (defBody st) t ∧ t { nx := fun _ H' => Q .non H', rt := Q } (start N vs) H) : Met P w K mg base CX0 (k + 1) C m ps sp := by
  obtain ⟨f, fd, h, h2, F⟩ := T.ex
  exact ⟨f, fd, ⟨h, h2, F.kp⟩, F.binds hb, F.ok S len (hbody f)⟩
theorem Met.ofX (T : TxM K C m q st) (S : FnScope N ps (defScope st)) (hb : ∀ (kV doc pm : Value) (an : Option Addr) (cdv ct : Value) (us : List Value), us.length = ps.length → bindArgs (PySem.W.fnOf m q (defArgs st) (defBody st) (defScope st) .none kV doc pm an cdv ct) ⟨us, []⟩ = pure (ps.zip us))
    (len : ∀ vs H Q E, sp vs H Q E → vs.length = ps.length)
    (hbody : ∀ (f : Addr) (cdv : Value) (A : Around) (outer : List Env) (s : Shared) (H : Hp) (vs : List V) (Q : VK) (E : XK), Room k (A.deeper (envOfC q (defScope st) s.heap.objs.size f cdv)) → sp vs H Q E →
      ∃ t, PSs (cxOf (L2.CX P w) P w K mg base N q (defScope st) f cdv A outer s H E) (defBody st) t ∧ t { nx := fun _ H' => Q .non H', rt := Q } (start N vs) H) : Met P w K mg base (L2.CX P w) (k + 1) C m ps sp := by
  obtain ⟨f, fd, h, h2, F⟩ := T.ex
  exact ⟨f, fd, ⟨h, h2, F.kp⟩, F.binds hb, F.okX S len (hbody f)⟩
theorem Mak.of (mk : PySem.W.makesIn K C = true) (kc : PySem.W.keepIn K (.ref C) = true) (g : mg x = some (.ref C)) (D : Met P w K mg base CX0 k C "__init__" ps sp) : Mak P w K mg base k C x ps sp := by
  obtain ⟨f, fd, h1, h3, h4⟩ := D.ex
  exact ⟨f, fd, ⟨mk, h1.at_, h1.fn, kc⟩, g, h3, h4⟩
end

/-! ### readings by what they evaluate to -/
section
variable {K : PySem.W.Frag} {σ : L2.St} {H : Hp} {ta te tx : TE} {t : TA} {C a dx : Addr} {fs : List (Str × V)} {f m : Str} {v z : V} {vs xs : List V} {sp : Sp}
theorem ev_fld (h : Ev ta σ H (.ref a)) (ho : H a = some (.ins C dx fs)) (hc : Cls K C) (hn : NoAttr K C f) (hl : fs.lookup f = some v) : Ev (tFld K ta f) σ H v := fun H1 e Q q =>
  h H1 e _ fun H2 e2 => ⟨a, C, dx, fs, v, rfl, e2 _ _ (e _ _ ho), hc, hn, hl, q H2 e2⟩
theorem ev_meth (h : Ev ta σ H (.ref a)) (ho : H a = some (.ins C dx fs)) (hl : fs.lookup m = none) (ha : EvA t σ H vs) (hs : SpV sp (.ref a :: (vs ++ [])) H z) : Ev (tMeth C m sp [] E0 ta t) σ H z := fun H1 e Q q =>
  h H1 e _ fun H2 e2 => ⟨a, dx, fs, rfl, e2 _ _ (e _ _ ho), hl, ha H2 (e.trans e2) _ fun H3 e3 => hs H3 ((e.trans e2).trans e3) Q (fun H4 e4 => q H4 ((e2.trans e3).trans e4)) E0⟩
theorem el_meth (h : Ev ta σ H (.ref a)) (ho : H a = some (.ins C dx fs)) (hl : fs.lookup m = none) (ha : EvA t σ H vs) (hs : SpL sp (.ref a :: (vs ++ [])) H xs) : EvL (tMeth C m sp [] E0 ta t) σ H xs := fun H1 e Q q =>
  h H1 e _ fun H2 e2 => ⟨a, dx, fs, rfl, e2 _ _ (e _ _ ho), hl, ha H2 (e.trans e2) _ fun H3 e3 => hs H3 ((e.trans e2).trans e3) Q
    (fun p H4 hp e4 h4 => q p H4 (fresh_back e2 (fresh_back e3 hp)) ((e2.trans e3).trans e4) h4) E0⟩
/-- promises: a value, a new list -/
def spV (R : List V → Hp → V → Prop) : Sp := fun vs H Q _ => ∃ z, R vs H z ∧ ∀ H', Ex H H' → Q z H'
def spL (R : List V → Hp → List V → Prop) : Sp := fun vs H Q _ => ∃ xs, R vs H xs ∧ RetL xs H Q
theorem spV_of {R : List V → Hp → V → Prop} (h : ∀ H1, Ex H H1 → R vs H1 z) : SpV (spV R) vs H z := fun H1 e _ q _ => ⟨z, h H1 e, q⟩
theorem spL_of {R : List V → Hp → List V → Prop} (h : ∀ H1, Ex H H1 → R vs H1 xs) : SpL (spL R) vs H xs := fun H1 e _ q _ => ⟨xs, h H1 e, q⟩
theorem et_val {b : Bool} (h : Ev te σ H (.bl b)) : EvT (tB te) σ H b := et_B h
theorem et_yes : EvT tYes σ H true := fun H1 _ _ q => q H1 (Ex.refl H1)
theorem ev_lenL {p : Addr} (ha : Ev ta σ H (.ref p)) (h : SqL K H p xs) : Ev (tCB (fun xs H Q => ∃ p ys, xs = [.ref p] ∧ (SqL K H p ys ∨ SqT K H p ys) ∧ Q (.int ys.length) H) (tCons ta tNil)) σ H (vN xs.length) := ev_len ha h
/-- + of lists, both new or standing -/
theorem el_cat {p q : Addr} {ys : List V} (ha : Ev ta σ H (.ref p)) (hb : Ev te σ H (.ref q)) (hp : H p = some (.lst xs)) (hq : H q = some (.lst ys)) (hz : xs.length + ys.length ≤ sizeLine) : EvL (tOp rCat ta te) σ H (xs ++ ys) := fun H1 e Q k =>
  ha H1 e _ fun H2 e2 => hb H2 (e.trans e2) _ fun H3 e3 => ⟨p, q, xs, ys, rfl, rfl, ((e.trans e2).trans e3) _ _ hp, ((e.trans e2).trans e3) _ _ hq, hz, fun r hr => k r _ (fresh_back (e2.trans e3) hr) ((e2.trans e3).trans (Ex.new hr)) upd_same⟩
theorem el_catL {p : Addr} {ys : List V} (ha : Ev ta σ H (.ref p)) (hb : EvL te σ H ys) (hp : H p = some (.lst xs)) (hz : xs.length + ys.length ≤ sizeLine) : EvL (tOp rCat ta te) σ H (xs ++ ys) := fun H1 e Q k =>
  ha H1 e _ fun H2 e2 => hb H2 (e.trans e2) _ fun q H3 hq e3 h3 => ⟨p, q, xs, ys, rfl, rfl, ((e.trans e2).trans e3) _ _ hp, h3, hz, fun r hr => k r _ (fresh_back (e2.trans e3) hr) ((e2.trans e3).trans (Ex.new hr)) upd_same⟩
theorem el_catR {q : Addr} {ys : List V} (ha : EvL ta σ H xs) (hb : Ev te σ H (.ref q)) (hq : H q = some (.lst ys)) (hz : xs.length + ys.length ≤ sizeLine) : EvL (tOp rCat ta te) σ H (xs ++ ys) := fun H1 e Q k =>
  ha H1 e _ fun p H2 hp e2 h2 => hb H2 (e.trans e2) _ fun H3 e3 => ⟨p, q, xs, ys, rfl, rfl, e3 _ _ h2, ((e.trans e2).trans e3) _ _ hq, hz, fun r hr => k r _ (fresh_back (e2.trans e3) hr) ((e2.trans e3).trans (Ex.new hr)) upd_same⟩
theorem el_catN {ys : List V} (ha : EvL ta σ H xs) (hb : EvL te σ H ys) (hz : xs.length + ys.length ≤ sizeLine) : EvL (tOp rCat ta te) σ H (xs ++ ys) := fun H1 e Q k =>
  ha H1 e _ fun p H2 hp e2 h2 => hb H2 (e.trans e2) _ fun q H3 hq e3 h3 => ⟨p, q, xs, ys, rfl, rfl, e3 _ _ h2, h3, hz, fun r hr => k r _ (fresh_back (e2.trans e3) hr) ((e2.trans e3).trans (Ex.new hr)) upd_same⟩
end
/-- an item of a list of numbers -/
theorem at_nat {l : List Nat} {i : Nat} (h : i < l.length) : atI (nats l) (i : Int) = some (vN (l.getD i 0)) := atI_nat (by
  rw [List.getElem?_map, List.getElem?_eq_getElem h, getD_lt h]
  rfl)
theorem ev_ixN {K : PySem.W.Frag} {σ : L2.St} {H : Hp} {ta tb : TE} {p : Addr} {l : List Nat} {i : Nat} (ha : Ev ta σ H (.ref p)) (hp : H p = some (.lst (nats l))) (hb : Ev tb σ H (vN i)) (h : i < l.length) : Ev (tOp (rIxL K) ta tb) σ H (vN (l.getD i 0)) :=
  ev_op ha hb (rv_ixL (SqL.of hp) (at_nat h))
/-! ### lists of lists: the addresses with what stands there -/
def RowsAt (H : Hp) (l : Addr) (rows : List (List Nat)) : Prop := ∃ qs : List (Addr × List Nat), qs.map (·.2) = rows ∧ H l = some (.lst (qs.map fun q => V.ref q.1)) ∧ ∀ q ∈ qs, H q.1 = some (.lst (nats q.2))
theorem RowsAt.ex {H H' : Hp} {l : Addr} {rows : List (List Nat)} (h : RowsAt H l rows) (e : Ex H H') : RowsAt H' l rows := by
  obtain ⟨qs, h1, h2, h3⟩ := h
  exact ⟨qs, h1, e _ _ h2, fun q hq => e _ _ (h3 q hq)⟩
theorem RowsAt.get {H : Hp} {l : Addr} {rows : List (List Nat)} (h : RowsAt H l rows) {i : Nat} (hi : i < rows.length) : ∃ a xs, H l = some (.lst xs) ∧ xs[i]? = some (.ref a) ∧ H a = some (.lst (nats (rows.getD i []))) := by
  obtain ⟨qs, rfl, h2, h3⟩ := h
  rw [List.length_map] at hi
  refine ⟨qs[i].1, _, h2, ?_, ?_⟩
  · rw [List.getElem?_map, List.getElem?_eq_getElem hi]
    rfl
  · rw [getD_lt (by rw [List.length_map]; exact hi), List.getElem_map]
    exact h3 _ (List.getElem_mem hi)
theorem RowsAt.len {H : Hp} {l : Addr} {rows : List (List Nat)} (h : RowsAt H l rows) : ∃ xs, H l = some (.lst xs) ∧ xs.length = rows.length := by
  obtain ⟨qs, rfl, h2, h3⟩ := h
  exact ⟨_, h2, by rw [List.length_map, List.length_map]⟩
/-- a comprehension over a list told by items -/
theorem given_items {α : Type} (items : List α) (p : α → Bool) (g : α → V) : ∀ k, k ≤ items.length → given k (fun i => (items[i]?.map p).getD false) (fun i => (items[i]?.map g).getD .non) = ((items.take k).filter p).map g
  | 0, _ => rfl
  | k + 1, h => by
    have hk : k < items.length := h
    have ih := given_items items p g k (Nat.le_of_lt hk)
    have e : items[k]? = some items[k] := List.getElem?_eq_getElem hk
    have et : items.take (k + 1) = items.take k ++ [items[k]] := by
      rw [List.take_succ, e]
      rfl
    cases hp : p items[k] with
    | true =>
      rw [given_yes (by rw [e]; exact hp), ih, et, List.filter_append, List.filter_cons_of_pos hp, e]
      rw [List.map_append]
      rfl
    | false =>
      rw [given_no (by rw [e]; exact hp), ih, et, List.filter_append, List.filter_cons_of_neg (by rw [hp]; decide), List.filter_nil, List.append_nil]
theorem given_all {α : Type} (items : List α) (p : α → Bool) (g : α → V) : given items.length (fun i => (items[i]?.map p).getD false) (fun i => (items[i]?.map g).getD .non) = (items.filter p).map g := by
  rw [given_items items p g _ (Nat.le_refl _), List.take_length]
theorem given_range (n : Nat) (f : Nat → Bool) (v : Nat → V) : given n f v = ((List.range n).filter f).map v := rfl
section
variable {K : PySem.W.Frag} {σ : L2.St} {H : Hp} {te tl : TE} {t : TT} {j : Nat} {vs : List Nat}
/-- over a standing list -/
theorem el_lcI {α : Type} {a : Addr} (items : List α) (u g : α → V) (p : α → Bool) (h : Ev tl σ H (.ref a)) (hx : SqL K H a (items.map u)) (hz : items.length ≤ 40000) (hw : ∀ x, wipe ((wipe σ vs).set j (some x)) vs = wipe σ vs)
    (ht : ∀ y ∈ items, ∀ H1, Ex H H1 → EvT t ((wipe σ vs).set j (some (u y))) H1 (p y)) (he : ∀ y ∈ items, ∀ H1, Ex H H1 → p y = true → Ev te ((wipe σ vs).set j (some (u y))) H1 (g y)) :
    EvL (tLc (iList K tl) (gName j) t te vs) σ H ((items.filter p).map g) := by
  rw [← given_all items p g]
  have hl : (items.map u).length = items.length := List.length_map ..
  have key : ∀ (i : Nat) (x : V), (items.map u)[i]? = some x → ∃ y ∈ items, items[i]? = some y ∧ x = u y := fun i x hi => by
    rw [List.getElem?_map] at hi
    cases e : items[i]? with
    | none =>
      rw [e] at hi
      cases hi
    | some y =>
      rw [e] at hi
      exact ⟨y, List.mem_of_getElem? e, rfl, (Option.some.inj hi).symm⟩
  rw [← hl]
  refine el_lcL _ _ h hx (by rw [hl]; exact hz) hw (fun i x H1 e hi => ?_) (fun i x H1 e hi hf => ?_)
  · obtain ⟨y, hy, e1, rfl⟩ := key i x hi
    rw [e1]
    exact ht y hy H1 e
  · obtain ⟨y, hy, e1, rfl⟩ := key i x hi
    rw [e1] at hf ⊢
    exact he y hy H1 e hf
/-- over a new list -/
theorem el_lcNI {α : Type} (items : List α) (u g : α → V) (p : α → Bool) (h : EvL tl σ H (items.map u)) (hz : items.length ≤ 40000) (hw : ∀ x, wipe ((wipe σ vs).set j (some x)) vs = wipe σ vs)
    (ht : ∀ y ∈ items, ∀ H1, Ex H H1 → EvT t ((wipe σ vs).set j (some (u y))) H1 (p y)) (he : ∀ y ∈ items, ∀ H1, Ex H H1 → p y = true → Ev te ((wipe σ vs).set j (some (u y))) H1 (g y)) :
    EvL (tLc (iList K tl) (gName j) t te vs) σ H ((items.filter p).map g) := by
  rw [← given_all items p g]
  have hl : (items.map u).length = items.length := List.length_map ..
  have key : ∀ (i : Nat) (x : V), (items.map u)[i]? = some x → ∃ y ∈ items, items[i]? = some y ∧ x = u y := fun i x hi => by
    rw [List.getElem?_map] at hi
    cases e : items[i]? with
    | none =>
      rw [e] at hi
      cases hi
    | some y =>
      rw [e] at hi
      exact ⟨y, List.mem_of_getElem? e, rfl, (Option.some.inj hi).symm⟩
  rw [← hl]
  refine el_lcNL _ _ h (by rw [hl]; exact hz) hw (fun i x H1 e hi => ?_) (fun i x H1 e hi hf => ?_)
  · obtain ⟨y, hy, e1, rfl⟩ := key i x hi
    rw [e1]
    exact ht y hy H1 e
  · obtain ⟨y, hy, e1, rfl⟩ := key i x hi
    rw [e1] at hf ⊢
    exact he y hy H1 e hf
/-- over range(n) -/
theorem el_lcR {ta : TA} {n : Nat} (p : Nat → Bool) (g : Nat → V) (h : EvA ta σ H [vN n]) (hn : n ≤ 40000) (hw : ∀ x, wipe ((wipe σ vs).set j (some x)) vs = wipe σ vs)
    (ht : ∀ (i : Nat) H1, Ex H H1 → i < n → EvT t ((wipe σ vs).set j (some (vN i))) H1 (p i)) (he : ∀ (i : Nat) H1, Ex H H1 → i < n → p i = true → Ev te ((wipe σ vs).set j (some (vN i))) H1 (g i)) :
    EvL (tLc (iRng1 ta) (gName j) t te vs) σ H (((List.range n).filter p).map g) :=
  el_lcR1 p g h ⟨by omega, by omega⟩ hw (fun i H1 e hi => ht i H1 e (by omega)) (fun i H1 e hi hf => he i H1 e (by omega) hf)
end
end My

/-! Part 4: what the top has written; the defs about features. -/
namespace My
open PySem PySem.Spec PyProof.Rows L2 Evl
/-- what the top has written; the end shows it -/
structure Txt (K : PySem.W.Frag) (mg : Str → Option Value) (CR CS CD CC : Addr) : Prop where
  cS : Cls K CS
  cD : Cls K CD
  cC : Cls K CC
  gS : mg "Store" = some (.ref CS)
  gD : mg "Desk" = some (.ref CD)
  gC : mg "Call" = some (.ref CC)
  mS : PySem.W.makesIn K CS = true
  mD : PySem.W.makesIn K CD = true
  mC : PySem.W.makesIn K CC = true
  kS : PySem.W.keepIn K (.ref CS) = true
  kD : PySem.W.keepIn K (.ref CD) = true
  kC : PySem.W.keepIn K (.ref CC) = true
  nSw : NoAttr K CS "wrong"
  nSt : NoAttr K CS "things"
  nSc : NoAttr K CS "claims"
  nDs : NoAttr K CD "store"
  nCw : NoAttr K CC "which"
  nCp : NoAttr K CC "plain"
  nCb : NoAttr K CC "behind"
  gR : mg "Refused" = some (.ref CR)
  oR : OexC K CR
  xR : XfC K CR
  nR : PySem.W.findIn K (.ref CR) "answer" = some none
  eR : PySem.W.exmOne K (.ref CR) (.ref CR) = some true
  iR : ∃ fI, PySem.W.findIn K (.ref CR) "__init__" = some (some (.ref fI)) ∧ PySem.W.typeIn K (.ref fI) = some (.type "function") ∧ ∃ fd, Fun K "__init__" "Refused.__init__" (inClass (top 32) 0) fI fd
  bLen : mg "len" = none
  bRange : mg "range" = none
  bMax : mg "max" = none
  bMin : mg "min" = none
  bAll : mg "all" = none
  bAny : mg "any" = none
  bList : mg "list" = none
  kFeatures : ∃ t, mg "FEATURES" = some (.int 4 t)
  kMostValue : ∃ t, mg "MOST_VALUE" = some (.int 9 t)
  kLeftOut : ∃ t, mg "LEFT_OUT" = some (.int 10 t)
  kTooGreat : ∃ t, mg "TOO_GREAT" = some (.int (-1) t)
  kUnknown : ∃ t, mg "UNKNOWN" = some (.int (-2) t)
  kTooMany : ∃ t, mg "TOO_MANY" = some (.int (-5) t)
  kUnfit : ∃ t, mg "UNFIT" = some (.int (-6) t)
  kTwice : ∃ t, mg "TWICE" = some (.int (-7) t)
  kMostWrong : ∃ t, mg "MOST_WRONG" = some (.int 4 t)
  kMostThings : ∃ t, mg "MOST_THINGS" = some (.int 5 t)
  kMostClaims : ∃ t, mg "MOST_CLAIMS" = some (.int 5 t)
  kBegins : ∃ t, mg "BEGINS" = some (.int 0 t)
  kThing : ∃ t, mg "THING" = some (.int 1 t)
  kClaim : ∃ t, mg "CLAIM" = some (.int 2 t)
  kFits : ∃ t, mg "FITS" = some (.int 3 t)
  kCheck : ∃ t, mg "CHECK" = some (.int 4 t)
  kBest : ∃ t, mg "BEST" = some (.int 5 t)
  kHas : ∃ t, mg "HAS" = some (.int 6 t)
  tGivenOut : TxF K mg "given_out" (top 1)
  tErrorsIn : TxF K mg "errors_in" (top 2)
  tChoices : TxF K mg "choices" (top 3)
  tGoneOn : TxF K mg "gone_on" (top 4)
  tPossible : TxF K mg "possible_plans" (top 5)
  tUnfit : TxF K mg "first_unfit" (top 6)
  tTwice : TxF K mg "first_twice" (top 7)
  tFull : TxF K mg "full_plans" (top 9)
  tBest : TxF K mg "best_plans" (top 10)
  tHad : TxF K mg "things_had" (top 11)
  tClaimsIn : TxF K mg "claims_in" (top 13)
  tFitsOne : TxF K mg "fits_one" (top 14)
  tThingsFor : TxF K mg "things_for" (top 15)
  tShortBy : TxF K mg "short_by" (top 16)
  tShortest : TxF K mg "shortest" (top 17)
  tIsError : TxF K mg "is_error" (top 22)
  tErrorsAbout : TxF K mg "errors_about" (top 23)
  tIsThing : TxF K mg "is_thing" (top 24)
  tIsClaim : TxF K mg "is_claim" (top 25)
  tNeed : TxF K mg "need" (top 33)
  sInit : TxM K CS "__init__" "Store.__init__" (inClass (top 35) 0)
  sThings : TxM K CS "many_things" "Store.many_things" (inClass (top 35) 1)
  sClaims : TxM K CS "many_claims" "Store.many_claims" (inClass (top 35) 2)
  sErrors : TxM K CS "errors" "Store.errors" (inClass (top 35) 3)
  sFits : TxM K CS "fits" "Store.fits" (inClass (top 35) 4)
  sFitting : TxM K CS "fitting" "Store.fitting" (inClass (top 35) 5)
  sIsNone : TxM K CS "is_none" "Store.is_none" (inClass (top 35) 6)
  dInit : TxM K CD "__init__" "Desk.__init__" (inClass (top 40) 0)
  dBegins : TxM K CD "begins" "Desk.begins" (inClass (top 40) 1)
  dThing : TxM K CD "thing" "Desk.thing" (inClass (top 40) 2)
  dClaim : TxM K CD "claim" "Desk.claim" (inClass (top 40) 3)
  dNeedClaim : TxM K CD "need_claim" "Desk.need_claim" (inClass (top 40) 4)
  dFits : TxM K CD "fits" "Desk.fits" (inClass (top 40) 5)
  dNeedPlan : TxM K CD "need_plan" "Desk.need_plan" (inClass (top 40) 6)
  dCheck : TxM K CD "check" "Desk.check" (inClass (top 40) 7)
  dBest : TxM K CD "best" "Desk.best" (inClass (top 40) 8)
  dHas : TxM K CD "has" "Desk.has" (inClass (top 40) 9)
  dWhy : TxM K CD "why" "Desk.why" (inClass (top 40) 10)
  cInit : TxM K CC "__init__" "Call.__init__" (inClass (top 49) 0)
  tCallAt : TxF K mg "call_at" (top 50)
  tDeed : TxF K mg "deed" (top 51)
  tOutcome : TxF K mg "outcome" (top 52)

section
variable {P : Program} {w : World} {K : PySem.W.Frag} {mg : Str → Option Value} {base : Heap} {CR CS CD CC : Addr}
/-! ### is_error -/
def rIsError : List V → Hp → V → Prop := fun vs _ z => ∃ a b : Nat, vs = [vN a, vN b] ∧ z = .bl (isErr a b)
theorem dec_nat (a b : Nat) : decide (vN a = vN b) = (a == b) := by
  rw [dec_int, Bool.eq_iff_iff, beq_iff_eq, beq_iff_eq]
  omega
theorem dec_natI (a : Nat) (n : Nat) {i : Int} (h : i = (n : Int)) : decide (vN a = V.int i) = (a == n) := by
  rw [h]
  exact dec_nat a n
theorem scIsError : FnScope ["told", "had"] ["told", "had"] (defScope (top 22)) := ⟨rfl, rfl, rfl, by decide +kernel, rfl, by decide +kernel, by decide +kernel⟩
theorem d_is_error (T : Txt K mg CR CS CD CC) : Def P w K mg base CX0 1 "is_error" ["told", "had"] (spV rIsError) :=
  .of T.tIsError scIsError (fun _ _ _ _ _ _ us hl => match us, hl with | [_, _], _ => rfl) (fun vs H Q E h => by
    obtain ⟨_, ⟨a, b, rfl, _⟩, _⟩ := h
    rfl) fun f cdv A outer s H vs Q E hr h => by
    obtain ⟨_, ⟨a, b, rfl, rfl⟩, k⟩ := h
    refine ⟨_, pss_one (ps_ret (pe_and (pe_cmpR op_ne (pv 0) (pe_k T.kLeftOut) (nomark _)) (pe_one (pe_cmpR op_ne (pv 0) (pv 1) (nomark _))))), ?_⟩
    refine s_ret (ev_is (ev_andV (ev_op (ev_var rfl) ev_c (rv_ne rfl)) fun _ => ev_op (ev_var rfl) (ev_var rfl) (rv_ne rfl)) ?_) k
    rw [dec_natI (i := 10) a 10 rfl, dec_nat]
    rfl

/-! ### errors_about -/
def rErrorsAbout : List V → Hp → V → Prop := fun vs H z => ∃ (p q : Addr) (c t : List Nat), vs = [.ref p, .ref q] ∧ H p = some (.lst (nats c)) ∧ H q = some (.lst (nats t)) ∧ c.length = 4 ∧ t.length = 4 ∧ z = vN (errs c t)
def errsTo (c t : List Nat) (i : Nat) : Nat := ((List.range i).filter fun k => isErr (c.getD k 0) (t.getD k 0)).length
theorem errsTo_more (c t : List Nat) (i : Nat) : errsTo c t (i + 1) = if isErr (c.getD i 0) (t.getD i 0) = true then errsTo c t i + 1 else errsTo c t i := by
  unfold errsTo
  rw [List.range_succ, List.filter_append, List.length_append]
  by_cases h : isErr (c.getD i 0) (t.getD i 0) = true
  · rw [if_pos h, List.filter_cons_of_pos (p := fun k => isErr (c.getD k 0) (t.getD k 0)) h]
    rfl
  · rw [if_neg h, List.filter_cons_of_neg (p := fun k => isErr (c.getD k 0) (t.getD k 0)) h]
    rfl
theorem scErrorsAbout : FnScope ["claim", "thing", "found", "k"] ["claim", "thing"] (defScope (top 23)) := ⟨rfl, rfl, rfl, by decide +kernel, rfl, by decide +kernel, by decide +kernel⟩
theorem d_errors_about (T : Txt K mg CR CS CD CC) : Def P w K mg base CX0 2 "errors_about" ["claim", "thing"] (spV rErrorsAbout) :=
  .of T.tErrorsAbout scErrorsAbout (fun _ _ _ _ _ _ us hl => match us, hl with | [_, _], _ => rfl) (fun vs H Q E h => by
    obtain ⟨_, ⟨p, q, c, t, rfl, _⟩, _⟩ := h
    rfl) fun f cdv A outer s H vs Q E hr h => by
    obtain ⟨_, ⟨p, q, c, t, rfl, hp, hq, hc, ht, rfl⟩, k⟩ := h
    refine ⟨_, pss_cons (ps_set (i := 2) scErrorsAbout.nd rfl (Or.inl rfl) pe_int)
      (pss_cons (ps_for PassesOwn.never rfl (pi_range1 (by rfl) T.bRange (pa_cons (pe_k T.kFeatures) pa_nil)) (pg_name (i := 3) scErrorsAbout.nd rfl (Or.inl rfl))
        (pss_one (ps_if (pt_val (pe_def (d_is_error T) hr (pa_cons (pe_ix ix_list (pv 0) (pv 3) (fun _ _ => rfl)) (pa_cons (pe_ix ix_list (pv 1) (pv 3) (fun _ _ => rfl)) pa_nil))))
          (pss_one (ps_aug (i := 2) scErrorsAbout.nd rfl (Or.inl rfl) pe_int ip_add)) pss_nil)))
      (pss_one (ps_ret (pv 2)))), ?_⟩
    refine q_asg ev_c fun H1 e1 => ?_
    refine q_forR1 (n := 4) (ea_cons ev_c ea_nil) (by decide) (fun i σ' H' => ∃ v : Option V, σ' = [some (.ref p), some (.ref q), some (vN (errsTo c t i)), v] ∧ Ex H H') (fun H2 e2 => ⟨none, rfl, e1.trans e2⟩) ?_ ?_
    · rintro i σ' H' hi ⟨v, rfl, e⟩
      have hi4 : i < 4 := by omega
      refine s_when (b := isErr (c.getD i 0) (t.getD i 0)) (et_val (ev_call (ea_cons (ev_ixN (ev_var rfl) (e _ _ hp) (ev_var rfl) (by omega)) (ea_cons (ev_ixN (ev_var rfl) (e _ _ hq) (ev_var rfl) (by omega)) ea_nil)) (spV_of fun H1 e1 => ⟨_, _, rfl, rfl⟩))) (fun hb H2 e2 => ?_) (fun hb H2 e2 => ?_)
      · refine s_aug (a := ((errsTo c t i : Nat) : Int)) (b := 1) rfl ev_c fun H3 e3 => ?_
        refine ⟨some (vN i), ?_, (e.trans e2).trans e3⟩
        have em := errsTo_more c t i
        rw [if_pos hb] at em
        rw [em]
        rfl
      · refine ⟨some (vN i), ?_, e.trans e2⟩
        have em := errsTo_more c t i
        rw [if_neg (by rw [hb]; decide)] at em
        rw [em]
        rfl
    · rintro σ' H' ⟨v, rfl, e⟩
      exact s_ret (ev_var rfl) fun H2 e2 => k H2 (e.trans e2)
end
end My

/-! Part 5: is_thing, is_claim; the store. -/
namespace My
open PySem PySem.Spec PyProof.Rows L2 Evl
section
variable {P : Program} {w : World} {K : PySem.W.Frag} {mg : Str → Option Value} {base : Heap} {CR CS CD CC : Addr}
theorem filter_yes {α : Type} (l : List α) : l.filter (fun _ => true) = l := List.filter_eq_self.mpr fun _ _ => rfl
theorem dec_le (a b : Nat) : decide ((a : Int) ≤ (b : Int)) = decide (a ≤ b) := decide_eq_decide.mpr (by omega)
theorem dec_lt (a b : Nat) : decide ((a : Int) < (b : Int)) = decide (a < b) := decide_eq_decide.mpr (by omega)
theorem rv_le {H : Hp} {a b : Nat} : RV (rI0 fun i j => .bl (decide (i ≤ j))) (vN a) (vN b) H (.bl (decide (a ≤ b))) := by
  rw [← dec_le]
  exact rv_I0 (g := fun i j => .bl (decide (i ≤ j)))
theorem rv_lt {H : Hp} {a b : Nat} : RV (rI0 fun i j => .bl (decide (i < j))) (vN a) (vN b) H (.bl (decide (a < b))) := by
  rw [← dec_lt]
  exact rv_I0 (g := fun i j => .bl (decide (i < j)))
theorem rv_eqN {H : Hp} {a b : Nat} : RV rEq (vN a) (vN b) H (.bl (a == b)) := by
  rw [← dec_nat]
  exact rv_eq rfl
theorem ev_all {σ : L2.St} {H : Hp} {te : TE} {bs : List Bool} (h : EvL te σ H (bs.map V.bl)) : Ev (tCB (rAll K) (tCons te tNil)) σ H (.bl (bs.all id)) := fun H1 e Q q =>
  h H1 e _ fun p H2 _ e2 h2 => ⟨p, bs, rfl, SqL.of h2, q H2 e2⟩
theorem ev_any {σ : L2.St} {H : Hp} {te : TE} {bs : List Bool} (h : EvL te σ H (bs.map V.bl)) : Ev (tCB (rAny K) (tCons te tNil)) σ H (.bl (bs.any id)) := fun H1 e Q q =>
  h H1 e _ fun p H2 _ e2 h2 => ⟨p, bs, rfl, SqL.of h2, q H2 e2⟩
theorem all_map {α : Type} (l : List α) (p : α → Bool) : (l.map p).all id = l.all p := by rw [List.all_map]; rfl
theorem any_map {α : Type} (l : List α) (p : α → Bool) : (l.map p).any id = l.any p := by rw [List.any_map]; rfl
/-! ### is_thing, is_claim -/
def rAllUp (n : Nat) : List V → Hp → V → Prop := fun vs H z => ∃ (p : Addr) (f : List Nat), vs = [.ref p] ∧ H p = some (.lst (nats f)) ∧ f.length ≤ 1000 ∧ z = .bl (f.all fun v => decide (v ≤ n))
theorem scIsThing : FnScope ["features", "value"] ["features"] (defScope (top 24)) := ⟨rfl, rfl, rfl, by decide +kernel, rfl, by decide +kernel, by decide +kernel⟩
theorem d_is_thing (T : Txt K mg CR CS CD CC) : Def P w K mg base CX0 1 "is_thing" ["features"] (spV (rAllUp 9)) :=
  .of T.tIsThing scIsThing (fun _ _ _ _ _ _ us hl => match us, hl with | [_], _ => rfl) (fun vs H Q E h => by
    obtain ⟨_, ⟨p, f, rfl, _⟩, _⟩ := h
    rfl) fun f cdv A outer s H vs Q E hr h => by
    obtain ⟨_, ⟨p, f, rfl, hp, hf, rfl⟩, k⟩ := h
    refine ⟨_, pss_one (ps_ret (pe_callB (cr_all rfl) (by rfl) T.bAll (by decide +kernel) (pa_cons (pe_lc (own := [("value", 1)]) (g := gName 1) (tt := tYes) rfl scIsThing.nd (pi_list (pv 0))
      (blkOk_by (N := ["features", "value"]) (sc := defScope (top 24)) (by decide +kernel)) (fun _ _ _ _ _ => pg_name (i := 1) scIsThing.nd rfl (Or.inl rfl)) (fun _ _ _ _ _ => pts_nil) (fun _ _ _ _ _ => pe_cmpR op_le (pv 1) (pe_k T.kMostValue) (nomark _))) pa_nil))), ?_⟩
    have hx : EvL (tLc (iList K (tVar 0)) (gName 1) tYes (tOp (rI0 fun i j => .bl (decide (i ≤ j))) (tVar 1) (tC (.int 9))) [1]) (L2.start ["features", "value"] [.ref p]) H ((f.map fun v => decide (v ≤ 9)).map V.bl) := by
      have q := el_lcI (K := K) (σ := L2.start ["features", "value"] [.ref p]) (H := H) (te := tOp (rI0 fun i j => .bl (decide (i ≤ j))) (tVar 1) (tC (.int 9))) (t := tYes) (tl := tVar 0) (j := 1) (vs := [1]) f vN (fun v => V.bl (decide (v ≤ 9))) (fun _ => true) (ev_var rfl) (SqL.of hp) (by omega) (fun _ => rfl)
        (fun y _ H1 _ => et_yes) (fun y _ H1 _ _ => ev_op (ev_var rfl) ev_c (rv_le (b := 9)))
      rw [filter_yes] at q
      rw [List.map_map]
      exact q
    refine s_ret (ev_is (ev_all hx) ?_) k
    rw [all_map]
theorem scIsClaim : FnScope ["features", "value"] ["features"] (defScope (top 25)) := ⟨rfl, rfl, rfl, by decide +kernel, rfl, by decide +kernel, by decide +kernel⟩
theorem d_is_claim (T : Txt K mg CR CS CD CC) : Def P w K mg base CX0 1 "is_claim" ["features"] (spV (rAllUp 10)) :=
  .of T.tIsClaim scIsClaim (fun _ _ _ _ _ _ us hl => match us, hl with | [_], _ => rfl) (fun vs H Q E h => by
    obtain ⟨_, ⟨p, f, rfl, _⟩, _⟩ := h
    rfl) fun f cdv A outer s H vs Q E hr h => by
    obtain ⟨_, ⟨p, f, rfl, hp, hf, rfl⟩, k⟩ := h
    refine ⟨_, pss_one (ps_ret (pe_callB (cr_all rfl) (by rfl) T.bAll (by decide +kernel) (pa_cons (pe_lc (own := [("value", 1)]) (g := gName 1) (tt := tYes) rfl scIsClaim.nd (pi_list (pv 0))
      (blkOk_by (N := ["features", "value"]) (sc := defScope (top 25)) (by decide +kernel)) (fun _ _ _ _ _ => pg_name (i := 1) scIsClaim.nd rfl (Or.inl rfl)) (fun _ _ _ _ _ => pts_nil) (fun _ _ _ _ _ => pe_cmpR op_le (pv 1) (pe_k T.kLeftOut) (nomark _))) pa_nil))), ?_⟩
    have hx : EvL (tLc (iList K (tVar 0)) (gName 1) tYes (tOp (rI0 fun i j => .bl (decide (i ≤ j))) (tVar 1) (tC (.int 10))) [1]) (L2.start ["features", "value"] [.ref p]) H ((f.map fun v => decide (v ≤ 10)).map V.bl) := by
      have q := el_lcI (K := K) (σ := L2.start ["features", "value"] [.ref p]) (H := H) (te := tOp (rI0 fun i j => .bl (decide (i ≤ j))) (tVar 1) (tC (.int 10))) (t := tYes) (tl := tVar 0) (j := 1) (vs := [1]) f vN (fun v => V.bl (decide (v ≤ 10))) (fun _ => true) (ev_var rfl) (SqL.of hp) (by omega) (fun _ => rfl)
        (fun y _ H1 _ => et_yes) (fun y _ H1 _ _ => ev_op (ev_var rfl) ev_c (rv_le (b := 10)))
      rw [filter_yes] at q
      rw [List.map_map]
      exact q
    refine s_ret (ev_is (ev_all hx) ?_) k
    rw [all_map]

/-! ### the store in the heap -/
theorem lk_here {k : Str} {v : V} {r : List (Str × V)} : List.lookup k ((k, v) :: r) = some v := by
  have e : (k == k) = true := beq_self_eq_true k
  simp only [List.lookup, e]
theorem lk_past {k g : Str} {v : V} {r : List (Str × V)} (h : (k == g) = false) : List.lookup k ((g, v) :: r) = List.lookup k r := by
  simp only [List.lookup, h]
theorem put_here {f : Str} {v x : V} {r : List (Str × V)} : putF f v ((f, x) :: r) = (f, v) :: r := if_pos rfl
theorem put_past {f g : Str} {v x : V} {r : List (Str × V)} (h : ¬ g = f) : putF f v ((g, x) :: r) = (g, x) :: putF f v r := if_neg h
def sF (wr : Nat) (lt lc : Addr) : List (Str × V) := [("wrong", vN wr), ("things", .ref lt), ("claims", .ref lc)]
theorem sF_wrong (wr : Nat) (lt lc : Addr) : (sF wr lt lc).lookup ("wrong" : Str) = some (vN wr) := lk_here
theorem sF_things (wr : Nat) (lt lc : Addr) : (sF wr lt lc).lookup ("things" : Str) = some (.ref lt) := (lk_past (by decide +kernel)).trans lk_here
theorem sF_claims (wr : Nat) (lt lc : Addr) : (sF wr lt lc).lookup ("claims" : Str) = some (.ref lc) := (lk_past (by decide +kernel)).trans ((lk_past (by decide +kernel)).trans lk_here)
theorem sF_no {m : Str} (wr : Nat) (lt lc : Addr) (h1 : (m == ("wrong" : Str)) = false) (h2 : (m == ("things" : Str)) = false) (h3 : (m == ("claims" : Str)) = false) : (sF wr lt lc).lookup m = none := (lk_past h1).trans ((lk_past h2).trans ((lk_past h3).trans rfl))
theorem sF_put (wr : Nat) (lt lc : Addr) : putF "claims" (.ref lc) (putF "things" (.ref lt) (putF "wrong" (vN wr) [])) = sF wr lt lc := by
  have e1 : putF "wrong" (vN wr) [] = ([("wrong", vN wr)] : List (Str × V)) := rfl
  have e2 : putF "things" (.ref lt) ([("wrong", vN wr)] : List (Str × V)) = ([("wrong", vN wr), ("things", .ref lt)] : List (Str × V)) := (put_past (by decide +kernel)).trans rfl
  have e3 : putF "claims" (.ref lc) ([("wrong", vN wr), ("things", .ref lt)] : List (Str × V)) = ([("wrong", vN wr), ("things", .ref lt), ("claims", .ref lc)] : List (Str × V)) := (put_past (by decide +kernel)).trans (congrArg _ ((put_past (by decide +kernel)).trans rfl))
  rw [e1, e2, e3]
  rfl
structure StoreIn (CS : Addr) (H : Hp) (s dx lt lc : Addr) (m : M) : Prop where
  at_ : H s = some (.ins CS dx (sF m.wrong lt lc))
  things : RowsAt H lt m.things
  claims : RowsAt H lc m.claims
theorem StoreIn.ex {H H' : Hp} {s dx lt lc : Addr} {m : M} (h : StoreIn CS H s dx lt lc m) (e : Ex H H') : StoreIn CS H' s dx lt lc m := ⟨e _ _ h.at_, h.things.ex e, h.claims.ex e⟩
def StoreAt (CS : Addr) (H : Hp) (s : Addr) (m : M) : Prop := m.Wf ∧ ∃ dx lt lc, StoreIn CS H s dx lt lc m
theorem StoreAt.ex {H H' : Hp} {s : Addr} {m : M} (h : StoreAt CS H s m) (e : Ex H H') : StoreAt CS H' s m := by
  obtain ⟨W, dx, lt, lc, S⟩ := h
  exact ⟨W, dx, lt, lc, S.ex e⟩
theorem StoreAt.ins {H : Hp} {s : Addr} {m : M} (h : StoreAt CS H s m) : ∃ dx fs, H s = some (.ins CS dx fs) ∧ fs.lookup ("many_things" : Str) = none ∧ fs.lookup ("many_claims" : Str) = none ∧ fs.lookup ("errors" : Str) = none ∧ fs.lookup ("fits" : Str) = none ∧ fs.lookup ("fitting" : Str) = none ∧ fs.lookup ("is_none" : Str) = none := by
  obtain ⟨W, dx, lt, lc, S⟩ := h
  exact ⟨dx, _, S.at_, sF_no _ _ _ (by decide +kernel) (by decide +kernel) (by decide +kernel), sF_no _ _ _ (by decide +kernel) (by decide +kernel) (by decide +kernel), sF_no _ _ _ (by decide +kernel) (by decide +kernel) (by decide +kernel),
    sF_no _ _ _ (by decide +kernel) (by decide +kernel) (by decide +kernel), sF_no _ _ _ (by decide +kernel) (by decide +kernel) (by decide +kernel), sF_no _ _ _ (by decide +kernel) (by decide +kernel) (by decide +kernel)⟩

/-! ### Store.__init__ -/
def spSInit (CS : Addr) : Sp := fun vs H Q _ => ∃ (s dx : Addr) (wr : Nat), vs = [.ref s, vN wr] ∧ H s = some (.ins CS dx []) ∧
  ∀ (H' : Hp) (lt lc : Addr), H lt = none → H lc = none → lt ≠ lc → (∀ b o, b ≠ s → H b = some o → H' b = some o) → H' s = some (.ins CS dx (sF wr lt lc)) → H' lt = some (.lst []) → H' lc = some (.lst []) → Q .non H'
theorem scSInit : FnScope ["self", "wrong"] ["self", "wrong"] (defScope (inClass (top 35) 0)) := ⟨rfl, rfl, rfl, by decide +kernel, rfl, by decide +kernel, by decide +kernel⟩
theorem m_s_init (T : Txt K mg CR CS CD CC) : Met P w K mg base CX0 1 CS "__init__" ["self", "wrong"] (spSInit CS) :=
  .of T.sInit scSInit (fun _ _ _ _ _ _ us hl => match us, hl with | [_, _], _ => rfl) (fun vs H Q E h => by
    obtain ⟨s, dx, wr, rfl, _⟩ := h
    rfl) fun f cdv A outer s0 H vs Q E hr h => by
    obtain ⟨s, dx, wr, rfl, hs, k⟩ := h
    refine ⟨_, pss_cons (ps_fld (pv 0) (pv 1) rfl) (pss_cons (ps_fld (pv 0) (pe_lst pa_nil) rfl) (pss_one (ps_fld (pv 0) (pe_lst pa_nil) rfl))), ?_⟩
    refine ⟨_, rfl, _, rfl, s, CS, dx, [], rfl, hs, T.cS, T.nSw, (by show 0 < 1000; decide), ?_⟩
    refine ⟨Nat.zero_le _, fun lt hlt => ?_⟩
    have nst : s ≠ lt := ne_of_none upd_same hlt
    have hlt0 : H lt = none := by
      rw [upd_ne (Ne.symm nst)] at hlt
      exact hlt
    refine ⟨_, rfl, s, CS, dx, _, rfl, (by rw [upd_ne nst]; exact upd_same), T.cS, T.nSt, (by show 1 < 1000; decide), ?_⟩
    refine ⟨Nat.zero_le _, fun lc hlc => ?_⟩
    have nsc : s ≠ lc := ne_of_none upd_same hlc
    have ntc : lt ≠ lc := by
      refine ne_of_none (o := .lst []) ?_ hlc
      rw [upd_ne (Ne.symm nst)]
      exact upd_same
    have hlc0 : H lc = none := by
      rw [upd_ne (Ne.symm nsc), upd_ne (Ne.symm ntc), upd_ne (Ne.symm nsc)] at hlc
      exact hlc
    have e2 : putF "things" (.ref lt) (putF "wrong" (vN wr) []) = ([("wrong", vN wr), ("things", .ref lt)] : List (Str × V)) := (put_past (by decide +kernel)).trans rfl
    refine ⟨_, rfl, s, CS, dx, _, rfl, (by rw [upd_ne nsc]; exact upd_same), T.cS, T.nSc, (by rw [e2]; show 2 < 1000; decide), ?_⟩
    refine k _ lt lc hlt0 hlc0 ntc (fun b o hb ho => ?_) ?_ ?_ ?_
    · rw [upd_ne hb, upd_ne (ne_of_none ho hlc0), upd_ne hb, upd_ne (ne_of_none ho hlt0), upd_ne hb]
      exact ho
    · rw [upd_same, sF_put]
    · rw [upd_ne (Ne.symm nst), upd_ne ntc, upd_ne (Ne.symm nst)]
      exact upd_same
    · rw [upd_ne (Ne.symm nsc)]
      exact upd_same

/-! ### many_things, many_claims -/
def rManyThings (CS : Addr) : List V → Hp → V → Prop := fun vs H z => ∃ (s : Addr) (m : M), vs = [.ref s] ∧ StoreAt CS H s m ∧ z = vN m.nt
def rManyClaims (CS : Addr) : List V → Hp → V → Prop := fun vs H z => ∃ (s : Addr) (m : M), vs = [.ref s] ∧ StoreAt CS H s m ∧ z = vN m.nc
theorem scMT : FnScope ["self"] ["self"] (defScope (inClass (top 35) 1)) := ⟨rfl, rfl, rfl, by decide +kernel, rfl, by decide +kernel, by decide +kernel⟩
theorem m_many_things (T : Txt K mg CR CS CD CC) : Met P w K mg base CX0 1 CS "many_things" ["self"] (spV (rManyThings CS)) :=
  .of T.sThings scMT (fun _ _ _ _ _ _ us hl => match us, hl with | [_], _ => rfl) (fun vs H Q E h => by
    obtain ⟨_, ⟨s, m, rfl, _⟩, _⟩ := h
    rfl) fun f cdv A outer s0 H vs Q E hr h => by
    obtain ⟨_, ⟨s, m, rfl, ⟨W, dx, lt, lc, S⟩, rfl⟩, k⟩ := h
    refine ⟨_, pss_one (ps_ret (pe_callB call_len_seq (by rfl) T.bLen PySem.boot_len (pa_cons (pe_fld (pv 0) rfl) pa_nil))), ?_⟩
    obtain ⟨xs, hx, hl⟩ := S.things.len
    refine s_ret (ev_is (ev_len (ev_fld (ev_var rfl) S.at_ T.cS T.nSt (sF_things _ _ _)) (SqL.of hx)) ?_) k
    rw [hl]
    rfl
theorem scMC : FnScope ["self"] ["self"] (defScope (inClass (top 35) 2)) := ⟨rfl, rfl, rfl, by decide +kernel, rfl, by decide +kernel, by decide +kernel⟩
theorem m_many_claims (T : Txt K mg CR CS CD CC) : Met P w K mg base CX0 1 CS "many_claims" ["self"] (spV (rManyClaims CS)) :=
  .of T.sClaims scMC (fun _ _ _ _ _ _ us hl => match us, hl with | [_], _ => rfl) (fun vs H Q E h => by
    obtain ⟨_, ⟨s, m, rfl, _⟩, _⟩ := h
    rfl) fun f cdv A outer s0 H vs Q E hr h => by
    obtain ⟨_, ⟨s, m, rfl, ⟨W, dx, lt, lc, S⟩, rfl⟩, k⟩ := h
    refine ⟨_, pss_one (ps_ret (pe_callB call_len_seq (by rfl) T.bLen PySem.boot_len (pa_cons (pe_fld (pv 0) rfl) pa_nil))), ?_⟩
    obtain ⟨xs, hx, hl⟩ := S.claims.len
    refine s_ret (ev_is (ev_len (ev_fld (ev_var rfl) S.at_ T.cS T.nSc (sF_claims _ _ _)) (SqL.of hx)) ?_) k
    rw [hl]
    rfl
/-- s.many_things() -/
theorem ev_nt {σ : L2.St} {H : Hp} {ta : TE} {s : Addr} {m : M} (h : Ev ta σ H (.ref s)) (S : StoreAt CS H s m) : Ev (tMeth CS "many_things" (spV (rManyThings CS)) [] E0 ta tNil) σ H (vN m.nt) := by
  obtain ⟨dx, fs, ho, h1, _⟩ := S.ins
  exact ev_meth h ho h1 ea_nil (spV_of fun H1 e => ⟨s, m, rfl, S.ex e, rfl⟩)
theorem ev_nc {σ : L2.St} {H : Hp} {ta : TE} {s : Addr} {m : M} (h : Ev ta σ H (.ref s)) (S : StoreAt CS H s m) : Ev (tMeth CS "many_claims" (spV (rManyClaims CS)) [] E0 ta tNil) σ H (vN m.nc) := by
  obtain ⟨dx, fs, ho, _, h1, _⟩ := S.ins
  exact ev_meth h ho h1 ea_nil (spV_of fun H1 e => ⟨s, m, rfl, S.ex e, rfl⟩)

/-! ### errors, fits -/
def rErrors (CS : Addr) : List V → Hp → V → Prop := fun vs H z => ∃ (s : Addr) (m : M) (c t : Nat), vs = [.ref s, vN c, vN t] ∧ StoreAt CS H s m ∧ c < m.nc ∧ t < m.nt ∧ z = vN (m.errors c t)
def rFits (CS : Addr) : List V → Hp → V → Prop := fun vs H z => ∃ (s : Addr) (m : M) (c t : Nat), vs = [.ref s, vN c, vN t] ∧ StoreAt CS H s m ∧ c < m.nc ∧ t < m.nt ∧ z = .bl (m.fits c t)
theorem scErr : FnScope ["self", "c", "t"] ["self", "c", "t"] (defScope (inClass (top 35) 3)) := ⟨rfl, rfl, rfl, by decide +kernel, rfl, by decide +kernel, by decide +kernel⟩
theorem m_errors (T : Txt K mg CR CS CD CC) : Met P w K mg base CX0 3 CS "errors" ["self", "c", "t"] (spV (rErrors CS)) :=
  .of T.sErrors scErr (fun _ _ _ _ _ _ us hl => match us, hl with | [_, _, _], _ => rfl) (fun vs H Q E h => by
    obtain ⟨_, ⟨s, m, c, t, rfl, _⟩, _⟩ := h
    rfl) fun f cdv A outer s0 H vs Q E hr h => by
    obtain ⟨_, ⟨s, m, c, t, rfl, ⟨W, dx, lt, lc, S⟩, hc, ht, rfl⟩, k⟩ := h
    refine ⟨_, pss_one (ps_ret (pe_def (d_errors_about T) hr (pa_cons (pe_ix ix_list (pe_fld (pv 0) rfl) (pv 1) (fun _ _ => rfl)) (pa_cons (pe_ix ix_list (pe_fld (pv 0) rfl) (pv 2) (fun _ _ => rfl)) pa_nil)))), ?_⟩
    obtain ⟨a, xs, hx, hxa, ha⟩ := S.claims.get hc
    obtain ⟨b, ys, hy, hyb, hb⟩ := S.things.get ht
    have W1 : (m.claims.getD c []).length = 4 := W.c4 _ (getD_mem hc)
    have W2 : (m.things.getD t []).length = 4 := W.t4 _ (getD_mem ht)
    exact s_ret (ev_call (ea_cons (ev_op (ev_fld (ev_var rfl) S.at_ T.cS T.nSc (sF_claims _ _ _)) (ev_var rfl) (rv_ixL (SqL.of hx) (atI_nat hxa))) (ea_cons (ev_op (ev_fld (ev_var rfl) S.at_ T.cS T.nSt (sF_things _ _ _)) (ev_var rfl) (rv_ixL (SqL.of hy) (atI_nat hyb))) ea_nil))
      (spV_of fun H1 e => ⟨a, b, _, _, rfl, e _ _ ha, e _ _ hb, W1, W2, rfl⟩)) k
/-- s.errors(c, t) -/
theorem ev_errors {σ : L2.St} {H : Hp} {ta tb tc : TE} {s : Addr} {m : M} {c t : Nat} (h : Ev ta σ H (.ref s)) (S : StoreAt CS H s m) (hb : Ev tb σ H (vN c)) (hcv : Ev tc σ H (vN t)) (hc : c < m.nc) (ht : t < m.nt) : Ev (tMeth CS "errors" (spV (rErrors CS)) [] E0 ta (tCons tb (tCons tc tNil))) σ H (vN (m.errors c t)) := by
  obtain ⟨dx, fs, ho, _, _, h1, _⟩ := S.ins
  exact ev_meth h ho h1 (ea_cons hb (ea_cons hcv ea_nil)) (spV_of fun H1 e => ⟨s, m, c, t, rfl, S.ex e, hc, ht, rfl⟩)
theorem scFits : FnScope ["self", "c", "t"] ["self", "c", "t"] (defScope (inClass (top 35) 4)) := ⟨rfl, rfl, rfl, by decide +kernel, rfl, by decide +kernel, by decide +kernel⟩
theorem m_fits (T : Txt K mg CR CS CD CC) : Met P w K mg base CX0 4 CS "fits" ["self", "c", "t"] (spV (rFits CS)) :=
  .of T.sFits scFits (fun _ _ _ _ _ _ us hl => match us, hl with | [_, _, _], _ => rfl) (fun vs H Q E h => by
    obtain ⟨_, ⟨s, m, c, t, rfl, _⟩, _⟩ := h
    rfl) fun f cdv A outer s0 H vs Q E hr h => by
    obtain ⟨_, ⟨s, m, c, t, rfl, S, hc, ht, rfl⟩, k⟩ := h
    refine ⟨_, pss_one (ps_ret (pe_cmpR op_le (pe_met (pv 0) T.cS (m_errors T) hr (pa_cons (pv 1) (pa_cons (pv 2) pa_nil))) (pe_fld (pv 0) rfl) (nomark _))), ?_⟩
    obtain ⟨W, dx, lt, lc, S1⟩ := id S
    exact s_ret (ev_op (ev_errors (ev_var rfl) S (ev_var rfl) (ev_var rfl) hc ht) (ev_fld (ev_var rfl) S1.at_ T.cS T.nSw (sF_wrong _ _ _)) rv_le) k
/-- s.fits(c, t) -/
theorem ev_fits {σ : L2.St} {H : Hp} {ta tb tc : TE} {s : Addr} {m : M} {c t : Nat} (h : Ev ta σ H (.ref s)) (S : StoreAt CS H s m) (hb : Ev tb σ H (vN c)) (hcv : Ev tc σ H (vN t)) (hc : c < m.nc) (ht : t < m.nt) : Ev (tMeth CS "fits" (spV (rFits CS)) [] E0 ta (tCons tb (tCons tc tNil))) σ H (.bl (m.fits c t)) := by
  obtain ⟨dx, fs, ho, _, _, _, h1, _⟩ := S.ins
  exact ev_meth h ho h1 (ea_cons hb (ea_cons hcv ea_nil)) (spV_of fun H1 e => ⟨s, m, c, t, rfl, S.ex e, hc, ht, rfl⟩)

/-! ### fitting -/
def rFitting (CS : Addr) : List V → Hp → List V → Prop := fun vs H xs => ∃ (s : Addr) (m : M) (c : Nat), vs = [.ref s, vN c] ∧ StoreAt CS H s m ∧ c < m.nc ∧ xs = nats (m.fitting c)
theorem scFitting : FnScope ["self", "c", "t"] ["self", "c"] (defScope (inClass (top 35) 5)) := ⟨rfl, rfl, rfl, by decide +kernel, rfl, by decide +kernel, by decide +kernel⟩
theorem m_fitting (T : Txt K mg CR CS CD CC) : Met P w K mg base CX0 5 CS "fitting" ["self", "c"] (spL (rFitting CS)) :=
  .of T.sFitting scFitting (fun _ _ _ _ _ _ us hl => match us, hl with | [_, _], _ => rfl) (fun vs H Q E h => by
    obtain ⟨_, ⟨s, m, c, rfl, _⟩, _⟩ := h
    rfl) fun f cdv A outer s0 H vs Q E hr h => by
    obtain ⟨_, ⟨s, m, c, rfl, S, hc, rfl⟩, k⟩ := h
    have hr1 : Room 1 _ := hr.mono (by decide)
    refine ⟨_, pss_one (ps_ret (pe_lc (own := [("t", 2)]) (g := gName 2) rfl scFitting.nd (pi_range1 (by rfl) T.bRange (pa_cons (pe_met0 (pv 0) T.cS (m_many_things T) hr1) pa_nil))
      (blkOk_by (N := ["self", "c", "t"]) (sc := defScope (inClass (top 35) 5)) (by decide +kernel)) (fun _ _ _ _ _ => pg_name (i := 2) scFitting.nd rfl (Or.inl rfl))
      (fun _ _ _ _ _ => pts_one (pt_val (pe_met (pv 0) T.cS (m_fits T) hr (pa_cons (pv 1) (pa_cons (pv 2) pa_nil))))) (fun _ _ _ _ _ => pv 2))), ?_⟩
    have hn : m.nt ≤ 5 := S.1.t5
    exact s_retL (el_lcR (n := m.nt) (m.fits c) vN (ea_cons (ev_nt (ev_var rfl) S) ea_nil) (by omega) (fun _ => rfl) (fun i H1 e hi => et_val (ev_fits (ev_var rfl) (S.ex e) (ev_var rfl) (ev_var rfl) hc hi)) (fun i H1 e hi _ => ev_var rfl)) k
theorem el_fitting {σ : L2.St} {H : Hp} {ta tb : TE} {s : Addr} {m : M} {c : Nat} (h : Ev ta σ H (.ref s)) (S : StoreAt CS H s m) (hb : Ev tb σ H (vN c)) (hc : c < m.nc) : EvL (tMeth CS "fitting" (spL (rFitting CS)) [] E0 ta (tCons tb tNil)) σ H (nats (m.fitting c)) := by
  obtain ⟨dx, fs, ho, _, _, _, _, h1, _⟩ := S.ins
  exact el_meth h ho h1 (ea_cons hb ea_nil) (spL_of fun H1 e => ⟨s, m, c, rfl, S.ex e, hc, rfl⟩)

/-! ### is_none -/
def rIsNone (CS : Addr) : List V → Hp → V → Prop := fun vs H z => ∃ (s : Addr) (m : M) (t : Nat), vs = [.ref s, vN t] ∧ StoreAt CS H s m ∧ z = .bl (t == m.nt)
theorem scIsNone : FnScope ["self", "t"] ["self", "t"] (defScope (inClass (top 35) 6)) := ⟨rfl, rfl, rfl, by decide +kernel, rfl, by decide +kernel, by decide +kernel⟩
theorem m_is_none (T : Txt K mg CR CS CD CC) : Met P w K mg base CX0 2 CS "is_none" ["self", "t"] (spV (rIsNone CS)) :=
  .of T.sIsNone scIsNone (fun _ _ _ _ _ _ us hl => match us, hl with | [_, _], _ => rfl) (fun vs H Q E h => by
    obtain ⟨_, ⟨s, m, t, rfl, _⟩, _⟩ := h
    rfl) fun f cdv A outer s0 H vs Q E hr h => by
    obtain ⟨_, ⟨s, m, t, rfl, S, rfl⟩, k⟩ := h
    refine ⟨_, pss_one (ps_ret (pe_cmpR op_eq (pv 1) (pe_met0 (pv 0) T.cS (m_many_things T) hr) (nomark _))), ?_⟩
    exact s_ret (ev_op (ev_var rfl) (ev_nt (ev_var rfl) S) rv_eqN) k
theorem ev_isnone {σ : L2.St} {H : Hp} {ta tb : TE} {s : Addr} {m : M} {t : Nat} (h : Ev ta σ H (.ref s)) (S : StoreAt CS H s m) (hb : Ev tb σ H (vN t)) : Ev (tMeth CS "is_none" (spV (rIsNone CS)) [] E0 ta (tCons tb tNil)) σ H (.bl (t == m.nt)) := by
  obtain ⟨dx, fs, ho, _, _, _, _, _, h1⟩ := S.ins
  exact ev_meth h ho h1 (ea_cons hb ea_nil) (spV_of fun H1 e => ⟨s, m, t, rfl, S.ex e, rfl⟩)
end
end My

/-! Part 6: plans. -/
namespace My
open PySem PySem.Spec PyProof.Rows L2 Evl
section
variable {P : Program} {w : World} {K : PySem.W.Frag} {mg : Str → Option Value} {base : Heap} {CR CS CD CC : Addr}
theorem inV_nats (t : Nat) : ∀ l : List Nat, inV (vN t) (nats l) = l.contains t
  | [] => rfl
  | a :: r => by
    have ih := inV_nats t r
    have e : eqV (vN a) (vN t) = (t == a) := by
      show ((a : Int) == (t : Int)) = (t == a)
      rw [Bool.eq_iff_iff, beq_iff_eq, beq_iff_eq]
      omega
    show (eqV (vN a) (vN t) || inV (vN t) (nats r)) = _
    rw [List.contains_cons, ih, e]
theorem flat_nats (l : List Nat) : (nats l).all flatV = true := by
  rw [List.all_map]
  exact List.all_eq_true.mpr fun _ _ => rfl
theorem rv_in {H : Hp} {p : Addr} {t : Nat} {l : List Nat} (h : H p = some (.lst (nats l))) : RV (rIn K false) (vN t) (.ref p) H (.bl (l.contains t)) := by
  rw [← inV_nats]
  exact rv_isL (SqL.of h) rfl (flat_nats l)
theorem rv_notIn {H : Hp} {p : Addr} {t : Nat} {l : List Nat} (h : H p = some (.lst (nats l))) : RV (rIn K true) (vN t) (.ref p) H (.bl (!l.contains t)) := by
  rw [← inV_nats]
  exact rv_niL (SqL.of h) rfl (flat_nats l)

/-! ### given_out -/
def rGivenOut (CS : Addr) : List V → Hp → V → Prop := fun vs H z => ∃ (s q : Addr) (m : M) (p : List Nat), vs = [.ref s, .ref q] ∧ StoreAt CS H s m ∧ H q = some (.lst (nats p)) ∧ p.length ≤ 1000 ∧ z = vN (m.given p)
theorem scGiven : FnScope ["store", "plan", "t"] ["store", "plan"] (defScope (top 1)) := ⟨rfl, rfl, rfl, by decide +kernel, rfl, by decide +kernel, by decide +kernel⟩
theorem d_given_out (T : Txt K mg CR CS CD CC) : Def P w K mg base CX0 3 "given_out" ["store", "plan"] (spV (rGivenOut CS)) :=
  .of T.tGivenOut scGiven (fun _ _ _ _ _ _ us hl => match us, hl with | [_, _], _ => rfl) (fun vs H Q E h => by
    obtain ⟨_, ⟨s, q, m, p, rfl, _⟩, _⟩ := h
    rfl) fun f cdv A outer s0 H vs Q E hr h => by
    obtain ⟨_, ⟨s, q, m, p, rfl, S, hq, hl, rfl⟩, k⟩ := h
    refine ⟨_, pss_one (ps_ret (pe_callB call_len_seq (by rfl) T.bLen PySem.boot_len (pa_cons (pe_lc (own := [("t", 2)]) (g := gName 2) rfl scGiven.nd (pi_list (pv 1))
      (blkOk_by (N := ["store", "plan", "t"]) (sc := defScope (top 1)) (by decide +kernel)) (fun _ _ _ _ _ => pg_name (i := 2) scGiven.nd rfl (Or.inl rfl))
      (fun _ _ _ _ _ => pts_one (pt_not (pt_val (pe_met (pv 0) T.cS (m_is_none T) hr (pa_cons (pv 2) pa_nil))))) (fun _ _ _ _ _ => pv 2)) pa_nil))), ?_⟩
    refine s_ret (ev_is (ev_lenN (el_lcI p vN vN (fun t => !(t == m.nt)) (ev_var rfl) (SqL.of hq) (by omega) (fun _ => rfl) (fun t _ H1 e => et_not (et_val (ev_isnone (ev_var rfl) (S.ex e) (ev_var rfl)))) (fun t _ H1 e _ => ev_var rfl))) ?_) k
    rw [List.length_map]
    rfl
theorem ev_given {σ : L2.St} {H : Hp} {ta tb : TE} {s q : Addr} {m : M} {p : List Nat} (ha : Ev ta σ H (.ref s)) (hb : Ev tb σ H (.ref q)) (S : StoreAt CS H s m) (hq : H q = some (.lst (nats p))) (hl : p.length ≤ 1000) : Ev (tCall (spV (rGivenOut CS)) [] E0 (tCons ta (tCons tb tNil))) σ H (vN (m.given p)) :=
  ev_call (ea_cons ha (ea_cons hb ea_nil)) (spV_of fun H1 e => ⟨s, q, m, p, rfl, S.ex e, e _ _ hq, hl, rfl⟩)

/-! ### errors_in -/
def rErrorsIn (CS : Addr) : List V → Hp → V → Prop := fun vs H z => ∃ (s q : Addr) (m : M) (p : List Nat), vs = [.ref s, .ref q] ∧ StoreAt CS H s m ∧ H q = some (.lst (nats p)) ∧ p.length = m.nc ∧ (∀ t ∈ p, t ≤ m.nt) ∧ z = vN (m.off p)
theorem offTo_more (m : M) (p : List Nat) (i : Nat) : m.offTo p (i + 1) = m.offTo p i + if p.getD i 0 = m.nt then 0 else m.errors i (p.getD i 0) := by
  unfold M.offTo
  rw [List.range_succ, List.map_append, List.sum_append, List.map_singleton, List.sum_singleton]
theorem scErrIn : FnScope ["store", "plan", "found", "c"] ["store", "plan"] (defScope (top 2)) := ⟨rfl, rfl, rfl, by decide +kernel, rfl, by decide +kernel, by decide +kernel⟩
theorem d_errors_in (T : Txt K mg CR CS CD CC) : Def P w K mg base CX0 4 "errors_in" ["store", "plan"] (spV (rErrorsIn CS)) :=
  .of T.tErrorsIn scErrIn (fun _ _ _ _ _ _ us hl => match us, hl with | [_, _], _ => rfl) (fun vs H Q E h => by
    obtain ⟨_, ⟨s, q, m, p, rfl, _⟩, _⟩ := h
    rfl) fun f cdv A outer s0 H vs Q E hr h => by
    obtain ⟨_, ⟨s, q, m, p, rfl, S, hq, hl, ht, rfl⟩, k⟩ := h
    have hr2 : Room 2 _ := hr.mono (by decide)
    refine ⟨_, pss_cons (ps_set (i := 2) scErrIn.nd rfl (Or.inl rfl) pe_int)
      (pss_cons (ps_for PassesOwn.never rfl (pi_range1 (by rfl) T.bRange (pa_cons (pe_callB call_len_seq (by rfl) T.bLen PySem.boot_len (pa_cons (pv 1) pa_nil)) pa_nil)) (pg_name (i := 3) scErrIn.nd rfl (Or.inl rfl))
        (pss_one (ps_if (pt_not (pt_val (pe_met (pv 0) T.cS (m_is_none T) hr2 (pa_cons (pe_ix ix_list (pv 1) (pv 3) (fun _ _ => rfl)) pa_nil))))
          (pss_one (ps_aug (i := 2) scErrIn.nd rfl (Or.inl rfl) (pe_met (pv 0) T.cS (m_errors T) hr (pa_cons (pv 3) (pa_cons (pe_ix ix_list (pv 1) (pv 3) (fun _ _ => rfl)) pa_nil))) ip_add)) pss_nil)))
      (pss_one (ps_ret (pv 2)))), ?_⟩
    have h5 : p.length ≤ 5 := by rw [hl]; exact S.1.c5
    refine q_asg ev_c fun H1 e1 => ?_
    refine q_forR1 (n := (p.length : Int)) (ea_cons (ev_is (ev_len (ev_var rfl) (SqL.of (e1 _ _ hq))) (by rw [List.length_map])) ea_nil) ⟨by omega, by omega⟩ (fun i σ' H' => ∃ v : Option V, σ' = [some (.ref s), some (.ref q), some (vN (m.offTo p i)), v] ∧ Ex H H') (fun H2 e2 => ⟨none, rfl, e1.trans e2⟩) ?_ ?_
    · rintro i σ' H' hi ⟨v, rfl, e⟩
      have hi' : i < p.length := by omega
      have em := offTo_more m p i
      refine s_when (b := !(p.getD i 0 == m.nt)) (et_not (et_val (ev_isnone (ev_var rfl) (S.ex e) (ev_ixN (ev_var rfl) (e _ _ hq) (ev_var rfl) hi')))) (fun hb H2 e2 => ?_) (fun hb H2 e2 => ?_)
      · have hne : ¬ p.getD i 0 = m.nt := by simpa using hb
        rw [if_neg hne] at em
        have hle := ht _ (getD_mem (d := 0) hi')
        refine s_aug (a := ((m.offTo p i : Nat) : Int)) (b := ((m.errors i (p.getD i 0) : Nat) : Int)) rfl (ev_errors (ev_var rfl) (S.ex (e.trans e2)) (ev_var rfl) (ev_ixN (ev_var rfl) ((e.trans e2) _ _ hq) (ev_var rfl) hi') (by omega) (by omega)) fun H3 e3 => ?_
        refine ⟨some (vN i), ?_, (e.trans e2).trans e3⟩
        rw [em]
        show _ = [_, _, some (V.int ((m.offTo p i + m.errors i (p.getD i 0) : Nat) : Int)), _]
        rw [Int.natCast_add]
        rfl
      · have heq : p.getD i 0 = m.nt := by simpa using hb
        rw [if_pos heq] at em
        refine ⟨some (vN i), ?_, e.trans e2⟩
        rw [em]
        rfl
    · rintro σ' H' ⟨v, rfl, e⟩
      refine s_ret (ev_var rfl) fun H2 e2 => ?_
      exact k H2 (e.trans e2)
theorem ev_errin {σ : L2.St} {H : Hp} {ta tb : TE} {s q : Addr} {m : M} {p : List Nat} (ha : Ev ta σ H (.ref s)) (hb : Ev tb σ H (.ref q)) (S : StoreAt CS H s m) (hq : H q = some (.lst (nats p))) (hl : p.length = m.nc) (ht : ∀ t ∈ p, t ≤ m.nt) : Ev (tCall (spV (rErrorsIn CS)) [] E0 (tCons ta (tCons tb tNil))) σ H (vN (m.off p)) :=
  ev_call (ea_cons ha (ea_cons hb ea_nil)) (spV_of fun H1 e => ⟨s, q, m, p, rfl, S.ex e, e _ _ hq, hl, ht, rfl⟩)

/-! ### choices -/
def rChoices (CS : Addr) : List V → Hp → List V → Prop := fun vs H xs => ∃ (s q : Addr) (m : M) (b : List Nat), vs = [.ref s, .ref q] ∧ StoreAt CS H s m ∧ H q = some (.lst (nats b)) ∧ b.length < m.nc ∧ xs = nats (m.choices b)
theorem scChoices : FnScope ["store", "begun", "free", "t"] ["store", "begun"] (defScope (top 3)) := ⟨rfl, rfl, rfl, by decide +kernel, rfl, by decide +kernel, by decide +kernel⟩
theorem d_choices (T : Txt K mg CR CS CD CC) : Def P w K mg base CX0 6 "choices" ["store", "begun"] (spL (rChoices CS)) :=
  .of T.tChoices scChoices (fun _ _ _ _ _ _ us hl => match us, hl with | [_, _], _ => rfl) (fun vs H Q E h => by
    obtain ⟨_, ⟨s, q, m, b, rfl, _⟩, _⟩ := h
    rfl) fun f cdv A outer s0 H vs Q E hr h => by
    obtain ⟨_, ⟨s, q, m, b, rfl, S, hq, hl, rfl⟩, k⟩ := h
    have hr1 : Room 1 _ := hr.mono (by decide)
    refine ⟨_, pss_cons (ps_setLc (i := 2) (own := [("t", 3)]) (g := gName 3) (tt := tTest (tOp (rIn K true) (tVar 3) (tVar 1))) rfl scChoices.nd rfl rfl (sw_true rfl rfl rfl (by decide +kernel)) (pi_list (pe_met (pv 0) T.cS (m_fitting T) hr (pa_cons (pe_callB call_len_seq (by rfl) T.bLen PySem.boot_len (pa_cons (pv 1) pa_nil)) pa_nil)))
      (blkOk_by (N := ["store", "begun", "free", "t"]) (sc := defScope (top 3)) (by decide +kernel)) (fun _ _ _ _ _ => pg_name (i := 3) scChoices.nd rfl (Or.inl rfl))
      (fun _ _ _ _ _ => pts_one (pt_cmpR op_notIn_seq (pv 3) (pv 1) rfl)) (fun _ _ _ _ _ => pv 3))
      (pss_one (ps_ret (pe_op op_cat (pv 2) (pe_lst (pa_cons (pe_met0 (pv 0) T.cS (m_many_things T) hr1) pa_nil))))), ?_⟩
    have hf : (m.fitting b.length).length ≤ m.nt := range_len_le _
    have h5 : m.nt ≤ 5 := S.1.t5
    have hf2 : ((m.fitting b.length).filter fun t => !b.contains t).length ≤ (m.fitting b.length).length := List.length_filter_le _ _
    refine q_asgL (el_lcNI (m.fitting b.length) vN vN (fun t => !b.contains t) (el_fitting (ev_var rfl) S (ev_is (ev_len (ev_var rfl) (SqL.of hq)) (by rw [List.length_map])) hl) (by omega) (fun _ => rfl)
      (fun t _ H1 e => et_test (ev_op (ev_var rfl) (ev_var rfl) (rv_notIn (e _ _ hq)))) (fun t _ H1 e _ => ev_var rfl)) fun p1 H1 n1 e1 hp1 => ?_
    refine s_retL (el_catL (ev_var rfl) (el_lst (ea_cons (ev_nt (ev_var rfl) (S.ex e1)) ea_nil) (by show 1 ≤ 100000; decide)) hp1 (sz_of ?_)) fun p2 H2 n2 e2 hp2 => k p2 H2 (fresh_back e1 n2) (e1.trans e2) ?_
    · rw [List.length_map]
      show _ + 1 ≤ 100000
      omega
    · rw [hp2]
      show _ = some (HO.lst (((((m.fitting b.length).filter fun t => !b.contains t) ++ [m.nt]).map vN)))
      rw [List.map_append]
      rfl
theorem el_choices {σ : L2.St} {H : Hp} {ta tb : TE} {s q : Addr} {m : M} {b : List Nat} (ha : Ev ta σ H (.ref s)) (hb : Ev tb σ H (.ref q)) (S : StoreAt CS H s m) (hq : H q = some (.lst (nats b))) (hl : b.length < m.nc) : EvL (tCall (spL (rChoices CS)) [] E0 (tCons ta (tCons tb tNil))) σ H (nats (m.choices b)) :=
  el_call (ea_cons ha (ea_cons hb ea_nil)) (spL_of fun H1 e => ⟨s, q, m, b, rfl, S.ex e, e _ _ hq, hl, rfl⟩)

/-! ### promises that hand back a list of lists -/
def spP (R : List V → Hp → List (List Nat) → Prop) : Sp := fun vs H Q _ => ∃ rows, R vs H rows ∧ ∀ (p : Addr) (H2 : Hp), H p = none → Ex H H2 → RowsAt H2 p rows → Q (.ref p) H2
def EvP (te : TE) (σ : L2.St) (H : Hp) (rows : List (List Nat)) : Prop := ∀ H1, Ex H H1 → ∀ Q : VK, (∀ (p : Addr) (H2 : Hp), H1 p = none → Ex H1 H2 → RowsAt H2 p rows → Q (.ref p) H2) → te σ H1 Q
theorem ep_call {σ : L2.St} {H : Hp} {R : List V → Hp → List (List Nat) → Prop} {vs : List V} {ta : TA} {rows : List (List Nat)} (ha : EvA ta σ H vs) (h : ∀ H1, Ex H H1 → R (vs ++ []) H1 rows) : EvP (tCall (spP R) [] E0 ta) σ H rows := fun H1 e Q q =>
  ha H1 e _ fun H2 e2 => ⟨rows, h H2 (e.trans e2), fun p H3 n3 e3 h3 => q p H3 (fresh_back e2 n3) (e2.trans e3) h3⟩
theorem q_asgP {σ : L2.St} {H : Hp} {te : TE} {i : Nat} {rows : List (List Nat)} {D : Ends} {tz : TS} (h : EvP te σ H rows) (k : ∀ (p : Addr) (H1 : Hp), H p = none → Ex H H1 → RowsAt H1 p rows → tz D (σ.set i (some (.ref p))) H1) : tSeq (tAsg te (gName i)) tz D σ H := h H (Ex.refl H) _ k
theorem s_asgP {σ : L2.St} {H : Hp} {te : TE} {i : Nat} {rows : List (List Nat)} {D : Ends} (h : EvP te σ H rows) (k : ∀ (p : Addr) (H1 : Hp), H p = none → Ex H H1 → RowsAt H1 p rows → D.nx (σ.set i (some (.ref p))) H1) : tAsg te (gName i) D σ H := h H (Ex.refl H) _ k

/-! ### gone_on -/
theorem refs_ne_nats {qs : List (Addr × List Nat)} {r : List Nat} (h : r ≠ []) : HO.lst (qs.map fun q => V.ref q.1) ≠ HO.lst (nats r) := fun e => by
  have e' := HO.lst.inj e
  cases r with
  | nil => exact h rfl
  | cons a r =>
    cases qs with
    | nil => cases e'
    | cons q qs =>
      have := (List.cons.inj e').1
      cases this
/-- one list more -/
theorem RowsAt.snoc {H H1 : Hp} {l p : Addr} {qs : List (Addr × List Nat)} {r : List Nat} (h2 : H1 l = some (.lst (qs.map fun q => V.ref q.1))) (h3 : ∀ q ∈ qs, H1 q.1 = some (.lst (nats q.2))) (hne : ∀ q ∈ qs, q.2 ≠ []) (hp : H1 p = some (.lst (nats r))) (hr : r ≠ []) :
    RowsAt (upd H1 l (.lst ((qs.map fun q => V.ref q.1) ++ [.ref p]))) l (qs.map (·.2) ++ [r]) := by
  refine ⟨qs ++ [(p, r)], by rw [List.map_append]; rfl, by rw [upd_same, List.map_append]; rfl, fun q hq => ?_⟩
  rcases List.mem_append.mp hq with z | z
  · rw [upd_ne (Ne.symm (ne_of h2 (h3 q z) (refs_ne_nats (hne q z))))]
    exact h3 q z
  · rw [List.mem_singleton.mp z]
    show upd H1 l _ p = _
    rw [upd_ne (Ne.symm (ne_of h2 hp (refs_ne_nats hr)))]
    exact hp
def rGoneOn (CS : Addr) : List V → Hp → List (List Nat) → Prop := fun vs H rows => ∃ (s l : Addr) (m : M) (bs : List (List Nat)), vs = [.ref s, .ref l] ∧ StoreAt CS H s m ∧ RowsAt H l bs ∧ (∀ b ∈ bs, b.length < m.nc) ∧ (m.goneOn bs).length < 100000 ∧ rows = m.goneOn bs
theorem goneOn_ne {m : M} {bs : List (List Nat)} {r : List Nat} (h : r ∈ m.goneOn bs) : r ≠ [] := by
  unfold M.goneOn at h
  obtain ⟨b, _, h2⟩ := List.mem_flatMap.mp h
  obtain ⟨t, _, e⟩ := List.mem_map.mp h2
  rw [← e]
  intro z
  have := congrArg List.length z
  simp at this
theorem goneOn_snoc (m : M) (bs : List (List Nat)) (b : List Nat) : m.goneOn (bs ++ [b]) = m.goneOn bs ++ (m.choices b).map fun t => b ++ [t] := by
  unfold M.goneOn
  rw [List.flatMap_append, List.flatMap_cons, List.flatMap_nil, List.append_nil]
theorem take_more {α : Type} {l : List α} {i : Nat} {x : α} (h : l[i]? = some x) : l.take (i + 1) = l.take i ++ [x] := by
  rw [List.take_succ, h]
  rfl
theorem scGoneOn : FnScope ["store", "some", "found", "begun", "t"] ["store", "some"] (defScope (top 4)) := ⟨rfl, rfl, rfl, by decide +kernel, rfl, by decide +kernel, by decide +kernel⟩
theorem d_gone_on (T : Txt K mg CR CS CD CC) : Def P w K mg base CX0 7 "gone_on" ["store", "some"] (spP (rGoneOn CS)) :=
  .of T.tGoneOn scGoneOn (fun _ _ _ _ _ _ us hl => match us, hl with | [_, _], _ => rfl) (fun vs H Q E h => by
    obtain ⟨_, ⟨s, l, m, bs, rfl, _⟩, _⟩ := h
    rfl) fun f cdv A outer s0 H vs Q E hr h => by
    obtain ⟨_, ⟨s, l, m, bs, rfl, S, hB, hlen, hsz, rfl⟩, k⟩ := h
    refine ⟨_, pss_cons (ps_set (i := 2) scGoneOn.nd rfl (Or.inl rfl) (pe_lst pa_nil))
      (pss_cons (ps_for PassesOwn.never rfl (pi_list (pv 1)) (pg_name (i := 3) scGoneOn.nd rfl (Or.inl rfl))
        (pss_one (ps_for PassesOwn.never rfl (pi_list (pe_def (d_choices T) hr (pa_cons (pv 0) (pa_cons (pv 3) pa_nil)))) (pg_name (i := 4) scGoneOn.nd rfl (Or.inl rfl))
          (pss_one (ps_expr (pe_bm PySem.F.plainAttrs_list PySem.F.slot_list_append PySem.F.type_list_append mt_append (pv 2) (pa_cons (pe_op op_cat (pv 3) (pe_lst (pa_cons (pv 4) pa_nil))) pa_nil)))))))
      (pss_one (ps_ret (pv 2)))), ?_⟩
    obtain ⟨gs, rfl, hl, hg⟩ := hB
    refine q_asgL (el_lst ea_nil (by show 0 ≤ 100000; decide)) fun pf H1 nf e1 hf => ?_
    -- behind i beginnings
    refine q_forLn (a := l) (xs := gs.map fun q => V.ref q.1) (ev_var rfl) (SqL.of (e1 _ _ hl)) (fun i σ' H' => ∃ v u : Option V, σ' = [some (.ref s), some (.ref l), some (.ref pf), v, u] ∧ Ex H H' ∧ RowsAt H' pf (m.goneOn ((gs.take i).map (·.2))))
      (fun H2 e2 => ⟨none, none, rfl, e1.trans e2, [], rfl, e2 _ _ hf, fun q hq => by cases hq⟩) (fun i σ' H' _ ⟨_, _, _, e, _⟩ => SqL.of (e _ _ hl)) ?_ ?_
    · rintro i x σ' H' hi ⟨v, u, rfl, e, R⟩
      rw [List.getElem?_map] at hi
      obtain ⟨g, hgi, rfl⟩ : ∃ g, gs[i]? = some g ∧ x = V.ref g.1 := by
        cases z : gs[i]? with
        | none =>
          rw [z] at hi
          cases hi
        | some g =>
          rw [z] at hi
          exact ⟨g, rfl, (Option.some.inj hi).symm⟩
      have hgm := List.mem_of_getElem? hgi
      have hb : H g.1 = some (.lst (nats g.2)) := hg g hgm
      have hbl : g.2.length < m.nc := hlen g.2 (List.mem_map_of_mem hgm)
      have hstep : m.goneOn ((gs.take (i + 1)).map (·.2)) = m.goneOn ((gs.take i).map (·.2)) ++ (m.choices g.2).map fun t => g.2 ++ [t] := by
        rw [take_more hgi, List.map_append]
        exact goneOn_snoc m _ _
      have hle : (m.goneOn ((gs.take (i + 1)).map (·.2))).length ≤ (m.goneOn (gs.map (·.2))).length := by
        have e0 : m.goneOn (gs.map (·.2)) = m.goneOn ((gs.take (i + 1)).map (·.2)) ++ m.goneOn ((gs.drop (i + 1)).map (·.2)) := by
          unfold M.goneOn
          rw [← List.flatMap_append, ← List.map_append, List.take_append_drop]
        rw [e0, List.length_append]
        exact Nat.le_add_right _ _
      rw [hstep, List.length_append, List.length_map] at hle
      -- for t in choices(store, begun)
      refine s_forNL (xs := nats (m.choices g.2)) (el_choices (ev_var rfl) (ev_var rfl) (S.ex e) (e _ _ hb) hbl) (fun pc j σ2 H2 => ∃ u : Option V, σ2 = [some (.ref s), some (.ref l), some (.ref pf), some (.ref g.1), u] ∧ Ex H H2 ∧ H2 pc = some (.lst (nats (m.choices g.2))) ∧
        RowsAt H2 pf (m.goneOn ((gs.take i).map (·.2)) ++ ((m.choices g.2).take j).map fun t => g.2 ++ [t])) (fun pc H2 nc e2 hc => ⟨u, rfl, e.trans e2, hc, ?_⟩) (fun pc j σ2 H2 _ ⟨_, _, _, hc, _⟩ => SqL.of hc) ?_ ?_
      · rw [List.take_zero, List.map_nil, List.append_nil]
        exact R.ex e2
      · rintro pc j y σ2 H2 hj ⟨u2, rfl, e2, hc, R2⟩
        rw [List.getElem?_map] at hj
        obtain ⟨t, htj, rfl⟩ : ∃ t, (m.choices g.2)[j]? = some t ∧ y = vN t := by
          cases z : (m.choices g.2)[j]? with
          | none =>
            rw [z] at hj
            cases hj
          | some t =>
            rw [z] at hj
            exact ⟨t, rfl, (Option.some.inj hj).symm⟩
        have hjl : j < (m.choices g.2).length := (List.getElem?_eq_some_iff.mp htj).1
        obtain ⟨rs, hrs, hpf, hrr⟩ := R2
        have hrl : rs.length = (m.goneOn ((gs.take i).map (·.2))).length + j := by
          have := congrArg List.length hrs
          rw [List.length_map, List.length_append, List.length_map, List.length_take] at this
          omega
        have hb5 : g.2.length ≤ 5 := by
          have := S.1.c5
          have h6 : m.nc = m.claims.length := rfl
          omega
        refine s_appL (xs := rs.map fun q => V.ref q.1) (ys := nats (g.2 ++ [t])) hpf (ev_var rfl) ?_ (by rw [List.length_map]; omega) fun p3 H3 n3 e3 h3 => ?_
        · have q1 := el_catL (σ := [some (.ref s), some (.ref l), some (.ref pf), some (.ref g.1), some (vN t)]) (ta := tVar 3) (te := tLst (tCons (tVar 4) tNil)) (p := g.1) (xs := nats g.2) (ys := [vN t]) (ev_var rfl) (el_lst (ea_cons (ev_var rfl) ea_nil) (by show 1 ≤ 100000; decide)) (e2 _ _ hb) (sz_of (by rw [List.length_map]; show _ + 1 ≤ 100000; omega))
          have q2 : nats (g.2 ++ [t]) = nats g.2 ++ [vN t] := List.map_append
          rw [q2]
          exact q1
        · have hne : ∀ q ∈ rs, q.2 ≠ [] := fun q hq => by
            have hm : q.2 ∈ rs.map (·.2) := List.mem_map_of_mem hq
            rw [hrs] at hm
            rcases List.mem_append.mp hm with z | z
            · exact goneOn_ne z
            · obtain ⟨t', _, e'⟩ := List.mem_map.mp z
              rw [← e']
              intro z'
              have := congrArg List.length z'
              simp at this
          have hgt : g.2 ++ [t] ≠ [] := by
            intro z'
            have := congrArg List.length z'
            simp at this
          have hcne : m.choices g.2 ≠ [] := choices_ne m g.2
          refine ⟨some (vN t), rfl, (e2.trans e3).mut nf, ?_, ?_⟩
          · rw [upd_ne (Ne.symm (ne_of hpf hc (refs_ne_nats hcne)))]
            exact e3 _ _ hc
          · have R3 := RowsAt.snoc (H := H2) (e3 _ _ hpf) (fun q hq => e3 _ _ (hrr q hq)) hne h3 hgt
            rw [take_more htj, List.map_append, ← List.append_assoc, ← hrs]
            exact R3
      · rintro pc σ2 H2 ⟨u2, rfl, e2, hc, R2⟩
        refine ⟨some (.ref g.1), u2, rfl, e2, ?_⟩
        rw [hstep]
        rw [List.length_map, List.take_length] at R2
        exact R2
    · rintro σ' H' ⟨v, u, rfl, e, R⟩
      rw [List.length_map, List.take_length] at R
      exact s_ret (ev_var rfl) fun H2 e2 => k pf H2 nf (e.trans e2) (R.ex e2)

/-! ### possible_plans -/
def rPossible (CS : Addr) : List V → Hp → List (List Nat) → Prop := fun vs H rows => ∃ (s : Addr) (m : M), vs = [.ref s] ∧ StoreAt CS H s m ∧ rows = m.poss m.nc
theorem scPoss : FnScope ["store", "found", "c"] ["store"] (defScope (top 5)) := ⟨rfl, rfl, rfl, by decide +kernel, rfl, by decide +kernel, by decide +kernel⟩
theorem d_possible (T : Txt K mg CR CS CD CC) : Def P w K mg base CX0 8 "possible_plans" ["store"] (spP (rPossible CS)) :=
  .of T.tPossible scPoss (fun _ _ _ _ _ _ us hl => match us, hl with | [_], _ => rfl) (fun vs H Q E h => by
    obtain ⟨_, ⟨s, m, rfl, _⟩, _⟩ := h
    rfl) fun f cdv A outer s0 H vs Q E hr h => by
    obtain ⟨_, ⟨s, m, rfl, S, rfl⟩, k⟩ := h
    have hr1 : Room 1 _ := hr.mono (by decide)
    refine ⟨_, pss_cons (ps_set (i := 1) scPoss.nd rfl (Or.inl rfl) (pe_lst (pa_cons (pe_lst pa_nil) pa_nil)))
      (pss_cons (ps_for PassesOwn.never rfl (pi_range1 (by rfl) T.bRange (pa_cons (pe_met0 (pv 0) T.cS (m_many_claims T) hr1) pa_nil)) (pg_name (i := 2) scPoss.nd rfl (Or.inl rfl))
        (pss_one (ps_set (i := 1) scPoss.nd rfl (Or.inl rfl) (pe_def (d_gone_on T) hr (pa_cons (pv 0) (pa_cons (pv 1) pa_nil))))))
      (pss_one (ps_ret (pv 1)))), ?_⟩
    have h5 : m.nc ≤ 5 := S.1.c5
    -- found = [[]]
    refine ⟨Nat.zero_le _, fun p1 n1 => ⟨(by show 1 ≤ sizeLine; decide), fun pf n2 => ?_⟩⟩
    have n1f : p1 ≠ pf := ne_of_none upd_same n2
    have nf : H pf = none := by
      rw [upd_ne (Ne.symm n1f)] at n2
      exact n2
    have e1 : Ex H (upd (upd H p1 (.lst [])) pf (.lst [.ref p1])) := (Ex.new n1).trans (Ex.new n2)
    refine q_forR1 (n := (m.nc : Int)) (ea_cons (ev_nc (ev_var rfl) (S.ex e1)) ea_nil) ⟨by omega, by omega⟩ (fun i σ' H' => ∃ (v : Option V) (pf : Addr), σ' = [some (.ref s), some (.ref pf), v] ∧ Ex H H' ∧ H pf = none ∧ RowsAt H' pf (m.poss i)) (fun H2 e2 => ⟨none, pf, rfl, e1.trans e2, nf, RowsAt.ex (H := upd (upd H p1 (.lst [])) pf (.lst [.ref p1])) ?_ e2⟩) ?_ ?_
    · refine ⟨[(p1, [])], rfl, upd_same, fun q hq => ?_⟩
      rw [List.mem_singleton.mp hq]
      show upd (upd H p1 (.lst [])) pf (.lst [.ref p1]) p1 = _
      rw [upd_ne n1f]
      exact upd_same
    · rintro i σ' H' hi ⟨v, pf, rfl, e, nf, R⟩
      have hi' : i < m.nc := by omega
      have hsm := poss_small S.1 (k := i + 1) (by omega)
      refine s_asgP (ep_call (rows := m.poss (i + 1)) (ea_cons (ev_var rfl) (ea_cons (ev_var rfl) ea_nil)) fun H1 e1 => ⟨s, pf, m, m.poss i, rfl, S.ex (e.trans e1), R.ex e1, fun b hb => ?_, ?_, rfl⟩) fun p H1 n1 e1 R1 => ⟨some (vN i), p, rfl, e.trans e1, fresh_back e n1, R1⟩
      · rw [(poss_in hb).1]
        exact hi'
      · have : (m.goneOn (m.poss i)).length = (m.poss (i + 1)).length := rfl
        omega
    · rintro σ' H' ⟨v, pf, rfl, e, nf, R⟩
      exact s_ret (ev_var rfl) fun H2 e2 => k pf H2 nf (e.trans e2) (R.ex e2)

/-! ### first_unfit, first_twice -/
theorem find_range {n i : Nat} {p : Nat → Bool} (hi : i < n) (hp : p i = true) (hn : ∀ j, j < i → p j = false) : (List.range n).find? p = some i := by
  rw [List.find?_eq_some_iff_getElem]
  refine ⟨hp, i, by rw [List.length_range]; exact hi, by rw [List.getElem_range], fun j hj => ?_⟩
  rw [List.getElem_range, hn j hj]
  rfl
theorem find_range_none {n : Nat} {p : Nat → Bool} (hn : ∀ j, j < n → p j = false) : (List.range n).find? p = none := by
  rw [List.find?_eq_none]
  intro x hx
  rw [hn x (List.mem_range.mp hx)]
  decide
def vO : Option Nat → V
  | none => .non
  | some c => vN c
def rUnfit (CS : Addr) : List V → Hp → V → Prop := fun vs H z => ∃ (s q : Addr) (m : M) (p : List Nat), vs = [.ref s, .ref q] ∧ StoreAt CS H s m ∧ H q = some (.lst (nats p)) ∧ p.length = m.nc ∧ (∀ t ∈ p, t ≤ m.nt) ∧ z = vO (m.unfit p)
theorem scUnfit : FnScope ["store", "plan", "c"] ["store", "plan"] (defScope (top 6)) := ⟨rfl, rfl, rfl, by decide +kernel, rfl, by decide +kernel, by decide +kernel⟩
theorem d_unfit (T : Txt K mg CR CS CD CC) : Def P w K mg base CX0 5 "first_unfit" ["store", "plan"] (spV (rUnfit CS)) :=
  .of T.tUnfit scUnfit (fun _ _ _ _ _ _ us hl => match us, hl with | [_, _], _ => rfl) (fun vs H Q E h => by
    obtain ⟨_, ⟨s, q, m, p, rfl, _⟩, _⟩ := h
    rfl) fun f cdv A outer s0 H vs Q E hr h => by
    obtain ⟨_, ⟨s, q, m, p, rfl, S, hq, hl, ht, rfl⟩, k⟩ := h
    have hr2 : Room 2 _ := hr.mono (by decide)
    refine ⟨_, pss_cons (ps_for PassesOwn.never rfl (pi_range1 (by rfl) T.bRange (pa_cons (pe_callB call_len_seq (by rfl) T.bLen PySem.boot_len (pa_cons (pv 1) pa_nil)) pa_nil)) (pg_name (i := 2) scUnfit.nd rfl (Or.inl rfl))
        (pss_one (ps_if (PW.pt (pw_and (pt_not (pt_val (pe_met (pv 0) T.cS (m_is_none T) hr2 (pa_cons (pe_ix ix_list (pv 1) (pv 2) (fun _ _ => rfl)) pa_nil))))
            (pw_and1 (pt_not (pt_val (pe_met (pv 0) T.cS (m_fits T) hr (pa_cons (pv 2) (pa_cons (pe_ix ix_list (pv 1) (pv 2) (fun _ _ => rfl)) pa_nil))))))))
          (pss_one (ps_ret (pv 2))) pss_nil)))
      (pss_one (ps_ret pe_non)), ?_⟩
    have h5 : p.length ≤ 5 := by rw [hl]; exact S.1.c5
    refine q_forR1 (n := (p.length : Int)) (ea_cons (ev_is (ev_len (ev_var rfl) (SqL.of hq)) (by rw [List.length_map])) ea_nil) ⟨by omega, by omega⟩ (fun i σ' H' => ∃ v : Option V, σ' = [some (.ref s), some (.ref q), v] ∧ Ex H H' ∧ ∀ j, j < i → m.unfitAt p j = false) (fun H2 e2 => ⟨none, rfl, e2, fun j hj => by omega⟩) ?_ ?_
    · rintro i σ' H' hi ⟨v, rfl, e, hj⟩
      have hi' : i < p.length := by omega
      have hle := ht _ (getD_mem (d := 0) hi')
      refine s_when (b := m.unfitAt p i) (et_and (et_not (et_val (ev_isnone (ev_var rfl) (S.ex e) (ev_ixN (ev_var rfl) (e _ _ hq) (ev_var rfl) hi')))) fun hb => et_not (et_val (ev_fits (ev_var rfl) (S.ex e) (ev_var rfl) (ev_ixN (ev_var rfl) (e _ _ hq) (ev_var rfl) hi') (by omega) ?_))) (fun hb H2 e2 => ?_) (fun hb H2 e2 => ?_)
      · have hne : ¬ p.getD i 0 = m.nt := by simpa using hb
        omega
      · refine s_ret (ev_var rfl) fun H3 e3 => ?_
        have := k H3 ((e.trans e2).trans e3)
        unfold M.unfit at this
        rw [find_range hi' hb hj] at this
        exact this
      · refine ⟨some (vN i), rfl, e.trans e2, fun j hj2 => ?_⟩
        by_cases z : j < i
        · exact hj j z
        · have : j = i := by omega
          rw [this]
          exact hb
    · rintro σ' H' ⟨v, rfl, e, hj⟩
      refine s_ret ev_c fun H3 e3 => ?_
      have := k H3 (e.trans e3)
      unfold M.unfit at this
      rw [find_range_none (fun j h => hj j (by omega))] at this
      exact this
def rTwice (CS : Addr) : List V → Hp → V → Prop := fun vs H z => ∃ (s q : Addr) (m : M) (p : List Nat), vs = [.ref s, .ref q] ∧ StoreAt CS H s m ∧ H q = some (.lst (nats p)) ∧ p.length ≤ 1000 ∧ z = vO (m.twice p)
theorem cut_nats {l : List Nat} {i : Nat} (h : i ≤ l.length) : cutV (nats l) none (some (i : Int)) = nats (l.take i) := by
  unfold cutV
  rw [HT.sIx_none, HT.sIx_nat, List.drop_zero, Nat.sub_zero, List.length_map, Nat.min_eq_left h, ← List.map_take]
theorem scTwice : FnScope ["store", "plan", "c"] ["store", "plan"] (defScope (top 7)) := ⟨rfl, rfl, rfl, by decide +kernel, rfl, by decide +kernel, by decide +kernel⟩
theorem d_twice (T : Txt K mg CR CS CD CC) : Def P w K mg base CX0 3 "first_twice" ["store", "plan"] (spV (rTwice CS)) :=
  .of T.tTwice scTwice (fun _ _ _ _ _ _ us hl => match us, hl with | [_, _], _ => rfl) (fun vs H Q E h => by
    obtain ⟨_, ⟨s, q, m, p, rfl, _⟩, _⟩ := h
    rfl) fun f cdv A outer s0 H vs Q E hr h => by
    obtain ⟨_, ⟨s, q, m, p, rfl, S, hq, hl, rfl⟩, k⟩ := h
    refine ⟨_, pss_cons (ps_for PassesOwn.never rfl (pi_range1 (by rfl) T.bRange (pa_cons (pe_callB call_len_seq (by rfl) T.bLen PySem.boot_len (pa_cons (pv 1) pa_nil)) pa_nil)) (pg_name (i := 2) scTwice.nd rfl (Or.inl rfl))
        (pss_one (ps_if (PW.pt (pw_and (pt_not (pt_val (pe_met (pv 0) T.cS (m_is_none T) hr (pa_cons (pe_ix ix_list (pv 1) (pv 2) (fun _ _ => rfl)) pa_nil))))
            (pw_and1 (pt_cmpR op_in_seq (pe_ix ix_list (pv 1) (pv 2) (fun _ _ => rfl)) (pe_slice sl_list (pv 1) po_none (po_some (pv 2))) rfl))))
          (pss_one (ps_ret (pv 2))) pss_nil)))
      (pss_one (ps_ret pe_non)), ?_⟩
    refine q_forR1 (n := (p.length : Int)) (ea_cons (ev_is (ev_len (ev_var rfl) (SqL.of hq)) (by rw [List.length_map])) ea_nil) ⟨by omega, by omega⟩ (fun i σ' H' => ∃ v : Option V, σ' = [some (.ref s), some (.ref q), v] ∧ Ex H H' ∧ ∀ j, j < i → m.twiceAt p j = false) (fun H2 e2 => ⟨none, rfl, e2, fun j hj => by omega⟩) ?_ ?_
    · rintro i σ' H' hi ⟨v, rfl, e, hj⟩
      have hi' : i < p.length := by omega
      refine s_when (b := m.twiceAt p i) (et_and (et_not (et_val (ev_isnone (ev_var rfl) (S.ex e) (ev_ixN (ev_var rfl) (e _ _ hq) (ev_var rfl) hi')))) fun hb => et_test (ev_opL (xs := nats (p.take i)) (ev_ixN (ev_var rfl) (e _ _ hq) (ev_var rfl) hi') ?_ fun p1 H1 h1 e1 => rv_in h1)) (fun hb H2 e2 => ?_) (fun hb H2 e2 => ?_)
      · rw [← cut_nats (Nat.le_of_lt hi')]
        exact el_sl (ev_var rfl) eo_none (eo_some (ev_var rfl)) (SqL.of (e _ _ hq))
      · refine s_ret (ev_var rfl) fun H3 e3 => ?_
        have := k H3 ((e.trans e2).trans e3)
        unfold M.twice at this
        rw [find_range hi' hb hj] at this
        exact this
      · refine ⟨some (vN i), rfl, e.trans e2, fun j hj2 => ?_⟩
        by_cases z : j < i
        · exact hj j z
        · have : j = i := by omega
          rw [this]
          exact hb
    · rintro σ' H' ⟨v, rfl, e, hj⟩
      refine s_ret ev_c fun H3 e3 => ?_
      have := k H3 (e.trans e3)
      unfold M.twice at this
      rw [find_range_none (fun j h => hj j (by omega))] at this
      exact this
end
end My

/-! Part 7: full plans, the best of them; sets of claims. -/
namespace My
open PySem PySem.Spec PyProof.Rows L2 Evl
section
variable {P : Program} {w : World} {K : PySem.W.Frag} {mg : Str → Option Value} {base : Heap} {CR CS CD CC : Addr}
theorem nats_map {α : Type} (f : α → Nat) (l : List α) : nats (l.map f) = l.map fun r => vN (f r) := by
  show (l.map f).map vN = _
  rw [List.map_map]
  rfl
theorem nats_zs (l : List Nat) : nats l = (zs l).map V.int := by
  unfold zs
  rw [List.map_map]
  rfl
theorem mem_zs {l : List Nat} {z : Int} (h : z ∈ zs l) : ∃ n ∈ l, z = (n : Int) := by
  obtain ⟨n, hn, e⟩ := List.mem_map.mp h
  exact ⟨n, hn, e.symm⟩
theorem zs_mem {l : List Nat} {n : Nat} (h : n ∈ l) : (n : Int) ∈ zs l := List.mem_map_of_mem h
theorem ev_max {σ : L2.St} {H : Hp} {te : TE} {l : List Nat} (h : EvL te σ H (nats l)) (hl : l ≠ []) : Ev (tCB (rMax K) (tCons te tNil)) σ H (vN (most l)) := fun H1 e Q q =>
  h H1 e _ fun p H2 _ e2 h2 => ⟨p, zs l, rfl, SqL.of (by rw [← nats_zs]; exact h2), (by unfold zs; rw [List.length_map]; exact List.length_pos_iff.mpr hl), fun z hz hle => by
    obtain ⟨n, hn, rfl⟩ := mem_zs hz
    have := most_is hn fun y hy => by
      have := hle _ (zs_mem hy)
      omega
    rw [← this]
    exact q H2 e2⟩
theorem ev_min {σ : L2.St} {H : Hp} {te : TE} {l : List Nat} (h : EvL te σ H (nats l)) (hl : l ≠ []) : Ev (tCB (rMin K) (tCons te tNil)) σ H (vN (least l)) := fun H1 e Q q =>
  h H1 e _ fun p H2 _ e2 h2 => ⟨p, zs l, rfl, SqL.of (by rw [← nats_zs]; exact h2), (by unfold zs; rw [List.length_map]; exact List.length_pos_iff.mpr hl), fun z hz hle => by
    obtain ⟨n, hn, rfl⟩ := mem_zs hz
    have := least_is hn fun y hy => by
      have := hle _ (zs_mem hy)
      omega
    rw [← this]
    exact q H2 e2⟩
/-- a comprehension over a list of lists that stands: what it gives of each, by the list itself -/
theorem el_lcRows {σ : L2.St} {H : Hp} {te tl : TE} {t : TT} {j : Nat} {vs : List Nat} {a : Addr} {rows : List (List Nat)} (p : List Nat → Bool) (g : List Nat → V) (h : Ev tl σ H (.ref a)) (hR : RowsAt H a rows) (hz : rows.length ≤ 40000) (hw : ∀ x, wipe ((wipe σ vs).set j (some x)) vs = wipe σ vs)
    (ht : ∀ (b : Addr) (r : List Nat), r ∈ rows → ∀ H1, Ex H H1 → H1 b = some (.lst (nats r)) → EvT t ((wipe σ vs).set j (some (.ref b))) H1 (p r)) (he : ∀ (b : Addr) (r : List Nat), r ∈ rows → ∀ H1, Ex H H1 → H1 b = some (.lst (nats r)) → p r = true → Ev te ((wipe σ vs).set j (some (.ref b))) H1 (g r)) :
    EvL (tLc (iList K tl) (gName j) t te vs) σ H ((rows.filter p).map g) := by
  obtain ⟨qs, rfl, h2, h3⟩ := hR
  rw [List.length_map] at hz
  have q := el_lcI (K := K) (σ := σ) (H := H) (te := te) (tl := tl) (t := t) (j := j) (vs := vs) qs (fun q => V.ref q.1) (fun q => g q.2) (fun q => p q.2) h (SqL.of h2) hz hw
    (fun y hy H1 e => ht y.1 y.2 (List.mem_map_of_mem hy) H1 e (e _ _ (h3 y hy))) (fun y hy H1 e hp => he y.1 y.2 (List.mem_map_of_mem hy) H1 e (e _ _ (h3 y hy)) hp)
  have e : ((qs.map (·.2)).filter p).map g = (qs.filter fun q => p q.2).map fun q => g q.2 := by
    rw [List.filter_map, List.map_map]
    rfl
  rw [e]
  exact q
/-- .. that keeps some of them -/
theorem ep_lcRows {σ : L2.St} {H : Hp} {tl : TE} {t : TT} {j : Nat} {vs : List Nat} {a : Addr} {rows : List (List Nat)} (p : List Nat → Bool) (h : Ev tl σ H (.ref a)) (hR : RowsAt H a rows) (hz : rows.length ≤ 40000) (hw : ∀ x, wipe ((wipe σ vs).set j (some x)) vs = wipe σ vs)
    (hj : ∀ x, ((wipe σ vs).set j (some x))[j]? = some (some x))
    (ht : ∀ (b : Addr) (r : List Nat), r ∈ rows → ∀ H1, Ex H H1 → H1 b = some (.lst (nats r)) → EvT t ((wipe σ vs).set j (some (.ref b))) H1 (p r)) :
    EvP (tLc (iList K tl) (gName j) t (tVar j) vs) σ H (rows.filter p) := by
  obtain ⟨qs, rfl, h2, h3⟩ := hR
  rw [List.length_map] at hz
  have q := el_lcI (K := K) (σ := σ) (H := H) (te := tVar j) (tl := tl) (t := t) (j := j) (vs := vs) qs (fun q => V.ref q.1) (fun q => V.ref q.1) (fun q => p q.2) h (SqL.of h2) hz hw
    (fun y hy H1 e => ht y.1 y.2 (List.mem_map_of_mem hy) H1 e (e _ _ (h3 y hy))) (fun y hy H1 e hp => ev_var (hj _))
  intro H1 e Q k
  refine q H1 e _ fun a2 H2 n2 e2 hl => k a2 H2 n2 e2 ⟨qs.filter fun q => p q.2, ?_, hl, fun y hy => e2 _ _ (e _ _ (h3 y (List.mem_filter.mp hy).1))⟩
  rw [List.filter_map]
  rfl
theorem s_retP {σ : L2.St} {H : Hp} {te : TE} {rows : List (List Nat)} {D : Ends} (h : EvP te σ H rows) (k : ∀ (p : Addr) (H1 : Hp), H p = none → Ex H H1 → RowsAt H1 p rows → D.rt (.ref p) H1) : tRet te D σ H := h H (Ex.refl H) _ k

/-! ### full_plans -/
def rFull (CS : Addr) : List V → Hp → List (List Nat) → Prop := fun vs H rows => ∃ (s : Addr) (m : M), vs = [.ref s] ∧ StoreAt CS H s m ∧ rows = m.fulls
theorem scFull : FnScope ["store", "some", "most", "plan"] ["store"] (defScope (top 9)) := ⟨rfl, rfl, rfl, by decide +kernel, rfl, by decide +kernel, by decide +kernel⟩
theorem d_full (T : Txt K mg CR CS CD CC) : Def P w K mg base CX0 9 "full_plans" ["store"] (spP (rFull CS)) :=
  .of T.tFull scFull (fun _ _ _ _ _ _ us hl => match us, hl with | [_], _ => rfl) (fun vs H Q E h => by
    obtain ⟨_, ⟨s, m, rfl, _⟩, _⟩ := h
    rfl) fun f cdv A outer s0 H vs Q E hr h => by
    obtain ⟨_, ⟨s, m, rfl, S, rfl⟩, k⟩ := h
    have hr3 : Room 3 _ := hr.mono (by decide)
    refine ⟨_, pss_cons (ps_set (i := 1) scFull.nd rfl (Or.inl rfl) (pe_def (d_possible T) hr (pa_cons (pv 0) pa_nil)))
      (pss_cons (ps_set (i := 2) scFull.nd rfl (Or.inr rfl) (pe_callB (cr_max rfl) (by rfl) T.bMax (by decide +kernel) (pa_cons (pe_lc (own := [("plan", 3)]) (g := gName 3) (tt := tYes) rfl scFull.nd (pi_list (pv 1))
        (blkOk_by (N := ["store", "some", "most", "plan"]) (sc := defScope (top 9)) (by decide +kernel)) (fun _ _ _ _ _ => pg_name (i := 3) scFull.nd rfl (Or.inl rfl)) (fun _ _ _ _ _ => pts_nil)
        (fun _ _ _ _ _ => pe_def (d_given_out T) hr3 (pa_cons (pv 0) (pa_cons (pv 3) pa_nil)))) pa_nil)))
      (pss_one (ps_ret (pe_lc (own := [("plan", 3)]) (g := gName 3) rfl scFull.nd (pi_list (pv 1))
        (blkOk_by (N := ["store", "some", "most", "plan"]) (sc := defScope (top 9)) (by decide +kernel)) (fun _ _ _ _ _ => pg_name (i := 3) scFull.nd rfl (Or.inl rfl))
        (fun _ _ _ _ _ => pts_one (pt_cmpR op_eq (pe_def (d_given_out T) hr3 (pa_cons (pv 0) (pa_cons (pv 3) pa_nil))) (pv 2) (nomark _))) (fun _ _ _ _ _ => pv 3))))), ?_⟩
    have hsm := poss_small S.1 (k := m.nc) S.1.c5
    have h5 : m.nc ≤ 5 := S.1.c5
    refine q_asgP (ep_call (rows := m.poss m.nc) (ea_cons (ev_var rfl) ea_nil) fun H1 e => ⟨s, m, rfl, S.ex e, rfl⟩) fun p H1 n1 e1 R => ?_
    refine q_asg (v := vN (most ((m.poss m.nc).map m.given))) (ev_max (l := (m.poss m.nc).map m.given) ?_ (fun z => poss_ne m m.nc (List.map_eq_nil_iff.mp z))) fun H2 e2 => ?_
    · have q := el_lcRows (K := K) (σ := [some (.ref s), some (.ref p), none, none]) (H := H1) (te := tCall (spV (rGivenOut CS)) [] E0 (tCons (tVar 0) (tCons (tVar 3) tNil))) (tl := tVar 1) (t := tYes) (j := 3) (vs := [3]) (rows := m.poss m.nc) (fun _ => true) (fun r => vN (m.given r)) (ev_var rfl) R (by omega) (fun _ => rfl)
        (fun b r hr' H2 e2 hb => et_yes) (fun b r hr' H2 e2 hb _ => ev_given (ev_var rfl) (ev_var rfl) (S.ex (e1.trans e2)) hb (by rw [(poss_in hr').1]; omega))
      rw [filter_yes] at q
      rw [nats_map]
      exact q
    · refine s_retP (ep_lcRows (fun r => m.given r == most ((m.poss m.nc).map m.given)) (ev_var rfl) (R.ex e2) (by omega) (fun _ => rfl) (fun _ => rfl) fun b r hr' H3 e3 hb => et_test (ev_op (ev_given (ev_var rfl) (ev_var rfl) (S.ex ((e1.trans e2).trans e3)) hb (by rw [(poss_in hr').1]; omega)) (ev_var rfl) rv_eqN)) fun p2 H3 n3 e3 R3 => ?_
      exact k p2 H3 (fresh_back (e1.trans e2) n3) ((e1.trans e2).trans e3) R3

/-! ### best_plans -/
def rBest (CS : Addr) : List V → Hp → List (List Nat) → Prop := fun vs H rows => ∃ (s : Addr) (m : M), vs = [.ref s] ∧ StoreAt CS H s m ∧ rows = m.bests
theorem scBest : FnScope ["store", "some", "fewest", "plan"] ["store"] (defScope (top 10)) := ⟨rfl, rfl, rfl, by decide +kernel, rfl, by decide +kernel, by decide +kernel⟩
theorem d_best (T : Txt K mg CR CS CD CC) : Def P w K mg base CX0 10 "best_plans" ["store"] (spP (rBest CS)) :=
  .of T.tBest scBest (fun _ _ _ _ _ _ us hl => match us, hl with | [_], _ => rfl) (fun vs H Q E h => by
    obtain ⟨_, ⟨s, m, rfl, _⟩, _⟩ := h
    rfl) fun f cdv A outer s0 H vs Q E hr h => by
    obtain ⟨_, ⟨s, m, rfl, S, rfl⟩, k⟩ := h
    have hr4 : Room 4 _ := hr.mono (by decide)
    refine ⟨_, pss_cons (ps_set (i := 1) scBest.nd rfl (Or.inl rfl) (pe_def (d_full T) hr (pa_cons (pv 0) pa_nil)))
      (pss_cons (ps_set (i := 2) scBest.nd rfl (Or.inr rfl) (pe_callB (cr_min rfl) (by rfl) T.bMin (by decide +kernel) (pa_cons (pe_lc (own := [("plan", 3)]) (g := gName 3) (tt := tYes) rfl scBest.nd (pi_list (pv 1))
        (blkOk_by (N := ["store", "some", "fewest", "plan"]) (sc := defScope (top 10)) (by decide +kernel)) (fun _ _ _ _ _ => pg_name (i := 3) scBest.nd rfl (Or.inl rfl)) (fun _ _ _ _ _ => pts_nil)
        (fun _ _ _ _ _ => pe_def (d_errors_in T) hr4 (pa_cons (pv 0) (pa_cons (pv 3) pa_nil)))) pa_nil)))
      (pss_one (ps_ret (pe_lc (own := [("plan", 3)]) (g := gName 3) rfl scBest.nd (pi_list (pv 1))
        (blkOk_by (N := ["store", "some", "fewest", "plan"]) (sc := defScope (top 10)) (by decide +kernel)) (fun _ _ _ _ _ => pg_name (i := 3) scBest.nd rfl (Or.inl rfl))
        (fun _ _ _ _ _ => pts_one (pt_cmpR op_eq (pe_def (d_errors_in T) hr4 (pa_cons (pv 0) (pa_cons (pv 3) pa_nil))) (pv 2) (nomark _))) (fun _ _ _ _ _ => pv 3))))), ?_⟩
    have hsm := fulls_small S.1
    refine q_asgP (ep_call (rows := m.fulls) (ea_cons (ev_var rfl) ea_nil) fun H1 e => ⟨s, m, rfl, S.ex e, rfl⟩) fun p H1 n1 e1 R => ?_
    refine q_asg (v := vN (least (m.fulls.map m.off))) (ev_min (l := m.fulls.map m.off) ?_ (fun z => fulls_ne m (List.map_eq_nil_iff.mp z))) fun H2 e2 => ?_
    · have q := el_lcRows (K := K) (σ := [some (.ref s), some (.ref p), none, none]) (H := H1) (te := tCall (spV (rErrorsIn CS)) [] E0 (tCons (tVar 0) (tCons (tVar 3) tNil))) (tl := tVar 1) (t := tYes) (j := 3) (vs := [3]) (rows := m.fulls) (fun _ => true) (fun r => vN (m.off r)) (ev_var rfl) R (by omega) (fun _ => rfl)
        (fun b r hr' H2 e2 hb => et_yes) (fun b r hr' H2 e2 hb _ => ev_errin (ev_var rfl) (ev_var rfl) (S.ex (e1.trans e2)) hb (fulls_in hr').1 (fulls_in hr').2)
      rw [filter_yes] at q
      rw [nats_map]
      exact q
    · refine s_retP (ep_lcRows (fun r => m.off r == least (m.fulls.map m.off)) (ev_var rfl) (R.ex e2) (by omega) (fun _ => rfl) (fun _ => rfl) fun b r hr' H3 e3 hb => et_test (ev_op (ev_errin (ev_var rfl) (ev_var rfl) (S.ex ((e1.trans e2).trans e3)) hb (fulls_in hr').1 (fulls_in hr').2) (ev_var rfl) rv_eqN)) fun p2 H3 n3 e3 R3 => ?_
      exact k p2 H3 (fresh_back (e1.trans e2) n3) ((e1.trans e2).trans e3) R3

/-! ### things_had -/
/-- a comprehension over a list of lists that a call hands back -/
theorem el_lcP {σ : L2.St} {H : Hp} {te tl : TE} {t : TT} {j : Nat} {vs : List Nat} {rows : List (List Nat)} (p : List Nat → Bool) (g : List Nat → V) (h : EvP tl σ H rows) (hz : rows.length ≤ 40000) (hw : ∀ x, wipe ((wipe σ vs).set j (some x)) vs = wipe σ vs)
    (ht : ∀ (b : Addr) (r : List Nat), r ∈ rows → ∀ H1, Ex H H1 → H1 b = some (.lst (nats r)) → EvT t ((wipe σ vs).set j (some (.ref b))) H1 (p r)) (he : ∀ (b : Addr) (r : List Nat), r ∈ rows → ∀ H1, Ex H H1 → H1 b = some (.lst (nats r)) → p r = true → Ev te ((wipe σ vs).set j (some (.ref b))) H1 (g r)) :
    EvL (tLc (iList K tl) (gName j) t te vs) σ H ((rows.filter p).map g) := fun H0 e Q q =>
  h H0 e _ fun a H1 na e1 hR => (el_lcRows (K := K) (tl := tC (.ref a)) (t := t) (te := te) (j := j) (vs := vs) (a := a) p g ev_c hR hz hw (fun b r hr' H2 e2 hb => ht b r hr' H2 ((e.trans e1).trans e2) hb) (fun b r hr' H2 e2 hb hp => he b r hr' H2 ((e.trans e1).trans e2) hb hp)) H1 (Ex.refl H1) Q
    fun p2 H2 n2 e2 h2 => q p2 H2 (fresh_back e1 n2) (e1.trans e2) h2
def rHad (CS : Addr) : List V → Hp → List V → Prop := fun vs H xs => ∃ (s : Addr) (m : M) (c : Nat), vs = [.ref s, vN c] ∧ StoreAt CS H s m ∧ c < m.nc ∧ xs = nats (m.has c)
theorem scHad : FnScope ["store", "c", "had", "plan", "t"] ["store", "c"] (defScope (top 11)) := ⟨rfl, rfl, rfl, by decide +kernel, rfl, by decide +kernel, by decide +kernel⟩
theorem d_had (T : Txt K mg CR CS CD CC) : Def P w K mg base CX0 10 "things_had" ["store", "c"] (spL (rHad CS)) :=
  .of T.tHad scHad (fun _ _ _ _ _ _ us hl => match us, hl with | [_, _], _ => rfl) (fun vs H Q E h => by
    obtain ⟨_, ⟨s, m, c, rfl, _⟩, _⟩ := h
    rfl) fun f cdv A outer s0 H vs Q E hr h => by
    obtain ⟨_, ⟨s, m, c, rfl, S, hc, rfl⟩, k⟩ := h
    have hr1 : Room 1 _ := hr.mono (by decide)
    refine ⟨_, pss_cons (ps_set (i := 2) scHad.nd rfl (Or.inr rfl) (pe_lc (own := [("plan", 3)]) (g := gName 3) (tt := tYes) (te := tOp (rIxL K) (tVar 3) (tVar 1)) rfl scHad.nd (pi_list (pe_def (d_full T) hr (pa_cons (pv 0) pa_nil)))
        (blkOk_by (N := ["store", "c", "had", "plan", "t"]) (sc := defScope (top 11)) (by decide +kernel)) (fun _ _ _ _ _ => pg_name (i := 3) scHad.nd rfl (Or.inl rfl)) (fun _ _ _ _ _ => pts_nil) (fun _ _ _ _ _ => pe_ix ix_list (pv 3) (pv 1) (fun _ _ => rfl))))
      (pss_one (ps_ret (pe_lc (own := [("t", 4)]) (g := gName 4) (tt := tTest (tOp (rIn K false) (tVar 4) (tVar 2))) rfl scHad.nd (pi_range1 (by rfl) T.bRange (pa_cons (pe_op op_add (pe_met0 (pv 0) T.cS (m_many_things T) hr1) pe_int) pa_nil))
        (blkOk_by (N := ["store", "c", "had", "plan", "t"]) (sc := defScope (top 11)) (by decide +kernel)) (fun _ _ _ _ _ => pg_name (i := 4) scHad.nd rfl (Or.inl rfl)) (fun _ _ _ _ _ => pts_one (pt_cmpR op_in_seq (pv 4) (pv 2) rfl)) (fun _ _ _ _ _ => pv 4)))), ?_⟩
    have hsm := fulls_small S.1
    have h5 : m.nt ≤ 5 := S.1.t5
    have q := el_lcP (K := K) (σ := L2.start ["store", "c", "had", "plan", "t"] [.ref s, vN c]) (H := H) (te := tOp (rIxL K) (tVar 3) (tVar 1)) (tl := tCall (spP (rFull CS)) [] E0 (tCons (tVar 0) tNil)) (t := tYes) (j := 3) (vs := [3]) (rows := m.fulls) (fun _ => true) (fun r => vN (r.getD c 0)) (ep_call (ea_cons (ev_var rfl) ea_nil) fun H1 e => ⟨s, m, rfl, S.ex e, rfl⟩) (by omega) (fun _ => rfl)
        (fun b r hr' H2 e2 hb => et_yes) (fun b r hr' H2 e2 hb _ => ev_ixN (ev_var rfl) hb (ev_var rfl) (by rw [(fulls_in hr').1]; exact hc))
    rw [filter_yes] at q
    refine q_asgL (xs := nats (m.fulls.map fun p => p.getD c 0)) ?_ fun p1 H1 n1 e1 hp1 => ?_
    · rw [nats_map]
      exact q
    · refine s_retL (xs := nats (m.has c)) (el_lcR (n := m.nt + 1) (fun t => (m.fulls.map fun p => p.getD c 0).contains t) vN (ea_cons (ev_op (ev_nt (ev_var rfl) (S.ex e1)) ev_c rv_I0) ea_nil) (by omega) (fun _ => rfl) (fun t H2 e2 _ => et_test (ev_op (ev_var rfl) (ev_var rfl) (rv_in (e2 _ _ hp1)))) (fun t H2 e2 _ _ => ev_var rfl)) fun p2 H2 n2 e2 h2 => ?_
      exact k p2 H2 (fresh_back e1 n2) (e1.trans e2) h2

/-! ### claims_in -/
def rClaimsIn (CS : Addr) : List V → Hp → List V → Prop := fun vs H xs => ∃ (s : Addr) (m : M) (n : Nat), vs = [.ref s, vN n] ∧ StoreAt CS H s m ∧ xs = nats (m.claimsIn n)
theorem bit_is (n c : Nat) : decide (V.int (Builtin.bitAnd ((n : Int) / 2 ^ ((c : Int).toNat)) 1) = V.int 1) = n.testBit c := by
  rw [PyProof.Rows.bitAnd_m1, Int.toNat_natCast, dec_int, Nat.testBit_eq_decide_div_mod_eq]
  have e : ((n : Int) / 2 ^ c % 2) = ((n / 2 ^ c % 2 : Nat) : Int) := by
    rw [Int.natCast_emod, Int.natCast_ediv, Int.natCast_pow]
    rfl
  rw [e, Bool.eq_iff_iff, beq_iff_eq, decide_eq_true_iff]
  omega
theorem scClaimsIn : FnScope ["store", "number", "c"] ["store", "number"] (defScope (top 13)) := ⟨rfl, rfl, rfl, by decide +kernel, rfl, by decide +kernel, by decide +kernel⟩
theorem d_claims_in (T : Txt K mg CR CS CD CC) : Def P w K mg base CX0 2 "claims_in" ["store", "number"] (spL (rClaimsIn CS)) :=
  .of T.tClaimsIn scClaimsIn (fun _ _ _ _ _ _ us hl => match us, hl with | [_, _], _ => rfl) (fun vs H Q E h => by
    obtain ⟨_, ⟨s, m, n, rfl, _⟩, _⟩ := h
    rfl) fun f cdv A outer s0 H vs Q E hr h => by
    obtain ⟨_, ⟨s, m, n, rfl, S, rfl⟩, k⟩ := h
    refine ⟨_, pss_one (ps_ret (pe_lc (own := [("c", 2)]) (g := gName 2) rfl scClaimsIn.nd (pi_range1 (by rfl) T.bRange (pa_cons (pe_met0 (pv 0) T.cS (m_many_claims T) hr) pa_nil))
      (blkOk_by (N := ["store", "number", "c"]) (sc := defScope (top 13)) (by decide +kernel)) (fun _ _ _ _ _ => pg_name (i := 2) scClaimsIn.nd rfl (Or.inl rfl))
      (fun _ _ _ _ _ => pts_one (pt_cmpR op_eq (pe_op op_and (pe_op op_shr (pv 1) (pv 2)) pe_int) pe_int (nomark _))) (fun _ _ _ _ _ => pv 2))), ?_⟩
    have h5 : m.nc ≤ 5 := S.1.c5
    refine s_retL (el_lcR (n := m.nc) (fun c => n.testBit c) vN (ea_cons (ev_nc (ev_var rfl) S) ea_nil) (by omega) (fun _ => rfl) (fun c H1 e _ => ?_) (fun c H1 e _ _ => ev_var rfl)) k
    rw [← bit_is]
    exact et_test (ev_op (ev_op (ev_op (ev_var rfl) (ev_var rfl) (rv_I (by show (0 : Int) ≤ (c : Int); omega))) ev_c rv_I0) ev_c (rv_eq rfl))
theorem el_claims_in {σ : L2.St} {H : Hp} {ta tb : TE} {s : Addr} {m : M} {n : Nat} (ha : Ev ta σ H (.ref s)) (hb : Ev tb σ H (vN n)) (S : StoreAt CS H s m) : EvL (tCall (spL (rClaimsIn CS)) [] E0 (tCons ta (tCons tb tNil))) σ H (nats (m.claimsIn n)) :=
  el_call (ea_cons ha (ea_cons hb ea_nil)) (spL_of fun H1 e => ⟨s, m, n, rfl, S.ex e, rfl⟩)

/-! ### fits_one -/
def rFitsOne (CS : Addr) : List V → Hp → V → Prop := fun vs H z => ∃ (s q : Addr) (m : M) (cs : List Nat) (t : Nat), vs = [.ref s, .ref q, vN t] ∧ StoreAt CS H s m ∧ H q = some (.lst (nats cs)) ∧ cs.length ≤ 1000 ∧ (∀ c ∈ cs, c < m.nc) ∧ t < m.nt ∧ z = .bl (m.fitsOne cs t)
theorem scFitsOne : FnScope ["store", "some", "t", "c"] ["store", "some", "t"] (defScope (top 14)) := ⟨rfl, rfl, rfl, by decide +kernel, rfl, by decide +kernel, by decide +kernel⟩
theorem d_fits_one (T : Txt K mg CR CS CD CC) : Def P w K mg base CX0 5 "fits_one" ["store", "some", "t"] (spV (rFitsOne CS)) :=
  .of T.tFitsOne scFitsOne (fun _ _ _ _ _ _ us hl => match us, hl with | [_, _, _], _ => rfl) (fun vs H Q E h => by
    obtain ⟨_, ⟨s, q, m, cs, t, rfl, _⟩, _⟩ := h
    rfl) fun f cdv A outer s0 H vs Q E hr h => by
    obtain ⟨_, ⟨s, q, m, cs, t, rfl, S, hq, hl, hcs, ht, rfl⟩, k⟩ := h
    refine ⟨_, pss_one (ps_ret (pe_callB (cr_any rfl) (by rfl) T.bAny (by decide +kernel) (pa_cons (pe_lc (own := [("c", 3)]) (g := gName 3) (tt := tYes) rfl scFitsOne.nd (pi_list (pv 1))
      (blkOk_by (N := ["store", "some", "t", "c"]) (sc := defScope (top 14)) (by decide +kernel)) (fun _ _ _ _ _ => pg_name (i := 3) scFitsOne.nd rfl (Or.inl rfl)) (fun _ _ _ _ _ => pts_nil)
      (fun _ _ _ _ _ => pe_met (pv 0) T.cS (m_fits T) hr (pa_cons (pv 3) (pa_cons (pv 2) pa_nil)))) pa_nil))), ?_⟩
    have x := el_lcI (K := K) (σ := L2.start ["store", "some", "t", "c"] [.ref s, .ref q, vN t]) (H := H) (te := tMeth CS "fits" (spV (rFits CS)) [] E0 (tVar 0) (tCons (tVar 3) (tCons (tVar 2) tNil))) (t := tYes) (tl := tVar 1) (j := 3) (vs := [3]) cs vN (fun c => V.bl (m.fits c t)) (fun _ => true) (ev_var rfl) (SqL.of hq) (by omega) (fun _ => rfl)
        (fun y _ H1 _ => et_yes) (fun y hy H1 e _ => ev_fits (ev_var rfl) (S.ex e) (ev_var rfl) (ev_var rfl) (hcs y hy) ht)
    rw [filter_yes] at x
    have x2 : EvL (tLc (iList K (tVar 1)) (gName 3) tYes (tMeth CS "fits" (spV (rFits CS)) [] E0 (tVar 0) (tCons (tVar 3) (tCons (tVar 2) tNil))) [3]) (L2.start ["store", "some", "t", "c"] [.ref s, .ref q, vN t]) H ((cs.map fun c => m.fits c t).map V.bl) := by
      rw [List.map_map]
      exact x
    refine s_ret (ev_is (ev_any x2) ?_) k
    rw [any_map]
    rfl

/-! ### things_for -/
def rThingsFor (CS : Addr) : List V → Hp → List V → Prop := fun vs H xs => ∃ (s : Addr) (m : M) (n : Nat), vs = [.ref s, vN n] ∧ StoreAt CS H s m ∧ xs = nats (m.thingsFor n)
theorem scThingsFor : FnScope ["store", "number", "some", "t"] ["store", "number"] (defScope (top 15)) := ⟨rfl, rfl, rfl, by decide +kernel, rfl, by decide +kernel, by decide +kernel⟩
theorem d_things_for (T : Txt K mg CR CS CD CC) : Def P w K mg base CX0 6 "things_for" ["store", "number"] (spL (rThingsFor CS)) :=
  .of T.tThingsFor scThingsFor (fun _ _ _ _ _ _ us hl => match us, hl with | [_, _], _ => rfl) (fun vs H Q E h => by
    obtain ⟨_, ⟨s, m, n, rfl, _⟩, _⟩ := h
    rfl) fun f cdv A outer s0 H vs Q E hr h => by
    obtain ⟨_, ⟨s, m, n, rfl, S, rfl⟩, k⟩ := h
    have hr1 : Room 1 _ := hr.mono (by decide)
    have hr2 : Room 2 _ := hr.mono (by decide)
    refine ⟨_, pss_cons (ps_set (i := 2) scThingsFor.nd rfl (Or.inr rfl) (pe_def (d_claims_in T) hr2 (pa_cons (pv 0) (pa_cons (pv 1) pa_nil))))
      (pss_one (ps_ret (pe_lc (own := [("t", 3)]) (g := gName 3) rfl scThingsFor.nd (pi_range1 (by rfl) T.bRange (pa_cons (pe_met0 (pv 0) T.cS (m_many_things T) hr1) pa_nil))
      (blkOk_by (N := ["store", "number", "some", "t"]) (sc := defScope (top 15)) (by decide +kernel)) (fun _ _ _ _ _ => pg_name (i := 3) scThingsFor.nd rfl (Or.inl rfl))
      (fun _ _ _ _ _ => pts_one (pt_val (pe_def (d_fits_one T) hr (pa_cons (pv 0) (pa_cons (pv 2) (pa_cons (pv 3) pa_nil)))))) (fun _ _ _ _ _ => pv 3)))), ?_⟩
    have h5 : m.nt ≤ 5 := S.1.t5
    have hc5 : (m.claimsIn n).length ≤ m.nc := range_len_le _
    have hc6 : m.nc ≤ 5 := S.1.c5
    refine q_asgL (el_claims_in (ev_var rfl) (ev_var rfl) S) fun p1 H1 n1 e1 h1 => ?_
    refine s_retL (el_lcR (n := m.nt) (m.fitsOne (m.claimsIn n)) vN (ea_cons (ev_nt (ev_var rfl) (S.ex e1)) ea_nil) (by omega) (fun _ => rfl) (fun t H2 e2 ht => et_val (ev_call (ea_cons (ev_var rfl) (ea_cons (ev_var rfl) (ea_cons (ev_var rfl) ea_nil)))
      (spV_of fun H3 e3 => ⟨s, p1, m, m.claimsIn n, t, rfl, S.ex ((e1.trans e2).trans e3), e3 _ _ (e2 _ _ h1), by omega, fun c hc => List.mem_range.mp (List.mem_filter.mp hc).1, ht, rfl⟩))) (fun t H2 e2 _ _ => ev_var rfl)) fun p2 H2 n2 e2 h2 => ?_
    exact k p2 H2 (fresh_back e1 n2) (e1.trans e2) h2
theorem el_things_for {σ : L2.St} {H : Hp} {ta tb : TE} {s : Addr} {m : M} {n : Nat} (ha : Ev ta σ H (.ref s)) (hb : Ev tb σ H (vN n)) (S : StoreAt CS H s m) : EvL (tCall (spL (rThingsFor CS)) [] E0 (tCons ta (tCons tb tNil))) σ H (nats (m.thingsFor n)) :=
  el_call (ea_cons ha (ea_cons hb ea_nil)) (spL_of fun H1 e => ⟨s, m, n, rfl, S.ex e, rfl⟩)

/-! ### short_by, shortest -/
def rShortBy (CS : Addr) : List V → Hp → V → Prop := fun vs H z => ∃ (s : Addr) (m : M) (n : Nat), vs = [.ref s, vN n] ∧ StoreAt CS H s m ∧ z = vN (m.shortBy n)
theorem scShortBy : FnScope ["store", "number"] ["store", "number"] (defScope (top 16)) := ⟨rfl, rfl, rfl, by decide +kernel, rfl, by decide +kernel, by decide +kernel⟩
theorem d_short_by (T : Txt K mg CR CS CD CC) : Def P w K mg base CX0 7 "short_by" ["store", "number"] (spV (rShortBy CS)) :=
  .of T.tShortBy scShortBy (fun _ _ _ _ _ _ us hl => match us, hl with | [_, _], _ => rfl) (fun vs H Q E h => by
    obtain ⟨_, ⟨s, m, n, rfl, _⟩, _⟩ := h
    rfl) fun f cdv A outer s0 H vs Q E hr h => by
    obtain ⟨_, ⟨s, m, n, rfl, S, rfl⟩, k⟩ := h
    have hr2 : Room 2 _ := hr.mono (by decide)
    refine ⟨_, pss_one (ps_ret (pe_callB (call_max2 rfl) (by rfl) T.bMax (by decide +kernel) (pa_cons pe_int (pa_cons (pe_op op_sub (pe_callB call_len_seq (by rfl) T.bLen PySem.boot_len (pa_cons (pe_def (d_claims_in T) hr2 (pa_cons (pv 0) (pa_cons (pv 1) pa_nil))) pa_nil))
      (pe_callB call_len_seq (by rfl) T.bLen PySem.boot_len (pa_cons (pe_def (d_things_for T) hr (pa_cons (pv 0) (pa_cons (pv 1) pa_nil))) pa_nil))) pa_nil)))), ?_⟩
    refine s_ret (ev_is (ev_max2 (i := 0) (j := ((m.claimsIn n).length : Int) - ((m.thingsFor n).length : Int)) ev_c (ev_op (ev_is (ev_lenN (el_claims_in (ev_var rfl) (ev_var rfl) S)) (by rw [List.length_map])) (ev_is (ev_lenN (el_things_for (ev_var rfl) (ev_var rfl) S)) (by rw [List.length_map])) rv_I0)) ?_) k
    unfold M.shortBy
    show V.int _ = V.int _
    refine congrArg V.int ?_
    by_cases h : ((m.claimsIn n).length : Int) - ((m.thingsFor n).length : Int) > 0
    · rw [if_pos h]
      omega
    · rw [if_neg h]
      omega
theorem ev_short_by {σ : L2.St} {H : Hp} {ta tb : TE} {s : Addr} {m : M} {n : Nat} (ha : Ev ta σ H (.ref s)) (hb : Ev tb σ H (vN n)) (S : StoreAt CS H s m) : Ev (tCall (spV (rShortBy CS)) [] E0 (tCons ta (tCons tb tNil))) σ H (vN (m.shortBy n)) :=
  ev_call (ea_cons ha (ea_cons hb ea_nil)) (spV_of fun H1 e => ⟨s, m, n, rfl, S.ex e, rfl⟩)
def rShortest (CS : Addr) : List V → Hp → V → Prop := fun vs H z => ∃ (s : Addr) (m : M), vs = [.ref s] ∧ StoreAt CS H s m ∧ z = vN m.shortest
theorem rv_gt {H : Hp} {a b : Nat} : RV (rI0 fun i j => .bl (decide (j < i))) (vN a) (vN b) H (.bl (decide (b < a))) := by
  rw [← dec_lt]
  exact rv_I0 (g := fun i j => .bl (decide (j < i)))
theorem scShortest : FnScope ["store", "found", "number"] ["store"] (defScope (top 17)) := ⟨rfl, rfl, rfl, by decide +kernel, rfl, by decide +kernel, by decide +kernel⟩
theorem d_shortest (T : Txt K mg CR CS CD CC) : Def P w K mg base CX0 8 "shortest" ["store"] (spV (rShortest CS)) :=
  .of T.tShortest scShortest (fun _ _ _ _ _ _ us hl => match us, hl with | [_], _ => rfl) (fun vs H Q E h => by
    obtain ⟨_, ⟨s, m, rfl, _⟩, _⟩ := h
    rfl) fun f cdv A outer s0 H vs Q E hr h => by
    obtain ⟨_, ⟨s, m, rfl, S, rfl⟩, k⟩ := h
    have hr1 : Room 1 _ := hr.mono (by decide)
    refine ⟨_, pss_cons (ps_set (i := 1) scShortest.nd rfl (Or.inl rfl) pe_int)
      (pss_cons (ps_for PassesOwn.never rfl (pi_range1 (by rfl) T.bRange (pa_cons (pe_op op_shl pe_int (pe_met0 (pv 0) T.cS (m_many_claims T) hr1)) pa_nil)) (pg_name (i := 2) scShortest.nd rfl (Or.inl rfl))
        (pss_one (ps_if (pt_cmpR op_gt (pe_def (d_short_by T) hr (pa_cons (pv 0) (pa_cons (pv 2) pa_nil))) (pe_def (d_short_by T) hr (pa_cons (pv 0) (pa_cons (pv 1) pa_nil))) (nomark _))
          (pss_one (ps_set (i := 1) scShortest.nd rfl (Or.inl rfl) (pv 2))) pss_nil)))
      (pss_one (ps_ret (pv 1)))), ?_⟩
    have h5 : m.nc ≤ 5 := S.1.c5
    have hp : 2 ^ m.nc ≤ 2 ^ 5 := Nat.pow_le_pow_right (by omega) h5
    have hpI : ((2 ^ m.nc : Nat) : Int) ≤ 32 := Int.ofNat_le.mpr hp
    refine q_asg ev_c fun H1 e1 => ?_
    refine q_forR1 (n := ((2 ^ m.nc : Nat) : Int)) (ea_cons (ev_is (ev_op ev_c (ev_nc (ev_var rfl) (S.ex e1)) (rv_I (C := CPow) ⟨by omega, by omega, by decide⟩)) ?_) ea_nil) ⟨Int.natCast_nonneg _, Int.le_trans hpI (by decide)⟩ (fun i σ' H' => ∃ v : Option V, σ' = [some (.ref s), some (vN ((List.range i).foldl m.worse 0)), v] ∧ Ex H H') (fun H2 e2 => ⟨none, rfl, e1.trans e2⟩) ?_ ?_
    · show V.int (1 * 2 ^ ((m.nc : Nat) : Int).toNat) = V.int ((2 ^ m.nc : Nat) : Int)
      rw [Int.toNat_natCast, Int.one_mul, Int.natCast_pow]
      rfl
    · rintro i σ' H' hi ⟨v, rfl, e⟩
      have hst : (List.range (i + 1)).foldl m.worse 0 = m.worse ((List.range i).foldl m.worse 0) i := by
        rw [List.range_succ, List.foldl_append]
        rfl
      refine s_when (b := decide (m.shortBy ((List.range i).foldl m.worse 0) < m.shortBy i)) (et_test (ev_op (ev_short_by (ev_var rfl) (ev_var rfl) (S.ex e)) (ev_short_by (ev_var rfl) (ev_var rfl) (S.ex e)) rv_gt)) (fun hb H2 e2 => ?_) (fun hb H2 e2 => ?_)
      · refine s_asg (ev_var rfl) fun H3 e3 => ⟨some (vN i), ?_, (e.trans e2).trans e3⟩
        have hw : m.worse ((List.range i).foldl m.worse 0) i = i := if_pos (of_decide_eq_true hb)
        rw [hst, hw]
        rfl
      · refine ⟨some (vN i), ?_, e.trans e2⟩
        rw [hst]
        have hb' : ¬ m.shortBy ((List.range i).foldl m.worse 0) < m.shortBy i := of_decide_eq_false hb
        have hw : m.worse ((List.range i).foldl m.worse 0) i = (List.range i).foldl m.worse 0 := if_neg hb'
        rw [hw]
        rfl
    · rintro σ' H' ⟨v, rfl, e⟩
      refine s_ret (ev_var rfl) fun H2 e2 => ?_
      exact k H2 (e.trans e2)
end
end My

/-! Part 8: refusals; the desk. -/
namespace My
open PySem PySem.Spec PyProof.Rows L2 Evl
section
variable {P : Program} {w : World} {K : PySem.W.Frag} {mg : Str → Option Value} {base : Heap} {CR CS CD CC : Addr}
/-! ### Refused -/
def spRInit (CR : Addr) : Sp := fun vs H Q _ => ∃ (a : Addr) (v : V), vs = [.ref a, v] ∧ H a = some (exo a CR none) ∧ ∀ dx, H dx = none → dx ≠ a → Q .non (upd (upd H dx (exd dx [("answer", v)])) a (exo a CR (some dx)))
theorem scRInit : FnScope ["self", "answer"] ["self", "answer"] (defScope (inClass (top 32) 0)) := ⟨rfl, rfl, rfl, by decide +kernel, rfl, by decide +kernel, by decide +kernel⟩
theorem m_r_init (T : Txt K mg CR CS CD CC) : ∃ (fI : Addr) (fd : FuncData), PySem.W.findIn K (.ref CR) "__init__" = some (some (.ref fI)) ∧ PySem.W.typeIn K (.ref fI) = some (.type "function") ∧ Binds K fd ["self", "answer"] [] ∧ FnOk P w K mg base CX0 1 fI fd ["self", "answer"] (spRInit CR) := by
  obtain ⟨fI, h1, h2, fd, F⟩ := T.iR
  refine ⟨fI, fd, h1, h2, F.binds (fun _ _ _ _ _ _ us hl => match us, hl with | [_, _], _ => rfl), F.ok scRInit (fun vs H Q E h => ?_) fun cdv A outer s0 H vs Q E hr h => ?_⟩
  · obtain ⟨a, v, rfl, _⟩ := h
    rfl
  · obtain ⟨a, v, rfl, ha, k⟩ := h
    refine ⟨_, pss_one (ps_ost (pv 0) (pv 1)), ?_⟩
    exact ⟨v, rfl, _, rfl, a, CR, rfl, T.oR, T.nR, .inl ⟨ha, fun dx h1 h2 => k dx h1 h2⟩⟩
theorem pmk_refused {X : Cx} {e : Expr} {ta : TA} {p pos : Pos} {k : Nat} (T : Txt X.K X.mg CR CS CD CC) (hr : Room (k + 2) X.A) (ha : PA X [e] ta) (hg : Gl X "Refused" := by rfl)
    (he : starEach (e :: []) X.env = (false, eval e X.env) :: starEach [] X.env := by rfl) (hpl : (backTo pos (starEach [] X.env)).any (·.1) = false := by rfl) :
    PMk X (.Call (.Name "Refused" p) [e] [] pos) (tMkO CR (spRInit CR) [] ta) := by
  obtain ⟨fI, fd, h1, h2, h3, h4⟩ := m_r_init (P := X.prog) (w := X.w) (base := X.base) T
  exact pmk_oex T.oR h1 h2 h4 (hr.mono (by omega)) h3 .nil pass0 hg T.gR ha (by decide) he hpl
/-- an error of the class leaves, its answer a list of these numbers; what stood stands -/
def Refuses (CR : Addr) (H : Hp) (E : XK) (l : List Int) : Prop := ∀ (d la : Addr) (H' : Hp), Ex H H' → H' d = some (.xd [("answer", .ref la)]) → H' la = some (.lst (l.map V.int)) → E (.ref CR) (some d) H'
theorem Refuses.ex {H H' : Hp} {E : XK} {l : List Int} (h : Refuses CR H E l) (e : Ex H H') : Refuses CR H' E l := fun d la H2 e2 h1 h2 => h d la H2 (e.trans e2) h1 h2
theorem refused {H : Hp} {la : Addr} {l : List Int} {E : XK} (hl : H la = some (.lst (l.map V.int))) (k : Refuses CR H E l) : ∀ a, H a = none → spRInit CR [.ref a, .ref la] (upd H a (exo a CR none))
    (fun v H2 => v = .non ∧ ∃ (d : Addr) (fs : List (Str × V)), H2 a = some (exo a CR (some d)) ∧ H2 d = some (exd d fs) ∧ H d = none ∧ E (.ref CR) (some d) (upd (del H2 a) d (.xd fs))) (fun _ _ _ => False) := fun a na => by
  refine ⟨a, .ref la, rfl, upd_same, fun dx hdx hne => ⟨rfl, dx, ([("answer", V.ref la)] : List (Str × V)), upd_same, ?_, ?_, ?_⟩⟩
  · rw [upd_ne hne]
    exact upd_same
  · rw [upd_ne hne] at hdx
    exact hdx
  · have ndx : H dx = none := by
      rw [upd_ne hne] at hdx
      exact hdx
    have key : ∀ b o, H b = some o → (upd (del (upd (upd (upd H a (exo a CR none)) dx (exd dx [("answer", V.ref la)])) a (exo a CR (some dx))) a) dx (.xd [("answer", V.ref la)])) b = some o := fun b o hb => by
      have n1 := ne_of_none hb ndx
      have n2 := ne_of_none hb na
      rw [upd_ne n1, del_ne n2, upd_ne n2, upd_ne n1, upd_ne n2]
      exact hb
    exact k dx la _ key upd_same (key la _ hl)
/-- raise Refused(a new list) -/
theorem s_raise {σ : L2.St} {H : Hp} {te : TE} {l : List Int} {E : XK} {D : Ends} (h : EvL te σ H (l.map V.int)) (k : Refuses CR H E l) : (fun (D : Ends) σ H => tMkO CR (spRInit CR) [] (tCons te tNil) σ H fun cls d H' => E cls d H') D σ H :=
  h H (Ex.refl H) _ fun p H1 n1 e1 h1 => ⟨by show 1 ≤ 1000; decide, refused h1 (k.ex e1)⟩
/-- raise Refused(a standing list) -/
theorem s_raiseV {σ : L2.St} {H : Hp} {te : TE} {l : List Int} {E : XK} {la : Addr} {D : Ends} (h : Ev te σ H (.ref la)) (hl : H la = some (.lst (l.map V.int))) (k : Refuses CR H E l) : (fun (D : Ends) σ H => tMkO CR (spRInit CR) [] (tCons te tNil) σ H fun cls d H' => E cls d H') D σ H :=
  h H (Ex.refl H) _ fun H1 e1 => ⟨by show 1 ≤ 1000; decide, refused (e1 _ _ hl) (k.ex e1)⟩
theorem passX {N : List Str} {q : Str} {sc : Scope} {f : Addr} {cdv : Value} {A : Around} {outer : List Env} {s : Shared} {H : Hp} {E : XK} : Passes (L2.CX P w) (cxOf (L2.CX P w) P w K mg base N q sc f cdv A outer s H E) E := passes_call (takes_of rfl rfl rfl rfl) (fun _ _ _ _ h => h)

/-! ### need -/
def spNeed (CR : Addr) : Sp := fun vs H Q E => ∃ (b : Bool) (la : Addr) (l : List Int), vs = [.bl b, .ref la] ∧ H la = some (.lst (l.map V.int)) ∧ (b = true → ∀ H', Ex H H' → Q .non H') ∧ (b = false → Refuses CR H E l)
theorem scNeed : FnScope ["holds", "answer"] ["holds", "answer"] (defScope (top 33)) := ⟨rfl, rfl, rfl, by decide +kernel, rfl, by decide +kernel, by decide +kernel⟩
theorem d_need (T : Txt K mg CR CS CD CC) : Def P w K mg base (L2.CX P w) 3 "need" ["holds", "answer"] (spNeed CR) :=
  .ofX T.tNeed scNeed (fun _ _ _ _ _ _ us hl => match us, hl with | [_, _], _ => rfl) (fun vs H Q E h => by
    obtain ⟨b, la, l, rfl, _⟩ := h
    rfl) fun f cdv A outer s0 H vs Q E hr h => by
    obtain ⟨b, la, l, rfl, hl, k1, k2⟩ := h
    refine ⟨_, pss_one (ps_if (pt_not (pt_val (pv 0))) (pss_one (ps_raise rfl (takes_of rfl rfl rfl rfl) (pmk_refused (k := 0) T hr (pa_cons (pv 1) pa_nil)))) pss_nil), ?_⟩
    refine s_when (b := !b) (et_not (et_val (ev_var rfl))) (fun hb H1 e1 => ?_) (fun hb H1 e1 => ?_)
    · exact s_raiseV (D := { nx := fun _ H' => Q .non H', rt := Q }) (ev_var rfl) (e1 _ _ hl) ((k2 (by simpa using hb)).ex e1)
    · exact k1 (by simpa using hb) H1 e1
/-- need(.., [..]) ahead of more -/
theorem q_need {σ : L2.St} {H : Hp} {ta te : TE} {b : Bool} {l : List Int} {E : XK} {D : Ends} {tz : TS} (ha : Ev ta σ H (.bl b)) (hl : EvL te σ H (l.map V.int)) (h1 : b = true → ∀ H1, Ex H H1 → tz D σ H1) (h2 : b = false → Refuses CR H E l) :
    tSeq (tDrop (tCall (spNeed CR) [] E (tCons ta (tCons te tNil)))) tz D σ H :=
  ha H (Ex.refl H) _ fun H1 e1 => hl H1 e1 _ fun p H2 n2 e2 hp => ⟨b, p, l, rfl, hp, fun hb H3 e3 => h1 hb H3 ((e1.trans e2).trans e3), fun hb => (h2 hb).ex (e1.trans e2)⟩
/-- .. and as the last one -/
theorem s_need {σ : L2.St} {H : Hp} {ta te : TE} {b : Bool} {l : List Int} {E : XK} {D : Ends} (ha : Ev ta σ H (.bl b)) (hl : EvL te σ H (l.map V.int)) (h1 : b = true → ∀ H1, Ex H H1 → D.nx σ H1) (h2 : b = false → Refuses CR H E l) :
    tDrop (tCall (spNeed CR) [] E (tCons ta (tCons te tNil))) D σ H :=
  ha H (Ex.refl H) _ fun H1 e1 => hl H1 e1 _ fun p H2 n2 e2 hp => ⟨b, p, l, rfl, hp, fun hb H3 e3 => h1 hb H3 ((e1.trans e2).trans e3), fun hb => (h2 hb).ex (e1.trans e2)⟩

/-! ### the desk in the heap -/
def dF (s : Addr) : List (Str × V) := [("store", .ref s)]
theorem dF_store (s : Addr) : (dF s).lookup ("store" : Str) = some (.ref s) := lk_here
theorem dF_no {m : Str} (s : Addr) (h : (m == ("store" : Str)) = false) : (dF s).lookup m = none := (lk_past h).trans rfl
theorem dF_put (s x : Addr) : putF "store" (.ref x) (dF s) = dF x := put_here
/-- for reading -/
def DeskR (CD CS : Addr) (H : Hp) (d : Addr) (m : M) : Prop := ∃ dd s, H d = some (.ins CD dd (dF s)) ∧ StoreAt CS H s m
theorem DeskR.ex {H H' : Hp} {d : Addr} {m : M} (h : DeskR CD CS H d m) (e : Ex H H') : DeskR CD CS H' d m := by
  obtain ⟨dd, s, h1, h2⟩ := h
  exact ⟨dd, s, e _ _ h1, h2.ex e⟩
/-- for changing: all that belongs to the desk lies outside of H0, which stands -/
structure DeskIn (CD CS : Addr) (H0 H : Hp) (d : Addr) (m : M) (dd s dx lt lc : Addr) (ts cs : List (Addr × List Nat)) : Prop where
  same : Ex H0 H
  wf : m.Wf
  hd : H d = some (.ins CD dd (dF s))
  hs : H s = some (.ins CS dx (sF m.wrong lt lc))
  ht : H lt = some (.lst (ts.map fun q => V.ref q.1))
  hc : H lc = some (.lst (cs.map fun q => V.ref q.1))
  et : ts.map (·.2) = m.things
  ec : cs.map (·.2) = m.claims
  rt : ∀ q ∈ ts, H q.1 = some (.lst (nats q.2)) ∧ H0 q.1 = none
  rc : ∀ q ∈ cs, H q.1 = some (.lst (nats q.2)) ∧ H0 q.1 = none
  nd : H0 d = none
  ns : H0 s = none
  nt : H0 lt = none
  nc : H0 lc = none
  ne : lt ≠ lc
def DeskAt (CD CS : Addr) (H0 H : Hp) (d : Addr) (m : M) : Prop := ∃ dd s dx lt lc ts cs, DeskIn CD CS H0 H d m dd s dx lt lc ts cs
section
variable {H0 H H' : Hp} {d : Addr} {m : M}
theorem DeskIn.store {dd s dx lt lc : Addr} {ts cs : List (Addr × List Nat)} (D : DeskIn CD CS H0 H d m dd s dx lt lc ts cs) : StoreAt CS H s m :=
  ⟨D.wf, dx, lt, lc, D.hs, ⟨ts, D.et, D.ht, fun q hq => (D.rt q hq).1⟩, ⟨cs, D.ec, D.hc, fun q hq => (D.rc q hq).1⟩⟩
theorem DeskAt.read (h : DeskAt CD CS H0 H d m) : DeskR CD CS H d m := by
  obtain ⟨dd, s, dx, lt, lc, ts, cs, D⟩ := h
  exact ⟨dd, s, D.hd, D.store⟩
theorem DeskAt.ex (h : DeskAt CD CS H0 H d m) (e : Ex H H') : DeskAt CD CS H0 H' d m := by
  obtain ⟨dd, s, dx, lt, lc, ts, cs, D⟩ := h
  exact ⟨dd, s, dx, lt, lc, ts, cs, D.same.trans e, D.wf, e _ _ D.hd, e _ _ D.hs, e _ _ D.ht, e _ _ D.hc, D.et, D.ec, fun q hq => ⟨e _ _ (D.rt q hq).1, (D.rt q hq).2⟩, fun q hq => ⟨e _ _ (D.rc q hq).1, (D.rc q hq).2⟩, D.nd, D.ns, D.nt, D.nc, D.ne⟩
theorem DeskAt.same (h : DeskAt CD CS H0 H d m) : Ex H0 H := by
  obtain ⟨dd, s, dx, lt, lc, ts, cs, D⟩ := h
  exact D.same
/-- another frame: what belongs to the desk is not in it -/
theorem DeskAt.frame {H1 H2 : Hp} (h : DeskAt CD CS H0 H d m) (e : Ex H1 H2) (k : ∀ b, (H b).isSome = true → H0 b = none → H1 b = none) (k2 : ∀ b o, H0 b = none → H b = some o → H2 b = some o) : DeskAt CD CS H1 H2 d m := by
  obtain ⟨dd, s, dx, lt, lc, ts, cs, D⟩ := h
  have f : ∀ {b : Addr} {o : HO}, H b = some o → H0 b = none → H1 b = none := fun hb h0 => k _ (by rw [hb]; rfl) h0
  exact ⟨dd, s, dx, lt, lc, ts, cs, e, D.wf, k2 _ _ D.nd D.hd, k2 _ _ D.ns D.hs, k2 _ _ D.nt D.ht, k2 _ _ D.nc D.hc, D.et, D.ec, fun q hq => ⟨k2 _ _ (D.rt q hq).2 (D.rt q hq).1, f (D.rt q hq).1 (D.rt q hq).2⟩, fun q hq => ⟨k2 _ _ (D.rc q hq).2 (D.rc q hq).1, f (D.rc q hq).1 (D.rc q hq).2⟩,
    f D.hd D.nd, f D.hs D.ns, f D.ht D.nt, f D.hc D.nc, D.ne⟩
/-- the frame gets a new object -/
theorem DeskAt.add {b : Addr} {o : HO} (h : DeskAt CD CS H0 H d m) (n : H b = none) (e : Ex H H') (hb : H' b = some o) : DeskAt CD CS (upd H0 b o) H' d m :=
  h.frame (fun c u hc => by
    by_cases z : c = b
    · rw [z, upd_same] at hc
      rw [z, hb]
      exact hc
    · rw [upd_ne z] at hc
      exact e _ _ (h.same _ _ hc)) (fun c hc h0 => by
    by_cases z : c = b
    · rw [z, n] at hc
      cases hc
    · rw [upd_ne z]
      exact h0) (fun c u _ hc => e _ _ hc)
/-- an object of the frame changes -/
theorem DeskAt.put {b : Addr} {o u : HO} (h : DeskAt CD CS (upd H0 b o) H d m) : DeskAt CD CS (upd H0 b u) (upd H b u) d m :=
  h.frame (fun c v hc => by
    by_cases z : c = b
    · rw [z, upd_same] at hc ⊢
      exact hc
    · rw [upd_ne z] at hc ⊢
      exact h.same _ _ (by rw [upd_ne z]; exact hc)) (fun c _ h0 => by
    by_cases z : c = b
    · rw [z, upd_same] at h0
      cases h0
    · rw [upd_ne z] at h0 ⊢
      exact h0) (fun c v h0 hc => by
    by_cases z : c = b
    · rw [z, upd_same] at h0
      cases h0
    · rw [upd_ne z]
      exact hc)
/-- a smaller frame -/
theorem DeskAt.sub {H1 : Hp} (h : DeskAt CD CS H0 H d m) (e : Ex H1 H0) : DeskAt CD CS H1 H d m := h.frame (e.trans h.same) (fun b _ h0 => fresh_back e h0) (fun b o _ hb => hb)
end

/-! ### a store is made -/
structure NewStore (CS : Addr) (H H' : Hp) (x : Addr) (wr : Nat) (dx lt lc : Addr) : Prop where
  nx : H x = none
  ex : Ex H H'
  hs : H' x = some (.ins CS dx (sF wr lt lc))
  ht : H' lt = some (.lst [])
  hc : H' lc = some (.lst [])
  nt : H lt = none
  nc : H lc = none
  ne : lt ≠ lc
theorem mk_store (T : Txt K mg CR CS CD CC) : Mak P w K mg base 1 CS "Store" ["self", "wrong"] (spSInit CS) := .of T.mS T.kS T.gS (m_s_init T)
theorem e_store {σ : L2.St} {H : Hp} {ta : TA} {wr : Nat} {Q : VK} (ha : EvA ta σ H [vN wr]) (k : ∀ x dx lt lc H', NewStore CS H H' x wr dx lt lc → Q (.ref x) H') : tMake CS (spSInit CS) [] E0 ta σ H Q :=
  ha H (Ex.refl H) _ fun H1 e1 x dx nx ndx hne => ⟨x, dx, wr, rfl, upd_same, fun H' lt lc n1 n2 ne keep hs ht hc => ⟨rfl, k x dx lt lc H' (by
    have old : ∀ b o, H1 b = some o → H' b = some o := fun b o hb => keep b o (ne_of_none hb nx) (by
      rw [upd_ne (ne_of_none hb nx), upd_ne (ne_of_none hb ndx)]
      exact hb)
    have fr : ∀ {l : Addr}, (upd (upd H1 dx (.own x)) x (.ins CS dx [])) l = none → H1 l = none := fun {l} hl => by
      have z1 : l ≠ x := fun z => by
        rw [z, upd_same] at hl
        cases hl
      rw [upd_ne z1] at hl
      have z2 : l ≠ dx := fun z => by
        rw [z, upd_same] at hl
        cases hl
      rw [upd_ne z2] at hl
      exact hl
    exact ⟨fresh_back e1 nx, e1.trans old, hs, ht, hc, fresh_back e1 (fr n1), fresh_back e1 (fr n2), ne⟩)⟩⟩

theorem q_fld {σ : L2.St} {H : Hp} {ta tv : TE} {f : Str} {D : Ends} {tz : TS} (h : tv σ H fun y H1 => ta σ H1 fun x H2 => ∃ a C dx fs, x = .ref a ∧ H2 a = some (.ins C dx fs) ∧ Cls K C ∧ NoAttr K C f ∧ fs.length < 1000 ∧ tz D σ (upd H2 a (.ins C dx (putF f y fs)))) : tSeq (sFld K ta tv f) tz D σ H := h
/-! ### Desk.__init__ -/
def spDInit (CD CS : Addr) : Sp := fun vs H Q _ => ∃ (H0 : Hp) (d dd : Addr), vs = [.ref d] ∧ Ex H0 H ∧ H0 d = none ∧ H d = some (.ins CD dd []) ∧ ∀ H', DeskAt CD CS H0 H' d (M.fresh 0) → Q .non H'
theorem desk_of {H0 H H' : Hp} {d dd x dx lt lc : Addr} {fs : List (Str × V)} {w0 : Nat} (e : Ex H0 H) (nd : H0 d = none) (hd : H d = some (.ins CD dd fs)) (hp : putF "store" (.ref x) fs = dF x) (S : NewStore CS H H' x w0 dx lt lc) : DeskAt CD CS H0 (upd H' d (.ins CD dd (putF "store" (.ref x) fs))) d (M.fresh w0) := by
  have n1 : x ≠ d := (ne_of_none hd S.nx).symm
  have n2 : lt ≠ d := (ne_of_none hd S.nt).symm
  have n3 : lc ≠ d := (ne_of_none hd S.nc).symm
  refine ⟨dd, x, dx, lt, lc, [], [], fun b o hb => ?_, wf_fresh w0, by rw [upd_same, hp], by rw [upd_ne n1]; exact S.hs, by rw [upd_ne n2]; exact S.ht, by rw [upd_ne n3]; exact S.hc, rfl, rfl, (fun q hq => by cases hq), (fun q hq => by cases hq), nd, fresh_back e S.nx, fresh_back e S.nt, fresh_back e S.nc, S.ne⟩
  rw [upd_ne (ne_of_none hb nd)]
  exact S.ex _ _ (e _ _ hb)
theorem scDInit : FnScope ["self"] ["self"] (defScope (inClass (top 40) 0)) := ⟨rfl, rfl, rfl, by decide +kernel, rfl, by decide +kernel, by decide +kernel⟩
theorem m_d_init (T : Txt K mg CR CS CD CC) : Met P w K mg base CX0 3 CD "__init__" ["self"] (spDInit CD CS) :=
  .of T.dInit scDInit (fun _ _ _ _ _ _ us hl => match us, hl with | [_], _ => rfl) (fun vs H Q E h => by
    obtain ⟨H0, d, dd, rfl, _⟩ := h
    rfl) fun f cdv A outer s0 H vs Q E hr h => by
    obtain ⟨H0, d, dd, rfl, e0, nd, hd, k⟩ := h
    refine ⟨_, pss_one (ps_fld (pv 0) (pe_mak (mk_store T) hr (pa_cons pe_int pa_nil)) rfl), ?_⟩
    refine e_store (wr := 0) (ea_cons ev_c ea_nil) fun x dx lt lc H' S => ?_
    refine ⟨_, rfl, d, CD, dd, [], rfl, S.ex _ _ hd, T.cD, T.nDs, (by show 0 < 1000; decide), ?_⟩
    exact k _ (desk_of e0 nd hd rfl S)

/-! ### begins -/
/-- what a deed leads to -/
def Does (CR CD CS : Addr) (H0 : Hp) (d : Addr) (x : Out) (H : Hp) (Q : VK) (E : XK) : Prop :=
  (x.bad = false → ∀ (H' : Hp) (p : Addr), DeskAt CD CS H0 H' d x.m → H' p = some (.lst (x.l.map V.int)) → Q (.ref p) H') ∧
  (x.bad = true → ∀ (H' : Hp) (e la : Addr), DeskAt CD CS H0 H' d x.m → H' e = some (.xd [("answer", .ref la)]) → H' la = some (.lst (x.l.map V.int)) → E (.ref CR) (some e) H')
theorem Does.refuses {H0 H : Hp} {d : Addr} {m : M} {l : List Int} {Q : VK} {E : XK} (h : Does CR CD CS H0 d (no m l) H Q E) (D : DeskAt CD CS H0 H d m) : Refuses CR H E l := fun e la H' ex h1 h2 => h.2 rfl H' e la (D.ex ex) h1 h2
def spBegins (CR CD CS : Addr) : Sp := fun vs H Q E => ∃ (H0 : Hp) (d : Addr) (m : M) (wr : Nat), vs = [.ref d, vN wr] ∧ DeskAt CD CS H0 H d m ∧ Does CR CD CS H0 d (m.begins wr) H Q E
theorem scBegins : FnScope ["self", "wrong"] ["self", "wrong"] (defScope (inClass (top 40) 1)) := ⟨rfl, rfl, rfl, by decide +kernel, rfl, by decide +kernel, by decide +kernel⟩
theorem m_begins (T : Txt K mg CR CS CD CC) : Met P w K mg base (L2.CX P w) 4 CD "begins" ["self", "wrong"] (spBegins CR CD CS) :=
  .ofX T.dBegins scBegins (fun _ _ _ _ _ _ us hl => match us, hl with | [_, _], _ => rfl) (fun vs H Q E h => by
    obtain ⟨H0, d, m, wr, rfl, _⟩ := h
    rfl) fun f cdv A outer s0 H vs Q E hr h => by
    obtain ⟨H0, d, m, wr, rfl, D, k⟩ := h
    have hr2 : Room 2 _ := hr.mono (by decide)
    refine ⟨_, pss_cons (ps_expr (pe_defX (d_need T) hr passX (pa_cons (pe_cmpR op_le (pv 1) (pe_k T.kMostWrong) (nomark _)) (pa_cons (pe_lst (pa_cons (pe_k T.kTooGreat) pa_nil)) pa_nil))))
      (pss_cons (ps_fld (pv 0) (pe_mak (mk_store T) hr2 (pa_cons (pv 1) pa_nil)) rfl) (pss_one (ps_ret (pe_lst (pa_cons pe_int pa_nil))))), ?_⟩
    refine q_need (b := decide (wr ≤ 4)) (l := [-1]) (ev_op (ev_var rfl) ev_c (rv_le (b := 4))) (el_lst (ea_cons ev_c ea_nil) (by show 1 ≤ 100000; decide)) (fun hb H1 e1 => ?_) (fun hb => ?_)
    · have hw : m.begins wr = ⟨M.fresh wr, false, [0]⟩ := if_pos (of_decide_eq_true hb)
      rw [hw] at k
      have D1 := D.ex e1
      obtain ⟨dd, s, dx0, lt0, lc0, ts, cs, DI⟩ := id D1
      refine q_fld (e_store (wr := wr) (ea_cons (ev_var rfl) ea_nil) fun x dx lt lc H' S => ?_)
      refine ⟨_, rfl, d, CD, dd, _, rfl, S.ex _ _ DI.hd, T.cD, T.nDs, (by show 1 < 1000; decide), ?_⟩
      have D2 := desk_of DI.same DI.nd DI.hd (dF_put s x) S
      exact s_retL (el_lst (ea_cons ev_c ea_nil) (by show 1 ≤ 100000; decide)) fun p H2 n2 e2 h2 => k.1 rfl H2 p (D2.ex e2) h2
    · have hw : m.begins wr = no m [-1] := if_neg (of_decide_eq_false hb)
      rw [hw] at k
      exact k.refuses D

/-! ### thing, claim -/
theorem DeskIn.thing {H0 H : Hp} {d dd s dx lt lc p : Addr} {m : M} {ts cs : List (Addr × List Nat)} {f : List Nat} (D : DeskIn CD CS H0 H d m dd s dx lt lc ts cs) (hp : H p = some (.lst (nats f))) (n0 : H0 p = none) (hf : f.length = 4) (h5 : m.nt < 5) :
    DeskIn CD CS H0 (upd H lt (.lst ((ts.map fun q => V.ref q.1) ++ [.ref p]))) d { m with things := m.things ++ [f] } dd s dx lt lc (ts ++ [(p, f)]) cs := by
  have fne : ∀ {r : List Nat}, r.length = 4 → r ≠ [] := fun h z => by
    rw [z] at h
    cases h
  have n1 : d ≠ lt := ne_of D.hd D.ht (fun z => by cases z)
  have n2 : s ≠ lt := ne_of D.hs D.ht (fun z => by cases z)
  have n3 : p ≠ lt := Ne.symm (ne_of D.ht hp (refs_ne_nats (fne hf)))
  have tl : ∀ q ∈ ts, q.2.length = 4 := fun q hq => D.wf.t4 _ (by rw [← D.et]; exact List.mem_map_of_mem hq)
  have cl : ∀ q ∈ cs, q.2.length = 4 := fun q hq => D.wf.c4 _ (by rw [← D.ec]; exact List.mem_map_of_mem hq)
  refine { same := D.same.mut D.nt, wf := ⟨?_, D.wf.c5, fun g hg => ?_, D.wf.c4⟩, hd := by rw [upd_ne n1]; exact D.hd, hs := by rw [upd_ne n2]; exact D.hs, ht := by rw [upd_same, List.map_append]; rfl, hc := by rw [upd_ne D.ne.symm]; exact D.hc, et := by rw [List.map_append, D.et]; rfl, ec := D.ec, rt := fun q hq => ?_, rc := fun q hq => ⟨?_, (D.rc q hq).2⟩, nd := D.nd, ns := D.ns, nt := D.nt, nc := D.nc, ne := D.ne }
  · show (m.things ++ [f]).length ≤ 5
    rw [List.length_append, List.length_singleton]
    exact h5
  · rcases List.mem_append.mp hg with z | z
    · exact D.wf.t4 g z
    · rw [List.mem_singleton.mp z]
      exact hf
  · rcases List.mem_append.mp hq with z | z
    · refine ⟨?_, (D.rt q z).2⟩
      rw [upd_ne (Ne.symm (ne_of D.ht (D.rt q z).1 (refs_ne_nats (fne (tl q z)))))]
      exact (D.rt q z).1
    · rw [List.mem_singleton.mp z]
      refine ⟨?_, n0⟩
      rw [upd_ne n3]
      exact hp
  · rw [upd_ne (Ne.symm (ne_of D.ht (D.rc q hq).1 (refs_ne_nats (fne (cl q hq)))))]
    exact (D.rc q hq).1
theorem DeskIn.claim {H0 H : Hp} {d dd s dx lt lc p : Addr} {m : M} {ts cs : List (Addr × List Nat)} {f : List Nat} (D : DeskIn CD CS H0 H d m dd s dx lt lc ts cs) (hp : H p = some (.lst (nats f))) (n0 : H0 p = none) (hf : f.length = 4) (h5 : m.nc < 5) :
    DeskIn CD CS H0 (upd H lc (.lst ((cs.map fun q => V.ref q.1) ++ [.ref p]))) d { m with claims := m.claims ++ [f] } dd s dx lt lc ts (cs ++ [(p, f)]) := by
  have fne : ∀ {r : List Nat}, r.length = 4 → r ≠ [] := fun h z => by
    rw [z] at h
    cases h
  have n1 : d ≠ lc := ne_of D.hd D.hc (fun z => by cases z)
  have n2 : s ≠ lc := ne_of D.hs D.hc (fun z => by cases z)
  have n3 : p ≠ lc := Ne.symm (ne_of D.hc hp (refs_ne_nats (fne hf)))
  have tl : ∀ q ∈ ts, q.2.length = 4 := fun q hq => D.wf.t4 _ (by rw [← D.et]; exact List.mem_map_of_mem hq)
  have cl : ∀ q ∈ cs, q.2.length = 4 := fun q hq => D.wf.c4 _ (by rw [← D.ec]; exact List.mem_map_of_mem hq)
  refine { same := D.same.mut D.nc, wf := ⟨D.wf.t5, ?_, D.wf.t4, fun g hg => ?_⟩, hd := by rw [upd_ne n1]; exact D.hd, hs := by rw [upd_ne n2]; exact D.hs, ht := by rw [upd_ne D.ne]; exact D.ht, hc := by rw [upd_same, List.map_append]; rfl, et := D.et, ec := by rw [List.map_append, D.ec]; rfl, rt := fun q hq => ⟨?_, (D.rt q hq).2⟩, rc := fun q hq => ?_, nd := D.nd, ns := D.ns, nt := D.nt, nc := D.nc, ne := D.ne }
  · show (m.claims ++ [f]).length ≤ 5
    rw [List.length_append, List.length_singleton]
    exact h5
  · rcases List.mem_append.mp hg with z | z
    · exact D.wf.c4 g z
    · rw [List.mem_singleton.mp z]
      exact hf
  · rw [upd_ne (Ne.symm (ne_of D.hc (D.rt q hq).1 (refs_ne_nats (fne (tl q hq)))))]
    exact (D.rt q hq).1
  · rcases List.mem_append.mp hq with z | z
    · refine ⟨?_, (D.rc q z).2⟩
      rw [upd_ne (Ne.symm (ne_of D.hc (D.rc q z).1 (refs_ne_nats (fne (cl q z)))))]
      exact (D.rc q z).1
    · rw [List.mem_singleton.mp z]
      refine ⟨?_, n0⟩
      rw [upd_ne n3]
      exact hp
/-- self.store -/
theorem ev_store {σ : L2.St} {H : Hp} {ta : TE} {d dd s : Addr} (T : Txt K mg CR CS CD CC) (ha : Ev ta σ H (.ref d)) (hd : H d = some (.ins CD dd (dF s))) : Ev (tFld K ta "store") σ H (.ref s) := ev_fld ha hd T.cD T.nDs (dF_store s)
def spThing (CR CD CS : Addr) (op : M → List Nat → Out) : Sp := fun vs H Q E => ∃ (H0 : Hp) (d p : Addr) (m : M) (f : List Nat), vs = [.ref d, .ref p] ∧ DeskAt CD CS H0 H d m ∧ H p = some (.lst (nats f)) ∧ f.length = 4 ∧ Does CR CD CS H0 d (op m f) H Q E
theorem rv_ltI {H : Hp} {a : Nat} : RV (rI0 fun i j => .bl (decide (i < j))) (vN a) (V.int 5) H (.bl (decide (a < 5))) := rv_lt (b := 5)
theorem rv_pred {H : Hp} {n : Nat} : RV (rI0 fun i j => .int (i - j)) (vN (n + 1)) (V.int 1) H (vN n) := by
  have e : V.int (((n + 1 : Nat) : Int) - 1) = vN n := congrArg V.int (by omega)
  rw [← e]
  exact rv_I0 (g := fun i j => .int (i - j))
theorem scThing : FnScope ["self", "features"] ["self", "features"] (defScope (inClass (top 40) 2)) := ⟨rfl, rfl, rfl, by decide +kernel, rfl, by decide +kernel, by decide +kernel⟩
theorem m_thing (T : Txt K mg CR CS CD CC) : Met P w K mg base (L2.CX P w) 4 CD "thing" ["self", "features"] (spThing CR CD CS M.thing) :=
  .ofX T.dThing scThing (fun _ _ _ _ _ _ us hl => match us, hl with | [_, _], _ => rfl) (fun vs H Q E h => by
    obtain ⟨H0, d, p, m, f, rfl, _⟩ := h
    rfl) fun f' cdv A outer s0 H vs Q E hr h => by
    obtain ⟨H0, d, p, m, f, rfl, D, hp, hf, k⟩ := h
    have hr1 : Room 1 _ := hr.mono (by decide)
    refine ⟨_, pss_cons (ps_expr (pe_defX (d_need T) hr passX (pa_cons (pe_def (d_is_thing T) hr1 (pa_cons (pv 1) pa_nil)) (pa_cons (pe_lst (pa_cons (pe_k T.kTooGreat) pa_nil)) pa_nil))))
      (pss_cons (ps_expr (pe_defX (d_need T) hr passX (pa_cons (pe_cmpR op_lt (pe_met0 (pe_fld (pv 0) rfl) T.cS (m_many_things T) hr1) (pe_k T.kMostThings) (nomark _)) (pa_cons (pe_lst (pa_cons (pe_k T.kTooMany) pa_nil)) pa_nil))))
      (pss_cons (ps_expr (pe_bm PySem.F.plainAttrs_list PySem.F.slot_list_append PySem.F.type_list_append mt_append (pe_fld (pe_fld (pv 0) rfl) rfl) (pa_cons (pe_callTy call_list_of (by rfl) T.bList (by decide +kernel) (pa_cons (pv 1) pa_nil)) pa_nil)))
      (pss_one (ps_ret (pe_lst (pa_cons (pe_op op_sub (pe_met0 (pe_fld (pv 0) rfl) T.cS (m_many_things T) hr1) pe_int) pa_nil)))))), ?_⟩
    refine q_need (b := f.all fun v => decide (v ≤ 9)) (l := [-1]) (ev_call (ea_cons (ev_var rfl) ea_nil) (spV_of fun H1 e1 => ⟨p, f, rfl, e1 _ _ hp, by omega, rfl⟩)) (el_lst (ea_cons ev_c ea_nil) (by show 1 ≤ 100000; decide)) (fun hb H1 e1 => ?_) (fun hb => ?_)
    · have D1 := D.ex e1
      obtain ⟨dd, s, dx, lt, lc, ts, cs, DI⟩ := id D1
      refine q_need (b := decide (m.nt < 5)) (l := [-5]) (ev_op (ev_nt (ev_store T (ev_var rfl) DI.hd) DI.store) ev_c rv_ltI) (el_lst (ea_cons ev_c ea_nil) (by show 1 ≤ 100000; decide)) (fun hb5 H2 e2 => ?_) (fun hb5 => ?_)
      · have h5 := of_decide_eq_true hb5
        have hw : m.thing f = ⟨{ m with things := m.things ++ [f] }, false, [(m.nt : Int)]⟩ := (if_pos hb).trans (if_pos h5)
        rw [hw] at k
        have tlen : ts.length = m.things.length := by rw [← DI.et, List.length_map]
        refine q_appL (xs := ts.map fun q => V.ref q.1) (ys := nats f) (e2 _ _ DI.ht) (ev_fld (ev_store T (ev_var rfl) (e2 _ _ DI.hd)) (e2 _ _ DI.hs) T.cS T.nSt (sF_things _ _ _)) (el_list (ev_var rfl) (SqL.of ((e1.trans e2) _ _ hp))) (by rw [List.length_map, tlen]; have : m.nt = m.things.length := rfl; omega) fun p3 H3 n3 e3 h3 => ?_
        have D3 : DeskIn CD CS H0 H3 d m dd s dx lt lc ts cs := { same := DI.same.trans (e2.trans e3), wf := DI.wf, hd := (e2.trans e3) _ _ DI.hd, hs := (e2.trans e3) _ _ DI.hs, ht := (e2.trans e3) _ _ DI.ht, hc := (e2.trans e3) _ _ DI.hc, et := DI.et, ec := DI.ec, rt := fun q hq => ⟨(e2.trans e3) _ _ (DI.rt q hq).1, (DI.rt q hq).2⟩, rc := fun q hq => ⟨(e2.trans e3) _ _ (DI.rc q hq).1, (DI.rc q hq).2⟩, nd := DI.nd, ns := DI.ns, nt := DI.nt, nc := DI.nc, ne := DI.ne }
        have D4 := D3.thing h3 (fresh_back (DI.same.trans e2) n3) hf h5
        have enl : M.nt { m with things := m.things ++ [f] } = m.nt + 1 := by
          show (m.things ++ [f]).length = m.things.length + 1
          rw [List.length_append, List.length_singleton]
        refine s_retL (xs := [vN m.nt]) (el_lst (ea_cons (ev_op (ev_is (ev_nt (ev_store T (ev_var rfl) D4.hd) D4.store) (by rw [enl])) ev_c rv_pred) ea_nil) (by show 1 ≤ 100000; decide)) fun p5 H5 n5 e5 h5' => ?_
        exact k.1 rfl H5 p5 (DeskAt.ex ⟨dd, s, dx, lt, lc, _, _, D4⟩ e5) h5'
      · have hw : m.thing f = no m [-5] := (if_pos hb).trans (if_neg (of_decide_eq_false hb5))
        rw [hw] at k
        exact k.refuses D |>.ex e1
    · have hw : m.thing f = no m [-1] := if_neg (by rw [hb]; decide)
      rw [hw] at k
      exact k.refuses D
theorem scClaim : FnScope ["self", "features"] ["self", "features"] (defScope (inClass (top 40) 3)) := ⟨rfl, rfl, rfl, by decide +kernel, rfl, by decide +kernel, by decide +kernel⟩
theorem m_claim (T : Txt K mg CR CS CD CC) : Met P w K mg base (L2.CX P w) 4 CD "claim" ["self", "features"] (spThing CR CD CS M.claim) :=
  .ofX T.dClaim scClaim (fun _ _ _ _ _ _ us hl => match us, hl with | [_, _], _ => rfl) (fun vs H Q E h => by
    obtain ⟨H0, d, p, m, f, rfl, _⟩ := h
    rfl) fun f' cdv A outer s0 H vs Q E hr h => by
    obtain ⟨H0, d, p, m, f, rfl, D, hp, hf, k⟩ := h
    have hr1 : Room 1 _ := hr.mono (by decide)
    refine ⟨_, pss_cons (ps_expr (pe_defX (d_need T) hr passX (pa_cons (pe_def (d_is_claim T) hr1 (pa_cons (pv 1) pa_nil)) (pa_cons (pe_lst (pa_cons (pe_k T.kTooGreat) pa_nil)) pa_nil))))
      (pss_cons (ps_expr (pe_defX (d_need T) hr passX (pa_cons (pe_cmpR op_lt (pe_met0 (pe_fld (pv 0) rfl) T.cS (m_many_claims T) hr1) (pe_k T.kMostClaims) (nomark _)) (pa_cons (pe_lst (pa_cons (pe_k T.kTooMany) pa_nil)) pa_nil))))
      (pss_cons (ps_expr (pe_bm PySem.F.plainAttrs_list PySem.F.slot_list_append PySem.F.type_list_append mt_append (pe_fld (pe_fld (pv 0) rfl) rfl) (pa_cons (pe_callTy call_list_of (by rfl) T.bList (by decide +kernel) (pa_cons (pv 1) pa_nil)) pa_nil)))
      (pss_one (ps_ret (pe_lst (pa_cons (pe_op op_sub (pe_met0 (pe_fld (pv 0) rfl) T.cS (m_many_claims T) hr1) pe_int) pa_nil)))))), ?_⟩
    refine q_need (b := f.all fun v => decide (v ≤ 10)) (l := [-1]) (ev_call (ea_cons (ev_var rfl) ea_nil) (spV_of fun H1 e1 => ⟨p, f, rfl, e1 _ _ hp, by omega, rfl⟩)) (el_lst (ea_cons ev_c ea_nil) (by show 1 ≤ 100000; decide)) (fun hb H1 e1 => ?_) (fun hb => ?_)
    · have D1 := D.ex e1
      obtain ⟨dd, s, dx, lt, lc, ts, cs, DI⟩ := id D1
      refine q_need (b := decide (m.nc < 5)) (l := [-5]) (ev_op (ev_nc (ev_store T (ev_var rfl) DI.hd) DI.store) ev_c rv_ltI) (el_lst (ea_cons ev_c ea_nil) (by show 1 ≤ 100000; decide)) (fun hb5 H2 e2 => ?_) (fun hb5 => ?_)
      · have h5 := of_decide_eq_true hb5
        have hw : m.claim f = ⟨{ m with claims := m.claims ++ [f] }, false, [(m.nc : Int)]⟩ := (if_pos hb).trans (if_pos h5)
        rw [hw] at k
        have clen : cs.length = m.claims.length := by rw [← DI.ec, List.length_map]
        refine q_appL (xs := cs.map fun q => V.ref q.1) (ys := nats f) (e2 _ _ DI.hc) (ev_fld (ev_store T (ev_var rfl) (e2 _ _ DI.hd)) (e2 _ _ DI.hs) T.cS T.nSc (sF_claims _ _ _)) (el_list (ev_var rfl) (SqL.of ((e1.trans e2) _ _ hp))) (by rw [List.length_map, clen]; have : m.nc = m.claims.length := rfl; omega) fun p3 H3 n3 e3 h3 => ?_
        have D3 : DeskIn CD CS H0 H3 d m dd s dx lt lc ts cs := { same := DI.same.trans (e2.trans e3), wf := DI.wf, hd := (e2.trans e3) _ _ DI.hd, hs := (e2.trans e3) _ _ DI.hs, ht := (e2.trans e3) _ _ DI.ht, hc := (e2.trans e3) _ _ DI.hc, et := DI.et, ec := DI.ec, rt := fun q hq => ⟨(e2.trans e3) _ _ (DI.rt q hq).1, (DI.rt q hq).2⟩, rc := fun q hq => ⟨(e2.trans e3) _ _ (DI.rc q hq).1, (DI.rc q hq).2⟩, nd := DI.nd, ns := DI.ns, nt := DI.nt, nc := DI.nc, ne := DI.ne }
        have D4 := D3.claim h3 (fresh_back (DI.same.trans e2) n3) hf h5
        have enl : M.nc { m with claims := m.claims ++ [f] } = m.nc + 1 := by
          show (m.claims ++ [f]).length = m.claims.length + 1
          rw [List.length_append, List.length_singleton]
        refine s_retL (xs := [vN m.nc]) (el_lst (ea_cons (ev_op (ev_is (ev_nc (ev_store T (ev_var rfl) D4.hd) D4.store) (by rw [enl])) ev_c rv_pred) ea_nil) (by show 1 ≤ 100000; decide)) fun p5 H5 n5 e5 h5' => ?_
        exact k.1 rfl H5 p5 (DeskAt.ex ⟨dd, s, dx, lt, lc, _, _, D4⟩ e5) h5'
      · have hw : m.claim f = no m [-5] := (if_pos hb).trans (if_neg (of_decide_eq_false hb5))
        rw [hw] at k
        exact k.refuses D |>.ex e1
    · have hw : m.claim f = no m [-1] := if_neg (by rw [hb]; decide)
      rw [hw] at k
      exact k.refuses D
end
end My

/-! Part 9: the desk's deeds that read. -/
namespace My
open PySem PySem.Spec PyProof.Rows L2 Evl
section
variable {P : Program} {w : World} {K : PySem.W.Frag} {mg : Str → Option Value} {base : Heap} {CR CS CD CC : Addr}
def DoesP (CR : Addr) (x : Out) (H : Hp) (Q : VK) (E : XK) : Prop := (x.bad = false → RetL (x.l.map V.int) H Q) ∧ (x.bad = true → Refuses CR H E x.l)
/-! ### need_claim -/
def spNeedClaim (CR CD CS : Addr) : Sp := fun vs H Q E => ∃ (d : Addr) (m : M) (c : Nat), vs = [.ref d, vN c] ∧ DeskR CD CS H d m ∧ (c < m.nc → ∀ H', Ex H H' → Q .non H') ∧ (¬ c < m.nc → Refuses CR H E [-2])
theorem scNeedClaim : FnScope ["self", "c"] ["self", "c"] (defScope (inClass (top 40) 4)) := ⟨rfl, rfl, rfl, by decide +kernel, rfl, by decide +kernel, by decide +kernel⟩
theorem m_need_claim (T : Txt K mg CR CS CD CC) : Met P w K mg base (L2.CX P w) 4 CD "need_claim" ["self", "c"] (spNeedClaim CR CD CS) :=
  .ofX T.dNeedClaim scNeedClaim (fun _ _ _ _ _ _ us hl => match us, hl with | [_, _], _ => rfl) (fun vs H Q E h => by
    obtain ⟨d, m, c, rfl, _⟩ := h
    rfl) fun f cdv A outer s0 H vs Q E hr h => by
    obtain ⟨d, m, c, rfl, ⟨dd, s, hd, S⟩, k1, k2⟩ := h
    have hr1 : Room 1 _ := hr.mono (by decide)
    refine ⟨_, pss_one (ps_expr (pe_defX (d_need T) hr passX (pa_cons (pe_cmpR op_lt (pv 1) (pe_met0 (pe_fld (pv 0) rfl) T.cS (m_many_claims T) hr1) (nomark _)) (pa_cons (pe_lst (pa_cons (pe_k T.kUnknown) pa_nil)) pa_nil)))), ?_⟩
    exact s_need (b := decide (c < m.nc)) (l := [-2]) (ev_op (ev_var rfl) (ev_nc (ev_store T (ev_var rfl) hd) S) rv_lt) (el_lst (ea_cons ev_c ea_nil) (by show 1 ≤ 100000; decide)) (fun hb H1 e1 => k1 (of_decide_eq_true hb) H1 e1) (fun hb => k2 (of_decide_eq_false hb))
theorem q_need_claim {σ : L2.St} {H : Hp} {ta tc : TE} {d : Addr} {m : M} {c : Nat} {E : XK} {D : Ends} {tz : TS} (ha : Ev ta σ H (.ref d)) (hc : Ev tc σ H (vN c)) (R : DeskR CD CS H d m) (h1 : c < m.nc → ∀ H1, Ex H H1 → tz D σ H1) (h2 : ¬ c < m.nc → Refuses CR H E [-2]) :
    tSeq (tDrop (tMeth CD "need_claim" (spNeedClaim CR CD CS) [] E ta (tCons tc tNil))) tz D σ H :=
  ha H (Ex.refl H) _ fun H1 e1 => by
    obtain ⟨dd, s, hd, S⟩ := R.ex e1
    exact ⟨d, dd, _, rfl, hd, dF_no s (by decide +kernel), hc H1 e1 _ fun H2 e2 => ⟨d, m, c, rfl, (R.ex e1).ex e2, fun h H3 e3 => h1 h H3 ((e1.trans e2).trans e3), fun h => (h2 h).ex (e1.trans e2)⟩⟩

/-! ### fits -/
theorem s_extend {σ : L2.St} {H : Hp} {ta te : TE} {l : Addr} {xs ys : List V} {D : Ends} (hl : H l = some (.lst xs)) (ha : Ev ta σ H (.ref l)) (h : EvL te σ H ys) (hz : xs.length + ys.length ≤ sizeLine) (k : ∀ H1, Ex H H1 → D.nx σ (upd H1 l (.lst (xs ++ ys)))) :
    tDrop (tBM K "list" rExtend ta (tCons te tNil)) D σ H := ha H (Ex.refl H) _ fun H1 e1 =>
  ⟨Or.inl ⟨rfl, xs, sq_of (e1 l _ hl)⟩, h H1 e1 _ fun p H2 n2 e2 h2 => ⟨l, p, xs, ys, rfl, rfl, e2 l _ (e1 l _ hl), h2, hz, k H2 (e1.trans e2)⟩⟩
def spFits (CR CD CS : Addr) : Sp := fun vs H Q E => ∃ (d : Addr) (m : M) (c : Nat), vs = [.ref d, vN c] ∧ DeskR CD CS H d m ∧ DoesP CR (m.fitsC c) H Q E
theorem flat2_len (g : Nat → List Nat) (h : ∀ t, (g t).length = 2) : ∀ l : List Nat, (l.flatMap g).length = 2 * l.length
  | [] => rfl
  | a :: r => by
    rw [List.flatMap_cons, List.length_append, h a, flat2_len g h r, List.length_cons]
    omega
theorem scDFits : FnScope ["self", "c", "some", "found", "t"] ["self", "c"] (defScope (inClass (top 40) 5)) := ⟨rfl, rfl, rfl, by decide +kernel, rfl, by decide +kernel, by decide +kernel⟩
theorem m_dfits (T : Txt K mg CR CS CD CC) : Met P w K mg base (L2.CX P w) 6 CD "fits" ["self", "c"] (spFits CR CD CS) :=
  .ofX T.dFits scDFits (fun _ _ _ _ _ _ us hl => match us, hl with | [_, _], _ => rfl) (fun vs H Q E h => by
    obtain ⟨d, m, c, rfl, _⟩ := h
    rfl) fun f cdv A outer s0 H vs Q E hr h => by
    obtain ⟨d, m, c, rfl, R, k1, k2⟩ := h
    have hr3 : Room 3 _ := hr.mono (by decide)
    have hr4 : Room 4 _ := hr.mono (by decide)
    refine ⟨_, pss_cons (ps_expr (pe_metX (pv 0) T.cD (m_need_claim T) hr4 passX (pa_cons (pv 1) pa_nil)))
      (pss_cons (ps_set (i := 2) scDFits.nd rfl (Or.inl rfl) (pe_met (pe_fld (pv 0) rfl) T.cS (m_fitting T) hr (pa_cons (pv 1) pa_nil)))
      (pss_cons (ps_set (i := 3) scDFits.nd rfl (Or.inl rfl) (pe_lst (pa_cons (pe_callB call_len_seq (by rfl) T.bLen PySem.boot_len (pa_cons (pv 2) pa_nil)) pa_nil)))
      (pss_cons (ps_for (passes_of rfl) rfl (pi_list (pv 2)) (pg_name (i := 4) scDFits.nd rfl (Or.inl rfl))
        (pss_one (ps_expr (pe_bm PySem.F.plainAttrs_list PySem.F.slot_list_extend PySem.F.type_list_extend mt_extend (pv 3) (pa_cons (pe_lst (pa_cons (pv 4) (pa_cons (pe_met (pe_fld (pv 0) rfl) T.cS (m_errors T) hr3 (pa_cons (pv 1) (pa_cons (pv 4) pa_nil))) pa_nil))) pa_nil)))))
      (pss_one (ps_ret (pv 3)))))), ?_⟩
    refine q_need_claim (ev_var rfl) (ev_var rfl) R (fun hc H1 e1 => ?_) (fun hc => ?_)
    · have hw : m.fitsC c = ⟨m, false, ((m.fitting c).length : Int) :: zs ((m.fitting c).flatMap fun t => [t, m.errors c t])⟩ := if_pos hc
      rw [hw] at k1
      have k1 := k1 rfl
      obtain ⟨dd, s, hd, S⟩ := R.ex e1
      have hfl : (m.fitting c).length ≤ m.nt := range_len_le _
      have h5 : m.nt ≤ 5 := S.1.t5
      refine q_asgL (el_fitting (ev_store T (ev_var rfl) hd) S (ev_var rfl) hc) fun ps H2 n2 e2 hps => ?_
      refine q_asgL (xs := [vN (m.fitting c).length]) (el_lst (ea_cons (ev_is (ev_len (ev_var rfl) (SqL.of hps)) (by rw [List.length_map])) ea_nil) (by show 1 ≤ 100000; decide)) fun pf H3 n3 e3 hpf => ?_
      refine q_forLn (a := ps) (xs := nats (m.fitting c)) (ev_var rfl) (SqL.of (e3 _ _ hps)) (fun i σ' H' => ∃ v : Option V, σ' = [some (.ref d), some (vN c), some (.ref ps), some (.ref pf), v] ∧ Ex H2 H' ∧ H' pf = some (.lst (nats ((m.fitting c).length :: ((m.fitting c).take i).flatMap fun t => [t, m.errors c t]))))
        (fun H4 e4 => ⟨none, rfl, e3.trans e4, e4 _ _ hpf⟩) (fun i σ' H' _ ⟨_, _, e, _⟩ => SqL.of (e _ _ hps)) ?_ ?_
      · rintro i x σ' H' hi ⟨v, rfl, e, hf⟩
        rw [List.getElem?_map] at hi
        obtain ⟨t, hti, rfl⟩ : ∃ t, (m.fitting c)[i]? = some t ∧ x = vN t := by
          cases z : (m.fitting c)[i]? with
          | none =>
            rw [z] at hi
            cases hi
          | some t =>
            rw [z] at hi
            exact ⟨t, rfl, (Option.some.inj hi).symm⟩
        have ht : t < m.nt := List.mem_range.mp (List.mem_filter.mp (List.mem_of_getElem? hti)).1
        have hil : i < (m.fitting c).length := (List.getElem?_eq_some_iff.mp hti).1
        refine s_extend (ys := nats [t, m.errors c t]) hf (ev_var rfl) (el_lst (ea_cons (ev_var rfl) (ea_cons (ev_errors (ev_store T (ev_var rfl) ((e2.trans e) _ _ hd)) (S.ex (e2.trans e)) (ev_var rfl) (ev_var rfl) hc ht) ea_nil)) (by show 2 ≤ 100000; decide)) ?_ fun H4 e4 => ⟨some (vN t), rfl, (e.trans e4).mut n3, ?_⟩
        · rw [List.length_map, List.length_map, List.length_cons, flat2_len _ (fun _ => rfl), List.length_take]
          refine sz_of ?_
          show _ + 2 ≤ 100000
          omega
        · rw [upd_same, take_more hti, List.flatMap_append, ← List.map_append]
          rfl
      · rintro σ' H' ⟨v, rfl, e, hf⟩
        rw [List.length_map, List.take_length] at hf
        refine s_ret (ev_var rfl) fun H4 e4 => ?_
        refine k1 pf H4 (fresh_back (e1.trans e2) n3) ((e1.trans e2).trans (e.trans e4)) ?_
        rw [e4 _ _ hf, nats_zs]
        rfl
    · have hw : m.fitsC c = no m [-2] := if_neg hc
      rw [hw] at k2
      exact k2 rfl

/-! ### need_plan -/
def spNeedPlan (CR CD CS : Addr) : Sp := fun vs H Q E => ∃ (d q : Addr) (m : M) (p : List Nat), vs = [.ref d, .ref q] ∧ DeskR CD CS H d m ∧ H q = some (.lst (nats p)) ∧ p.length ≤ 1000 ∧ ((m.check p).bad = false → ∀ H', Ex H H' → Q .non H') ∧ ((m.check p).bad = true → Refuses CR H E (m.check p).l)
theorem check_no {m : M} {p : List Nat} (h : m.isPlan p = false) : m.check p = no m [-1] := if_neg (by rw [h]; decide)
theorem check_unfit {m : M} {p : List Nat} {c : Nat} (h : m.isPlan p = true) (h1 : m.unfit p = some c) : m.check p = no m [-6, (c : Int)] := by
  unfold M.check
  rw [if_pos h, h1]
theorem check_twice {m : M} {p : List Nat} {c : Nat} (h : m.isPlan p = true) (h1 : m.unfit p = none) (h2 : m.twice p = some c) : m.check p = no m [-7, (c : Int)] := by
  unfold M.check
  rw [if_pos h, h1, h2]
theorem check_ok {m : M} {p : List Nat} (h : m.isPlan p = true) (h1 : m.unfit p = none) (h2 : m.twice p = none) : m.check p = ⟨m, false, [(m.given p : Int), (m.off p : Int)]⟩ := by
  unfold M.check
  rw [if_pos h, h1, h2]
theorem check_good {m : M} {p : List Nat} (h : (m.check p).bad = false) : m.isPlan p = true ∧ (m.check p).l = [(m.given p : Int), (m.off p : Int)] := by
  cases hp : m.isPlan p with
  | false =>
    rw [check_no hp] at h
    cases h
  | true =>
    cases h1 : m.unfit p with
    | some c =>
      rw [check_unfit hp h1] at h
      cases h
    | none =>
      cases h2 : m.twice p with
      | some c =>
        rw [check_twice hp h1 h2] at h
        cases h
      | none =>
        rw [check_ok hp h1 h2]
        exact ⟨rfl, rfl⟩
theorem et_notN {σ : L2.St} {H : Hp} {te : TE} {o : Option Nat} (h : Ev te σ H (vO o)) : EvT (tB (tNotN te)) σ H o.isSome := fun H1 e Q q => h H1 e _ fun H2 e2 => ⟨o.isSome, by cases o <;> rfl, q H2 e2⟩
theorem scNeedPlan : FnScope ["self", "plan", "c", "t"] ["self", "plan"] (defScope (inClass (top 40) 6)) := ⟨rfl, rfl, rfl, by decide +kernel, rfl, by decide +kernel, by decide +kernel⟩
theorem m_need_plan (T : Txt K mg CR CS CD CC) : Met P w K mg base (L2.CX P w) 6 CD "need_plan" ["self", "plan"] (spNeedPlan CR CD CS) :=
  .ofX T.dNeedPlan scNeedPlan (fun _ _ _ _ _ _ us hl => match us, hl with | [_, _], _ => rfl) (fun vs H Q E h => by
    obtain ⟨d, q, m, p, rfl, _⟩ := h
    rfl) fun f cdv A outer s0 H vs Q E hr h => by
    obtain ⟨d, q, m, p, rfl, ⟨dd, s, hd, S⟩, hq, hl, k1, k2⟩ := h
    have hr1 : Room 1 _ := hr.mono (by decide)
    have hr3 : Room 3 _ := hr.mono (by decide)
    refine ⟨_, pss_cons (ps_expr (pe_defX (d_need T) hr3 passX (pa_cons (pe_cmpR op_eq (pe_callB call_len_seq (by rfl) T.bLen PySem.boot_len (pa_cons (pv 1) pa_nil)) (pe_met0 (pe_fld (pv 0) rfl) T.cS (m_many_claims T) hr1) (nomark _)) (pa_cons (pe_lst (pa_cons (pe_k T.kTooGreat) pa_nil)) pa_nil))))
      (pss_cons (ps_expr (pe_defX (d_need T) hr3 passX (pa_cons (pe_callB (cr_all rfl) (by rfl) T.bAll (by decide +kernel) (pa_cons (pe_lc (own := [("t", 3)]) (g := gName 3) (tt := tYes) (te := tOp (rI0 fun i j => .bl (decide (i ≤ j))) (tVar 3) (tMeth CS "many_things" (spV (rManyThings CS)) [] E0 (tFld K (tVar 0) "store") tNil)) rfl scNeedPlan.nd (pi_list (pv 1))
          (blkOk_by (N := ["self", "plan", "c", "t"]) (sc := defScope (inClass (top 40) 6)) (by decide +kernel)) (fun _ _ _ _ _ => pg_name (i := 3) scNeedPlan.nd rfl (Or.inl rfl)) (fun _ _ _ _ _ => pts_nil)
          (fun _ _ _ _ _ => pe_cmpR op_le (pv 3) (pe_met0 (pe_fld (pv 0) rfl) T.cS (m_many_things T) hr1) (nomark _))) pa_nil)) (pa_cons (pe_lst (pa_cons (pe_k T.kTooGreat) pa_nil)) pa_nil))))
      (pss_cons (ps_set (i := 2) scNeedPlan.nd rfl (Or.inl rfl) (pe_def (d_unfit T) hr (pa_cons (pe_fld (pv 0) rfl) (pa_cons (pv 1) pa_nil))))
      (pss_cons (ps_if (pt_cmp (pc_notN (pv 2))) (pss_one (ps_raise rfl (takes_of rfl rfl rfl rfl) (pmk_refused (k := 1) T hr3 (pa_cons (pe_lst (pa_cons (pe_k T.kUnfit) (pa_cons (pv 2) pa_nil))) pa_nil)))) pss_nil)
      (pss_cons (ps_set (i := 2) scNeedPlan.nd rfl (Or.inl rfl) (pe_def (d_twice T) hr3 (pa_cons (pe_fld (pv 0) rfl) (pa_cons (pv 1) pa_nil))))
      (pss_one (ps_if (pt_cmp (pc_notN (pv 2))) (pss_one (ps_raise rfl (takes_of rfl rfl rfl rfl) (pmk_refused (k := 1) T hr3 (pa_cons (pe_lst (pa_cons (pe_k T.kTwice) (pa_cons (pv 2) pa_nil))) pa_nil)))) pss_nil)))))), ?_⟩
    refine q_need (b := p.length == m.nc) (l := [-1]) (ev_op (ev_is (ev_len (ev_var rfl) (SqL.of hq)) (by rw [List.length_map])) (ev_nc (ev_store T (ev_var rfl) hd) S) rv_eqN) (el_lst (ea_cons ev_c ea_nil) (by show 1 ≤ 100000; decide)) (fun hb H1 e1 => ?_) (fun hb => ?_)
    · have x := el_lcI (K := K) (σ := L2.start ["self", "plan", "c", "t"] [.ref d, .ref q]) (H := H1) (te := tOp (rI0 fun i j => .bl (decide (i ≤ j))) (tVar 3) (tMeth CS "many_things" (spV (rManyThings CS)) [] E0 (tFld K (tVar 0) "store") tNil)) (t := tYes) (tl := tVar 1) (j := 3) (vs := [3]) p vN (fun t => V.bl (decide (t ≤ m.nt))) (fun _ => true) (ev_var rfl) (SqL.of (e1 _ _ hq)) (by omega) (fun _ => rfl)
        (fun y _ H2 _ => et_yes) (fun y hy H2 e2 _ => ev_op (ev_var rfl) (ev_nt (ev_store T (ev_var rfl) ((e1.trans e2) _ _ hd)) (S.ex (e1.trans e2))) rv_le)
      rw [filter_yes] at x
      have x2 : EvL (tLc (iList K (tVar 1)) (gName 3) tYes (tOp (rI0 fun i j => .bl (decide (i ≤ j))) (tVar 3) (tMeth CS "many_things" (spV (rManyThings CS)) [] E0 (tFld K (tVar 0) "store") tNil)) [3]) (L2.start ["self", "plan", "c", "t"] [.ref d, .ref q]) H1 ((p.map fun t => decide (t ≤ m.nt)).map V.bl) := by
        rw [List.map_map]
        exact x
      refine q_need (b := p.all fun t => decide (t ≤ m.nt)) (l := [-1]) (ev_is (ev_all x2) (by rw [all_map])) (el_lst (ea_cons ev_c ea_nil) (by show 1 ≤ 100000; decide)) (fun hb2 H2 e2 => ?_) (fun hb2 => ?_)
      · have hpl : m.isPlan p = true := by
          unfold M.isPlan
          rw [hb, hb2]
          rfl
        obtain ⟨hlen, hle⟩ := of_isPlan hpl
        have S2 := S.ex (e1.trans e2)
        refine q_asg (v := vO (m.unfit p)) (ev_call (ea_cons (ev_store T (ev_var rfl) ((e1.trans e2) _ _ hd)) (ea_cons (ev_var rfl) ea_nil)) (spV_of fun H3 e3 => ⟨s, q, m, p, rfl, S2.ex e3, e3 _ _ ((e1.trans e2) _ _ hq), hlen, hle, rfl⟩)) fun H3 e3 => ?_
        refine q_when (b := (m.unfit p).isSome) (et_notN (ev_var rfl)) (fun hb3 H4 e4 => ?_) (fun hb3 H4 e4 => ?_)
        · cases hu : m.unfit p with
          | none =>
            rw [hu] at hb3
            cases hb3
          | some c =>
            rw [check_unfit hpl hu] at k2
            exact s_raise (l := [-6, (c : Int)]) (D := { nx := fun _ H' => Q .non H', rt := Q }) (el_lst (ea_cons ev_c (ea_cons (ev_var rfl) ea_nil)) (by show 2 ≤ 100000; decide)) ((k2 rfl).ex (((e1.trans e2).trans e3).trans e4))
        · have hu : m.unfit p = none := by
            cases hu : m.unfit p with
            | none => rfl
            | some c =>
              rw [hu] at hb3
              cases hb3
          have e14 := ((e1.trans e2).trans e3).trans e4
          refine q_asg (v := vO (m.twice p)) (ev_call (ea_cons (ev_store T (ev_var rfl) (e14 _ _ hd)) (ea_cons (ev_var rfl) ea_nil)) (spV_of fun H5 e5 => ⟨s, q, m, p, rfl, S.ex (e14.trans e5), e5 _ _ (e14 _ _ hq), hl, rfl⟩)) fun H5 e5 => ?_
          refine s_when (b := (m.twice p).isSome) (et_notN (ev_var rfl)) (fun hb6 H6 e6 => ?_) (fun hb6 H6 e6 => ?_)
          · cases ht : m.twice p with
            | none =>
              rw [ht] at hb6
              cases hb6
            | some c =>
              rw [check_twice hpl hu ht] at k2
              exact s_raise (l := [-7, (c : Int)]) (D := { nx := fun _ H' => Q .non H', rt := Q }) (el_lst (ea_cons ev_c (ea_cons (ev_var rfl) ea_nil)) (by show 2 ≤ 100000; decide)) ((k2 rfl).ex ((e14.trans e5).trans e6))
          · have ht : m.twice p = none := by
              cases ht : m.twice p with
              | none => rfl
              | some c =>
                rw [ht] at hb6
                cases hb6
            exact k1 (by rw [check_ok hpl hu ht]) H6 ((e14.trans e5).trans e6)
      · have hpl : m.isPlan p = false := by
          unfold M.isPlan
          rw [hb2]
          exact Bool.and_false _
        rw [check_no hpl] at k2
        exact (k2 rfl).ex e1
    · have hpl : m.isPlan p = false := by
        unfold M.isPlan
        rw [hb]
        rfl
      rw [check_no hpl] at k2
      exact k2 rfl

/-! ### check -/
def spCheck (CR CD CS : Addr) : Sp := fun vs H Q E => ∃ (d q : Addr) (m : M) (p : List Nat), vs = [.ref d, .ref q] ∧ DeskR CD CS H d m ∧ H q = some (.lst (nats p)) ∧ p.length ≤ 1000 ∧ DoesP CR (m.check p) H Q E
theorem scCheck : FnScope ["self", "plan"] ["self", "plan"] (defScope (inClass (top 40) 7)) := ⟨rfl, rfl, rfl, by decide +kernel, rfl, by decide +kernel, by decide +kernel⟩
theorem m_check (T : Txt K mg CR CS CD CC) : Met P w K mg base (L2.CX P w) 7 CD "check" ["self", "plan"] (spCheck CR CD CS) :=
  .ofX T.dCheck scCheck (fun _ _ _ _ _ _ us hl => match us, hl with | [_, _], _ => rfl) (fun vs H Q E h => by
    obtain ⟨d, q, m, p, rfl, _⟩ := h
    rfl) fun f cdv A outer s0 H vs Q E hr h => by
    obtain ⟨d, q, m, p, rfl, R, hq, hl, k1, k2⟩ := h
    have hr3 : Room 3 _ := hr.mono (by decide)
    have hr4 : Room 4 _ := hr.mono (by decide)
    refine ⟨_, pss_cons (ps_expr (pe_metX (pv 0) T.cD (m_need_plan T) hr passX (pa_cons (pv 1) pa_nil)))
      (pss_one (ps_ret (pe_lst (pa_cons (pe_def (d_given_out T) hr3 (pa_cons (pe_fld (pv 0) rfl) (pa_cons (pv 1) pa_nil))) (pa_cons (pe_def (d_errors_in T) hr4 (pa_cons (pe_fld (pv 0) rfl) (pa_cons (pv 1) pa_nil))) pa_nil))))), ?_⟩
    obtain ⟨dd, s, hd, S⟩ := id R
    refine ⟨_, rfl, d, dd, _, rfl, hd, dF_no s (by decide +kernel), _, rfl, d, q, m, p, rfl, R, hq, hl, fun hb H1 e1 => ?_, fun hb => k2 hb⟩
    obtain ⟨hpl, hll⟩ := check_good hb
    obtain ⟨hlen, hle⟩ := of_isPlan hpl
    have k1 := k1 hb
    rw [hll] at k1
    refine s_retL (xs := [vN (m.given p), vN (m.off p)]) (el_lst (ea_cons (ev_given (ev_store T (ev_var rfl) (e1 _ _ hd)) (ev_var rfl) (S.ex e1) (e1 _ _ hq) hl) (ea_cons (ev_errin (ev_store T (ev_var rfl) (e1 _ _ hd)) (ev_var rfl) (S.ex e1) (e1 _ _ hq) hlen hle) ea_nil)) (by show 2 ≤ 100000; decide)) fun p2 H2 n2 e2 h2 => ?_
    exact k1 p2 H2 (fresh_back e1 n2) (e1.trans e2) h2

/-! ### best, has, why -/
def rDBest (CD CS : Addr) : List V → Hp → List V → Prop := fun vs H xs => ∃ (d : Addr) (m : M), vs = [.ref d] ∧ DeskR CD CS H d m ∧ xs = m.best.l.map V.int
theorem scDBest : FnScope ["self", "some", "first"] ["self"] (defScope (inClass (top 40) 8)) := ⟨rfl, rfl, rfl, by decide +kernel, rfl, by decide +kernel, by decide +kernel⟩
theorem m_dbest (T : Txt K mg CR CS CD CC) : Met P w K mg base CX0 11 CD "best" ["self"] (spL (rDBest CD CS)) :=
  .of T.dBest scDBest (fun _ _ _ _ _ _ us hl => match us, hl with | [_], _ => rfl) (fun vs H Q E h => by
    obtain ⟨_, ⟨d, m, rfl, _⟩, _⟩ := h
    rfl) fun f cdv A outer s0 H vs Q E hr h => by
    obtain ⟨_, ⟨d, m, rfl, ⟨dd, s, hd, S⟩, rfl⟩, k⟩ := h
    have hr3 : Room 3 _ := hr.mono (by decide)
    have hr4 : Room 4 _ := hr.mono (by decide)
    refine ⟨_, pss_cons (ps_set (i := 1) scDBest.nd rfl (Or.inl rfl) (pe_def (d_best T) hr (pa_cons (pe_fld (pv 0) rfl) pa_nil)))
      (pss_cons (ps_set (i := 2) scDBest.nd rfl (Or.inl rfl) (pe_ix ix_list (pv 1) pe_int (fun _ _ => rfl)))
      (pss_one (ps_ret (pe_op op_cat (pe_lst (pa_cons (pe_def (d_given_out T) hr3 (pa_cons (pe_fld (pv 0) rfl) (pa_cons (pv 2) pa_nil))) (pa_cons (pe_def (d_errors_in T) hr4 (pa_cons (pe_fld (pv 0) rfl) (pa_cons (pv 2) pa_nil))) (pa_cons (pe_callB call_len_seq (by rfl) T.bLen PySem.boot_len (pa_cons (pv 1) pa_nil)) pa_nil)))) (pv 2))))), ?_⟩
    have hbn := bests_ne m
    have hpos : 0 < m.bests.length := List.length_pos_iff.mpr hbn
    have hin := fulls_in (bests_in (headD_mem (d := []) hbn)).1
    have hg0 : m.bests.getD 0 [] = m.bests.headD [] := by
      cases e : m.bests with
      | nil => exact absurd e hbn
      | cons a r => rfl
    have h5 : m.nc ≤ 5 := S.1.c5
    refine q_asgP (ep_call (rows := m.bests) (ea_cons (ev_store T (ev_var rfl) hd) ea_nil) fun H1 e1 => ⟨s, m, rfl, S.ex e1, rfl⟩) fun p H1 n1 e1 R => ?_
    obtain ⟨a, xs, hx, hxa, ha⟩ := R.get hpos
    rw [hg0] at ha
    obtain ⟨xs', hx', hxl⟩ := R.len
    refine q_asg (v := .ref a) (ev_op (ev_var rfl) ev_c (rv_ixL (SqL.of hx) (atI_nat (j := 0) hxa))) fun H2 e2 => ?_
    have e12 := e1.trans e2
    refine s_retL (xs := [vN (m.given (m.bests.headD [])), vN (m.off (m.bests.headD [])), vN m.bests.length] ++ nats (m.bests.headD [])) (el_catR (el_lst (ea_cons (ev_given (ev_store T (ev_var rfl) (e12 _ _ hd)) (ev_var rfl) (S.ex e12) (e2 _ _ ha) (by rw [hin.1]; omega)) (ea_cons (ev_errin (ev_store T (ev_var rfl) (e12 _ _ hd)) (ev_var rfl) (S.ex e12) (e2 _ _ ha) hin.1 hin.2)
      (ea_cons (ev_is (ev_len (ev_var rfl) (SqL.of (e2 _ _ hx'))) (by rw [hxl])) ea_nil))) (by show 3 ≤ 100000; decide)) (ev_var rfl) (e2 _ _ ha) (sz_of ?_)) fun p3 H3 n3 e3 h3 => ?_
    · rw [List.length_map, hin.1]
      show 3 + _ ≤ 100000
      omega
    · refine k p3 H3 (fresh_back e12 n3) (e12.trans e3) ?_
      rw [h3]
      refine congrArg (fun l => some (HO.lst l)) ?_
      show _ = List.map V.int ([(m.given (m.bests.headD []) : Int), (m.off (m.bests.headD []) : Int), (m.bests.length : Int)] ++ zs (m.bests.headD []))
      rw [List.map_append, ← nats_zs]
      rfl
def spHas (CR CD CS : Addr) : Sp := fun vs H Q E => ∃ (d : Addr) (m : M) (c : Nat), vs = [.ref d, vN c] ∧ DeskR CD CS H d m ∧ DoesP CR (m.hasC c) H Q E
theorem scHas : FnScope ["self", "c", "some"] ["self", "c"] (defScope (inClass (top 40) 9)) := ⟨rfl, rfl, rfl, by decide +kernel, rfl, by decide +kernel, by decide +kernel⟩
theorem m_has (T : Txt K mg CR CS CD CC) : Met P w K mg base (L2.CX P w) 11 CD "has" ["self", "c"] (spHas CR CD CS) :=
  .ofX T.dHas scHas (fun _ _ _ _ _ _ us hl => match us, hl with | [_, _], _ => rfl) (fun vs H Q E h => by
    obtain ⟨d, m, c, rfl, _⟩ := h
    rfl) fun f cdv A outer s0 H vs Q E hr h => by
    obtain ⟨d, m, c, rfl, R, k1, k2⟩ := h
    have hr4 : Room 4 _ := hr.mono (by decide)
    refine ⟨_, pss_cons (ps_expr (pe_metX (pv 0) T.cD (m_need_claim T) hr4 passX (pa_cons (pv 1) pa_nil)))
      (pss_cons (ps_set (i := 2) scHas.nd rfl (Or.inl rfl) (pe_def (d_had T) hr (pa_cons (pe_fld (pv 0) rfl) (pa_cons (pv 1) pa_nil))))
      (pss_one (ps_ret (pe_op op_cat (pe_lst (pa_cons (pe_callB call_len_seq (by rfl) T.bLen PySem.boot_len (pa_cons (pv 2) pa_nil)) pa_nil)) (pv 2))))), ?_⟩
    refine q_need_claim (ev_var rfl) (ev_var rfl) R (fun hc H1 e1 => ?_) (fun hc => ?_)
    · have hw : m.hasC c = ⟨m, false, ((m.has c).length : Int) :: zs (m.has c)⟩ := if_pos hc
      rw [hw] at k1
      have k1 := k1 rfl
      obtain ⟨dd, s, hd, S⟩ := R.ex e1
      have hl : (m.has c).length ≤ m.nt + 1 := range_len_le _
      have h5 : m.nt ≤ 5 := S.1.t5
      refine q_asgL (xs := nats (m.has c)) (el_call (ea_cons (ev_store T (ev_var rfl) hd) (ea_cons (ev_var rfl) ea_nil)) (spL_of fun H2 e2 => ⟨s, m, c, rfl, S.ex e2, hc, rfl⟩)) fun p2 H2 n2 e2 h2 => ?_
      refine s_retL (xs := [vN (m.has c).length] ++ nats (m.has c)) (el_catR (el_lst (ea_cons (ev_is (ev_len (ev_var rfl) (SqL.of h2)) (by rw [List.length_map])) ea_nil) (by show 1 ≤ 100000; decide)) (ev_var rfl) h2 (sz_of ?_)) fun p3 H3 n3 e3 h3 => ?_
      · rw [List.length_map]
        show 1 + _ ≤ 100000
        omega
      · refine k1 p3 H3 (fresh_back (e1.trans e2) n3) ((e1.trans e2).trans e3) ?_
        rw [h3, nats_zs]
        rfl
    · have hw : m.hasC c = no m [-2] := if_neg hc
      rw [hw] at k2
      exact k2 rfl
def rDWhy (CD CS : Addr) : List V → Hp → List V → Prop := fun vs H xs => ∃ (d : Addr) (m : M), vs = [.ref d] ∧ DeskR CD CS H d m ∧ xs = m.why.l.map V.int
theorem scWhy : FnScope ["self", "number"] ["self"] (defScope (inClass (top 40) 10)) := ⟨rfl, rfl, rfl, by decide +kernel, rfl, by decide +kernel, by decide +kernel⟩
theorem m_why (T : Txt K mg CR CS CD CC) : Met P w K mg base CX0 9 CD "why" ["self"] (spL (rDWhy CD CS)) :=
  .of T.dWhy scWhy (fun _ _ _ _ _ _ us hl => match us, hl with | [_], _ => rfl) (fun vs H Q E h => by
    obtain ⟨_, ⟨d, m, rfl, _⟩, _⟩ := h
    rfl) fun f cdv A outer s0 H vs Q E hr h => by
    obtain ⟨_, ⟨d, m, rfl, ⟨dd, s, hd, S⟩, rfl⟩, k⟩ := h
    have hr6 : Room 6 _ := hr.mono (by decide)
    have hr7 : Room 7 _ := hr.mono (by decide)
    refine ⟨_, pss_cons (ps_set (i := 1) scWhy.nd rfl (Or.inl rfl) (pe_def (d_shortest T) hr (pa_cons (pe_fld (pv 0) rfl) pa_nil)))
      (pss_one (ps_ret (pe_op op_cat (pe_lst (pa_cons (pe_def (d_short_by T) hr7 (pa_cons (pe_fld (pv 0) rfl) (pa_cons (pv 1) pa_nil))) (pa_cons (pv 1) pa_nil))) (pe_def (d_things_for T) hr6 (pa_cons (pe_fld (pv 0) rfl) (pa_cons (pv 1) pa_nil)))))), ?_⟩
    have hl : (m.thingsFor m.shortest).length ≤ m.nt := range_len_le _
    have h5 : m.nt ≤ 5 := S.1.t5
    refine q_asg (v := vN m.shortest) (ev_call (ea_cons (ev_store T (ev_var rfl) hd) ea_nil) (spV_of fun H1 e1 => ⟨s, m, rfl, S.ex e1, rfl⟩)) fun H1 e1 => ?_
    refine s_retL (xs := [vN (m.shortBy m.shortest), vN m.shortest] ++ nats (m.thingsFor m.shortest)) (el_catN (el_lst (ea_cons (ev_short_by (ev_store T (ev_var rfl) (e1 _ _ hd)) (ev_var rfl) (S.ex e1)) (ea_cons (ev_var rfl) ea_nil)) (by show 2 ≤ 100000; decide)) (el_things_for (ev_store T (ev_var rfl) (e1 _ _ hd)) (ev_var rfl) (S.ex e1)) (sz_of ?_)) fun p3 H3 n3 e3 h3 => ?_
    · rw [List.length_map]
      show 2 + _ ≤ 100000
      omega
    · refine k p3 H3 (fresh_back e1 n3) (e1.trans e3) ?_
      rw [h3]
      refine congrArg (fun l => some (HO.lst l)) ?_
      show _ = List.map V.int ([(m.shortBy m.shortest : Int), (m.shortest : Int)] ++ zs (m.thingsFor m.shortest))
      rw [List.map_append, ← nats_zs]
      rfl
end
end My

/-! Part 10: the calls. -/
namespace My
open PySem PySem.Spec PyProof.Rows L2 Evl
section
variable {P : Program} {w : World} {K : PySem.W.Frag} {mg : Str → Option Value} {base : Heap} {CR CS CD CC : Addr}
/-! ### Call.__init__ -/
def cF (vw vp vb : V) : List (Str × V) := [("which", vw), ("plain", vp), ("behind", vb)]
theorem cF_which (vw vp vb : V) : (cF vw vp vb).lookup ("which" : Str) = some vw := lk_here
theorem cF_plain (vw vp vb : V) : (cF vw vp vb).lookup ("plain" : Str) = some vp := (lk_past (by decide +kernel)).trans lk_here
theorem cF_behind (vw vp vb : V) : (cF vw vp vb).lookup ("behind" : Str) = some vb := (lk_past (by decide +kernel)).trans ((lk_past (by decide +kernel)).trans lk_here)
theorem cF_put (vw vp vb : V) : putF "behind" vb (putF "plain" vp (putF "which" vw [])) = cF vw vp vb := by
  have e1 : putF "which" vw [] = ([("which", vw)] : List (Str × V)) := rfl
  have e2 : putF "plain" vp ([("which", vw)] : List (Str × V)) = ([("which", vw), ("plain", vp)] : List (Str × V)) := (put_past (by decide +kernel)).trans rfl
  have e3 : putF "behind" vb ([("which", vw), ("plain", vp)] : List (Str × V)) = ([("which", vw), ("plain", vp), ("behind", vb)] : List (Str × V)) := (put_past (by decide +kernel)).trans (congrArg _ ((put_past (by decide +kernel)).trans rfl))
  rw [e1, e2, e3]
  rfl
def spCInit (CC : Addr) : Sp := fun vs H Q _ => ∃ (c dx : Addr) (vw vp vb : V), vs = [.ref c, vw, vp, vb] ∧ H c = some (.ins CC dx []) ∧ ∀ H' : Hp, (∀ b o, b ≠ c → H b = some o → H' b = some o) → H' c = some (.ins CC dx (cF vw vp vb)) → Q .non H'
theorem scCInit : FnScope ["self", "which", "plain", "behind"] ["self", "which", "plain", "behind"] (defScope (inClass (top 49) 0)) := ⟨rfl, rfl, rfl, by decide +kernel, rfl, by decide +kernel, by decide +kernel⟩
theorem m_c_init (T : Txt K mg CR CS CD CC) : Met P w K mg base CX0 1 CC "__init__" ["self", "which", "plain", "behind"] (spCInit CC) :=
  .of T.cInit scCInit (fun _ _ _ _ _ _ us hl => match us, hl with | [_, _, _, _], _ => rfl) (fun vs H Q E h => by
    obtain ⟨c, dx, vw, vp, vb, rfl, _⟩ := h
    rfl) fun f cdv A outer s0 H vs Q E hr h => by
    obtain ⟨c, dx, vw, vp, vb, rfl, hc, k⟩ := h
    refine ⟨_, pss_cons (ps_fld (pv 0) (pv 1) rfl) (pss_cons (ps_fld (pv 0) (pv 2) rfl) (pss_one (ps_fld (pv 0) (pv 3) rfl))), ?_⟩
    have e2 : putF "plain" vp (putF "which" vw []) = ([("which", vw), ("plain", vp)] : List (Str × V)) := (put_past (by decide +kernel)).trans rfl
    refine ⟨_, rfl, _, rfl, c, CC, dx, [], rfl, hc, T.cC, T.nCw, (by show 0 < 1000; decide), ?_⟩
    refine ⟨_, rfl, _, rfl, c, CC, dx, _, rfl, upd_same, T.cC, T.nCp, (by show 1 < 1000; decide), ?_⟩
    refine ⟨_, rfl, _, rfl, c, CC, dx, _, rfl, upd_same, T.cC, T.nCb, (by rw [e2]; show 2 < 1000; decide), ?_⟩
    refine k _ (fun b o hb ho => ?_) ?_
    · rw [upd_ne hb, upd_ne hb, upd_ne hb]
      exact ho
    · rw [upd_same, cF_put]
theorem mk_call (T : Txt K mg CR CS CD CC) : Mak P w K mg base 1 CC "Call" ["self", "which", "plain", "behind"] (spCInit CC) := .of T.mC T.kC T.gC (m_c_init T)

/-! ### call_at -/
theorem rv_add {H : Hp} {a b : Nat} : RV (rI0 fun i j => .int (i + j)) (vN a) (vN b) H (vN (a + b)) := by
  have e : V.int ((a : Int) + (b : Int)) = vN (a + b) := congrArg V.int (by omega)
  rw [← e]
  exact rv_I0 (g := fun i j => .int (i + j))
theorem at_pre {pre r : List Nat} {x : Nat} {j : Nat} (h : r[j]? = some x) : atI (nats (pre ++ r)) ((pre.length + j : Nat) : Int) = some (vN x) := atI_nat (by
  rw [List.getElem?_map, List.getElem?_append_right (Nat.le_add_right _ _), Nat.add_sub_cancel_left, h]
  rfl)
theorem cut_mid {pre mid post : List Nat} : cutV (nats (pre ++ (mid ++ post))) (some ((pre.length : Nat) : Int)) (some ((pre.length + mid.length : Nat) : Int)) = nats mid := by
  unfold cutV
  have hl : (nats (pre ++ (mid ++ post))).length = pre.length + (mid.length + post.length) := by rw [List.length_map, List.length_append, List.length_append]
  rw [HT.sIx_nat, HT.sIx_nat, hl, Nat.min_eq_left (by omega), Nat.min_eq_left (by omega), Nat.add_sub_cancel_left]
  have e : nats (pre ++ (mid ++ post)) = nats pre ++ (nats mid ++ nats post) := by
    show (pre ++ (mid ++ post)).map vN = _
    rw [List.map_append, List.map_append]
  have l1 : pre.length = (nats pre).length := (List.length_map ..).symm
  have l2 : mid.length = (nats mid).length := (List.length_map ..).symm
  rw [e, l1, List.drop_left, l2, List.take_left]
def spCallAt (K : PySem.W.Frag) (CC : Addr) : Sp := fun vs H Q _ => ∃ (a : Addr) (pre post : List Nat) (r : Row), vs = [.ref a, vN pre.length] ∧ SqL K H a (nats (pre ++ (flat r ++ post))) ∧
  ∀ (c dx p : Addr) (H' : Hp), H c = none → Ex H H' → H' c = some (.ins CC dx (cF (vN r.1) (.ref p) (vN (pre.length + (flat r).length)))) → H' p = some (.lst (nats r.2)) → Q (.ref c) H'
theorem scCallAt : FnScope ["calls", "place", "first", "last"] ["calls", "place"] (defScope (top 50)) := ⟨rfl, rfl, rfl, by decide +kernel, rfl, by decide +kernel, by decide +kernel⟩
theorem d_call_at (T : Txt K mg CR CS CD CC) : Def P w K mg base CX0 3 "call_at" ["calls", "place"] (spCallAt K CC) :=
  .of T.tCallAt scCallAt (fun _ _ _ _ _ _ us hl => match us, hl with | [_, _], _ => rfl) (fun vs H Q E h => by
    obtain ⟨a, pre, post, r, rfl, _⟩ := h
    rfl) fun f cdv A outer s0 H vs Q E hr h => by
    obtain ⟨a, pre, post, r, rfl, hS, k⟩ := h
    refine ⟨_, pss_cons (ps_set (i := 2) scCallAt.nd rfl (Or.inl rfl) (pe_op op_add (pv 1) pe_int))
      (pss_cons (ps_set (i := 3) scCallAt.nd rfl (Or.inl rfl) (pe_op op_add (pv 2) (pe_ix ix_list (pv 0) (pe_op op_add (pv 1) pe_int) (fun _ _ => rfl))))
      (pss_one (ps_ret (pe_mak (mk_call T) hr (pa_cons (pe_ix ix_list (pv 0) (pv 1) (fun _ _ => rfl)) (pa_cons (pe_slice sl_list (pv 0) (po_some (pv 2)) (po_some (pv 3))) (pa_cons (pe_op op_add (pv 3) pe_int) pa_nil))))))), ?_⟩
    have i0 : (flat r ++ post)[0]? = some r.1 := rfl
    have i1 : (flat r ++ post)[1]? = some r.2.length := rfl
    have hfl : (flat r).length = r.2.length + 3 := by
      unfold flat
      rw [List.length_cons, List.length_cons, List.length_append, List.length_singleton]
    refine q_asg (v := vN (pre.length + 2)) (ev_op (ev_var rfl) ev_c (rv_add (b := 2))) fun H1 e1 => ?_
    refine q_asg (v := vN (pre.length + 2 + r.2.length)) (ev_op (ev_var rfl) (ev_op (ev_var rfl) (ev_op (ev_var rfl) ev_c (rv_add (b := 1))) (rv_ixL (ex_l e1 hS) (at_pre i1))) rv_add) fun H2 e2 => ?_
    have e12 := e1.trans e2
    -- calls[place]
    refine ev_op (z := vN r.1) (ev_var rfl) (ev_var rfl) (rv_ixL (ex_l e12 hS) (at_pre (j := 0) i0)) H2 (Ex.refl H2) _ fun H3 e3 => ?_
    -- calls[first:last]
    have hsplit : nats (pre ++ (flat r ++ post)) = nats ((pre ++ [r.1, r.2.length]) ++ (r.2 ++ ([0] ++ post))) := by
      refine congrArg nats ?_
      unfold flat
      simp
    have hcut : cutV (nats (pre ++ (flat r ++ post))) (some ((pre.length + 2 : Nat) : Int)) (some ((pre.length + 2 + r.2.length : Nat) : Int)) = nats r.2 := by
      have hl2 : (pre ++ [r.1, r.2.length]).length = pre.length + 2 := by
        rw [List.length_append]
        rfl
      rw [hsplit, ← hl2]
      exact cut_mid
    have hsl := el_sl (K := K) (σ := [some (.ref a), some (vN pre.length), some (vN (pre.length + 2)), some (vN (pre.length + 2 + r.2.length))]) (te := tVar 0) (tl := tPart (tVar 2)) (th := tPart (tVar 3)) (lo := some ((pre.length + 2 : Nat) : Int)) (hi := some ((pre.length + 2 + r.2.length : Nat) : Int)) (H := H3) (ev_var rfl) (eo_some (ev_var rfl)) (eo_some (ev_var rfl)) (ex_l (e12.trans e3) hS)
    rw [hcut] at hsl
    refine hsl H3 (Ex.refl H3) _ fun p H4 n4 e4 h4 => ?_
    -- last + 1
    refine ev_op (z := vN (pre.length + 2 + r.2.length + 1)) (ev_var rfl) ev_c (rv_add (b := 1)) H4 (Ex.refl H4) _ fun H5 e5 c dx nc ndx hne => ?_
    have e05 := ((e12.trans e3).trans e4).trans e5
    refine ⟨c, dx, vN r.1, .ref p, vN (pre.length + 2 + r.2.length + 1), rfl, upd_same, fun H' keep hc => ⟨rfl, ?_⟩⟩
    have old : Ex H5 H' := fun b o hb => keep b o (ne_of_none hb nc) (by
      rw [upd_ne (ne_of_none hb nc), upd_ne (ne_of_none hb ndx)]
      exact hb)
    refine k c dx p H' (fresh_back e05 nc) (e05.trans old) ?_ (old _ _ (e5 _ _ h4))
    rw [hc, hfl]
    have : pre.length + 2 + r.2.length + 1 = pre.length + (r.2.length + 3) := by omega
    rw [this]

/-! ### deed -/
theorem s_retMeth {σ : L2.St} {H : Hp} {ta : TE} {t : TA} {d dx : Addr} {fs : List (Str × V)} {m : Str} {vs : List V} {sp : Sp} {E : XK} {D : Ends} (ha : Ev ta σ H (.ref d)) (hd : H d = some (.ins CD dx fs)) (hl : fs.lookup m = none) (hv : EvA t σ H vs) (hs : ∀ H1, Ex H H1 → sp (.ref d :: (vs ++ [])) H1 D.rt E) :
    tRet (tMeth CD m sp [] E ta t) D σ H := ha H (Ex.refl H) _ fun H1 e1 => ⟨d, dx, fs, rfl, e1 _ _ hd, hl, hv H1 e1 _ fun H2 e2 => hs H2 (e1.trans e2)⟩
theorem fitsC_m (m : M) (c : Nat) : (m.fitsC c).m = m := by
  unfold M.fitsC
  split <;> rfl
theorem hasC_m (m : M) (c : Nat) : (m.hasC c).m = m := by
  unfold M.hasC
  split <;> rfl
theorem check_m (m : M) (p : List Nat) : (m.check p).m = m := by
  unfold M.check
  split
  · split
    · rfl
    · split <;> rfl
  · rfl
theorem doesP {H0 H H1 : Hp} {d : Addr} {m : M} {x : Out} {Q : VK} {E : XK} (hx : x.m = m) (D : DeskAt CD CS H0 H d m) (e : Ex H H1) (k : Does CR CD CS H0 d x H Q E) : DoesP CR x H1 Q E := by
  refine ⟨fun hb p H2 n2 e2 h2 => ?_, fun hb d2 la H2 e2 h1 h2 => ?_⟩
  · refine k.1 hb H2 p ?_ h2
    rw [hx]
    exact D.ex (e.trans e2)
  · refine k.2 hb H2 d2 la ?_ h1 h2
    rw [hx]
    exact D.ex (e.trans e2)
def spDeed (CR CD CS : Addr) : Sp := fun vs H Q E => ∃ (H0 : Hp) (d p : Addr) (m : M) (r : Row), vs = [.ref d, vN r.1, .ref p] ∧ DeskAt CD CS H0 H d m ∧ H p = some (.lst (nats r.2)) ∧ Shape r ∧ r.2.length ≤ 1000 ∧ Does CR CD CS H0 d (m.deed r.1 r.2) H Q E
theorem scDeed : FnScope ["desk", "which", "plain"] ["desk", "which", "plain"] (defScope (top 51)) := ⟨rfl, rfl, rfl, by decide +kernel, rfl, by decide +kernel, by decide +kernel⟩
theorem et_eqN {σ : L2.St} {H : Hp} {te : TE} {a b : Nat} (h : Ev te σ H (vN a)) : EvT (tTest (tOp rEq te (tC (vN b)))) σ H (a == b) := et_test (ev_op h ev_c rv_eqN)
theorem ev_head {σ : L2.St} {H : Hp} {te : TE} {p : Addr} {l : List Nat} (h : Ev te σ H (.ref p)) (hp : H p = some (.lst (nats l))) (hl : l.length = 1) : Ev (tOp (rIxL K) te (tC (.int 0))) σ H (vN (l.headD 0)) := by
  have e : l.getD 0 0 = l.headD 0 := by
    cases l with
    | nil => cases hl
    | cons a r => rfl
  rw [← e]
  exact ev_ixN (i := 0) h hp ev_c (by omega)
theorem d_deed (T : Txt K mg CR CS CD CC) : Def P w K mg base (L2.CX P w) 12 "deed" ["desk", "which", "plain"] (spDeed CR CD CS) :=
  .ofX T.tDeed scDeed (fun _ _ _ _ _ _ us hl => match us, hl with | [_, _, _], _ => rfl) (fun vs H Q E h => by
    obtain ⟨H0, d, p, m, r, rfl, _⟩ := h
    rfl) fun f cdv A outer s0 H vs Q E hr h => by
    obtain ⟨H0, d, p, m, ⟨wh, ps⟩, rfl, D, hp, sh, hl, k⟩ := h
    have hr4 : Room 4 _ := hr.mono (by decide)
    have hr6 : Room 6 _ := hr.mono (by decide)
    have hr7 : Room 7 _ := hr.mono (by decide)
    have hr9 : Room 9 _ := hr.mono (by decide)
    refine ⟨_, pss_cons (ps_if (pt_cmpR op_eq (pv 1) (pe_k T.kBegins) (nomark _)) (pss_one (ps_ret (pe_metX (pv 0) T.cD (m_begins T) hr4 passX (pa_cons (pe_ix ix_list (pv 2) pe_int (fun _ _ => rfl)) pa_nil)))) pss_nil)
      (pss_cons (ps_if (pt_cmpR op_eq (pv 1) (pe_k T.kThing) (nomark _)) (pss_one (ps_ret (pe_metX (pv 0) T.cD (m_thing T) hr4 passX (pa_cons (pv 2) pa_nil)))) pss_nil)
      (pss_cons (ps_if (pt_cmpR op_eq (pv 1) (pe_k T.kClaim) (nomark _)) (pss_one (ps_ret (pe_metX (pv 0) T.cD (m_claim T) hr4 passX (pa_cons (pv 2) pa_nil)))) pss_nil)
      (pss_cons (ps_if (pt_cmpR op_eq (pv 1) (pe_k T.kFits) (nomark _)) (pss_one (ps_ret (pe_metX (pv 0) T.cD (m_dfits T) hr6 passX (pa_cons (pe_ix ix_list (pv 2) pe_int (fun _ _ => rfl)) pa_nil)))) pss_nil)
      (pss_cons (ps_if (pt_cmpR op_eq (pv 1) (pe_k T.kCheck) (nomark _)) (pss_one (ps_ret (pe_metX (pv 0) T.cD (m_check T) hr7 passX (pa_cons (pv 2) pa_nil)))) pss_nil)
      (pss_cons (ps_if (pt_cmpR op_eq (pv 1) (pe_k T.kBest) (nomark _)) (pss_one (ps_ret (pe_met0 (pv 0) T.cD (m_dbest T) hr))) pss_nil)
      (pss_cons (ps_if (pt_cmpR op_eq (pv 1) (pe_k T.kHas) (nomark _)) (pss_one (ps_ret (pe_metX (pv 0) T.cD (m_has T) hr passX (pa_cons (pe_ix ix_list (pv 2) pe_int (fun _ _ => rfl)) pa_nil)))) pss_nil)
      (pss_one (ps_ret (pe_met0 (pv 0) T.cD (m_why T) hr9))))))))), ?_⟩
    have len1 : wh = 0 ∨ wh = 3 ∨ wh = 6 → ps.length = 1 := fun hw => by
      rcases sh with ⟨h1, h2⟩ | ⟨h1, h2⟩ | ⟨h1, h2⟩ | ⟨h1, h2⟩ | h1 | ⟨h1, h2⟩ | ⟨h1, h2⟩ | ⟨h1, h2⟩ <;> first | exact h2 | (have h1' : wh = _ := h1; omega)
    have len4 : wh = 1 ∨ wh = 2 → ps.length = 4 := fun hw => by
      rcases sh with ⟨h1, h2⟩ | ⟨h1, h2⟩ | ⟨h1, h2⟩ | ⟨h1, h2⟩ | h1 | ⟨h1, h2⟩ | ⟨h1, h2⟩ | ⟨h1, h2⟩ <;> first | exact h2 | (have h1' : wh = _ := h1; omega)
    have ins : ∀ {H1 : Hp}, Ex H H1 → ∃ dd s, H1 d = some (.ins CD dd (dF s)) := fun e => by
      obtain ⟨dd, s, hd, _⟩ := D.read.ex e
      exact ⟨dd, s, hd⟩
    have ne_of_b : ∀ {b : Nat}, (wh == b) = false → ¬ wh = b := fun h z => by
      rw [z, beq_self_eq_true] at h
      cases h
    have hdeed : m.deed wh ps = if wh = 0 then m.begins (ps.headD 0) else if wh = 1 then m.thing ps else if wh = 2 then m.claim ps else if wh = 3 then m.fitsC (ps.headD 0) else if wh = 4 then m.check ps else if wh = 5 then m.best else if wh = 6 then m.hasC (ps.headD 0) else m.why := rfl
    -- begins
    refine q_when (b := wh == 0) (et_eqN (ev_var rfl)) (fun hb H1 e1 => ?_) (fun hb0 H1 e1 => ?_)
    · have hw : wh = 0 := by simpa using hb
      obtain ⟨dd, s, hd⟩ := ins e1
      have hx : m.deed wh ps = m.begins (ps.headD 0) := hdeed.trans (if_pos hw)
      refine s_retMeth (ev_var rfl) hd (dF_no s (by decide +kernel)) (ea_cons (ev_head (ev_var rfl) (e1 _ _ hp) (len1 (.inl hw))) ea_nil) fun H2 e2 => ⟨H0, d, m, ps.headD 0, rfl, D.ex (e1.trans e2), ?_⟩
      rw [← hx]
      exact k
    replace hdeed := hdeed.trans (if_neg (ne_of_b hb0))
    -- thing
    refine q_when (b := wh == 1) (et_eqN (ev_var rfl)) (fun hb H2 e2 => ?_) (fun hb1 H2 e2 => ?_)
    · have hw : wh = 1 := by simpa using hb
      obtain ⟨dd, s, hd⟩ := ins (e1.trans e2)
      have hx : m.deed wh ps = m.thing ps := hdeed.trans (if_pos hw)
      refine s_retMeth (ev_var rfl) hd (dF_no s (by decide +kernel)) (ea_cons (ev_var rfl) ea_nil) fun H3 e3 => ⟨H0, d, p, m, ps, rfl, D.ex ((e1.trans e2).trans e3), e3 _ _ (e2 _ _ (e1 _ _ hp)), len4 (.inl hw), ?_⟩
      rw [← hx]
      exact k
    replace hdeed := hdeed.trans (if_neg (ne_of_b hb1))
    replace e2 := e1.trans e2
    -- claim
    refine q_when (b := wh == 2) (et_eqN (ev_var rfl)) (fun hb H3 e3 => ?_) (fun hb2 H3 e3 => ?_)
    · have hw : wh = 2 := by simpa using hb
      obtain ⟨dd, s, hd⟩ := ins (e2.trans e3)
      have hx : m.deed wh ps = m.claim ps := hdeed.trans (if_pos hw)
      refine s_retMeth (ev_var rfl) hd (dF_no s (by decide +kernel)) (ea_cons (ev_var rfl) ea_nil) fun H4 e4 => ⟨H0, d, p, m, ps, rfl, D.ex ((e2.trans e3).trans e4), e4 _ _ (e3 _ _ (e2 _ _ hp)), len4 (.inr hw), ?_⟩
      rw [← hx]
      exact k
    replace hdeed := hdeed.trans (if_neg (ne_of_b hb2))
    replace e3 := e2.trans e3
    -- fits
    refine q_when (b := wh == 3) (et_eqN (ev_var rfl)) (fun hb H4 e4 => ?_) (fun hb3 H4 e4 => ?_)
    · have hw : wh = 3 := by simpa using hb
      obtain ⟨dd, s, hd⟩ := ins (e3.trans e4)
      have hx : m.deed wh ps = m.fitsC (ps.headD 0) := hdeed.trans (if_pos hw)
      refine s_retMeth (ev_var rfl) hd (dF_no s (by decide +kernel)) (ea_cons (ev_head (ev_var rfl) (e4 _ _ (e3 _ _ hp)) (len1 (.inr (.inl hw)))) ea_nil) fun H5 e5 => ⟨d, m, ps.headD 0, rfl, (D.ex ((e3.trans e4).trans e5)).read, ?_⟩
      rw [hx] at k
      exact doesP (fitsC_m m _) D ((e3.trans e4).trans e5) k
    replace hdeed := hdeed.trans (if_neg (ne_of_b hb3))
    replace e4 := e3.trans e4
    -- check
    refine q_when (b := wh == 4) (et_eqN (ev_var rfl)) (fun hb H5 e5 => ?_) (fun hb4 H5 e5 => ?_)
    · have hw : wh = 4 := by simpa using hb
      obtain ⟨dd, s, hd⟩ := ins (e4.trans e5)
      have hx : m.deed wh ps = m.check ps := hdeed.trans (if_pos hw)
      refine s_retMeth (ev_var rfl) hd (dF_no s (by decide +kernel)) (ea_cons (ev_var rfl) ea_nil) fun H6 e6 => ⟨d, p, m, ps, rfl, (D.ex ((e4.trans e5).trans e6)).read, e6 _ _ (e5 _ _ (e4 _ _ hp)), hl, ?_⟩
      rw [hx] at k
      exact doesP (check_m m _) D ((e4.trans e5).trans e6) k
    replace hdeed := hdeed.trans (if_neg (ne_of_b hb4))
    replace e5 := e4.trans e5
    -- best
    refine q_when (b := wh == 5) (et_eqN (ev_var rfl)) (fun hb H6 e6 => ?_) (fun hb5 H6 e6 => ?_)
    · have hw : wh = 5 := by simpa using hb
      obtain ⟨dd, s, hd⟩ := ins (e5.trans e6)
      have hx : m.deed wh ps = m.best := hdeed.trans (if_pos hw)
      rw [hx] at k
      refine s_retMeth (ev_var rfl) hd (dF_no s (by decide +kernel)) ea_nil fun H7 e7 => ⟨_, ⟨d, m, rfl, (D.ex ((e5.trans e6).trans e7)).read, rfl⟩, fun p2 H8 n8 e8 h8 => ?_⟩
      exact k.1 rfl H8 p2 (D.ex (((e5.trans e6).trans e7).trans e8)) h8
    replace hdeed := hdeed.trans (if_neg (ne_of_b hb5))
    replace e6 := e5.trans e6
    -- has
    refine q_when (b := wh == 6) (et_eqN (ev_var rfl)) (fun hb H7 e7 => ?_) (fun hb6 H7 e7 => ?_)
    · have hw : wh = 6 := by simpa using hb
      obtain ⟨dd, s, hd⟩ := ins (e6.trans e7)
      have hx : m.deed wh ps = m.hasC (ps.headD 0) := hdeed.trans (if_pos hw)
      refine s_retMeth (ev_var rfl) hd (dF_no s (by decide +kernel)) (ea_cons (ev_head (ev_var rfl) (e7 _ _ (e6 _ _ hp)) (len1 (.inr (.inr hw)))) ea_nil) fun H8 e8 => ⟨d, m, ps.headD 0, rfl, (D.ex ((e6.trans e7).trans e8)).read, ?_⟩
      rw [hx] at k
      exact doesP (hasC_m m _) D ((e6.trans e7).trans e8) k
    replace hdeed := hdeed.trans (if_neg (ne_of_b hb6))
    replace e7 := e6.trans e7
    -- why
    obtain ⟨dd, s, hd⟩ := ins e7
    rw [hdeed] at k
    refine s_retMeth (ev_var rfl) hd (dF_no s (by decide +kernel)) ea_nil fun H8 e8 => ⟨_, ⟨d, m, rfl, (D.ex (e7.trans e8)).read, rfl⟩, fun p2 H9 n9 e9 h9 => ?_⟩
    exact k.1 rfl H9 p2 (D.ex ((e7.trans e8).trans e9)) h9

/-! ### outcome -/
theorem pe_defS {X : Cx} {k : Nat} {ps : List Str} {sp : Sp} {E : L2.St → XK} {x : Str} {p pos : Pos} {e : Expr} {es : List Expr} {t : TA} (D : Def X.prog X.w X.K X.mg X.base (L2.CX X.prog X.w) k x ps sp) (hr : Room k X.A) (hx : ∀ σ, PassesAt (L2.CX X.prog X.w) X σ (E σ)) (ha : PA X (e :: es) t) (hg : Gl X x := by rfl) (hdb : (x == ("__debug__" : Str)) = false := by decide)
    (he : starEach (e :: es) X.env = (false, eval e X.env) :: starEach es X.env := by rfl) (hpl : (backTo pos (starEach es X.env)).any (·.1) = false := by rfl) : PE X (.Call (.Name x p) (e :: es) [] pos) (tCallS sp E t) := by
  obtain ⟨f, fd, h1, h2, h3, h4⟩ := D.ex
  exact pe_callS h4 hr hg h1 h2 h3 hx ha hdb he hpl
def spOutcome (CR CD CS CC : Addr) : Sp := fun vs H Q _ => ∃ (H0 : Hp) (d c dx p : Addr) (m : M) (r : Row) (vb : V), vs = [.ref d, .ref c] ∧ DeskAt CD CS H0 H d m ∧ H c = some (.ins CC dx (cF (vN r.1) (.ref p) vb)) ∧ H p = some (.lst (nats r.2)) ∧ Shape r ∧ r.2.length ≤ 1000 ∧
  ∀ (H' : Hp) (q : Addr), DeskAt CD CS H0 H' d (m.deed r.1 r.2).m → H' q = some (.lst ((m.deed r.1 r.2).l.map V.int)) → Q (.ref q) H'
theorem scOutcome : FnScope ["desk", "call", "found", "e"] ["desk", "call"] (defScope (top 52)) := ⟨rfl, rfl, rfl, by decide +kernel, rfl, by decide +kernel, by decide +kernel⟩
theorem d_outcome (T : Txt K mg CR CS CD CC) : Def P w K mg base CX0 13 "outcome" ["desk", "call"] (spOutcome CR CD CS CC) :=
  .of T.tOutcome scOutcome (fun _ _ _ _ _ _ us hl => match us, hl with | [_, _], _ => rfl) (fun vs H Q E h => by
    obtain ⟨H0, d, c, dx, p, m, r, vb, rfl, _⟩ := h
    rfl) fun f cdv A outer s0 H vs Q E hr h => by
    obtain ⟨H0, d, c, dx, p, m, r, vb, rfl, D, hc, hp, sh, hl, k⟩ := h
    refine ⟨_, pss_cons (ps_try_as (i := 3) (tb := fun W => tAsg (tCallS (spDeed CR CD CS) (WE W) (tCons (tVar 0) (tCons (tFld K (tVar 1) "which") (tCons (tFld K (tVar 1) "plain") tNil)))) (gName 2)) (ts := fun a cls d => tAsg (tXf a cls d CR "answer" (tVar 3)) (gName 2)) (Wout := fun _ _ _ _ => False) rfl rfl scOutcome.nd rfl rfl ⟨rfl, by decide, Or.inl T.gR⟩ takes0
        (fun W pn xe tk _ => pss_one (ps_set (i := 2) scOutcome.nd rfl (Or.inl rfl) (by exact (pe_defS (d_deed T) hr (fun σ => passAt tk σ) (by exact (pa_cons (pv 0) (pa_cons (pe_fld (pv 1) rfl) (pa_cons (pe_fld (pv 1) rfl) pa_nil))))))))
        (fun a oe cls d pn hz hf => pss_one (ps_set (i := 2) scOutcome.nd rfl (Or.inl rfl) (by exact (pe_xf T.xR T.nR hz hf (pv 3))))))
      (pss_one (ps_ret (pv 2))), ?_⟩
    refine ⟨_, rfl, _, rfl, c, CC, dx, _, _, rfl, hc, T.cC, T.nCw, cF_which _ _ _, _, rfl, c, CC, dx, _, _, rfl, hc, T.cC, T.nCp, cF_plain _ _ _, H0, d, p, m, r, rfl, D, hp, sh, hl, fun hb H' q D' hq => ?_, fun hb H' e la D' he hla => ?_⟩
    · exact ⟨_, rfl, k H' q D' hq⟩
    · refine ⟨true, T.eR, fun _ a0 _ => ?_, fun q => Bool.noConfusion q⟩
      refine ⟨_, rfl, rfl, rfl, e, _, _, rfl, he, lk_here, ?_⟩
      exact ⟨_, rfl, k H' la D' hla⟩
end
end My

/-! Part 11: answers. -/
namespace My
open PySem PySem.Spec PyProof.Rows L2 Evl
section
variable {P : Program} {w : World} {K : PySem.W.Frag} {mg : Str → Option Value} {base : Heap} {CR CS CD CC : Addr}
theorem mk_desk (T : Txt K mg CR CS CD CC) : Mak P w K mg base 3 CD "Desk" ["self"] (spDInit CD CS) := .of T.mD T.kD T.gD (m_d_init T)
/-- a list of numbers is handed in; what the specification says comes out -/
def spAns (K : PySem.W.Frag) : Sp := fun vs H Q _ => ∃ (a : Addr) (ns : List Int), vs = [.ref a] ∧ SqL K H a (ns.map V.int) ∧ ns.length ≤ 1000 ∧ PySi86.answers_asked ns = true ∧ ∀ (H' : Hp) (p : Addr), H' p = some (.lst ((PySi86.answers ns).map V.int)) → Q (.ref p) H'
/-- how many numbers the first calls have -/
def upTo (rs : List Row) (i : Nat) : Nat := ((rs.take i).flatMap flat).length
theorem flat_pos (r : Row) : 3 ≤ (flat r).length := by
  unfold flat
  rw [List.length_cons, List.length_cons, List.length_append, List.length_singleton]
  omega
theorem upTo_more {rs : List Row} {i : Nat} {r : Row} (h : rs[i]? = some r) : upTo rs (i + 1) = upTo rs i + (flat r).length := by
  unfold upTo
  rw [take_more h, List.flatMap_append, List.length_append, List.flatMap_cons, List.flatMap_nil, List.append_nil]
theorem split_at {rs : List Row} {i : Nat} {r : Row} (h : rs[i]? = some r) : rs.flatMap flat = (rs.take i).flatMap flat ++ (flat r ++ (rs.drop (i + 1)).flatMap flat) := by
  have e1 : rs = rs.take i ++ (r :: rs.drop (i + 1)) := by
    obtain ⟨hi, e⟩ := List.getElem?_eq_some_iff.mp h
    rw [← e, List.getElem_cons_drop, List.take_append_drop]
  have e2 : rs.flatMap flat = (rs.take i ++ (r :: rs.drop (i + 1))).flatMap flat := congrArg (fun l => List.flatMap flat l) e1
  rw [e2, List.flatMap_append, List.flatMap_cons]
theorem run_more {rs : List Row} {i : Nat} {r : Row} (h : rs[i]? = some r) : run (rs.take (i + 1)) = play (run (rs.take i)) r := by
  unfold run
  rw [take_more h, List.foldl_append]
  rfl
theorem q_call {σ : L2.St} {H : Hp} {ta : TA} {vs : List V} {sp : Sp} {i : Nat} {D : Ends} {tz : TS} (ha : EvA ta σ H vs) (h : ∀ H1, Ex H H1 → sp (vs ++ []) H1 (fun x H2 => tz D (σ.set i (some x)) H2) E0) : tSeq (tAsg (tCall sp [] E0 ta) (gName i)) tz D σ H := ha H (Ex.refl H) _ fun H1 e1 => h H1 e1
theorem q_extend {σ : L2.St} {H : Hp} {ta te : TE} {l : Addr} {xs ys : List V} {D : Ends} {tz : TS} (hl : H l = some (.lst xs)) (ha : Ev ta σ H (.ref l)) (h : EvL te σ H ys) (hz : xs.length + ys.length ≤ sizeLine) (k : ∀ H1, Ex H H1 → tz D σ (upd H1 l (.lst (xs ++ ys)))) :
    tSeq (tDrop (tBM K "list" rExtend ta (tCons te tNil))) tz D σ H := s_extend (D := { D with nx := tz D }) hl ha h hz k
theorem scAns : FnScope ["calls", "desk", "found", "place", "call", "told"] ["calls"] (defScope (top 53)) := ⟨rfl, rfl, rfl, by decide +kernel, rfl, by decide +kernel, by decide +kernel⟩
theorem ok_answers {f : Addr} {fd : FuncData} (F : Fun K "answers" "answers" (top 53) f fd) (T : Txt K mg CR CS CD CC) : FnOk P w K mg base CX0 14 f fd ["calls"] (spAns K) := by
  refine F.ok scAns (fun vs H Q E h => ?_) fun cdv A outer s0 H vs Q E hr h => ?_
  · obtain ⟨a, ns, rfl, _⟩ := h
    rfl
  · obtain ⟨a, ns, rfl, hS, hn, hask, k⟩ := h
    obtain ⟨rs, AR⟩ := asked_of hask
    have hr3 : Room 3 _ := hr.mono (by decide)
    have hr4 : Room 4 _ := hr.mono (by decide)
    refine ⟨_, pss_cons (ps_set (i := 1) scAns.nd rfl (Or.inl rfl) (pe_mak0 (mk_desk T) hr4))
      (pss_cons (ps_set (i := 2) scAns.nd rfl (Or.inl rfl) (pe_lst pa_nil))
      (pss_cons (ps_set (i := 3) scAns.nd rfl (Or.inl rfl) pe_int)
      (pss_cons (ps_while PassesOwn.never (pt_cmpR op_lt (pv 3) (pe_callB call_len_seq (by rfl) T.bLen PySem.boot_len (pa_cons (pv 0) pa_nil)) (nomark _))
        (pss_cons (ps_set (i := 4) scAns.nd rfl (Or.inl rfl) (pe_def (d_call_at T) hr3 (pa_cons (pv 0) (pa_cons (pv 3) pa_nil))))
        (pss_cons (ps_set (i := 5) scAns.nd rfl (Or.inl rfl) (pe_def (d_outcome T) hr (pa_cons (pv 1) (pa_cons (pv 4) pa_nil))))
        (pss_cons (ps_expr (pe_bm PySem.F.plainAttrs_list PySem.F.slot_list_extend PySem.F.type_list_extend mt_extend (pv 2) (pa_cons (pe_op op_cat (pe_lst (pa_cons (pe_callB call_len_seq (by rfl) T.bLen PySem.boot_len (pa_cons (pv 5) pa_nil)) pa_nil)) (pv 5)) pa_nil)))
        (pss_one (ps_set (i := 3) scAns.nd rfl (Or.inl rfl) (pe_fld (pv 4) rfl)))))))
      (pss_one (ps_ret (pv 2)))))), ?_⟩
    have hms : ns.map V.int = nats (rs.flatMap flat) := by rw [AR.list, nats_zs]
    rw [hms] at hS
    -- desk = Desk()
    intro d dd nd ndd hne
    have e0 : Ex H (upd (upd H dd (.own d)) d (.ins CD dd [])) := fun b o hb => by
      rw [upd_ne (ne_of_none hb nd), upd_ne (ne_of_none hb ndd)]
      exact hb
    refine ⟨H, d, dd, rfl, e0, nd, upd_same, fun H1 D1 => ⟨rfl, ?_⟩⟩
    -- found = []
    refine q_asgL (xs := []) (el_lst ea_nil (by show 0 ≤ 100000; decide)) fun fa H2 nfa e2 hfa => ?_
    have nfH : H fa = none := fresh_back D1.same nfa
    refine q_asg (v := vN 0) ev_c fun H3 e3 => ?_
    have D3 : DeskAt CD CS (upd H fa (.lst [])) H3 d (M.fresh 0) := D1.add nfa (e2.trans e3) (e3 _ _ hfa)
    refine q_while (fun n σ' H' => ∃ i, n = rs.length - i ∧ i ≤ rs.length ∧ ∃ v4 v5 : Option V, σ' = [some (.ref a), some (.ref d), some (.ref fa), some (vN (upTo rs i)), v4, v5] ∧ DeskAt CD CS (upd H fa (.lst ((run (rs.take i)).2.map V.int))) H' d (run (rs.take i)).1) rs.length
      ⟨0, rfl, Nat.zero_le _, none, none, rfl, D3⟩ ?_
    rintro n σ' H' ⟨i, rfl, hi, v4, v5, rfl, D⟩
    have eH : Ex H H' := (Ex.new nfH).trans D.same
    have hlen : (nats (rs.flatMap flat)).length = (rs.flatMap flat).length := List.length_map ..
    by_cases hlt : i < rs.length
    · have hri : rs[i]? = some rs[i] := List.getElem?_eq_getElem hlt
      have hsplit := split_at hri
      have hupl : upTo rs i < (rs.flatMap flat).length := by
        rw [hsplit, List.length_append, List.length_append]
        have := flat_pos rs[i]
        show ((rs.take i).flatMap flat).length < _
        omega
      refine ⟨true, et_is (et_test (ev_op (ev_var rfl) (ev_is (ev_len (ev_var rfl) (ex_l eH hS)) (by rw [hlen])) (rv_lt (b := (rs.flatMap flat).length)))) (decide_eq_true hupl), fun _ H4 e4 => ?_, fun z => by cases z⟩
      refine ⟨fun σ2 H2 => ∃ v4 v5 : Option V, σ2 = [some (.ref a), some (.ref d), some (.ref fa), some (vN (upTo rs (i + 1))), v4, v5] ∧ DeskAt CD CS (upd H fa (.lst ((run (rs.take (i + 1))).2.map V.int))) H2 d (run (rs.take (i + 1))).1,
        fun σ2 H2 ⟨u4, u5, e, D2⟩ => ⟨rs.length - (i + 1), by omega, i + 1, rfl, hlt, u4, u5, e, D2⟩, ?_⟩
      have D4 := D.ex e4
      -- call = call_at(calls, place)
      refine q_call (ea_cons (ev_var rfl) (ea_cons (ev_var rfl) ea_nil)) fun H5 e5 => ⟨a, (rs.take i).flatMap flat, (rs.drop (i + 1)).flatMap flat, rs[i], rfl, ?_, fun c dx pl H6 nc e6 hc hpl => ?_⟩
      · rw [← hsplit]
        exact ex_l ((eH.trans e4).trans e5) hS
      have D5 := D4.ex e5
      have D6 := D5.add nc e6 hc
      -- told = outcome(desk, call)
      refine q_call (ea_cons (ev_var rfl) (ea_cons (ev_var rfl) ea_nil)) fun H7 e7 => ?_
      have hl1000 : rs[i].2.length ≤ 1000 := by
        have h1 : (flat rs[i]).length ≤ (rs.flatMap flat).length := by
          rw [hsplit, List.length_append, List.length_append]
          omega
        have h2 : rs[i].2.length ≤ (flat rs[i]).length := by
          unfold flat
          rw [List.length_cons, List.length_cons, List.length_append]
          omega
        have h3 : ns.length = (rs.flatMap flat).length := by
          have := congrArg List.length hms
          rw [List.length_map, List.length_map] at this
          exact this
        omega
      refine ⟨_, d, c, dx, pl, (run (rs.take i)).1, rs[i], _, rfl, D6.ex e7, e7 _ _ hc, e7 _ _ hpl, AR.shape _ (List.getElem_mem hlt), hl1000, fun H8 q D8 hq => ?_⟩
      have hfc : fa ≠ c := ne_of_none (D5.same _ _ upd_same) nc
      have h8c := D8.same _ _ upd_same
      have h8f := D8.same fa (.lst ((run (rs.take i)).2.map V.int)) (by rw [upd_ne hfc]; exact upd_same)
      have hrun := run_more hri
      have hsz : ((run (rs.take i)).2.map V.int).length + ([vN (((run (rs.take i)).1.deed rs[i].1 rs[i].2).l).length] ++ ((run (rs.take i)).1.deed rs[i].1 rs[i].2).l.map V.int).length ≤ 10000000 := by
        have h1 := AR.len (i + 1)
        rw [hrun] at h1
        have h2 : (play (run (rs.take i)) rs[i]).2 = (run (rs.take i)).2 ++ ((((run (rs.take i)).1.deed rs[i].1 rs[i].2).l.length : Int) :: ((run (rs.take i)).1.deed rs[i].1 rs[i].2).l) := rfl
        rw [h2, List.length_append, List.length_cons] at h1
        rw [List.length_map, List.length_append, List.length_map, List.length_singleton]
        omega
      have big : ∀ {n : Nat}, n ≤ 10000000 → n ≤ sizeLine := fun h => Nat.le_trans h (by decide)
      -- found.extend([len(told)] + told)
      refine q_extend (l := fa) (xs := (run (rs.take i)).2.map V.int) (ys := [vN (((run (rs.take i)).1.deed rs[i].1 rs[i].2).l).length] ++ ((run (rs.take i)).1.deed rs[i].1 rs[i].2).l.map V.int) h8f (ev_var rfl)
        (el_catR (el_lst (ea_cons (ev_is (ev_len (ev_var rfl) (SqL.of hq)) (by rw [List.length_map])) ea_nil) (by show 1 ≤ 100000; decide)) (ev_var rfl) hq (big (by rw [List.length_append] at hsz; omega))) (big hsz) fun H9 e9 => ?_
      -- place = call.behind
      refine s_asg (v := vN (((rs.take i).flatMap flat).length + (flat rs[i]).length)) (ev_fld (ev_var rfl) (a := c) (C := CC) (dx := dx) (by rw [upd_ne (Ne.symm hfc)]; exact e9 _ _ h8c) T.cC T.nCb (cF_behind _ _ _)) fun H10 e10 => ?_
      have hnc : (upd H fa (.lst ((run (rs.take i)).2.map V.int))) c = none := fresh_back D5.same nc
      have D9 := ((D8.ex e9).sub (H1 := upd H fa (.lst ((run (rs.take i)).2.map V.int))) (fun b o hb => by
        rw [upd_ne (ne_of_none hb hnc)]
        exact hb)).put (u := .lst ((run (rs.take i)).2.map V.int ++ ([vN (((run (rs.take i)).1.deed rs[i].1 rs[i].2).l).length] ++ ((run (rs.take i)).1.deed rs[i].1 rs[i].2).l.map V.int)))
      refine ⟨some (.ref c), some (.ref q), ?_, ?_⟩
      · rw [upTo_more hri]
        rfl
      · rw [hrun]
        have hmap : ((play (run (rs.take i)) rs[i]).2).map V.int = (run (rs.take i)).2.map V.int ++ ([vN (((run (rs.take i)).1.deed rs[i].1 rs[i].2).l).length] ++ ((run (rs.take i)).1.deed rs[i].1 rs[i].2).l.map V.int) := List.map_append
        rw [hmap]
        exact D9.ex e10
    · have hi' : i = rs.length := by omega
      subst hi'
      have hupl : ¬ upTo rs rs.length < (rs.flatMap flat).length := by
        unfold upTo
        rw [List.take_length]
        omega
      refine ⟨false, et_is (et_test (ev_op (ev_var rfl) (ev_is (ev_len (ev_var rfl) (ex_l eH hS)) (by rw [hlen])) (rv_lt (b := (rs.flatMap flat).length)))) (decide_eq_false hupl), fun z => (by cases z), fun _ H4 e4 => ?_⟩
      refine s_ret (ev_var rfl) fun H5 e5 => k H5 fa ?_
      rw [AR.ans]
      have := e5 _ _ (e4 _ _ (D.same _ _ upd_same))
      rw [List.take_length] at this
      exact this
end
end My

/-! Part 12: the end. -/
namespace My
open PySem PySem.Spec PyProof.Rows L2
/-- an error of the class at S is what «except S» names -/
theorem exm_self {K : PySem.W.Frag} {S : Addr} (h1 : PySem.W.subIn K (.ref S) (.type "BaseException") = some true) (h2 : PySem.W.isClsIn K S = true) (h3 : PySem.W.typeIn K (.ref S) = some (.type "type")) (h4 : PySem.W.subIn K (.ref S) (.ref S) = some true) :
    PySem.W.exmOne K (.ref S) (.ref S) = some true := by
  have e1 : (PySem.W.subIn K (.ref S) (.type "BaseException") == some true) = true := by rw [h1] <;> rfl
  have e2 : ((PySem.W.clsIn K S).isSome && PySem.W.typeIn K (.ref S) == some (.type "type")) = true := by
    have h2' : (PySem.W.clsIn K S).isSome = true := h2
    rw [h2', h3] <;> rfl
  show (if (PySem.W.subIn K (.ref S) (.type "BaseException") == some true) = true then (if ((PySem.W.clsIn K S).isSome && PySem.W.typeIn K (.ref S) == some (.type "type")) = true then PySem.W.subIn K (.ref S) (.ref S) else none) else none) = some true
  rw [if_pos e1, if_pos e2]
  exact h4
/-- the walk may lean on what the top's loose constants are -/
theorem walk_more {q : Program} {loose : List Str} {XP : (Str → Option Value) → Heap → Prop} {YP : World → Heap → Prop} {r : PySem.W.OpenSpec} {d : DefRec} {run : Value → List Value → Sem Value}
    (h : PySem.W.WalkOS q loose XP (fun w h => YP w h ∧ XP (h.nsMap mainGlobals) h) r d [] run) : PySem.W.WalkOS q loose XP YP r d [] run := fun w s0 s1 mg mb G Y => h w s0 s1 mg mb G ⟨Y, by
  have e := G.T.g.eq_nsMap
  rw [← e]
  exact G.X⟩
theorem loose_int {p : Program} {x : Str} {i : Int} {h : Heap} {mg : Str → Option Value} (X : PySem.W.XL p [(x, .int i)] (h.nsMap mainGlobals) h) (G : h.Ns mainGlobals mg) : ∃ t, mg x = some (.int i t) := by
  obtain ⟨v, e, r⟩ := X.2.val (x, .int i) List.mem_cons_self
  rw [← G.eq_nsMap] at e
  cases r with
  | int i t => exact ⟨t, e⟩
theorem all_mk {P : Program} {w : World} {K : PySem.W.Frag} {h : Heap} {mg : Str → Option Value} {fa CR CS CD CC : Addr} (X : K.In h) (G : h.Ns mainGlobals mg) (hfa : mg "answers" = some (.ref fa)) (hW : ∃ t, mg "MOST_WRONG" = some (.int 4 t))
    {nmR qR : Str} {NR : Addr} {bsR : List Value} {snR : List Str} {subR : List Value} {abR : Bool} {colR : Option Bool} {ddR : Option Addr} {m0 m1 m2 m3 m5 : Option Value}
    {fR0 : Addr} {odR0 anR0 : Option Addr} {slR0 : Array (Option Value)} {ocR0 kVR0 dcR0 pmR0 cdR0 ctR0 : Value}
    {f1 : Addr} {odF1 anF1 : Option Addr} {slF1 : Array (Option Value)} {ocF1 kVF1 dcF1 pmF1 cdF1 ctF1 : Value}
    {f2 : Addr} {odF2 anF2 : Option Addr} {slF2 : Array (Option Value)} {ocF2 kVF2 dcF2 pmF2 cdF2 ctF2 : Value}
    {f3 : Addr} {odF3 anF3 : Option Addr} {slF3 : Array (Option Value)} {ocF3 kVF3 dcF3 pmF3 cdF3 ctF3 : Value}
    {f4 : Addr} {odF4 anF4 : Option Addr} {slF4 : Array (Option Value)} {ocF4 kVF4 dcF4 pmF4 cdF4 ctF4 : Value}
    {f5 : Addr} {odF5 anF5 : Option Addr} {slF5 : Array (Option Value)} {ocF5 kVF5 dcF5 pmF5 cdF5 ctF5 : Value}
    {f6 : Addr} {odF6 anF6 : Option Addr} {slF6 : Array (Option Value)} {ocF6 kVF6 dcF6 pmF6 cdF6 ctF6 : Value}
    {f7 : Addr} {odF7 anF7 : Option Addr} {slF7 : Array (Option Value)} {ocF7 kVF7 dcF7 pmF7 cdF7 ctF7 : Value}
    {f9 : Addr} {odF9 anF9 : Option Addr} {slF9 : Array (Option Value)} {ocF9 kVF9 dcF9 pmF9 cdF9 ctF9 : Value}
    {f10 : Addr} {odF10 anF10 : Option Addr} {slF10 : Array (Option Value)} {ocF10 kVF10 dcF10 pmF10 cdF10 ctF10 : Value}
    {f11 : Addr} {odF11 anF11 : Option Addr} {slF11 : Array (Option Value)} {ocF11 kVF11 dcF11 pmF11 cdF11 ctF11 : Value}
    {f13 : Addr} {odF13 anF13 : Option Addr} {slF13 : Array (Option Value)} {ocF13 kVF13 dcF13 pmF13 cdF13 ctF13 : Value}
    {f14 : Addr} {odF14 anF14 : Option Addr} {slF14 : Array (Option Value)} {ocF14 kVF14 dcF14 pmF14 cdF14 ctF14 : Value}
    {f15 : Addr} {odF15 anF15 : Option Addr} {slF15 : Array (Option Value)} {ocF15 kVF15 dcF15 pmF15 cdF15 ctF15 : Value}
    {f16 : Addr} {odF16 anF16 : Option Addr} {slF16 : Array (Option Value)} {ocF16 kVF16 dcF16 pmF16 cdF16 ctF16 : Value}
    {f17 : Addr} {odF17 anF17 : Option Addr} {slF17 : Array (Option Value)} {ocF17 kVF17 dcF17 pmF17 cdF17 ctF17 : Value}
    {f22 : Addr} {odF22 anF22 : Option Addr} {slF22 : Array (Option Value)} {ocF22 kVF22 dcF22 pmF22 cdF22 ctF22 : Value}
    {f23 : Addr} {odF23 anF23 : Option Addr} {slF23 : Array (Option Value)} {ocF23 kVF23 dcF23 pmF23 cdF23 ctF23 : Value}
    {f24 : Addr} {odF24 anF24 : Option Addr} {slF24 : Array (Option Value)} {ocF24 kVF24 dcF24 pmF24 cdF24 ctF24 : Value}
    {f25 : Addr} {odF25 anF25 : Option Addr} {slF25 : Array (Option Value)} {ocF25 kVF25 dcF25 pmF25 cdF25 ctF25 : Value}
    {f33 : Addr} {odF33 anF33 : Option Addr} {slF33 : Array (Option Value)} {ocF33 kVF33 dcF33 pmF33 cdF33 ctF33 : Value}
    {f50 : Addr} {odF50 anF50 : Option Addr} {slF50 : Array (Option Value)} {ocF50 kVF50 dcF50 pmF50 cdF50 ctF50 : Value}
    {f51 : Addr} {odF51 anF51 : Option Addr} {slF51 : Array (Option Value)} {ocF51 kVF51 dcF51 pmF51 cdF51 ctF51 : Value}
    {f52 : Addr} {odF52 anF52 : Option Addr} {slF52 : Array (Option Value)} {ocF52 kVF52 dcF52 pmF52 cdF52 ctF52 : Value}
    {g35_0 : Addr} {odM35_0 anM35_0 : Option Addr} {slM35_0 : Array (Option Value)} {ocM35_0 kVM35_0 dcM35_0 pmM35_0 cdM35_0 ctM35_0 : Value}
    {g35_1 : Addr} {odM35_1 anM35_1 : Option Addr} {slM35_1 : Array (Option Value)} {ocM35_1 kVM35_1 dcM35_1 pmM35_1 cdM35_1 ctM35_1 : Value}
    {g35_2 : Addr} {odM35_2 anM35_2 : Option Addr} {slM35_2 : Array (Option Value)} {ocM35_2 kVM35_2 dcM35_2 pmM35_2 cdM35_2 ctM35_2 : Value}
    {g35_3 : Addr} {odM35_3 anM35_3 : Option Addr} {slM35_3 : Array (Option Value)} {ocM35_3 kVM35_3 dcM35_3 pmM35_3 cdM35_3 ctM35_3 : Value}
    {g35_4 : Addr} {odM35_4 anM35_4 : Option Addr} {slM35_4 : Array (Option Value)} {ocM35_4 kVM35_4 dcM35_4 pmM35_4 cdM35_4 ctM35_4 : Value}
    {g35_5 : Addr} {odM35_5 anM35_5 : Option Addr} {slM35_5 : Array (Option Value)} {ocM35_5 kVM35_5 dcM35_5 pmM35_5 cdM35_5 ctM35_5 : Value}
    {g35_6 : Addr} {odM35_6 anM35_6 : Option Addr} {slM35_6 : Array (Option Value)} {ocM35_6 kVM35_6 dcM35_6 pmM35_6 cdM35_6 ctM35_6 : Value}
    {g40_0 : Addr} {odM40_0 anM40_0 : Option Addr} {slM40_0 : Array (Option Value)} {ocM40_0 kVM40_0 dcM40_0 pmM40_0 cdM40_0 ctM40_0 : Value}
    {g40_1 : Addr} {odM40_1 anM40_1 : Option Addr} {slM40_1 : Array (Option Value)} {ocM40_1 kVM40_1 dcM40_1 pmM40_1 cdM40_1 ctM40_1 : Value}
    {g40_2 : Addr} {odM40_2 anM40_2 : Option Addr} {slM40_2 : Array (Option Value)} {ocM40_2 kVM40_2 dcM40_2 pmM40_2 cdM40_2 ctM40_2 : Value}
    {g40_3 : Addr} {odM40_3 anM40_3 : Option Addr} {slM40_3 : Array (Option Value)} {ocM40_3 kVM40_3 dcM40_3 pmM40_3 cdM40_3 ctM40_3 : Value}
    {g40_4 : Addr} {odM40_4 anM40_4 : Option Addr} {slM40_4 : Array (Option Value)} {ocM40_4 kVM40_4 dcM40_4 pmM40_4 cdM40_4 ctM40_4 : Value}
    {g40_5 : Addr} {odM40_5 anM40_5 : Option Addr} {slM40_5 : Array (Option Value)} {ocM40_5 kVM40_5 dcM40_5 pmM40_5 cdM40_5 ctM40_5 : Value}
    {g40_6 : Addr} {odM40_6 anM40_6 : Option Addr} {slM40_6 : Array (Option Value)} {ocM40_6 kVM40_6 dcM40_6 pmM40_6 cdM40_6 ctM40_6 : Value}
    {g40_7 : Addr} {odM40_7 anM40_7 : Option Addr} {slM40_7 : Array (Option Value)} {ocM40_7 kVM40_7 dcM40_7 pmM40_7 cdM40_7 ctM40_7 : Value}
    {g40_8 : Addr} {odM40_8 anM40_8 : Option Addr} {slM40_8 : Array (Option Value)} {ocM40_8 kVM40_8 dcM40_8 pmM40_8 cdM40_8 ctM40_8 : Value}
    {g40_9 : Addr} {odM40_9 anM40_9 : Option Addr} {slM40_9 : Array (Option Value)} {ocM40_9 kVM40_9 dcM40_9 pmM40_9 cdM40_9 ctM40_9 : Value}
    {g40_10 : Addr} {odM40_10 anM40_10 : Option Addr} {slM40_10 : Array (Option Value)} {ocM40_10 kVM40_10 dcM40_10 pmM40_10 cdM40_10 ctM40_10 : Value}
    {g49_0 : Addr} {odM49_0 anM49_0 : Option Addr} {slM49_0 : Array (Option Value)} {ocM49_0 kVM49_0 dcM49_0 pmM49_0 cdM49_0 ctM49_0 : Value}
    {tkFeatures : Tok}
    {tkMostValue : Tok}
    {tkLeftOut : Tok}
    {tkTooGreat : Tok}
    {tkUnknown : Tok}
    {tkTooMany : Tok}
    {tkUnfit : Tok}
    {tkTwice : Tok}
    {tkMostThings : Tok}
    {tkMostClaims : Tok}
    {tkBegins : Tok}
    {tkThing : Tok}
    {tkClaim : Tok}
    {tkFits : Tok}
    {tkCheck : Tok}
    {tkBest : Tok}
    {tkHas : Tok}
    {fA : Addr} {odA anA : Option Addr} {slA : Array (Option Value)} {ocA kVA dcA pmA cdA ctA : Value}
    (gCR : PySem.W.nsIn K mainGlobals "Refused" = some (some (.ref CR)))
    (gCS : PySem.W.nsIn K mainGlobals "Store" = some (some (.ref CS)))
    (gCD : PySem.W.nsIn K mainGlobals "Desk" = some (some (.ref CD)))
    (gCC : PySem.W.nsIn K mainGlobals "Call" = some (some (.ref CC)))
    (pgCS : PySem.W.plainGet K CS Str.empty = true)
    (hdCS : PySem.W.hasDictIn K CS = true)
    (poCS : PySem.W.plainOver K CS = true)
    (saCS : PySem.W.findIn K (.ref CS) "__setattr__" = some (some (.builtin "object.__setattr__")))
    (mkCS : PySem.W.makesIn K CS = true)
    (kcCS : PySem.W.keepIn K (.ref CS) = true)
    (pgCD : PySem.W.plainGet K CD Str.empty = true)
    (hdCD : PySem.W.hasDictIn K CD = true)
    (poCD : PySem.W.plainOver K CD = true)
    (saCD : PySem.W.findIn K (.ref CD) "__setattr__" = some (some (.builtin "object.__setattr__")))
    (mkCD : PySem.W.makesIn K CD = true)
    (kcCD : PySem.W.keepIn K (.ref CD) = true)
    (pgCC : PySem.W.plainGet K CC Str.empty = true)
    (hdCC : PySem.W.hasDictIn K CC = true)
    (poCC : PySem.W.plainOver K CC = true)
    (saCC : PySem.W.findIn K (.ref CC) "__setattr__" = some (some (.builtin "object.__setattr__")))
    (mkCC : PySem.W.makesIn K CC = true)
    (kcCC : PySem.W.keepIn K (.ref CC) = true)
    (nSw : PySem.W.findIn K (.ref CS) "wrong" = some none)
    (nSt : PySem.W.findIn K (.ref CS) "things" = some none)
    (nSc : PySem.W.findIn K (.ref CS) "claims" = some none)
    (nDs : PySem.W.findIn K (.ref CD) "store" = some none)
    (nCw : PySem.W.findIn K (.ref CC) "which" = some none)
    (nCp : PySem.W.findIn K (.ref CC) "plain" = some none)
    (nCb : PySem.W.findIn K (.ref CC) "behind" = some none)
    (xR : K.lookup CR = some (excClassObj nmR qR CR NR bsR [.type "ValueError", .type "Exception", .type "BaseException", .type "object"] true snR subR abR colR ddR m0 m1 m2 m3 m5 "ValueError.__new__"))
    (saR : PySem.W.findIn K (.ref CR) "__setattr__" = some (some (.builtin "object.__setattr__")))
    (gaR : PySem.W.findIn K (.ref CR) "__getattribute__" = some (some (.builtin "BaseException.__getattribute__")))
    (ggR : PySem.W.findIn K (.ref CR) "__getattr__" = some none)
    (nR : PySem.W.findIn K (.ref CR) "answer" = some none)
    (kR : PySem.W.keepIn K (.ref CR) = true)
    (bR : PySem.W.subIn K (.ref CR) (.type "BaseException") = some true)
    (tyR : PySem.W.typeIn K (.ref CR) = some (.type "type"))
    (hdR : PySem.W.hasDictIn K CR = true)
    (isR : PySem.W.isClsIn K CR = true)
    (suR : PySem.W.subIn K (.ref CR) (.ref CR) = some true)
    (aR0 : PySem.W.findIn K (.ref CR) "__init__" = some (some (.ref fR0)))
    (tR0 : PySem.W.typeIn K (.ref fR0) = some (.type "function"))
    (lR0 : K.lookup fR0 = some ⟨ocR0, odR0, .func (PySem.W.fnOf "__init__" "Refused.__init__" (defArgs (inClass (top 32) 0)) (defBody (inClass (top 32) 0)) (defScope (inClass (top 32) 0)) .none kVR0 dcR0 pmR0 anR0 cdR0 ctR0), slR0⟩)
    (cR0 : PySem.W.codeIn K cdR0 "Refused.__init__" = true)
    (kR0 : PySem.W.keepIn K (.ref fR0) = true)
    (aF1 : PySem.W.nsIn K mainGlobals "given_out" = some (some (.ref f1)))
    (lF1 : K.lookup f1 = some ⟨ocF1, odF1, .func (PySem.W.fnOf "given_out" "given_out" (defArgs (top 1)) (defBody (top 1)) (defScope (top 1)) .none kVF1 dcF1 pmF1 anF1 cdF1 ctF1), slF1⟩)
    (cF1 : PySem.W.codeIn K cdF1 "given_out" = true)
    (kF1 : PySem.W.keepIn K (.ref f1) = true)
    (aF2 : PySem.W.nsIn K mainGlobals "errors_in" = some (some (.ref f2)))
    (lF2 : K.lookup f2 = some ⟨ocF2, odF2, .func (PySem.W.fnOf "errors_in" "errors_in" (defArgs (top 2)) (defBody (top 2)) (defScope (top 2)) .none kVF2 dcF2 pmF2 anF2 cdF2 ctF2), slF2⟩)
    (cF2 : PySem.W.codeIn K cdF2 "errors_in" = true)
    (kF2 : PySem.W.keepIn K (.ref f2) = true)
    (aF3 : PySem.W.nsIn K mainGlobals "choices" = some (some (.ref f3)))
    (lF3 : K.lookup f3 = some ⟨ocF3, odF3, .func (PySem.W.fnOf "choices" "choices" (defArgs (top 3)) (defBody (top 3)) (defScope (top 3)) .none kVF3 dcF3 pmF3 anF3 cdF3 ctF3), slF3⟩)
    (cF3 : PySem.W.codeIn K cdF3 "choices" = true)
    (kF3 : PySem.W.keepIn K (.ref f3) = true)
    (aF4 : PySem.W.nsIn K mainGlobals "gone_on" = some (some (.ref f4)))
    (lF4 : K.lookup f4 = some ⟨ocF4, odF4, .func (PySem.W.fnOf "gone_on" "gone_on" (defArgs (top 4)) (defBody (top 4)) (defScope (top 4)) .none kVF4 dcF4 pmF4 anF4 cdF4 ctF4), slF4⟩)
    (cF4 : PySem.W.codeIn K cdF4 "gone_on" = true)
    (kF4 : PySem.W.keepIn K (.ref f4) = true)
    (aF5 : PySem.W.nsIn K mainGlobals "possible_plans" = some (some (.ref f5)))
    (lF5 : K.lookup f5 = some ⟨ocF5, odF5, .func (PySem.W.fnOf "possible_plans" "possible_plans" (defArgs (top 5)) (defBody (top 5)) (defScope (top 5)) .none kVF5 dcF5 pmF5 anF5 cdF5 ctF5), slF5⟩)
    (cF5 : PySem.W.codeIn K cdF5 "possible_plans" = true)
    (kF5 : PySem.W.keepIn K (.ref f5) = true)
    (aF6 : PySem.W.nsIn K mainGlobals "first_unfit" = some (some (.ref f6)))
    (lF6 : K.lookup f6 = some ⟨ocF6, odF6, .func (PySem.W.fnOf "first_unfit" "first_unfit" (defArgs (top 6)) (defBody (top 6)) (defScope (top 6)) .none kVF6 dcF6 pmF6 anF6 cdF6 ctF6), slF6⟩)
    (cF6 : PySem.W.codeIn K cdF6 "first_unfit" = true)
    (kF6 : PySem.W.keepIn K (.ref f6) = true)
    (aF7 : PySem.W.nsIn K mainGlobals "first_twice" = some (some (.ref f7)))
    (lF7 : K.lookup f7 = some ⟨ocF7, odF7, .func (PySem.W.fnOf "first_twice" "first_twice" (defArgs (top 7)) (defBody (top 7)) (defScope (top 7)) .none kVF7 dcF7 pmF7 anF7 cdF7 ctF7), slF7⟩)
    (cF7 : PySem.W.codeIn K cdF7 "first_twice" = true)
    (kF7 : PySem.W.keepIn K (.ref f7) = true)
    (aF9 : PySem.W.nsIn K mainGlobals "full_plans" = some (some (.ref f9)))
    (lF9 : K.lookup f9 = some ⟨ocF9, odF9, .func (PySem.W.fnOf "full_plans" "full_plans" (defArgs (top 9)) (defBody (top 9)) (defScope (top 9)) .none kVF9 dcF9 pmF9 anF9 cdF9 ctF9), slF9⟩)
    (cF9 : PySem.W.codeIn K cdF9 "full_plans" = true)
    (kF9 : PySem.W.keepIn K (.ref f9) = true)
    (aF10 : PySem.W.nsIn K mainGlobals "best_plans" = some (some (.ref f10)))
    (lF10 : K.lookup f10 = some ⟨ocF10, odF10, .func (PySem.W.fnOf "best_plans" "best_plans" (defArgs (top 10)) (defBody (top 10)) (defScope (top 10)) .none kVF10 dcF10 pmF10 anF10 cdF10 ctF10), slF10⟩)
    (cF10 : PySem.W.codeIn K cdF10 "best_plans" = true)
    (kF10 : PySem.W.keepIn K (.ref f10) = true)
    (aF11 : PySem.W.nsIn K mainGlobals "things_had" = some (some (.ref f11)))
    (lF11 : K.lookup f11 = some ⟨ocF11, odF11, .func (PySem.W.fnOf "things_had" "things_had" (defArgs (top 11)) (defBody (top 11)) (defScope (top 11)) .none kVF11 dcF11 pmF11 anF11 cdF11 ctF11), slF11⟩)
    (cF11 : PySem.W.codeIn K cdF11 "things_had" = true)
    (kF11 : PySem.W.keepIn K (.ref f11) = true)
    (aF13 : PySem.W.nsIn K mainGlobals "claims_in" = some (some (.ref f13)))
    (lF13 : K.lookup f13 = some ⟨ocF13, odF13, .func (PySem.W.fnOf "claims_in" "claims_in" (defArgs (top 13)) (defBody (top 13)) (defScope (top 13)) .none kVF13 dcF13 pmF13 anF13 cdF13 ctF13), slF13⟩)
    (cF13 : PySem.W.codeIn K cdF13 "claims_in" = true)
    (kF13 : PySem.W.keepIn K (.ref f13) = true)
    (aF14 : PySem.W.nsIn K mainGlobals "fits_one" = some (some (.ref f14)))
    (lF14 : K.lookup f14 = some ⟨ocF14, odF14, .func (PySem.W.fnOf "fits_one" "fits_one" (defArgs (top 14)) (defBody (top 14)) (defScope (top 14)) .none kVF14 dcF14 pmF14 anF14 cdF14 ctF14), slF14⟩)
    (cF14 : PySem.W.codeIn K cdF14 "fits_one" = true)
    (kF14 : PySem.W.keepIn K (.ref f14) = true)
    (aF15 : PySem.W.nsIn K mainGlobals "things_for" = some (some (.ref f15)))
    (lF15 : K.lookup f15 = some ⟨ocF15, odF15, .func (PySem.W.fnOf "things_for" "things_for" (defArgs (top 15)) (defBody (top 15)) (defScope (top 15)) .none kVF15 dcF15 pmF15 anF15 cdF15 ctF15), slF15⟩)
    (cF15 : PySem.W.codeIn K cdF15 "things_for" = true)
    (kF15 : PySem.W.keepIn K (.ref f15) = true)
    (aF16 : PySem.W.nsIn K mainGlobals "short_by" = some (some (.ref f16)))
    (lF16 : K.lookup f16 = some ⟨ocF16, odF16, .func (PySem.W.fnOf "short_by" "short_by" (defArgs (top 16)) (defBody (top 16)) (defScope (top 16)) .none kVF16 dcF16 pmF16 anF16 cdF16 ctF16), slF16⟩)
    (cF16 : PySem.W.codeIn K cdF16 "short_by" = true)
    (kF16 : PySem.W.keepIn K (.ref f16) = true)
    (aF17 : PySem.W.nsIn K mainGlobals "shortest" = some (some (.ref f17)))
    (lF17 : K.lookup f17 = some ⟨ocF17, odF17, .func (PySem.W.fnOf "shortest" "shortest" (defArgs (top 17)) (defBody (top 17)) (defScope (top 17)) .none kVF17 dcF17 pmF17 anF17 cdF17 ctF17), slF17⟩)
    (cF17 : PySem.W.codeIn K cdF17 "shortest" = true)
    (kF17 : PySem.W.keepIn K (.ref f17) = true)
    (aF22 : PySem.W.nsIn K mainGlobals "is_error" = some (some (.ref f22)))
    (lF22 : K.lookup f22 = some ⟨ocF22, odF22, .func (PySem.W.fnOf "is_error" "is_error" (defArgs (top 22)) (defBody (top 22)) (defScope (top 22)) .none kVF22 dcF22 pmF22 anF22 cdF22 ctF22), slF22⟩)
    (cF22 : PySem.W.codeIn K cdF22 "is_error" = true)
    (kF22 : PySem.W.keepIn K (.ref f22) = true)
    (aF23 : PySem.W.nsIn K mainGlobals "errors_about" = some (some (.ref f23)))
    (lF23 : K.lookup f23 = some ⟨ocF23, odF23, .func (PySem.W.fnOf "errors_about" "errors_about" (defArgs (top 23)) (defBody (top 23)) (defScope (top 23)) .none kVF23 dcF23 pmF23 anF23 cdF23 ctF23), slF23⟩)
    (cF23 : PySem.W.codeIn K cdF23 "errors_about" = true)
    (kF23 : PySem.W.keepIn K (.ref f23) = true)
    (aF24 : PySem.W.nsIn K mainGlobals "is_thing" = some (some (.ref f24)))
    (lF24 : K.lookup f24 = some ⟨ocF24, odF24, .func (PySem.W.fnOf "is_thing" "is_thing" (defArgs (top 24)) (defBody (top 24)) (defScope (top 24)) .none kVF24 dcF24 pmF24 anF24 cdF24 ctF24), slF24⟩)
    (cF24 : PySem.W.codeIn K cdF24 "is_thing" = true)
    (kF24 : PySem.W.keepIn K (.ref f24) = true)
    (aF25 : PySem.W.nsIn K mainGlobals "is_claim" = some (some (.ref f25)))
    (lF25 : K.lookup f25 = some ⟨ocF25, odF25, .func (PySem.W.fnOf "is_claim" "is_claim" (defArgs (top 25)) (defBody (top 25)) (defScope (top 25)) .none kVF25 dcF25 pmF25 anF25 cdF25 ctF25), slF25⟩)
    (cF25 : PySem.W.codeIn K cdF25 "is_claim" = true)
    (kF25 : PySem.W.keepIn K (.ref f25) = true)
    (aF33 : PySem.W.nsIn K mainGlobals "need" = some (some (.ref f33)))
    (lF33 : K.lookup f33 = some ⟨ocF33, odF33, .func (PySem.W.fnOf "need" "need" (defArgs (top 33)) (defBody (top 33)) (defScope (top 33)) .none kVF33 dcF33 pmF33 anF33 cdF33 ctF33), slF33⟩)
    (cF33 : PySem.W.codeIn K cdF33 "need" = true)
    (kF33 : PySem.W.keepIn K (.ref f33) = true)
    (aF50 : PySem.W.nsIn K mainGlobals "call_at" = some (some (.ref f50)))
    (lF50 : K.lookup f50 = some ⟨ocF50, odF50, .func (PySem.W.fnOf "call_at" "call_at" (defArgs (top 50)) (defBody (top 50)) (defScope (top 50)) .none kVF50 dcF50 pmF50 anF50 cdF50 ctF50), slF50⟩)
    (cF50 : PySem.W.codeIn K cdF50 "call_at" = true)
    (kF50 : PySem.W.keepIn K (.ref f50) = true)
    (aF51 : PySem.W.nsIn K mainGlobals "deed" = some (some (.ref f51)))
    (lF51 : K.lookup f51 = some ⟨ocF51, odF51, .func (PySem.W.fnOf "deed" "deed" (defArgs (top 51)) (defBody (top 51)) (defScope (top 51)) .none kVF51 dcF51 pmF51 anF51 cdF51 ctF51), slF51⟩)
    (cF51 : PySem.W.codeIn K cdF51 "deed" = true)
    (kF51 : PySem.W.keepIn K (.ref f51) = true)
    (aF52 : PySem.W.nsIn K mainGlobals "outcome" = some (some (.ref f52)))
    (lF52 : K.lookup f52 = some ⟨ocF52, odF52, .func (PySem.W.fnOf "outcome" "outcome" (defArgs (top 52)) (defBody (top 52)) (defScope (top 52)) .none kVF52 dcF52 pmF52 anF52 cdF52 ctF52), slF52⟩)
    (cF52 : PySem.W.codeIn K cdF52 "outcome" = true)
    (kF52 : PySem.W.keepIn K (.ref f52) = true)
    (aM35_0 : PySem.W.findIn K (.ref CS) "__init__" = some (some (.ref g35_0)))
    (iM35_0 : PySem.W.isFn K (.ref g35_0) = true)
    (lM35_0 : K.lookup g35_0 = some ⟨ocM35_0, odM35_0, .func (PySem.W.fnOf "__init__" "Store.__init__" (defArgs (inClass (top 35) 0)) (defBody (inClass (top 35) 0)) (defScope (inClass (top 35) 0)) .none kVM35_0 dcM35_0 pmM35_0 anM35_0 cdM35_0 ctM35_0), slM35_0⟩)
    (cM35_0 : PySem.W.codeIn K cdM35_0 "Store.__init__" = true)
    (kM35_0 : PySem.W.keepIn K (.ref g35_0) = true)
    (aM35_1 : PySem.W.findIn K (.ref CS) "many_things" = some (some (.ref g35_1)))
    (iM35_1 : PySem.W.isFn K (.ref g35_1) = true)
    (lM35_1 : K.lookup g35_1 = some ⟨ocM35_1, odM35_1, .func (PySem.W.fnOf "many_things" "Store.many_things" (defArgs (inClass (top 35) 1)) (defBody (inClass (top 35) 1)) (defScope (inClass (top 35) 1)) .none kVM35_1 dcM35_1 pmM35_1 anM35_1 cdM35_1 ctM35_1), slM35_1⟩)
    (cM35_1 : PySem.W.codeIn K cdM35_1 "Store.many_things" = true)
    (kM35_1 : PySem.W.keepIn K (.ref g35_1) = true)
    (aM35_2 : PySem.W.findIn K (.ref CS) "many_claims" = some (some (.ref g35_2)))
    (iM35_2 : PySem.W.isFn K (.ref g35_2) = true)
    (lM35_2 : K.lookup g35_2 = some ⟨ocM35_2, odM35_2, .func (PySem.W.fnOf "many_claims" "Store.many_claims" (defArgs (inClass (top 35) 2)) (defBody (inClass (top 35) 2)) (defScope (inClass (top 35) 2)) .none kVM35_2 dcM35_2 pmM35_2 anM35_2 cdM35_2 ctM35_2), slM35_2⟩)
    (cM35_2 : PySem.W.codeIn K cdM35_2 "Store.many_claims" = true)
    (kM35_2 : PySem.W.keepIn K (.ref g35_2) = true)
    (aM35_3 : PySem.W.findIn K (.ref CS) "errors" = some (some (.ref g35_3)))
    (iM35_3 : PySem.W.isFn K (.ref g35_3) = true)
    (lM35_3 : K.lookup g35_3 = some ⟨ocM35_3, odM35_3, .func (PySem.W.fnOf "errors" "Store.errors" (defArgs (inClass (top 35) 3)) (defBody (inClass (top 35) 3)) (defScope (inClass (top 35) 3)) .none kVM35_3 dcM35_3 pmM35_3 anM35_3 cdM35_3 ctM35_3), slM35_3⟩)
    (cM35_3 : PySem.W.codeIn K cdM35_3 "Store.errors" = true)
    (kM35_3 : PySem.W.keepIn K (.ref g35_3) = true)
    (aM35_4 : PySem.W.findIn K (.ref CS) "fits" = some (some (.ref g35_4)))
    (iM35_4 : PySem.W.isFn K (.ref g35_4) = true)
    (lM35_4 : K.lookup g35_4 = some ⟨ocM35_4, odM35_4, .func (PySem.W.fnOf "fits" "Store.fits" (defArgs (inClass (top 35) 4)) (defBody (inClass (top 35) 4)) (defScope (inClass (top 35) 4)) .none kVM35_4 dcM35_4 pmM35_4 anM35_4 cdM35_4 ctM35_4), slM35_4⟩)
    (cM35_4 : PySem.W.codeIn K cdM35_4 "Store.fits" = true)
    (kM35_4 : PySem.W.keepIn K (.ref g35_4) = true)
    (aM35_5 : PySem.W.findIn K (.ref CS) "fitting" = some (some (.ref g35_5)))
    (iM35_5 : PySem.W.isFn K (.ref g35_5) = true)
    (lM35_5 : K.lookup g35_5 = some ⟨ocM35_5, odM35_5, .func (PySem.W.fnOf "fitting" "Store.fitting" (defArgs (inClass (top 35) 5)) (defBody (inClass (top 35) 5)) (defScope (inClass (top 35) 5)) .none kVM35_5 dcM35_5 pmM35_5 anM35_5 cdM35_5 ctM35_5), slM35_5⟩)
    (cM35_5 : PySem.W.codeIn K cdM35_5 "Store.fitting" = true)
    (kM35_5 : PySem.W.keepIn K (.ref g35_5) = true)
    (aM35_6 : PySem.W.findIn K (.ref CS) "is_none" = some (some (.ref g35_6)))
    (iM35_6 : PySem.W.isFn K (.ref g35_6) = true)
    (lM35_6 : K.lookup g35_6 = some ⟨ocM35_6, odM35_6, .func (PySem.W.fnOf "is_none" "Store.is_none" (defArgs (inClass (top 35) 6)) (defBody (inClass (top 35) 6)) (defScope (inClass (top 35) 6)) .none kVM35_6 dcM35_6 pmM35_6 anM35_6 cdM35_6 ctM35_6), slM35_6⟩)
    (cM35_6 : PySem.W.codeIn K cdM35_6 "Store.is_none" = true)
    (kM35_6 : PySem.W.keepIn K (.ref g35_6) = true)
    (aM40_0 : PySem.W.findIn K (.ref CD) "__init__" = some (some (.ref g40_0)))
    (iM40_0 : PySem.W.isFn K (.ref g40_0) = true)
    (lM40_0 : K.lookup g40_0 = some ⟨ocM40_0, odM40_0, .func (PySem.W.fnOf "__init__" "Desk.__init__" (defArgs (inClass (top 40) 0)) (defBody (inClass (top 40) 0)) (defScope (inClass (top 40) 0)) .none kVM40_0 dcM40_0 pmM40_0 anM40_0 cdM40_0 ctM40_0), slM40_0⟩)
    (cM40_0 : PySem.W.codeIn K cdM40_0 "Desk.__init__" = true)
    (kM40_0 : PySem.W.keepIn K (.ref g40_0) = true)
    (aM40_1 : PySem.W.findIn K (.ref CD) "begins" = some (some (.ref g40_1)))
    (iM40_1 : PySem.W.isFn K (.ref g40_1) = true)
    (lM40_1 : K.lookup g40_1 = some ⟨ocM40_1, odM40_1, .func (PySem.W.fnOf "begins" "Desk.begins" (defArgs (inClass (top 40) 1)) (defBody (inClass (top 40) 1)) (defScope (inClass (top 40) 1)) .none kVM40_1 dcM40_1 pmM40_1 anM40_1 cdM40_1 ctM40_1), slM40_1⟩)
    (cM40_1 : PySem.W.codeIn K cdM40_1 "Desk.begins" = true)
    (kM40_1 : PySem.W.keepIn K (.ref g40_1) = true)
    (aM40_2 : PySem.W.findIn K (.ref CD) "thing" = some (some (.ref g40_2)))
    (iM40_2 : PySem.W.isFn K (.ref g40_2) = true)
    (lM40_2 : K.lookup g40_2 = some ⟨ocM40_2, odM40_2, .func (PySem.W.fnOf "thing" "Desk.thing" (defArgs (inClass (top 40) 2)) (defBody (inClass (top 40) 2)) (defScope (inClass (top 40) 2)) .none kVM40_2 dcM40_2 pmM40_2 anM40_2 cdM40_2 ctM40_2), slM40_2⟩)
    (cM40_2 : PySem.W.codeIn K cdM40_2 "Desk.thing" = true)
    (kM40_2 : PySem.W.keepIn K (.ref g40_2) = true)
    (aM40_3 : PySem.W.findIn K (.ref CD) "claim" = some (some (.ref g40_3)))
    (iM40_3 : PySem.W.isFn K (.ref g40_3) = true)
    (lM40_3 : K.lookup g40_3 = some ⟨ocM40_3, odM40_3, .func (PySem.W.fnOf "claim" "Desk.claim" (defArgs (inClass (top 40) 3)) (defBody (inClass (top 40) 3)) (defScope (inClass (top 40) 3)) .none kVM40_3 dcM40_3 pmM40_3 anM40_3 cdM40_3 ctM40_3), slM40_3⟩)
    (cM40_3 : PySem.W.codeIn K cdM40_3 "Desk.claim" = true)
    (kM40_3 : PySem.W.keepIn K (.ref g40_3) = true)
    (aM40_4 : PySem.W.findIn K (.ref CD) "need_claim" = some (some (.ref g40_4)))
    (iM40_4 : PySem.W.isFn K (.ref g40_4) = true)
    (lM40_4 : K.lookup g40_4 = some ⟨ocM40_4, odM40_4, .func (PySem.W.fnOf "need_claim" "Desk.need_claim" (defArgs (inClass (top 40) 4)) (defBody (inClass (top 40) 4)) (defScope (inClass (top 40) 4)) .none kVM40_4 dcM40_4 pmM40_4 anM40_4 cdM40_4 ctM40_4), slM40_4⟩)
    (cM40_4 : PySem.W.codeIn K cdM40_4 "Desk.need_claim" = true)
    (kM40_4 : PySem.W.keepIn K (.ref g40_4) = true)
    (aM40_5 : PySem.W.findIn K (.ref CD) "fits" = some (some (.ref g40_5)))
    (iM40_5 : PySem.W.isFn K (.ref g40_5) = true)
    (lM40_5 : K.lookup g40_5 = some ⟨ocM40_5, odM40_5, .func (PySem.W.fnOf "fits" "Desk.fits" (defArgs (inClass (top 40) 5)) (defBody (inClass (top 40) 5)) (defScope (inClass (top 40) 5)) .none kVM40_5 dcM40_5 pmM40_5 anM40_5 cdM40_5 ctM40_5), slM40_5⟩)
    (cM40_5 : PySem.W.codeIn K cdM40_5 "Desk.fits" = true)
    (kM40_5 : PySem.W.keepIn K (.ref g40_5) = true)
    (aM40_6 : PySem.W.findIn K (.ref CD) "need_plan" = some (some (.ref g40_6)))
    (iM40_6 : PySem.W.isFn K (.ref g40_6) = true)
    (lM40_6 : K.lookup g40_6 = some ⟨ocM40_6, odM40_6, .func (PySem.W.fnOf "need_plan" "Desk.need_plan" (defArgs (inClass (top 40) 6)) (defBody (inClass (top 40) 6)) (defScope (inClass (top 40) 6)) .none kVM40_6 dcM40_6 pmM40_6 anM40_6 cdM40_6 ctM40_6), slM40_6⟩)
    (cM40_6 : PySem.W.codeIn K cdM40_6 "Desk.need_plan" = true)
    (kM40_6 : PySem.W.keepIn K (.ref g40_6) = true)
    (aM40_7 : PySem.W.findIn K (.ref CD) "check" = some (some (.ref g40_7)))
    (iM40_7 : PySem.W.isFn K (.ref g40_7) = true)
    (lM40_7 : K.lookup g40_7 = some ⟨ocM40_7, odM40_7, .func (PySem.W.fnOf "check" "Desk.check" (defArgs (inClass (top 40) 7)) (defBody (inClass (top 40) 7)) (defScope (inClass (top 40) 7)) .none kVM40_7 dcM40_7 pmM40_7 anM40_7 cdM40_7 ctM40_7), slM40_7⟩)
    (cM40_7 : PySem.W.codeIn K cdM40_7 "Desk.check" = true)
    (kM40_7 : PySem.W.keepIn K (.ref g40_7) = true)
    (aM40_8 : PySem.W.findIn K (.ref CD) "best" = some (some (.ref g40_8)))
    (iM40_8 : PySem.W.isFn K (.ref g40_8) = true)
    (lM40_8 : K.lookup g40_8 = some ⟨ocM40_8, odM40_8, .func (PySem.W.fnOf "best" "Desk.best" (defArgs (inClass (top 40) 8)) (defBody (inClass (top 40) 8)) (defScope (inClass (top 40) 8)) .none kVM40_8 dcM40_8 pmM40_8 anM40_8 cdM40_8 ctM40_8), slM40_8⟩)
    (cM40_8 : PySem.W.codeIn K cdM40_8 "Desk.best" = true)
    (kM40_8 : PySem.W.keepIn K (.ref g40_8) = true)
    (aM40_9 : PySem.W.findIn K (.ref CD) "has" = some (some (.ref g40_9)))
    (iM40_9 : PySem.W.isFn K (.ref g40_9) = true)
    (lM40_9 : K.lookup g40_9 = some ⟨ocM40_9, odM40_9, .func (PySem.W.fnOf "has" "Desk.has" (defArgs (inClass (top 40) 9)) (defBody (inClass (top 40) 9)) (defScope (inClass (top 40) 9)) .none kVM40_9 dcM40_9 pmM40_9 anM40_9 cdM40_9 ctM40_9), slM40_9⟩)
    (cM40_9 : PySem.W.codeIn K cdM40_9 "Desk.has" = true)
    (kM40_9 : PySem.W.keepIn K (.ref g40_9) = true)
    (aM40_10 : PySem.W.findIn K (.ref CD) "why" = some (some (.ref g40_10)))
    (iM40_10 : PySem.W.isFn K (.ref g40_10) = true)
    (lM40_10 : K.lookup g40_10 = some ⟨ocM40_10, odM40_10, .func (PySem.W.fnOf "why" "Desk.why" (defArgs (inClass (top 40) 10)) (defBody (inClass (top 40) 10)) (defScope (inClass (top 40) 10)) .none kVM40_10 dcM40_10 pmM40_10 anM40_10 cdM40_10 ctM40_10), slM40_10⟩)
    (cM40_10 : PySem.W.codeIn K cdM40_10 "Desk.why" = true)
    (kM40_10 : PySem.W.keepIn K (.ref g40_10) = true)
    (aM49_0 : PySem.W.findIn K (.ref CC) "__init__" = some (some (.ref g49_0)))
    (iM49_0 : PySem.W.isFn K (.ref g49_0) = true)
    (lM49_0 : K.lookup g49_0 = some ⟨ocM49_0, odM49_0, .func (PySem.W.fnOf "__init__" "Call.__init__" (defArgs (inClass (top 49) 0)) (defBody (inClass (top 49) 0)) (defScope (inClass (top 49) 0)) .none kVM49_0 dcM49_0 pmM49_0 anM49_0 cdM49_0 ctM49_0), slM49_0⟩)
    (cM49_0 : PySem.W.codeIn K cdM49_0 "Call.__init__" = true)
    (kM49_0 : PySem.W.keepIn K (.ref g49_0) = true)
    (hkFeatures : PySem.W.nsIn K mainGlobals "FEATURES" = some (some (.int (4) tkFeatures)))
    (hkMostValue : PySem.W.nsIn K mainGlobals "MOST_VALUE" = some (some (.int (9) tkMostValue)))
    (hkLeftOut : PySem.W.nsIn K mainGlobals "LEFT_OUT" = some (some (.int (10) tkLeftOut)))
    (hkTooGreat : PySem.W.nsIn K mainGlobals "TOO_GREAT" = some (some (.int (-1) tkTooGreat)))
    (hkUnknown : PySem.W.nsIn K mainGlobals "UNKNOWN" = some (some (.int (-2) tkUnknown)))
    (hkTooMany : PySem.W.nsIn K mainGlobals "TOO_MANY" = some (some (.int (-5) tkTooMany)))
    (hkUnfit : PySem.W.nsIn K mainGlobals "UNFIT" = some (some (.int (-6) tkUnfit)))
    (hkTwice : PySem.W.nsIn K mainGlobals "TWICE" = some (some (.int (-7) tkTwice)))
    (hkMostThings : PySem.W.nsIn K mainGlobals "MOST_THINGS" = some (some (.int (5) tkMostThings)))
    (hkMostClaims : PySem.W.nsIn K mainGlobals "MOST_CLAIMS" = some (some (.int (5) tkMostClaims)))
    (hkBegins : PySem.W.nsIn K mainGlobals "BEGINS" = some (some (.int (0) tkBegins)))
    (hkThing : PySem.W.nsIn K mainGlobals "THING" = some (some (.int (1) tkThing)))
    (hkClaim : PySem.W.nsIn K mainGlobals "CLAIM" = some (some (.int (2) tkClaim)))
    (hkFits : PySem.W.nsIn K mainGlobals "FITS" = some (some (.int (3) tkFits)))
    (hkCheck : PySem.W.nsIn K mainGlobals "CHECK" = some (some (.int (4) tkCheck)))
    (hkBest : PySem.W.nsIn K mainGlobals "BEST" = some (some (.int (5) tkBest)))
    (hkHas : PySem.W.nsIn K mainGlobals "HAS" = some (some (.int (6) tkHas)))
    (hbLen : PySem.W.nsIn K mainGlobals "len" = some none)
    (hbRange : PySem.W.nsIn K mainGlobals "range" = some none)
    (hbMax : PySem.W.nsIn K mainGlobals "max" = some none)
    (hbMin : PySem.W.nsIn K mainGlobals "min" = some none)
    (hbAll : PySem.W.nsIn K mainGlobals "all" = some none)
    (hbAny : PySem.W.nsIn K mainGlobals "any" = some none)
    (hbList : PySem.W.nsIn K mainGlobals "list" = some none)
    (aA : PySem.W.nsIn K mainGlobals "answers" = some (some (.ref fA)))
    (lA : K.lookup fA = some ⟨ocA, odA, .func (PySem.W.fnOf "answers" "answers" (defArgs (top 53)) (defBody (top 53)) (defScope (top 53)) .none kVA dcA pmA anA cdA ctA), slA⟩)
    (cA : PySem.W.codeIn K cdA "answers" = true)
    (kA : PySem.W.keepIn K (.ref fA) = true)
    : ∃ fd : FuncData, (∀ (s : Shared) (us : List Value), us.length = (["calls"] : List Str).length → BindsTo s fd ⟨us, []⟩ ((["calls"] : List Str).zip us)) ∧ ∀ base : Heap, K.In base → base.Ns mainGlobals mg → FnOk P w K mg base CX0 14 fa fd ["calls"] (spAns K) := by
  have e := hfa.symm.trans (PySem.W.mg_of X G aA)
  cases e
  have T : Txt K mg CR CS CD CC := { nSw := nSw, nSt := nSt, nSc := nSc, nDs := nDs, nCw := nCw, nCp := nCp, nCb := nCb, nR := nR, iR := ⟨fR0, aR0, tR0, _, fun_mk (st := inClass (top 32) 0) lR0 cR0 kR0⟩, tGivenOut := ⟨f1, _, PySem.W.mg_of X G aF1, fun_mk (st := top 1) lF1 cF1 kF1⟩, tErrorsIn := ⟨f2, _, PySem.W.mg_of X G aF2, fun_mk (st := top 2) lF2 cF2 kF2⟩, tChoices := ⟨f3, _, PySem.W.mg_of X G aF3, fun_mk (st := top 3) lF3 cF3 kF3⟩, tGoneOn := ⟨f4, _, PySem.W.mg_of X G aF4, fun_mk (st := top 4) lF4 cF4 kF4⟩, tPossible := ⟨f5, _, PySem.W.mg_of X G aF5, fun_mk (st := top 5) lF5 cF5 kF5⟩, tUnfit := ⟨f6, _, PySem.W.mg_of X G aF6, fun_mk (st := top 6) lF6 cF6 kF6⟩, tTwice := ⟨f7, _, PySem.W.mg_of X G aF7, fun_mk (st := top 7) lF7 cF7 kF7⟩, tFull := ⟨f9, _, PySem.W.mg_of X G aF9, fun_mk (st := top 9) lF9 cF9 kF9⟩, tBest := ⟨f10, _, PySem.W.mg_of X G aF10, fun_mk (st := top 10) lF10 cF10 kF10⟩, tHad := ⟨f11, _, PySem.W.mg_of X G aF11, fun_mk (st := top 11) lF11 cF11 kF11⟩, tClaimsIn := ⟨f13, _, PySem.W.mg_of X G aF13, fun_mk (st := top 13) lF13 cF13 kF13⟩, tFitsOne := ⟨f14, _, PySem.W.mg_of X G aF14, fun_mk (st := top 14) lF14 cF14 kF14⟩, tThingsFor := ⟨f15, _, PySem.W.mg_of X G aF15, fun_mk (st := top 15) lF15 cF15 kF15⟩, tShortBy := ⟨f16, _, PySem.W.mg_of X G aF16, fun_mk (st := top 16) lF16 cF16 kF16⟩, tShortest := ⟨f17, _, PySem.W.mg_of X G aF17, fun_mk (st := top 17) lF17 cF17 kF17⟩, tIsError := ⟨f22, _, PySem.W.mg_of X G aF22, fun_mk (st := top 22) lF22 cF22 kF22⟩, tErrorsAbout := ⟨f23, _, PySem.W.mg_of X G aF23, fun_mk (st := top 23) lF23 cF23 kF23⟩, tIsThing := ⟨f24, _, PySem.W.mg_of X G aF24, fun_mk (st := top 24) lF24 cF24 kF24⟩, tIsClaim := ⟨f25, _, PySem.W.mg_of X G aF25, fun_mk (st := top 25) lF25 cF25 kF25⟩, tNeed := ⟨f33, _, PySem.W.mg_of X G aF33, fun_mk (st := top 33) lF33 cF33 kF33⟩, tCallAt := ⟨f50, _, PySem.W.mg_of X G aF50, fun_mk (st := top 50) lF50 cF50 kF50⟩, tDeed := ⟨f51, _, PySem.W.mg_of X G aF51, fun_mk (st := top 51) lF51 cF51 kF51⟩, tOutcome := ⟨f52, _, PySem.W.mg_of X G aF52, fun_mk (st := top 52) lF52 cF52 kF52⟩, sInit := ⟨g35_0, _, aM35_0, iM35_0, fun_mk (st := inClass (top 35) 0) lM35_0 cM35_0 kM35_0⟩, sThings := ⟨g35_1, _, aM35_1, iM35_1, fun_mk (st := inClass (top 35) 1) lM35_1 cM35_1 kM35_1⟩, sClaims := ⟨g35_2, _, aM35_2, iM35_2, fun_mk (st := inClass (top 35) 2) lM35_2 cM35_2 kM35_2⟩, sErrors := ⟨g35_3, _, aM35_3, iM35_3, fun_mk (st := inClass (top 35) 3) lM35_3 cM35_3 kM35_3⟩, sFits := ⟨g35_4, _, aM35_4, iM35_4, fun_mk (st := inClass (top 35) 4) lM35_4 cM35_4 kM35_4⟩, sFitting := ⟨g35_5, _, aM35_5, iM35_5, fun_mk (st := inClass (top 35) 5) lM35_5 cM35_5 kM35_5⟩, sIsNone := ⟨g35_6, _, aM35_6, iM35_6, fun_mk (st := inClass (top 35) 6) lM35_6 cM35_6 kM35_6⟩, dInit := ⟨g40_0, _, aM40_0, iM40_0, fun_mk (st := inClass (top 40) 0) lM40_0 cM40_0 kM40_0⟩, dBegins := ⟨g40_1, _, aM40_1, iM40_1, fun_mk (st := inClass (top 40) 1) lM40_1 cM40_1 kM40_1⟩, dThing := ⟨g40_2, _, aM40_2, iM40_2, fun_mk (st := inClass (top 40) 2) lM40_2 cM40_2 kM40_2⟩, dClaim := ⟨g40_3, _, aM40_3, iM40_3, fun_mk (st := inClass (top 40) 3) lM40_3 cM40_3 kM40_3⟩, dNeedClaim := ⟨g40_4, _, aM40_4, iM40_4, fun_mk (st := inClass (top 40) 4) lM40_4 cM40_4 kM40_4⟩, dFits := ⟨g40_5, _, aM40_5, iM40_5, fun_mk (st := inClass (top 40) 5) lM40_5 cM40_5 kM40_5⟩, dNeedPlan := ⟨g40_6, _, aM40_6, iM40_6, fun_mk (st := inClass (top 40) 6) lM40_6 cM40_6 kM40_6⟩, dCheck := ⟨g40_7, _, aM40_7, iM40_7, fun_mk (st := inClass (top 40) 7) lM40_7 cM40_7 kM40_7⟩, dBest := ⟨g40_8, _, aM40_8, iM40_8, fun_mk (st := inClass (top 40) 8) lM40_8 cM40_8 kM40_8⟩, dHas := ⟨g40_9, _, aM40_9, iM40_9, fun_mk (st := inClass (top 40) 9) lM40_9 cM40_9 kM40_9⟩, dWhy := ⟨g40_10, _, aM40_10, iM40_10, fun_mk (st := inClass (top 40) 10) lM40_10 cM40_10 kM40_10⟩, cInit := ⟨g49_0, _, aM49_0, iM49_0, fun_mk (st := inClass (top 49) 0) lM49_0 cM49_0 kM49_0⟩, kFeatures := ⟨_, PySem.W.mg_of X G hkFeatures⟩, kMostValue := ⟨_, PySem.W.mg_of X G hkMostValue⟩, kLeftOut := ⟨_, PySem.W.mg_of X G hkLeftOut⟩, kTooGreat := ⟨_, PySem.W.mg_of X G hkTooGreat⟩, kUnknown := ⟨_, PySem.W.mg_of X G hkUnknown⟩, kTooMany := ⟨_, PySem.W.mg_of X G hkTooMany⟩, kUnfit := ⟨_, PySem.W.mg_of X G hkUnfit⟩, kTwice := ⟨_, PySem.W.mg_of X G hkTwice⟩, kMostThings := ⟨_, PySem.W.mg_of X G hkMostThings⟩, kMostClaims := ⟨_, PySem.W.mg_of X G hkMostClaims⟩, kBegins := ⟨_, PySem.W.mg_of X G hkBegins⟩, kThing := ⟨_, PySem.W.mg_of X G hkThing⟩, kClaim := ⟨_, PySem.W.mg_of X G hkClaim⟩, kFits := ⟨_, PySem.W.mg_of X G hkFits⟩, kCheck := ⟨_, PySem.W.mg_of X G hkCheck⟩, kBest := ⟨_, PySem.W.mg_of X G hkBest⟩, kHas := ⟨_, PySem.W.mg_of X G hkHas⟩, bLen := PySem.W.mg_none_of X G hbLen, bRange := PySem.W.mg_none_of X G hbRange, bMax := PySem.W.mg_none_of X G hbMax, bMin := PySem.W.mg_none_of X G hbMin, bAll := PySem.W.mg_none_of X G hbAll, bAny := PySem.W.mg_none_of X G hbAny, bList := PySem.W.mg_none_of X G hbList, cS := ⟨pgCS, hdCS, poCS, saCS⟩, cD := ⟨pgCD, hdCD, poCD, saCD⟩, cC := ⟨pgCC, hdCC, poCC, saCC⟩, gS := PySem.W.mg_of X G gCS, mS := mkCS, kS := kcCS, gD := PySem.W.mg_of X G gCD, mD := mkCD, kD := kcCD, gC := PySem.W.mg_of X G gCC, mC := mkCC, kC := kcCC, gR := PySem.W.mg_of X G gCR, oR := ⟨⟨_, _, _, _, _, _, _, _, _, _, _, _, _, _, _, xR, by decide +kernel⟩, saR, bR, tyR, kR⟩, xR := ⟨gaR, ggR, bR, hdR⟩, eR := exm_self bR isR tyR suR, kMostWrong := hW }
  have FA := fun_mk (st := top 53) lA cA kA
  exact ⟨_, fun s us hu => match us, hu with | [_], _ => .of_eq rfl, fun base _ _ => ok_answers FA T⟩
end My
open PySem PySem.W PyProof.Rows
set_option maxRecDepth 100000 in
set_option maxHeartbeats 8000000 in
theorem PySem.Challenge.cw_lostthings_s01_answers_holds : PySem.Challenge.rw_lostthings_s01_answers.Holds := by
  w_on; k_headS; (case hw => exact ⟨[.list [.int 5, .int 0, .int 0]], by decide +kernel, by decide +kernel⟩)
  k_fillS
  refine My.walk_more (L2.walk_specK (r := PySem.Challenge.rw_lostthings_s01_answers) (k := 14) (CX := L2.CX0) (ps := ["calls"]) (sp := My.spAns) (by decide +kernel) rfl rfl ⟨rfl, by decide, by decide⟩ (fun w h Y => PySem.W.kIn_of Y.1) ?F ?S (fun _ _ _ _ z => z))
  case F =>
    intro w mg fa h Y KX G hmg
    refine' My.all_mk KX G hmg (My.loose_int Y.2 G) ?gCR ?gCS ?gCD ?gCC ?pgCS ?hdCS ?poCS ?saCS ?mkCS ?kcCS ?pgCD ?hdCD ?poCD ?saCD ?mkCD ?kcCD ?pgCC ?hdCC ?poCC ?saCC ?mkCC ?kcCC ?nSw ?nSt ?nSc ?nDs ?nCw ?nCp ?nCb ?xR ?saR ?gaR ?ggR ?nR ?kR ?bR ?tyR ?hdR ?isR ?suR ?aR0 ?tR0 ?lR0 ?cR0 ?kR0 ?aF1 ?lF1 ?cF1 ?kF1 ?aF2 ?lF2 ?cF2 ?kF2 ?aF3 ?lF3 ?cF3 ?kF3 ?aF4 ?lF4 ?cF4 ?kF4 ?aF5 ?lF5 ?cF5 ?kF5 ?aF6 ?lF6 ?cF6 ?kF6 ?aF7 ?lF7 ?cF7 ?kF7 ?aF9 ?lF9 ?cF9 ?kF9 ?aF10 ?lF10 ?cF10 ?kF10 ?aF11 ?lF11 ?cF11 ?kF11 ?aF13 ?lF13 ?cF13 ?kF13 ?aF14 ?lF14 ?cF14 ?kF14 ?aF15 ?lF15 ?cF15 ?kF15 ?aF16 ?lF16 ?cF16 ?kF16 ?aF17 ?lF17 ?cF17 ?kF17 ?aF22 ?lF22 ?cF22 ?kF22 ?aF23 ?lF23 ?cF23 ?kF23 ?aF24 ?lF24 ?cF24 ?kF24 ?aF25 ?lF25 ?cF25 ?kF25 ?aF33 ?lF33 ?cF33 ?kF33 ?aF50 ?lF50 ?cF50 ?kF50 ?aF51 ?lF51 ?cF51 ?kF51 ?aF52 ?lF52 ?cF52 ?kF52 ?aM35_0 ?iM35_0 ?lM35_0 ?cM35_0 ?kM35_0 ?aM35_1 ?iM35_1 ?lM35_1 ?cM35_1 ?kM35_1 ?aM35_2 ?iM35_2 ?lM35_2 ?cM35_2 ?kM35_2 ?aM35_3 ?iM35_3 ?lM35_3 ?cM35_3 ?kM35_3 ?aM35_4 ?iM35_4 ?lM35_4 ?cM35_4 ?kM35_4 ?aM35_5 ?iM35_5 ?lM35_5 ?cM35_5 ?kM35_5 ?aM35_6 ?iM35_6 ?lM35_6 ?cM35_6 ?kM35_6 ?aM40_0 ?iM40_0 ?lM40_0 ?cM40_0 ?kM40_0 ?aM40_1 ?iM40_1 ?lM40_1 ?cM40_1 ?kM40_1 ?aM40_2 ?iM40_2 ?lM40_2 ?cM40_2 ?kM40_2 ?aM40_3 ?iM40_3 ?lM40_3 ?cM40_3 ?kM40_3 ?aM40_4 ?iM40_4 ?lM40_4 ?cM40_4 ?kM40_4 ?aM40_5 ?iM40_5 ?lM40_5 ?cM40_5 ?kM40_5 ?aM40_6 ?iM40_6 ?lM40_6 ?cM40_6 ?kM40_6 ?aM40_7 ?iM40_7 ?lM40_7 ?cM40_7 ?kM40_7 ?aM40_8 ?iM40_8 ?lM40_8 ?cM40_8 ?kM40_8 ?aM40_9 ?iM40_9 ?lM40_9 ?cM40_9 ?kM40_9 ?aM40_10 ?iM40_10 ?lM40_10 ?cM40_10 ?kM40_10 ?aM49_0 ?iM49_0 ?lM49_0 ?cM49_0 ?kM49_0 ?hkFeatures ?hkMostValue ?hkLeftOut ?hkTooGreat ?hkUnknown ?hkTooMany ?hkUnfit ?hkTwice ?hkMostThings ?hkMostClaims ?hkBegins ?hkThing ?hkClaim ?hkFits ?hkCheck ?hkBest ?hkHas ?hbLen ?hbRange ?hbMax ?hbMin ?hbAll ?hbAny ?hbList ?aA ?lA ?cA ?kA
    (case gCR => k_is)
    (case gCS => k_is)
    (case gCD => k_is)
    (case gCC => k_is)
    (case pgCS => k_is)
    (case hdCS => k_is)
    (case poCS => k_is)
    (case saCS => k_is)
    (case mkCS => k_is)
    (case kcCS => k_is)
    (case pgCD => k_is)
    (case hdCD => k_is)
    (case poCD => k_is)
    (case saCD => k_is)
    (case mkCD => k_is)
    (case kcCD => k_is)
    (case pgCC => k_is)
    (case hdCC => k_is)
    (case poCC => k_is)
    (case saCC => k_is)
    (case mkCC => k_is)
    (case kcCC => k_is)
    (case nSw => k_is)
    (case nSt => k_is)
    (case nSc => k_is)
    (case nDs => k_is)
    (case nCw => k_is)
    (case nCp => k_is)
    (case nCb => k_is)
    (case xR => k_is)
    (case saR => k_is)
    (case gaR => k_is)
    (case ggR => k_is)
    (case nR => k_is)
    (case kR => k_is)
    (case bR => k_is)
    (case tyR => k_is)
    (case hdR => k_is)
    (case isR => k_is)
    (case suR => first | rfl | k_is)
    (case aR0 => k_is)
    (case tR0 => k_is)
    (case lR0 => k_is)
    (case cR0 => k_is)
    (case kR0 => k_is)
    (case aF1 => k_is)
    (case lF1 => k_is)
    (case cF1 => k_is)
    (case kF1 => k_is)
    (case aF2 => k_is)
    (case lF2 => k_is)
    (case cF2 => k_is)
    (case kF2 => k_is)
    (case aF3 => k_is)
    (case lF3 => k_is)
    (case cF3 => k_is)
    (case kF3 => k_is)
    (case aF4 => k_is)
    (case lF4 => k_is)
    (case cF4 => k_is)
    (case kF4 => k_is)
    (case aF5 => k_is)
    (case lF5 => k_is)
    (case cF5 => k_is)
    (case kF5 => k_is)
    (case aF6 => k_is)
    (case lF6 => k_is)
    (case cF6 => k_is)
    (case kF6 => k_is)
    (case aF7 => k_is)
    (case lF7 => k_is)
    (case cF7 => k_is)
    (case kF7 => k_is)
    (case aF9 => k_is)
    (case lF9 => k_is)
    (case cF9 => k_is)
    (case kF9 => k_is)
    (case aF10 => k_is)
    (case lF10 => k_is)
    (case cF10 => k_is)
    (case kF10 => k_is)
    (case aF11 => k_is)
    (case lF11 => k_is)
    (case cF11 => k_is)
    (case kF11 => k_is)
    (case aF13 => k_is)
    (case lF13 => k_is)
    (case cF13 => k_is)
    (case kF13 => k_is)
    (case aF14 => k_is)
    (case lF14 => k_is)
    (case cF14 => k_is)
    (case kF14 => k_is)
    (case aF15 => k_is)
    (case lF15 => k_is)
    (case cF15 => k_is)
    (case kF15 => k_is)
    (case aF16 => k_is)
    (case lF16 => k_is)
    (case cF16 => k_is)
    (case kF16 => k_is)
    (case aF17 => k_is)
    (case lF17 => k_is)
    (case cF17 => k_is)
    (case kF17 => k_is)
    (case aF22 => k_is)
    (case lF22 => k_is)
    (case cF22 => k_is)
    (case kF22 => k_is)
    (case aF23 => k_is)
    (case lF23 => k_is)
    (case cF23 => k_is)
    (case kF23 => k_is)
    (case aF24 => k_is)
    (case lF24 => k_is)
    (case cF24 => k_is)
    (case kF24 => k_is)
    (case aF25 => k_is)
    (case lF25 => k_is)
    (case cF25 => k_is)
    (case kF25 => k_is)
    (case aF33 => k_is)
    (case lF33 => k_is)
    (case cF33 => k_is)
    (case kF33 => k_is)
    (case aF50 => k_is)
    (case lF50 => k_is)
    (case cF50 => k_is)
    (case kF50 => k_is)
    (case aF51 => k_is)
    (case lF51 => k_is)
    (case cF51 => k_is)
    (case kF51 => k_is)
    (case aF52 => k_is)
    (case lF52 => k_is)
    (case cF52 => k_is)
    (case kF52 => k_is)
    (case aM35_0 => k_is)
    (case iM35_0 => k_is)
    (case lM35_0 => k_is)
    (case cM35_0 => k_is)
    (case kM35_0 => k_is)
    (case aM35_1 => k_is)
    (case iM35_1 => k_is)
    (case lM35_1 => k_is)
    (case cM35_1 => k_is)
    (case kM35_1 => k_is)
    (case aM35_2 => k_is)
    (case iM35_2 => k_is)
    (case lM35_2 => k_is)
    (case cM35_2 => k_is)
    (case kM35_2 => k_is)
    (case aM35_3 => k_is)
    (case iM35_3 => k_is)
    (case lM35_3 => k_is)
    (case cM35_3 => k_is)
    (case kM35_3 => k_is)
    (case aM35_4 => k_is)
    (case iM35_4 => k_is)
    (case lM35_4 => k_is)
    (case cM35_4 => k_is)
    (case kM35_4 => k_is)
    (case aM35_5 => k_is)
    (case iM35_5 => k_is)
    (case lM35_5 => k_is)
    (case cM35_5 => k_is)
    (case kM35_5 => k_is)
    (case aM35_6 => k_is)
    (case iM35_6 => k_is)
    (case lM35_6 => k_is)
    (case cM35_6 => k_is)
    (case kM35_6 => k_is)
    (case aM40_0 => k_is)
    (case iM40_0 => k_is)
    (case lM40_0 => k_is)
    (case cM40_0 => k_is)
    (case kM40_0 => k_is)
    (case aM40_1 => k_is)
    (case iM40_1 => k_is)
    (case lM40_1 => k_is)
    (case cM40_1 => k_is)
    (case kM40_1 => k_is)
    (case aM40_2 => k_is)
    (case iM40_2 => k_is)
    (case lM40_2 => k_is)
    (case cM40_2 => k_is)
    (case kM40_2 => k_is)
    (case aM40_3 => k_is)
    (case iM40_3 => k_is)
    (case lM40_3 => k_is)
    (case cM40_3 => k_is)
    (case kM40_3 => k_is)
    (case aM40_4 => k_is)
    (case iM40_4 => k_is)
    (case lM40_4 => k_is)
    (case cM40_4 => k_is)
    (case kM40_4 => k_is)
    (case aM40_5 => k_is)
    (case iM40_5 => k_is)
    (case lM40_5 => k_is)
    (case cM40_5 => k_is)
    (case kM40_5 => k_is)
    (case aM40_6 => k_is)
    (case iM40_6 => k_is)
    (case lM40_6 => k_is)
    (case cM40_6 => k_is)
    (case kM40_6 => k_is)
    (case aM40_7 => k_is)
    (case iM40_7 => k_is)
    (case lM40_7 => k_is)
    (case cM40_7 => k_is)
    (case kM40_7 => k_is)
    (case aM40_8 => k_is)
    (case iM40_8 => k_is)
    (case lM40_8 => k_is)
    (case cM40_8 => k_is)
    (case kM40_8 => k_is)
    (case aM40_9 => k_is)
    (case iM40_9 => k_is)
    (case lM40_9 => k_is)
    (case cM40_9 => k_is)
    (case kM40_9 => k_is)
    (case aM40_10 => k_is)
    (case iM40_10 => k_is)
    (case lM40_10 => k_is)
    (case cM40_10 => k_is)
    (case kM40_10 => k_is)
    (case aM49_0 => k_is)
    (case iM49_0 => k_is)
    (case lM49_0 => k_is)
    (case cM49_0 => k_is)
    (case kM49_0 => k_is)
    (case hkFeatures => k_is)
    (case hkMostValue => k_is)
    (case hkLeftOut => k_is)
    (case hkTooGreat => k_is)
    (case hkUnknown => k_is)
    (case hkTooMany => k_is)
    (case hkUnfit => k_is)
    (case hkTwice => k_is)
    (case hkMostThings => k_is)
    (case hkMostClaims => k_is)
    (case hkBegins => k_is)
    (case hkThing => k_is)
    (case hkClaim => k_is)
    (case hkFits => k_is)
    (case hkCheck => k_is)
    (case hkBest => k_is)
    (case hkHas => k_is)
    (case hbLen => k_is)
    (case hbRange => k_is)
    (case hbMax => k_is)
    (case hbMin => k_is)
    (case hbAll => k_is)
    (case hbAny => k_is)
    (case hbList => k_is)
    (case aA => k_is)
    (case lA => k_is)
    (case cA => k_is)
    (case kA => k_is)
  case S =>
    intro K H xs a hO hwi hask hx
    cases hx with
    | cons h1 h2 =>
      cases h2
      cases h1 with
      | lst hs ha =>
        have e := L2.ints_dw a.1 _ ha
        subst e
        have q : ((Codec.inLen 0 1000 a.1 && a.1.all (Codec.inInt 0 4294967295)) && true) = true := hwi
        rw [Bool.and_eq_true, Bool.and_eq_true] at q
        exact ⟨_, a.1, rfl, hs, (Codec.inNat_iff.mp q.1.1).2, hask, fun H' p hp => .lst (L2.SqL.of hp) (L2.dw_ints _)⟩
#print axioms PySem.Challenge.cw_lostthings_s01_answers_holds
