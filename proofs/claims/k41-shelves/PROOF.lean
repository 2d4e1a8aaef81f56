import PyProof.Rows.All
import Wide.All
import OpenK.AllK
import Wide.FinOn
import HandS.ForMost
import HandS.More
import HandS.Defaults
import HandS.IsInst
import HandS.Flow
import HandS.NoneIn
import HandS.Conv
import HandS.RaiseMore
import HandS.Codes
import KE.KUnpackStar
import KE.DataMinMax
import PyProof.ReprRoads
import PyProof.ReprText
import PyProof.SeqIndex
import PySem.Challenge.RW_slotfall_k41_whole_shelves_by_depths
set_option Elab.async false
set_option linter.all false
set_option maxRecDepth 100000
/-! The mirror: what the methods of the unwinding do, over plain data. -/
namespace SF
abbrev Rw := List (Option Nat)
/-- the events -/
inductive Evt where
  | rel (hs : Option (Nat × Nat)) (u : Nat) (c : Int)
  | des (v d : Nat)
  | shl (v l : Nat)
  | tak (v l : Nat)
  deriving DecidableEq
structure UW where
  rows : List (Option Rw)
  tal : List Int
  log : List Nat
  shelf : List Nat
  peak : Nat
  ev : List Evt
/-- more events than there can be -/
def bigN : Nat := 10000
/-- release, where D destroys -/
def relF (L : Nat) (D : UW → Nat → Nat → Option UW) (s : UW) (hs : Option (Nat × Nat)) (u d : Nat) : Option UW :=
  match s.tal[u]? with
  | none => none
  | some t =>
    if bigN ≤ s.ev.length then none
    else if 0 < t - 1 then some { s with tal := s.tal.set u (t - 1), ev := s.ev ++ [.rel hs u (t - 1)] }
    else if d < L then D { s with tal := s.tal.set u (t - 1), ev := s.ev ++ [.rel hs u (t - 1)] } u d
    else some { s with tal := s.tal.set u (t - 1), shelf := s.shelf ++ [u], peak := max s.peak (s.shelf.length + 1), ev := s.ev ++ [.rel hs u (t - 1), .shl u (s.shelf.length + 1)] }
/-- the loop over a node's slots, from slot k on, m slots -/
def slotsL (R : UW → Option (Nat × Nat) → Nat → Nat → Option UW) (v d : Nat) : Nat → Nat → UW → Option UW
  | 0, _, s => some s
  | m + 1, k, s =>
    match s.rows[v]? with
    | some (some row) =>
      match row[k]? with
      | some none => slotsL R v d m (k + 1) { s with rows := s.rows.set v (some (row.set k none)) }
      | some (some u) =>
        match R { s with rows := s.rows.set v (some (row.set k none)) } (some (v, k)) u (d + 1) with
        | some s' => slotsL R v d m (k + 1) s'
        | none => none
      | none => none
    | _ => none
/-- destroy, f calls deep -/
def desF (L : Nat) : Nat → UW → Nat → Nat → Option UW
  | 0, _, _, _ => none
  | f + 1, s, v, d =>
    match s.rows[v]? with
    | some (some row) =>
      if bigN ≤ s.ev.length then none
      else match slotsL (relF L (desF L f)) v d row.length 0 { s with log := s.log ++ [v], ev := s.ev ++ [.des v d] } with
        | some s' => if v < s'.rows.length then some { s' with rows := s'.rows.set v none } else none
        | none => none
    | _ => none
/-- the loop over the shelf -/
def takes (L f : Nat) : Nat → UW → Option UW
  | 0, s => if s.shelf = [] then some s else none
  | g + 1, s =>
    match s.shelf.getLast? with
    | none => some s
    | some u =>
      if bigN ≤ s.ev.length then none
      else match desF L f { s with shelf := s.shelf.dropLast, ev := s.ev ++ [.tak u s.shelf.dropLast.length] } u 0 with
        | some s' => takes L f g s'
        | none => none
/-- a drop -/
def runF (L f g : Nat) (s : UW) (start : Nat) : Option UW :=
  match relF L (desF L f) s none start 0 with
  | some s' => takes L f g s'
  | none => none

/-! what is made of the events -/
abbrev Trr := List (Option (Option (Nat × Nat)))
def treeF (T : Trr) : Evt → Trr
  | .rel hs u c => if c = 0 then T.set u (some hs) else T
  | _ => T
def treeOf (n : Nat) (ev : List Evt) : Trr := ev.foldl treeF (List.replicate n none)
/-- the history and the shelf's length, event by event -/
def histF (a : List Int × Int) : Evt → List Int × Int
  | .rel _ _ _ => a
  | .des _ _ => (a.1 ++ [a.2], a.2)
  | .tak _ l => (a.1, l)
  | .shl _ l => (a.1.set (a.1.length - 1) (max (a.1.getD (a.1.length - 1) 0) l), l)
def histOf (ev : List Evt) : List Int × Int := ev.foldl histF ([], 0)
end SF

/-! The plain law, part 1: small steps, what they keep. -/
namespace SF
/-! ### counting -/
def fo (f : Rw → Nat) : Option Rw → Nat
  | none => 0
  | some row => f row
def tot (f : Rw → Nat) (rows : List (Option Rw)) : Nat := (rows.map (fo f)).sum
theorem tot_set (f : Rw → Nat) : ∀ (rows : List (Option Rw)) (v : Nat) (r r' : Option Rw), rows[v]? = some r → tot f (rows.set v r') + fo f r = tot f rows + fo f r'
  | [], _, _, _, h => by simp at h
  | x :: xs, 0, r, r', h => by
    simp at h; subst h
    simp [tot]; omega
  | x :: xs, v + 1, r, r', h => by
    have ih := tot_set f xs v r r' (by simpa using h)
    simp [tot] at ih ⊢; omega
theorem tot_le (f : Rw → Nat) : ∀ (rows : List (Option Rw)) (v : Nat) (r : Option Rw), rows[v]? = some r → fo f r ≤ tot f rows
  | [], _, _, h => by simp at h
  | x :: xs, 0, r, h => by
    simp at h; subst h
    simp [tot]
  | x :: xs, v + 1, r, h => by
    have ih := tot_le f xs v r (by simpa using h)
    simp [tot] at ih ⊢; omega
def b2n (b : Bool) : Nat := if b then 1 else 0
theorem countP_set (p : Option Nat → Bool) : ∀ (row : Rw) (k : Nat) (x y : Option Nat), row[k]? = some x → (row.set k y).countP p + b2n (p x) = row.countP p + b2n (p y)
  | [], _, _, _, h => by simp at h
  | a :: r, 0, x, y, h => by
    simp at h; subst h
    simp only [List.set_cons_zero, List.countP_cons, b2n]; omega
  | a :: r, k + 1, x, y, h => by
    have ih := countP_set p r k x y (by simpa using h)
    simp only [List.set_cons_succ, List.countP_cons, b2n] at ih ⊢; omega
def isU (u : Nat) : Option Nat → Bool := fun x => decide (x = some u)
/-- the slots that hold u -/
def cntF (rows : List (Option Rw)) (u : Nat) : Nat := tot (fun row => row.countP (isU u)) rows
/-- the filled slots -/
def filled (rows : List (Option Rw)) : Nat := tot (fun row => row.countP Option.isSome) rows
theorem cnt_pos {rows : List (Option Rw)} {v k u : Nat} {row : Rw} (h : rows[v]? = some (some row)) (hk : row[k]? = some (some u)) : 0 < cntF rows u := by
  have h1 := tot_le (fun row => row.countP (isU u)) rows v _ h
  have h2 : 0 < row.countP (isU u) := List.countP_pos_iff.mpr ⟨some u, List.mem_of_getElem? hk, by simp [isU]⟩
  simp only [fo] at h1
  unfold cntF; omega
theorem cnt_empty {rows : List (Option Rw)} {v k u w : Nat} {row : Rw} (h : rows[v]? = some (some row)) (hk : row[k]? = some (some u)) :
    cntF (rows.set v (some (row.set k none))) w + (if w = u then 1 else 0) = cntF rows w := by
  have h1 := tot_set (fun row => row.countP (isU w)) rows v _ (some (row.set k none)) h
  have h2 := countP_set (isU w) row k _ none hk
  simp only [fo] at h1
  have e1 : b2n (isU w none) = 0 := by simp [isU, b2n]
  have e2 : b2n (isU w (some u)) = if w = u then 1 else 0 := by
    by_cases e : w = u <;> simp [isU, b2n, e]
    intro z; exact e z.symm
  unfold cntF; omega
theorem filled_empty {rows : List (Option Rw)} {v k u : Nat} {row : Rw} (h : rows[v]? = some (some row)) (hk : row[k]? = some (some u)) :
    filled (rows.set v (some (row.set k none))) + 1 = filled rows := by
  have h1 := tot_set (fun row => row.countP Option.isSome) rows v _ (some (row.set k none)) h
  have h2 := countP_set Option.isSome row k _ none hk
  simp only [fo] at h1
  have e1 : b2n (Option.isSome (none : Option Nat)) = 0 := rfl
  have e2 : b2n (Option.isSome (some u)) = 1 := rfl
  unfold filled; omega
theorem tot_skip {f : Rw → Nat} {rows : List (Option Rw)} {v k : Nat} {row : Rw} (h : rows[v]? = some (some row)) (hk : row[k]? = some none) : rows.set v (some (row.set k none)) = rows := by
  have e : row.set k none = row := by
    apply List.ext_getElem?
    intro j
    rw [List.getElem?_set]
    split
    · next e => subst e; rw [hk]; split <;> simp_all
    · rfl
  rw [e]
  apply List.ext_getElem?
  intro j
  rw [List.getElem?_set]
  split
  · next e => subst e; rw [h]; split <;> simp_all
  · rfl
theorem all_none {row : Rw} {k : Nat} (hk : row[k]? = none) (h : ∀ j, j < k → row[j]? = some none) : ∀ x ∈ row, x = none := by
  intro x hx
  obtain ⟨j, hj, e⟩ := List.getElem_of_mem hx
  have h1 : row.length ≤ k := List.getElem?_eq_none_iff.mp hk
  have h2 := h j (by omega)
  rw [List.getElem?_eq_getElem hj, e] at h2
  exact Option.some.inj h2
theorem cnt_done {rows : List (Option Rw)} {v w : Nat} {row : Rw} (h : rows[v]? = some (some row)) (hn : ∀ x ∈ row, x = none) : cntF (rows.set v none) w = cntF rows w := by
  have h1 := tot_set (fun row => row.countP (isU w)) rows v _ none h
  have h2 : row.countP (isU w) = 0 := by
    rw [List.countP_eq_zero]
    intro x hx
    rw [hn x hx]; simp [isU]
  simp only [fo] at h1
  unfold cntF; omega
theorem filled_done {rows : List (Option Rw)} {v : Nat} {row : Rw} (h : rows[v]? = some (some row)) (hn : ∀ x ∈ row, x = none) : filled (rows.set v none) = filled rows := by
  have h1 := tot_set (fun row => row.countP Option.isSome) rows v _ none h
  have h2 : row.countP Option.isSome = 0 := by
    rw [List.countP_eq_zero]
    intro x hx
    rw [hn x hx]; simp
  simp only [fo] at h1
  unfold filled; omega

/-! ### small steps -/
structure Frm where
  v : Nat
  k : Nat
  d : Nat
structure Cfg where
  s : UW
  fr : List Frm
  dep : Nat → Nat
  par : Nat → Nat
def fset (f : Nat → Nat) (u x : Nat) : Nat → Nat := fun w => if w = u then x else f w
theorem fset_same {f : Nat → Nat} {u x : Nat} : fset f u x u = x := by simp [fset]
theorem fset_ne {f : Nat → Nat} {u x w : Nat} (h : w ≠ u) : fset f u x w = f w := by simp [fset, h]

inductive Stp (L : Nat) : Cfg → Cfg → Prop
  | take {s : UW} {dep par : Nat → Nat} {u : Nat} : s.shelf.getLast? = some u →
      Stp L ⟨s, [], dep, par⟩ ⟨{ s with shelf := s.shelf.dropLast, log := s.log ++ [u], ev := s.ev ++ [.tak u s.shelf.dropLast.length] ++ [.des u 0] }, [⟨u, 0, 0⟩], dep, par⟩
  | done {s : UW} {dep par : Nat → Nat} {v k d : Nat} {F : List Frm} {row : Rw} : s.rows[v]? = some (some row) → row[k]? = none →
      Stp L ⟨s, ⟨v, k, d⟩ :: F, dep, par⟩ ⟨{ s with rows := s.rows.set v none }, F, dep, par⟩
  | skip {s : UW} {dep par : Nat → Nat} {v k d : Nat} {F : List Frm} {row : Rw} : s.rows[v]? = some (some row) → row[k]? = some none →
      Stp L ⟨s, ⟨v, k, d⟩ :: F, dep, par⟩ ⟨{ s with rows := s.rows.set v (some (row.set k none)) }, ⟨v, k + 1, d⟩ :: F, dep, par⟩
  | keep {s : UW} {dep par : Nat → Nat} {v k d u : Nat} {t : Int} {F : List Frm} {row : Rw} : s.rows[v]? = some (some row) → row[k]? = some (some u) → s.tal[u]? = some t → 0 < t - 1 →
      Stp L ⟨s, ⟨v, k, d⟩ :: F, dep, par⟩ ⟨{ s with rows := s.rows.set v (some (row.set k none)), tal := s.tal.set u (t - 1), ev := s.ev ++ [.rel (some (v, k)) u (t - 1)] }, ⟨v, k + 1, d⟩ :: F, dep, par⟩
  | sink {s : UW} {dep par : Nat → Nat} {v k d u : Nat} {t : Int} {F : List Frm} {row : Rw} : s.rows[v]? = some (some row) → row[k]? = some (some u) → s.tal[u]? = some t → ¬ 0 < t - 1 → d + 1 < L →
      Stp L ⟨s, ⟨v, k, d⟩ :: F, dep, par⟩ ⟨{ s with rows := s.rows.set v (some (row.set k none)), tal := s.tal.set u (t - 1), log := s.log ++ [u], ev := s.ev ++ [.rel (some (v, k)) u (t - 1)] ++ [.des u (d + 1)] },
        ⟨u, 0, d + 1⟩ :: ⟨v, k + 1, d⟩ :: F, fset dep u (dep v + 1), fset par u v⟩
  | shelve {s : UW} {dep par : Nat → Nat} {v k d u : Nat} {t : Int} {F : List Frm} {row : Rw} : s.rows[v]? = some (some row) → row[k]? = some (some u) → s.tal[u]? = some t → ¬ 0 < t - 1 → ¬ d + 1 < L →
      Stp L ⟨s, ⟨v, k, d⟩ :: F, dep, par⟩ ⟨{ s with rows := s.rows.set v (some (row.set k none)), tal := s.tal.set u (t - 1), shelf := s.shelf ++ [u], peak := max s.peak (s.shelf.length + 1), ev := s.ev ++ [.rel (some (v, k)) u (t - 1), .shl u (s.shelf.length + 1)] },
        ⟨v, k + 1, d⟩ :: F, fset dep u (dep v + 1), fset par u v⟩
theorem Stp.det {L : Nat} {c c1 c2 : Cfg} (h1 : Stp L c c1) (h2 : Stp L c c2) : c1 = c2 := by
  cases h1 <;> cases h2 <;> simp_all <;> omega
inductive Stps (L : Nat) : Cfg → Cfg → Prop
  | refl (c : Cfg) : Stps L c c
  | head {a b c : Cfg} : Stp L a b → Stps L b c → Stps L a c
theorem Stps.trans {L : Nat} {a b c : Cfg} (h : Stps L a b) (g : Stps L b c) : Stps L a c := by
  induction h with
  | refl => exact g
  | head s _ ih => exact .head s (ih g)
theorem Stps.one {L : Nat} {a b : Cfg} (h : Stp L a b) : Stps L a b := .head h (.refl _)
theorem Stps.det {L : Nat} {a b c : Cfg} (h : Stps L a b) (g : Stps L a c) (tb : ∀ x, ¬ Stp L b x) (tc : ∀ x, ¬ Stp L c x) : b = c := by
  induction h with
  | refl a =>
    cases g with
    | refl => rfl
    | head s _ => exact absurd s (tb _)
  | head s _ ih =>
    cases g with
    | refl => exact absurd s (tc _)
    | head s' g' =>
      have e := s.det s'
      subst e
      exact ih g' tb
end SF

/-! The plain law, part 2: what holds between two small steps. -/
namespace SF
structure GoodC (n L B : Nat) (out : Nat → Nat) (c : Cfg) : Prop where
  rl : c.s.rows.length = n
  tl : c.s.tal.length = n
  tal : ∀ u, u < n → c.s.tal[u]? = some ((out u + cntF c.s.rows u : Nat) : Int)
  held : ∀ (v : Nat) (row : Rw), c.s.rows[v]? = some (some row) → ∀ u, some u ∈ row → u < n ∧ ∃ row', c.s.rows[u]? = some (some row')
  logn : c.s.log.Nodup
  logz : ∀ v, v ∈ c.s.log → v < n ∧ out v + cntF c.s.rows v = 0
  shn : c.s.shelf.Nodup
  shz : ∀ v, v ∈ c.s.shelf → v ∉ c.s.log ∧ v < n ∧ out v + cntF c.s.rows v = 0 ∧ ∃ row, c.s.rows[v]? = some (some row)
  frn : (c.fr.map (·.v)).Nodup
  frl : ∀ f, f ∈ c.fr → f.v ∈ c.s.log ∧ ∃ row, c.s.rows[f.v]? = some (some row) ∧ f.k ≤ row.length ∧ ∀ j, j < f.k → row[j]? = some none
  frd : ∀ (i : Nat) (f : Frm), c.fr[i]? = some f → f.d + i + 1 = c.fr.length
  frb : ∀ f, f ∈ c.fr → f.d < L
  pot : c.s.ev.length + 2 * filled c.s.rows + 2 * n ≤ B + 2 * c.s.log.length

theorem nodup_len {n : Nat} : ∀ {l : List Nat}, l.Nodup → (∀ v ∈ l, v < n) → l.length ≤ n := by
  induction n with
  | zero =>
    intro l _ h
    cases l with
    | nil => exact Nat.le_refl _
    | cons a l => exact absurd (h a List.mem_cons_self) (by omega)
  | succ n ih =>
    intro l hn h
    have h2 := ih (l := l.erase n) (hn.erase n) (fun v hv => by
      have hv2 := (List.Nodup.mem_erase_iff hn).mp hv
      have := h v hv2.2
      omega)
    have h3 : (l.erase n).length = if n ∈ l then l.length - 1 else l.length := by
      rw [List.length_erase]
    split at h3 <;> omega

section
variable {n L B : Nat} {out : Nat → Nat} {s : UW} {dep par : Nat → Nat} {v k d u : Nat} {F : List Frm} {row : Rw} {t : Int}
theorem GoodC.lenlog {c : Cfg} (g : GoodC n L B out c) : c.s.log.length ≤ n := nodup_len g.logn fun v hv => (g.logz v hv).1
/-- what a slot holds, and its tally -/
theorem GoodC.slot (g : GoodC n L B out ⟨s, ⟨v, k, d⟩ :: F, dep, par⟩) (h : s.rows[v]? = some (some row)) (hk : row[k]? = some (some u)) :
    u < n ∧ 0 < cntF s.rows u ∧ s.tal[u]? = some ((out u + cntF s.rows u : Nat) : Int) ∧ u ∉ s.log ∧ u ∉ s.shelf ∧ (∃ r, s.rows[u]? = some (some r)) ∧ u ≠ v := by
  obtain ⟨h1, h2⟩ := g.held v row h u (List.mem_of_getElem? hk)
  have h3 := cnt_pos h hk
  have h4 : u ∉ s.log := fun z => by
    have q := (g.logz u z).2
    have q' : out u + cntF s.rows u = 0 := q
    omega
  refine ⟨h1, h3, g.tal u h1, h4, fun z => ?_, h2, fun e => ?_⟩
  · have q := (g.shz u z).2.2.1
    have q' : out u + cntF s.rows u = 0 := q
    omega
  · subst e
    exact h4 (g.frl ⟨u, k, d⟩ List.mem_cons_self).1
theorem GoodC.top (g : GoodC n L B out ⟨s, ⟨v, k, d⟩ :: F, dep, par⟩) : ∃ row, s.rows[v]? = some (some row) ∧ k ≤ row.length ∧ (∀ j, j < k → row[j]? = some none) ∧ v < n ∧ v ∈ s.log := by
  obtain ⟨h1, row, h2, h3, h4⟩ := g.frl ⟨v, k, d⟩ List.mem_cons_self
  exact ⟨row, h2, h3, h4, (g.logz v h1).1, h1⟩
theorem GoodC.depth (g : GoodC n L B out ⟨s, ⟨v, k, d⟩ :: F, dep, par⟩) : d = F.length := by
  have := g.frd 0 ⟨v, k, d⟩ rfl
  simp at this; omega
/-- the frames fit among the nodes -/
theorem GoodC.few (g : GoodC n L B out ⟨s, ⟨v, k, d⟩ :: F, dep, par⟩) : F.length + 1 ≤ n := by
  have h := nodup_len (n := n) g.frn (fun x hx => by
    obtain ⟨f, hf, e⟩ := List.mem_map.mp hx
    subst e
    exact (g.logz _ (g.frl f hf).1).1)
  simpa using h
theorem GoodC.few' (g : GoodC n L B out ⟨s, ⟨v, k, d⟩ :: F, dep, par⟩) (h : u < n) (hu : u ∉ s.log) : F.length + 2 ≤ n := by
  have hm : u ∉ (⟨v, k, d⟩ :: F : List Frm).map (·.v) := fun z => by
    obtain ⟨f, hf, e⟩ := List.mem_map.mp z
    subst e
    exact hu (g.frl f hf).1
  have h := nodup_len (n := n) (List.nodup_cons.mpr ⟨hm, g.frn⟩) (fun x hx => by
    rcases List.mem_cons.mp hx with e | hx
    · subst e; exact h
    · obtain ⟨f, hf, e⟩ := List.mem_map.mp hx
      subst e
      exact (g.logz _ (g.frl f hf).1).1)
  simpa using h
/-- the rows behind the emptying of a slot -/
theorem rows_emptied (h : s.rows[v]? = some (some row)) (w : Nat) : (s.rows.set v (some (row.set k none)))[w]? = if w = v then some (some (row.set k none)) else s.rows[w]? := by
  rw [List.getElem?_set]
  obtain ⟨hv, _⟩ := List.getElem?_eq_some_iff.mp h
  by_cases e : v = w
  · subst e; simp [hv]
  · have e' : w ≠ v := fun q => e q.symm
    simp [e, e']
theorem rows_freed (h : s.rows[v]? = some (some row)) (w : Nat) : (s.rows.set v none)[w]? = if w = v then some none else s.rows[w]? := by
  rw [List.getElem?_set]
  obtain ⟨hv, _⟩ := List.getElem?_eq_some_iff.mp h
  by_cases e : v = w
  · subst e; simp [hv]
  · have e' : w ≠ v := fun q => e q.symm
    simp [e, e']
theorem mem_emptied {x : Option Nat} (h : x ∈ row.set k none) (hx : x ≠ none) : x ∈ row := by
  rcases List.mem_or_eq_of_mem_set h with h | h
  · exact h
  · exact absurd h hx
/-- a frame list above which nothing changed -/
theorem frl_emptied (g : GoodC n L B out ⟨s, ⟨v, k, d⟩ :: F, dep, par⟩) (h : s.rows[v]? = some (some row)) (hk : k < row.length) {log : List Nat} (hl : ∀ x ∈ s.log, x ∈ log) :
    ∀ f, f ∈ (⟨v, k + 1, d⟩ :: F : List Frm) → f.v ∈ log ∧ ∃ r, (s.rows.set v (some (row.set k none)))[f.v]? = some (some r) ∧ f.k ≤ r.length ∧ ∀ j, j < f.k → r[j]? = some none := by
  intro f hf
  rcases List.mem_cons.mp hf with e | hf
  · subst e
    obtain ⟨r, h1, h2, h3, h4, h5⟩ := g.top
    rw [h] at h1
    cases h1
    refine ⟨hl _ h5, row.set k none, by rw [rows_emptied h]; simp, by simp; omega, fun j hj => ?_⟩
    rw [List.getElem?_set]
    by_cases e : k = j
    · subst e; simp [hk]
    · have hj' : j < k + 1 := hj
      simp [e, h3 j (by omega)]
  · obtain ⟨h1, r, h2, h3, h4⟩ := g.frl f (List.mem_cons_of_mem _ hf)
    have hne : f.v ≠ v := fun e => by
      have q := g.frn
      rw [List.map_cons, List.nodup_cons] at q
      exact q.1 (List.mem_map.mpr ⟨f, hf, e⟩)
    exact ⟨hl _ h1, r, by rw [rows_emptied h]; simp [hne]; exact h2, h3, h4⟩
theorem held_emptied (g : GoodC n L B out ⟨s, ⟨v, k, d⟩ :: F, dep, par⟩) (h : s.rows[v]? = some (some row)) :
    ∀ (x : Nat) (r : Rw), (s.rows.set v (some (row.set k none)))[x]? = some (some r) → ∀ u, some u ∈ r → u < n ∧ ∃ r', (s.rows.set v (some (row.set k none)))[u]? = some (some r') := by
  intro x r hx u hu
  have h0 : ∃ (x' : Nat) (r0 : Rw), s.rows[x']? = some (some r0) ∧ some u ∈ r0 := by
    rw [rows_emptied h] at hx
    by_cases e : x = v
    · rw [if_pos e] at hx
      cases hx
      exact ⟨v, row, h, mem_emptied hu (by simp)⟩
    · rw [if_neg e] at hx
      exact ⟨x, r, hx, hu⟩
  obtain ⟨x', r0, h1, h2⟩ := h0
  obtain ⟨h3, r', h4⟩ := g.held x' r0 h1 u h2
  refine ⟨h3, ?_⟩
  rw [rows_emptied h]
  by_cases e : u = v
  · exact ⟨_, if_pos e⟩
  · exact ⟨r', by rw [if_neg e]; exact h4⟩
theorem tal_emptied (g : GoodC n L B out ⟨s, ⟨v, k, d⟩ :: F, dep, par⟩) (h : s.rows[v]? = some (some row)) (hk : row[k]? = some (some u)) (ht : s.tal[u]? = some t) :
    t = ((out u + cntF (s.rows.set v (some (row.set k none))) u : Nat) : Int) + 1 ∧ ∀ w, w < n → (s.tal.set u (t - 1))[w]? = some ((out w + cntF (s.rows.set v (some (row.set k none))) w : Nat) : Int) := by
  obtain ⟨h1, h2, h3, _⟩ := g.slot h hk
  rw [ht] at h3
  have e := cnt_empty (w := u) h hk
  rw [if_pos rfl] at e
  have et : t = ((out u + cntF (s.rows.set v (some (row.set k none))) u : Nat) : Int) + 1 := by
    cases h3
    omega
  refine ⟨et, fun w hw => ?_⟩
  rw [List.getElem?_set]
  by_cases ew : u = w
  · subst ew
    have : u < s.tal.length := by rw [g.tl]; exact h1
    rw [if_pos rfl, if_pos this, et]
    congr 1
    omega
  · rw [if_neg ew]
    have e2 := cnt_empty (w := w) h hk
    rw [if_neg (fun q => ew q.symm)] at e2
    have q := g.tal w hw
    rw [q]
    have e3 : cntF (s.rows.set v (some (row.set k none))) w = cntF s.rows w := by omega
    rw [e3]
end

/-- THE KEEPING -/
theorem GoodC.step {n L B : Nat} {out : Nat → Nat} {c c' : Cfg} (hL : 0 < L) (g : GoodC n L B out c) (st : Stp L c c') : GoodC n L B out c' := by
  cases st with
  | @take s dep par u hu =>
    have hm : u ∈ s.shelf := List.mem_of_getLast? hu
    have hs : s.shelf = s.shelf.dropLast ++ [u] := by
      obtain ⟨hne, e⟩ := List.getLast?_eq_some_iff.mp hu
      rw [e]; simp
    have hn0 := g.shn
    have hn0 : s.shelf.Nodup := hn0
    rw [hs] at hn0
    obtain ⟨h1, h2, h3, r, h4⟩ := g.shz u hm
    have hsub : ∀ x, x ∈ s.shelf.dropLast → x ∈ s.shelf := fun x hx => by rw [hs]; exact List.mem_append_left _ hx
    have hne : ∀ x, x ∈ s.shelf.dropLast → x ≠ u := fun x hx e => by
      subst e
      exact (List.nodup_append.mp hn0).2.2 x hx x (by simp) rfl
    have := g.lenlog
    refine ⟨g.rl, g.tl, g.tal, g.held, ?_, fun x hx => ?_, (List.nodup_append.mp hn0).1, fun x hx => ?_, by simp, fun f hf => ?_, fun i f hf => ?_, fun f hf => ?_, ?_⟩
    · exact List.nodup_append.mpr ⟨g.logn, by simp, fun a ha b hb => by
        have : b = u := by simpa using hb
        subst this
        intro e; subst e; exact h1 ha⟩
    · rcases List.mem_append.mp hx with hx | hx
      · exact g.logz x hx
      · have : x = u := by simpa using hx
        subst this
        exact ⟨h2, h3⟩
    · obtain ⟨q1, q2, q3, q4⟩ := g.shz x (hsub x hx)
      refine ⟨fun z => ?_, q2, q3, q4⟩
      rcases List.mem_append.mp z with z | z
      · exact q1 z
      · exact hne x hx (by simpa using z)
    · have : f = ⟨u, 0, 0⟩ := by simpa using hf
      subst this
      exact ⟨List.mem_append_right _ (by simp), r, h4, Nat.zero_le _, fun j hj => absurd hj (Nat.not_lt_zero _)⟩
    · cases i with
      | zero => simp at hf; subst hf; rfl
      | succ i => simp at hf
    · have : f = ⟨u, 0, 0⟩ := by simpa using hf
      subst this
      exact hL
    · have q := g.pot
      simp only [List.length_append, List.length_cons, List.length_nil] at q ⊢
      omega
  | @done s dep par v k d F row h hk =>
    obtain ⟨r, h1, h2, h3, h4, h5⟩ := g.top
    rw [h] at h1
    cases h1
    have hn := all_none hk h3
    have hF : ∀ f, f ∈ F → f.v ≠ v := fun f hf e => by
      have q := g.frn
      rw [List.map_cons, List.nodup_cons] at q
      exact q.1 (List.mem_map.mpr ⟨f, hf, e⟩)
    have hc : ∀ w, cntF (s.rows.set v none) w = cntF s.rows w := fun w => cnt_done h hn
    refine ⟨by simpa using g.rl, g.tl, fun w hw => by rw [hc]; exact g.tal w hw, fun x r hx u hu => ?_, g.logn, fun x hx => by rw [hc]; exact g.logz x hx, g.shn, fun x hx => ?_, ?_, fun f hf => ?_, fun i f hf => ?_, fun f hf => g.frb f (List.mem_cons_of_mem _ hf), ?_⟩
    · have hx2 : (s.rows.set v none)[x]? = some (some r) := hx
      rw [rows_freed h] at hx2
      by_cases e : x = v
      · rw [if_pos e] at hx2; cases hx2
      · rw [if_neg e] at hx2
        obtain ⟨q1, r', q2⟩ := g.held x r hx2 u hu
        refine ⟨q1, r', ?_⟩
        show (s.rows.set v none)[u]? = _
        rw [rows_freed h]
        have hne : u ≠ v := fun e => by
          subst e
          obtain ⟨j, hj, ej⟩ := List.getElem_of_mem hu
          have h9 : 0 < cntF s.rows u := cnt_pos (rows := s.rows) (v := x) (row := r) (k := j) (u := u) hx2 (by rw [List.getElem?_eq_getElem hj, ej])
          have q := (g.logz u h5).2
          have q' : out u + cntF s.rows u = 0 := q
          omega
        rw [if_neg hne]
        exact q2
    · obtain ⟨q1, q2, q3, r', q4⟩ := g.shz x hx
      refine ⟨q1, q2, by rw [hc]; exact q3, r', ?_⟩
      show (s.rows.set v none)[x]? = _
      rw [rows_freed h, if_neg (fun e => q1 (by rw [e]; exact h5))]
      exact q4
    · have q := g.frn
      rw [List.map_cons, List.nodup_cons] at q
      exact q.2
    · obtain ⟨q1, r', q2, q3, q4⟩ := g.frl f (List.mem_cons_of_mem _ hf)
      refine ⟨q1, r', ?_, q3, q4⟩
      show (s.rows.set v none)[f.v]? = _
      rw [rows_freed h, if_neg (hF f hf)]
      exact q2
    · have q := g.frd (i + 1) f (by simpa using hf)
      simp at q ⊢; omega
    · have q := g.pot
      have e := filled_done h hn
      show s.ev.length + 2 * filled (s.rows.set v none) + 2 * n ≤ B + 2 * s.log.length
      have q : s.ev.length + 2 * filled s.rows + 2 * n ≤ B + 2 * s.log.length := q
      omega
  | @skip s dep par v k d F row h hk =>
    obtain ⟨hkl, _⟩ := List.getElem?_eq_some_iff.mp hk
    have e : s.rows.set v (some (row.set k none)) = s.rows := tot_skip (f := fun _ => 0) h hk
    have hfr := frl_emptied g h hkl (log := s.log) (fun _ z => z)
    refine ⟨by simpa using g.rl, g.tl, fun w hw => by rw [e]; exact g.tal w hw, held_emptied g h, g.logn, fun x hx => by rw [e]; exact g.logz x hx, g.shn, fun x hx => by rw [e]; exact g.shz x hx, g.frn, hfr, fun i f hf => ?_, fun f hf => ?_, by rw [e]; exact g.pot⟩
    · cases i with
      | zero =>
        simp at hf; subst hf
        exact g.frd 0 ⟨v, k, d⟩ rfl
      | succ i => exact g.frd (i + 1) f (by simpa using hf)
    · rcases List.mem_cons.mp hf with e | hf
      · subst e; exact g.frb ⟨v, k, d⟩ List.mem_cons_self
      · exact g.frb f (List.mem_cons_of_mem _ hf)
  | @keep s dep par v k d u t F row h hk ht h0 =>
    obtain ⟨hkl, _⟩ := List.getElem?_eq_some_iff.mp hk
    have hfr := frl_emptied g h hkl (log := s.log) (fun _ z => z)
    obtain ⟨et, htl⟩ := tal_emptied g h hk ht
    obtain ⟨hu1, hu2, _, hu3, hu4, hu5, hu6⟩ := g.slot h hk
    have hc : ∀ w, w ≠ u → cntF (s.rows.set v (some (row.set k none))) w = cntF s.rows w := fun w hw => by
      have e2 := cnt_empty (w := w) h hk
      rw [if_neg hw] at e2
      omega
    refine ⟨by simpa using g.rl, by simpa using g.tl, htl, held_emptied g h, g.logn, fun x hx => ?_, g.shn, fun x hx => ?_, g.frn, hfr, fun i f hf => ?_, fun f hf => ?_, ?_⟩
    · show _ ∧ out x + cntF (s.rows.set v (some (row.set k none))) x = 0
      rw [hc x (fun e => hu3 (by rw [← e]; exact hx))]
      exact g.logz x hx
    · have hx : x ∈ s.shelf := hx
      obtain ⟨q1, q2, q3, r', q4⟩ := g.shz x hx
      refine ⟨q1, q2, ?_, ?_⟩
      · show out x + cntF (s.rows.set v (some (row.set k none))) x = 0
        rw [hc x (fun e => hu4 (by rw [← e]; exact hx))]
        exact q3
      · show ∃ r, (s.rows.set v (some (row.set k none)))[x]? = some (some r)
        rw [rows_emptied h]
        by_cases e : x = v
        · exact ⟨_, if_pos e⟩
        · exact ⟨r', by rw [if_neg e]; exact q4⟩
    · cases i with
      | zero =>
        simp at hf; subst hf
        exact g.frd 0 ⟨v, k, d⟩ rfl
      | succ i => exact g.frd (i + 1) f (by simpa using hf)
    · rcases List.mem_cons.mp hf with e | hf
      · subst e; exact g.frb ⟨v, k, d⟩ List.mem_cons_self
      · exact g.frb f (List.mem_cons_of_mem _ hf)
    · have q := g.pot
      have e := filled_empty h hk
      have q : s.ev.length + 2 * filled s.rows + 2 * n ≤ B + 2 * s.log.length := q
      simp only [List.length_append, List.length_cons, List.length_nil]
      omega
  | @sink s dep par v k d u t F row h hk ht h0 hd =>
    obtain ⟨hkl, _⟩ := List.getElem?_eq_some_iff.mp hk
    have hfr := frl_emptied g h hkl (log := s.log ++ [u]) (fun _ z => List.mem_append_left _ z)
    obtain ⟨et, htl⟩ := tal_emptied g h hk ht
    obtain ⟨hu1, hu2, _, hu3, hu4, ⟨ru, hu5⟩, hu6⟩ := g.slot h hk
    have hz : out u + cntF (s.rows.set v (some (row.set k none))) u = 0 := by omega
    have hc : ∀ w, w ≠ u → cntF (s.rows.set v (some (row.set k none))) w = cntF s.rows w := fun w hw => by
      have e2 := cnt_empty (w := w) h hk
      rw [if_neg hw] at e2
      omega
    have hlt := g.few' hu1 hu3
    have hdep := g.depth
    refine ⟨by simpa using g.rl, by simpa using g.tl, htl, held_emptied g h, ?_, fun x hx => ?_, g.shn, fun x hx => ?_, ?_, fun f hf => ?_, fun i f hf => ?_, fun f hf => ?_, ?_⟩
    · exact List.nodup_append.mpr ⟨g.logn, by simp, fun a ha b hb => by
        have : b = u := by simpa using hb
        subst this
        intro e; subst e; exact hu3 ha⟩
    · show _ ∧ out x + cntF (s.rows.set v (some (row.set k none))) x = 0
      by_cases e : x = u
      · subst e; exact ⟨hu1, hz⟩
      · rw [hc x e]
        rcases List.mem_append.mp hx with hx | hx
        · exact g.logz x hx
        · exact absurd (by simpa using hx) e
    · have hx : x ∈ s.shelf := hx
      obtain ⟨q1, q2, q3, r', q4⟩ := g.shz x hx
      have hxu : x ≠ u := fun e => hu4 (by rw [← e]; exact hx)
      refine ⟨fun z => ?_, q2, ?_, ?_⟩
      · rcases List.mem_append.mp z with z | z
        · exact q1 z
        · exact hxu (by simpa using z)
      · show out x + cntF (s.rows.set v (some (row.set k none))) x = 0
        rw [hc x hxu]
        exact q3
      · show ∃ r, (s.rows.set v (some (row.set k none)))[x]? = some (some r)
        rw [rows_emptied h]
        by_cases e : x = v
        · exact ⟨_, if_pos e⟩
        · exact ⟨r', by rw [if_neg e]; exact q4⟩
    · show (u :: v :: F.map (·.v)).Nodup
      refine List.nodup_cons.mpr ⟨fun z => ?_, g.frn⟩
      obtain ⟨f, hf, e⟩ := List.mem_map.mp (show u ∈ (⟨v, k, d⟩ :: F : List Frm).map (·.v) from z)
      subst e
      exact hu3 (g.frl f hf).1
    · rcases List.mem_cons.mp hf with e | hf
      · subst e
        refine ⟨List.mem_append_right _ (by simp), ru, ?_, Nat.zero_le _, fun j hj => absurd hj (Nat.not_lt_zero _)⟩
        show (s.rows.set v (some (row.set k none)))[u]? = _
        rw [rows_emptied h, if_neg hu6]
        exact hu5
      · exact hfr f hf
    · cases i with
      | zero =>
        simp at hf; subst hf
        simp; omega
      | succ i =>
        cases i with
        | zero =>
          simp at hf; subst hf
          simp; omega
        | succ i =>
          have q := g.frd (i + 1) f (by simpa using hf)
          simp at q ⊢; omega
    · rcases List.mem_cons.mp hf with e | hf
      · subst e; exact hd
      · rcases List.mem_cons.mp hf with e | hf
        · subst e; exact g.frb ⟨v, k, d⟩ List.mem_cons_self
        · exact g.frb f (List.mem_cons_of_mem _ hf)
    · have q := g.pot
      have e := filled_empty h hk
      have q : s.ev.length + 2 * filled s.rows + 2 * n ≤ B + 2 * s.log.length := q
      simp only [List.length_append, List.length_cons, List.length_nil]
      omega
  | @shelve s dep par v k d u t F row h hk ht h0 hd =>
    obtain ⟨hkl, _⟩ := List.getElem?_eq_some_iff.mp hk
    have hfr := frl_emptied g h hkl (log := s.log) (fun _ z => z)
    obtain ⟨et, htl⟩ := tal_emptied g h hk ht
    obtain ⟨hu1, hu2, _, hu3, hu4, ⟨ru, hu5⟩, hu6⟩ := g.slot h hk
    have hz : out u + cntF (s.rows.set v (some (row.set k none))) u = 0 := by omega
    have hc : ∀ w, w ≠ u → cntF (s.rows.set v (some (row.set k none))) w = cntF s.rows w := fun w hw => by
      have e2 := cnt_empty (w := w) h hk
      rw [if_neg hw] at e2
      omega
    have hr : ∀ (x : Nat) (r' : Rw), s.rows[x]? = some (some r') → ∃ r, (s.rows.set v (some (row.set k none)))[x]? = some (some r) := fun x r' q => by
      rw [rows_emptied h]
      by_cases e : x = v
      · exact ⟨_, if_pos e⟩
      · exact ⟨r', by rw [if_neg e]; exact q⟩
    refine ⟨by simpa using g.rl, by simpa using g.tl, htl, held_emptied g h, g.logn, fun x hx => ?_, ?_, fun x hx => ?_, g.frn, hfr, fun i f hf => ?_, fun f hf => ?_, ?_⟩
    · show _ ∧ out x + cntF (s.rows.set v (some (row.set k none))) x = 0
      rw [hc x (fun e => hu3 (by rw [← e]; exact hx))]
      exact g.logz x hx
    · exact List.nodup_append.mpr ⟨g.shn, by simp, fun a ha b hb => by
        have : b = u := by simpa using hb
        subst this
        intro e; subst e; exact hu4 ha⟩
    · have hx : x ∈ s.shelf ++ [u] := hx
      by_cases e : x = u
      · subst e
        exact ⟨hu3, hu1, hz, hr x ru hu5⟩
      · have hx : x ∈ s.shelf := by
          rcases List.mem_append.mp hx with hx | hx
          · exact hx
          · exact absurd (by simpa using hx) e
        obtain ⟨q1, q2, q3, r', q4⟩ := g.shz x hx
        refine ⟨q1, q2, ?_, hr x r' q4⟩
        show out x + cntF (s.rows.set v (some (row.set k none))) x = 0
        rw [hc x e]
        exact q3
    · cases i with
      | zero =>
        simp at hf; subst hf
        exact g.frd 0 ⟨v, k, d⟩ rfl
      | succ i => exact g.frd (i + 1) f (by simpa using hf)
    · rcases List.mem_cons.mp hf with e | hf
      · subst e; exact g.frb ⟨v, k, d⟩ List.mem_cons_self
      · exact g.frb f (List.mem_cons_of_mem _ hf)
    · have q := g.pot
      have e := filled_empty h hk
      have q : s.ev.length + 2 * filled s.rows + 2 * n ≤ B + 2 * s.log.length := q
      simp only [List.length_append, List.length_cons, List.length_nil]
      omega
end SF

/-! The plain law, part 3: the mirror ends, and walks along the small steps. -/
namespace SF
def LenC (lens : Nat → Nat) (c : Cfg) : Prop := ∀ (v : Nat) (row : Rw), c.s.rows[v]? = some (some row) → row.length = lens v
theorem len_emptied {lens : Nat → Nat} {rows : List (Option Rw)} {v k : Nat} {row : Rw} (h : rows[v]? = some (some row)) (g : ∀ (v : Nat) (row : Rw), rows[v]? = some (some row) → row.length = lens v) :
    ∀ (w : Nat) (r : Rw), (rows.set v (some (row.set k none)))[w]? = some (some r) → r.length = lens w := by
  intro w r hw
  rw [List.getElem?_set] at hw
  split at hw
  · next e =>
    subst e
    split at hw
    · cases hw
      rw [List.length_set]
      exact g v row h
    · cases hw
  · exact g w r hw
theorem LenC.step {lens : Nat → Nat} {L : Nat} {c c' : Cfg} (g : LenC lens c) (st : Stp L c c') : LenC lens c' := by
  cases st with
  | take _ => exact g
  | @done s dep par v k d F row h hk =>
    intro w r hw
    have hw : (s.rows.set v none)[w]? = some (some r) := hw
    rw [List.getElem?_set] at hw
    split at hw
    · split at hw <;> cases hw
    · exact g w r hw
  | skip h _ => exact len_emptied h g
  | keep h _ _ _ => exact len_emptied h g
  | sink h _ _ _ _ => exact len_emptied h g
  | shelve h _ _ _ _ => exact len_emptied h g
theorem Stps.good {n L B : Nat} {out : Nat → Nat} {c c' : Cfg} (hL : 0 < L) (st : Stps L c c') (g : GoodC n L B out c) : GoodC n L B out c' := by
  induction st with
  | refl => exact g
  | head s _ ih => exact ih (g.step hL s)
theorem Stps.len {lens : Nat → Nat} {L : Nat} {c c' : Cfg} (st : Stps L c c') (g : LenC lens c) : LenC lens c' := by
  induction st with
  | refl => exact g
  | head s _ ih => exact ih (g.step s)

section
variable {n L B : Nat} {out lens : Nat → Nat}
theorem GoodC.room {c : Cfg} (g : GoodC n L B out c) (hB : B < bigN) : c.s.ev.length < bigN := by
  have h1 := g.pot
  have h2 := g.lenlog
  omega
/-- destroying with f calls -/
def DesOk (n L B : Nat) (out lens : Nat → Nat) (f : Nat) : Prop := ∀ (s : UW) (v d : Nat) (F : List Frm) (dep par : Nat → Nat),
  GoodC n L B out ⟨{ s with log := s.log ++ [v], ev := s.ev ++ [.des v d] }, ⟨v, 0, d⟩ :: F, dep, par⟩ → LenC lens ⟨s, F, dep, par⟩ → n ≤ F.length + f →
  ∃ s' dep' par', desF L f s v d = some s' ∧ Stps L ⟨{ s with log := s.log ++ [v], ev := s.ev ++ [.des v d] }, ⟨v, 0, d⟩ :: F, dep, par⟩ ⟨s', F, dep', par'⟩
theorem loop_ok (hL : 0 < L) (hB : B < bigN) {f : Nat} (ih : DesOk n L B out lens f) : ∀ (m k : Nat) (s : UW) (v d : Nat) (F : List Frm) (dep par : Nat → Nat), GoodC n L B out ⟨s, ⟨v, k, d⟩ :: F, dep, par⟩ → LenC lens ⟨s, ⟨v, k, d⟩ :: F, dep, par⟩ →
    lens v = k + m → n ≤ F.length + 1 + f → ∃ s' dep' par', slotsL (relF L (desF L f)) v d m k s = some s' ∧ Stps L ⟨s, ⟨v, k, d⟩ :: F, dep, par⟩ ⟨s', ⟨v, k + m, d⟩ :: F, dep', par'⟩ := by
  intro m
  induction m with
  | zero => intro k s v d F dep par _ _ _ _; exact ⟨s, dep, par, rfl, .refl _⟩
  | succ m im =>
    intro k s v d F dep par g gl hl hn
    obtain ⟨row, h, h2, h3, h4, h5⟩ := g.top
    have hrl : row.length = k + (m + 1) := by rw [gl v row h, hl]
    have hk : k < row.length := by omega
    cases hx : row[k] with
    | none =>
      have hk' : row[k]? = some none := by rw [List.getElem?_eq_getElem hk, hx]
      have st := Stp.skip (L := L) (dep := dep) (par := par) (d := d) (F := F) h hk'
      obtain ⟨s', dep', par', e1, e2⟩ := im (k + 1) _ v d F dep par (g.step hL st) (gl.step st) (by omega) hn
      refine ⟨s', dep', par', ?_, .head st (by rw [show k + (m + 1) = k + 1 + m by omega]; exact e2)⟩
      unfold slotsL
      simp only [h, hk']
      exact e1
    | some u =>
      have hk' : row[k]? = some (some u) := by rw [List.getElem?_eq_getElem hk, hx]
      obtain ⟨hu1, hu2, hu3, hu4, hu5, hu6, hu7⟩ := g.slot h hk'
      have hroom : ¬ bigN ≤ s.ev.length := by have := g.room hB; simp only at this; omega
      by_cases h0 : 0 < ((out u + cntF s.rows u : Nat) : Int) - 1
      · have st := Stp.keep (L := L) (dep := dep) (par := par) (d := d) (F := F) h hk' hu3 h0
        obtain ⟨s', dep', par', e1, e2⟩ := im (k + 1) _ v d F dep par (g.step hL st) (gl.step st) (by omega) hn
        refine ⟨s', dep', par', ?_, .head st (by rw [show k + (m + 1) = k + 1 + m by omega]; exact e2)⟩
        unfold slotsL
        simp only [h, hk', relF, hu3, if_neg hroom, if_pos h0]
        exact e1
      · by_cases hd : d + 1 < L
        · have st := Stp.sink (L := L) (dep := dep) (par := par) (d := d) (F := F) h hk' hu3 h0 hd
          have g1 := g.step hL st
          have gl1 := gl.step st
          obtain ⟨s1, dep1, par1, a1, a2⟩ := ih { s with rows := s.rows.set v (some (row.set k none)), tal := s.tal.set u (((out u + cntF s.rows u : Nat) : Int) - 1), ev := s.ev ++ [.rel (some (v, k)) u (((out u + cntF s.rows u : Nat) : Int) - 1)] } u (d + 1) (⟨v, k + 1, d⟩ :: F) _ _ g1 gl1 (by simp; omega)
          obtain ⟨s', dep', par', e1, e2⟩ := im (k + 1) s1 v d F dep1 par1 (a2.good hL g1) (a2.len gl1) (by omega) hn
          refine ⟨s', dep', par', ?_, .head st (a2.trans (by rw [show k + (m + 1) = k + 1 + m by omega]; exact e2))⟩
          unfold slotsL
          simp only [h, hk', relF, hu3, if_neg hroom, if_neg h0, if_pos hd, a1]
          exact e1
        · have st := Stp.shelve (L := L) (dep := dep) (par := par) (d := d) (F := F) h hk' hu3 h0 hd
          obtain ⟨s', dep', par', e1, e2⟩ := im (k + 1) _ v d F _ _ (g.step hL st) (gl.step st) (by omega) hn
          refine ⟨s', dep', par', ?_, .head st (by rw [show k + (m + 1) = k + 1 + m by omega]; exact e2)⟩
          unfold slotsL
          simp only [h, hk', relF, hu3, if_neg hroom, if_neg h0, if_neg hd]
          exact e1
theorem des_ok (hL : 0 < L) (hB : B < bigN) : ∀ f, DesOk n L B out lens f := by
  intro f
  induction f with
  | zero =>
    intro s v d F dep par g _ hn
    have := g.few
    omega
  | succ f ih =>
    intro s v d F dep par g gl hn
    obtain ⟨row, h, h2, h3, h4, h5⟩ := g.top
    have h : s.rows[v]? = some (some row) := h
    obtain ⟨s', dep', par', e1, e2⟩ := loop_ok hL hB ih row.length 0 _ v d F dep par g gl (by rw [Nat.zero_add]; exact (gl v row h).symm) (by omega)
    have g2 := e2.good hL g
    have gl2 := e2.len (lens := lens) (fun v row q => gl v row q)
    obtain ⟨row2, k2, _⟩ := g2.top
    have hroom : ¬ bigN ≤ s.ev.length := by have := g.room hB; simp only [List.length_append] at this; omega
    have hend : row2[0 + row.length]? = none := by
      rw [List.getElem?_eq_none_iff, gl2 v row2 k2, gl v row h]
      omega
    refine ⟨{ s' with rows := s'.rows.set v none }, dep', par', ?_, e2.trans (.one (.done k2 hend))⟩
    have hvl : v < s'.rows.length := (List.getElem?_eq_some_iff.mp k2).1
    unfold desF
    simp only [h, if_neg hroom, e1, if_pos hvl]
/-- no frame, nothing on the shelf: no step -/
theorem ended {L : Nat} {s : UW} {dep par : Nat → Nat} (h : s.shelf = []) : ∀ x, ¬ Stp L ⟨s, [], dep, par⟩ x := by
  intro x st
  cases st with
  | take hu => rw [h] at hu; cases hu
theorem takes_ok (hL : 0 < L) (hB : B < bigN) {f : Nat} (hf : n ≤ f) : ∀ (g : Nat) (s : UW) (dep par : Nat → Nat), GoodC n L B out ⟨s, [], dep, par⟩ → LenC lens ⟨s, [], dep, par⟩ → n ≤ s.log.length + g →
    ∃ s' dep' par', takes L f g s = some s' ∧ s'.shelf = [] ∧ Stps L ⟨s, [], dep, par⟩ ⟨s', [], dep', par'⟩ := by
  intro g
  induction g with
  | zero =>
    intro s dep par gd gl hn
    have hs : s.shelf = [] := by
      cases hq : s.shelf with
      | nil => rfl
      | cons u r =>
        have hm : u ∈ s.shelf := by rw [hq]; exact List.mem_cons_self
        obtain ⟨h1, h2, _⟩ := gd.shz u hm
        have := nodup_len (n := n) (l := u :: s.log) (List.nodup_cons.mpr ⟨h1, gd.logn⟩) (fun x hx => by
          rcases List.mem_cons.mp hx with e | hx
          · rw [e]; exact h2
          · exact (gd.logz x hx).1)
        simp at this; omega
    exact ⟨s, dep, par, by unfold takes; rw [if_pos hs], hs, .refl _⟩
  | succ g ig =>
    intro s dep par gd gl hn
    cases hq : s.shelf.getLast? with
    | none =>
      refine ⟨s, dep, par, by unfold takes; simp only [hq], ?_, .refl _⟩
      simpa using hq
    | some u =>
      have st := Stp.take (L := L) (dep := dep) (par := par) hq
      have g1 := gd.step hL st
      have gl1 := gl.step st
      obtain ⟨s1, dep1, par1, a1, a2⟩ := des_ok (n := n) (B := B) (out := out) (lens := lens) hL hB f { s with shelf := s.shelf.dropLast, ev := s.ev ++ [.tak u s.shelf.dropLast.length] } u 0 [] dep par g1 gl1 (by simp; omega)
      have g2 := a2.good hL g1
      have hlog : s.log.length + 1 ≤ s1.log.length := by
        have mono : ∀ {c c' : Cfg}, Stps L c c' → c.s.log.length ≤ c'.s.log.length := by
          intro c c' st
          induction st with
          | refl => exact Nat.le_refl _
          | head st _ ih =>
            refine Nat.le_trans ?_ ih
            cases st <;> simp
        have := mono a2
        simpa using this
      obtain ⟨s', dep', par', e1, e2, e3⟩ := ig s1 dep1 par1 g2 (a2.len gl1) (by omega)
      have hroom : ¬ bigN ≤ s.ev.length := by have := gd.room hB; simp only at this; omega
      refine ⟨s', dep', par', ?_, e2, .head st (a2.trans e3)⟩
      unfold takes
      simp only [hq, if_neg hroom, a1]
      exact e1
end
end SF

/-! The plain law, part 4: tree, history, peak. -/
namespace SF
/-! ### the folds -/
theorem treeOf_snoc (n : Nat) (ev : List Evt) (e : Evt) : treeOf n (ev ++ [e]) = treeF (treeOf n ev) e := by simp [treeOf]
theorem histOf_snoc (ev : List Evt) (e : Evt) : histOf (ev ++ [e]) = histF (histOf ev) e := by simp [histOf]
theorem treeF_len (T : Trr) (e : Evt) : (treeF T e).length = T.length := by
  cases e <;> simp only [treeF]
  split <;> simp
theorem treeOf_len (n : Nat) (ev : List Evt) : (treeOf n ev).length = n := by
  have : ∀ (ev : List Evt) (T : Trr), (ev.foldl treeF T).length = T.length := by
    intro ev
    induction ev with
    | nil => intro T; rfl
    | cons e r ih => intro T; rw [List.foldl_cons, ih, treeF_len]
  rw [treeOf, this]; simp
/-- a node stands on the shelf behind position k -/
def condF (L : Nat) (dep par : Nat → Nat) (log : List Nat) (k v : Nat) : Bool := decide (0 < dep v) && decide (dep v % L = 0) && decide (log.idxOf (par v) ≤ k) && decide (k < log.idxOf v)
def NN (L : Nat) (dep par : Nat → Nat) (log shelf : List Nat) (k : Nat) : Nat := (log ++ shelf).countP (condF L dep par log k)
/-- a shelving has a position ahead of it -/
def HistOk (ev : List Evt) : Prop := ∀ (i v l : Nat), ev[i]? = some (.shl v l) → (histOf (ev.take i)).1 ≠ []
def EvU (n : Nat) (ev : List Evt) : Prop := ∀ hs u c, Evt.rel hs u c ∈ ev → u < n
theorem HistOk.snoc {ev : List Evt} {e : Evt} (h : HistOk ev) (he : ∀ v l, e = .shl v l → (histOf ev).1 ≠ []) : HistOk (ev ++ [e]) := by
  intro i v l hi
  by_cases hlt : i < ev.length
  · rw [List.getElem?_append_left hlt] at hi
    rw [List.take_append_of_le_length (by omega)]
    exact h i v l hi
  · by_cases e1 : i = ev.length
    · subst e1
      simp at hi
      simp
      exact he v l hi
    · rw [List.getElem?_eq_none (by simp; omega)] at hi
      cases hi
structure Trk (n L start : Nat) (c : Cfg) : Prop where
  t1 : ∀ v, v ∈ c.s.log ∨ v ∈ c.s.shelf → ∃ hs, (treeOf n c.s.ev)[v]? = some (some hs) ∧ (hs = none → v = start ∧ c.dep v = 0) ∧ ∀ h s, hs = some (h, s) → h ∈ c.s.log ∧ c.dep v = c.dep h + 1 ∧ c.par v = h
  t2 : ∀ (v : Nat) (hs : Option (Nat × Nat)), (treeOf n c.s.ev)[v]? = some (some hs) → v ∈ c.s.log ∨ v ∈ c.s.shelf
  t3 : ∀ f, f ∈ c.fr → c.dep f.v % L = f.d
  t4 : ∀ v, v ∈ c.s.shelf → 0 < c.dep v ∧ c.dep v % L = 0
  hn : (histOf c.s.ev).2 = (c.s.shelf.length : Int)
  hl : (histOf c.s.ev).1.length = c.s.log.length
  hk : ∀ k, k < c.s.log.length → (histOf c.s.ev).1[k]? = some (NN L c.dep c.par c.s.log c.s.shelf k : Int)
  top : ∀ f F, c.fr = f :: F → L ≤ f.d + 1 → c.s.log.getLast? = some f.v
  pk1 : ∀ x ∈ (histOf c.s.ev).1, x ≤ (c.s.peak : Int)
  pk2 : c.s.peak = 0 ∨ (c.s.peak : Int) ∈ (histOf c.s.ev).1
  hok : HistOk c.s.ev
  evu : EvU n c.s.ev

section
variable {n L B start : Nat} {out : Nat → Nat}
theorem idx_snoc {log : List Nat} {u x : Nat} (hx : x ∈ log) : (log ++ [u]).idxOf x = log.idxOf x := by rw [List.idxOf_append, if_pos hx]
theorem idx_new {log : List Nat} {u : Nat} (hu : u ∉ log) : (log ++ [u]).idxOf u = log.length := by
  rw [List.idxOf_append, if_neg hu]; simp
theorem idx_no {log : List Nat} {u : Nat} (hu : u ∉ log) : log.idxOf u = log.length := List.idxOf_eq_length hu
theorem idx_other {log : List Nat} {u x : Nat} (hx : x ∉ log) (hxu : x ≠ u) : (log ++ [u]).idxOf x = log.length + 1 := by
  rw [idx_no (by simp [hx, hxu])]; simp
theorem idx_lt {log : List Nat} {u : Nat} (hu : u ∈ log) : log.idxOf u < log.length := List.idxOf_lt_length_of_mem hu
/-- a nonroot member of the tree has a parent in the log -/
theorem Trk.parent {c : Cfg} (t : Trk n L start c) {v : Nat} (hv : v ∈ c.s.log ∨ v ∈ c.s.shelf) (hd : 0 < c.dep v) : c.par v ∈ c.s.log := by
  obtain ⟨hs, h1, h2, h3⟩ := t.t1 v hv
  cases hs with
  | none => have := (h2 rfl).2; omega
  | some p =>
    obtain ⟨h, s⟩ := p
    obtain ⟨q1, q2, q3⟩ := h3 h s rfl
    rw [q3]; exact q1
/-- behind the last position stand just the shelf's nodes -/
theorem Trk.last {c : Cfg} (g : GoodC n L B out c) (t : Trk n L start c) {m : Nat} (hm : m + 1 = c.s.log.length) : NN L c.dep c.par c.s.log c.s.shelf m = c.s.shelf.length := by
  unfold NN
  rw [List.countP_append]
  have e1 : c.s.log.countP (condF L c.dep c.par c.s.log m) = 0 := by
    rw [List.countP_eq_zero]
    intro v hv
    have := idx_lt hv
    simp only [condF, Bool.and_eq_true, decide_eq_true_eq, not_and]
    intro _; omega
  have e2 : c.s.shelf.countP (condF L c.dep c.par c.s.log m) = c.s.shelf.length := by
    rw [List.countP_eq_length]
    intro v hv
    obtain ⟨h1, h2⟩ := t.t4 v hv
    have h3 := idx_lt (t.parent (.inr hv) h1)
    have h4 := idx_no (g.shz v hv).1
    simp only [condF, Bool.and_eq_true, decide_eq_true_eq]
    omega
  omega
/-- the condition with one more node in the log -/
theorem cond_snoc {dep par : Nat → Nat} {log : List Nat} {u k v : Nat} (hk : k < log.length) (hp : 0 < dep v → par v ∈ log) (hu : u ∉ log) : condF L dep par (log ++ [u]) k v = condF L dep par log k v := by
  unfold condF
  by_cases hd : 0 < dep v
  · rw [idx_snoc (hp hd)]
    by_cases hv : v ∈ log
    · rw [idx_snoc hv]
    · rw [idx_no hv]
      by_cases e : v = u
      · subst e; rw [idx_new hu]
      · rw [idx_other hv e]
        have e1 : decide (k < log.length + 1) = true := decide_eq_true (by omega)
        have e2 : decide (k < log.length) = true := decide_eq_true hk
        rw [e1, e2]
  · simp [hd]
theorem N_snoc {dep par : Nat → Nat} {log shelf : List Nat} {u k : Nat} (hk : k < log.length) (hp : ∀ v, v ∈ log ∨ v ∈ shelf → 0 < dep v → par v ∈ log) (hu : u ∉ log) (hc : condF L dep par log k u = false) :
    NN L dep par (log ++ [u]) shelf k = NN L dep par log shelf k := by
  unfold NN
  rw [List.countP_append, List.countP_append, List.countP_append]
  have e1 : log.countP (condF L dep par (log ++ [u]) k) = log.countP (condF L dep par log k) := List.countP_congr fun v hv => by rw [cond_snoc hk (hp v (.inl hv)) hu]
  have e2 : shelf.countP (condF L dep par (log ++ [u]) k) = shelf.countP (condF L dep par log k) := List.countP_congr fun v hv => by rw [cond_snoc hk (hp v (.inr hv)) hu]
  have e3 : [u].countP (condF L dep par (log ++ [u]) k) = 0 := by
    rw [List.countP_eq_zero]
    intro v hv
    have : v = u := by simpa using hv
    subst this
    by_cases hd : 0 < dep v
    · by_cases hm : par v ∈ log
      · rw [cond_snoc hk (fun _ => hm) hu, hc]; simp
      · have hc' := hc
        unfold condF at hc' ⊢
        simp only [Bool.and_eq_true, decide_eq_true_eq, not_and]
        intro ⟨_, h2⟩ h3
        have : (log ++ [v]).idxOf (par v) ≥ log.length := by
          rw [List.idxOf_append, if_neg hm]; omega
        omega
    · simp [condF, hd]
  omega
/-- a list with the last element taken -/
theorem shelf_split {s : List Nat} {u : Nat} (hu : s.getLast? = some u) : s = s.dropLast ++ [u] := by
  obtain ⟨hne, e⟩ := List.getLast?_eq_some_iff.mp hu
  rw [e]; simp
theorem idx_last {log : List Nat} {v : Nat} (hn : log.Nodup) (h : log.getLast? = some v) : log.idxOf v + 1 = log.length := by
  have e := shelf_split h
  rw [e] at hn
  have hv : v ∉ log.dropLast := fun z => (List.nodup_append.mp hn).2.2 v z v (by simp) rfl
  have e2 : log.idxOf v = log.dropLast.length := by
    rw [e, idx_new (by simpa using hv)]; simp
  have e3 : log.length = log.dropLast.length + 1 := by
    have := congrArg List.length e
    simpa using this
  omega
end
end SF

/-! The plain law, part 5: tree, history and peak are kept. -/
namespace SF
section
variable {n L B start : Nat} {out : Nat → Nat}
/-- the top's row moves on, nothing is told -/
theorem Trk.quiet {s : UW} {dep par : Nat → Nat} {v k d : Nat} {F : List Frm} (t : Trk n L start ⟨s, ⟨v, k, d⟩ :: F, dep, par⟩) (rows : List (Option Rw)) :
    Trk n L start ⟨{ s with rows := rows }, ⟨v, k + 1, d⟩ :: F, dep, par⟩ := by
  refine ⟨t.t1, t.t2, fun f hf => ?_, t.t4, t.hn, t.hl, t.hk, fun f G e h => ?_, t.pk1, t.pk2, t.hok, t.evu⟩
  · rcases List.mem_cons.mp hf with e | hf
    · subst e; exact t.t3 ⟨v, k, d⟩ List.mem_cons_self
    · exact t.t3 f (List.mem_cons_of_mem _ hf)
  · cases e
    exact t.top ⟨v, k, d⟩ F rfl h
/-- a node of neither log nor shelf joins log (sink) : positions, tree -/
theorem hist_des {ev : List Evt} (v d : Nat) : histOf (ev ++ [.des v d]) = ((histOf ev).1 ++ [(histOf ev).2], (histOf ev).2) := by rw [histOf_snoc]; rfl
theorem hist_rel {ev : List Evt} (hs : Option (Nat × Nat)) (u : Nat) (c : Int) : histOf (ev ++ [.rel hs u c]) = histOf ev := by rw [histOf_snoc]; rfl
theorem hist_tak {ev : List Evt} (v l : Nat) : histOf (ev ++ [.tak v l]) = ((histOf ev).1, (l : Int)) := by rw [histOf_snoc]; rfl
theorem tree_des {ev : List Evt} (v d : Nat) : treeOf n (ev ++ [.des v d]) = treeOf n ev := by rw [treeOf_snoc]; rfl
theorem tree_tak {ev : List Evt} (v d : Nat) : treeOf n (ev ++ [.tak v d]) = treeOf n ev := by rw [treeOf_snoc]; rfl
theorem tree_shl {ev : List Evt} (v d : Nat) : treeOf n (ev ++ [.shl v d]) = treeOf n ev := by rw [treeOf_snoc]; rfl
theorem tree_rel0 {ev : List Evt} (hs : Option (Nat × Nat)) (u : Nat) {c : Int} (h : c = 0) : treeOf n (ev ++ [.rel hs u c]) = (treeOf n ev).set u (some hs) := by rw [treeOf_snoc]; simp [treeF, h]
theorem tree_relN {ev : List Evt} (hs : Option (Nat × Nat)) (u : Nat) {c : Int} (h : c ≠ 0) : treeOf n (ev ++ [.rel hs u c]) = treeOf n ev := by rw [treeOf_snoc]; simp [treeF, h]
theorem evu_snoc {ev : List Evt} {e : Evt} (h : EvU n ev) (he : ∀ hs u c, e = .rel hs u c → u < n) : EvU n (ev ++ [e]) := by
  intro hs u c hm
  rcases List.mem_append.mp hm with hm | hm
  · exact h hs u c hm
  · exact he hs u c (by simpa using (List.mem_singleton.mp hm).symm)
theorem Trk.step {c c' : Cfg} (hL : 0 < L) (g : GoodC n L B out c) (t : Trk n L start c) (st : Stp L c c') : Trk n L start c' := by
  cases st with
  | @take s dep par u hu =>
    have hm : u ∈ s.shelf := List.mem_of_getLast? hu
    have hs := shelf_split hu
    obtain ⟨h1, h2, h3, r, h4⟩ := g.shz u hm
    have h1 : u ∉ s.log := h1
    have hsub : ∀ x, x ∈ s.shelf.dropLast → x ∈ s.shelf := fun x hx => by rw [hs]; exact List.mem_append_left _ hx
    have hin : ∀ x, x ∈ s.shelf → x = u ∨ x ∈ s.shelf.dropLast := fun x hx => by
      rw [hs] at hx
      rcases List.mem_append.mp hx with hx | hx
      · exact .inr hx
      · exact .inl (by simpa using hx)
    have hn0 : s.shelf.Nodup := g.shn
    rw [hs] at hn0
    have hne : ∀ x, x ∈ s.shelf.dropLast → x ≠ u := fun x hx e => by
      subst e
      exact (List.nodup_append.mp hn0).2.2 x hx x (by simp) rfl
    have hT : treeOf n (s.ev ++ [.tak u s.shelf.dropLast.length] ++ [.des u 0]) = treeOf n s.ev := by rw [tree_des, tree_tak]
    have hH : histOf (s.ev ++ [.tak u s.shelf.dropLast.length] ++ [.des u 0]) = ((histOf s.ev).1 ++ [(s.shelf.dropLast.length : Int)], (s.shelf.dropLast.length : Int)) := by rw [hist_des, hist_tak]
    have hlen : (histOf s.ev).1.length = s.log.length := t.hl
    refine ⟨fun v hv => ?_, fun v hs' hv => ?_, fun f hf => ?_, fun v hv => t.t4 v (hsub v hv), by simp only [hH], by simp only [hH]; simp [hlen], fun k hk => ?_, fun f F e h => ?_, fun x hx => ?_, ?_, ?_, ?_⟩
    · have hv' : v ∈ s.log ∨ v ∈ s.shelf := by
        rcases hv with hv | hv
        · rcases List.mem_append.mp hv with hv | hv
          · exact .inl hv
          · have : v = u := by simpa using hv
            subst this; exact .inr hm
        · exact .inr (hsub v hv)
      obtain ⟨q, a1, a2, a3⟩ := t.t1 v hv'
      refine ⟨q, by simp only [hT]; exact a1, a2, fun h s' e => ?_⟩
      obtain ⟨b1, b2, b3⟩ := a3 h s' e
      exact ⟨List.mem_append_left _ b1, b2, b3⟩
    · simp only [hT] at hv
      rcases t.t2 v hs' hv with q | q
      · exact .inl (List.mem_append_left _ q)
      · rcases hin v q with e | q
        · subst e; exact .inl (List.mem_append_right _ (by simp))
        · exact .inr q
    · have : f = ⟨u, 0, 0⟩ := by simpa using hf
      subst this
      exact (t.t4 u hm).2
    · have hkl : k < s.log.length + 1 := by simpa using hk
      simp only [hH]
      have hpar : ∀ v, v ∈ s.log ∨ v ∈ s.shelf → 0 < dep v → par v ∈ s.log := fun v hv hd => t.parent hv hd
      have hN : NN L dep par (s.log ++ [u]) s.shelf.dropLast k = if k < s.log.length then NN L dep par s.log s.shelf k else s.shelf.dropLast.length := by
        unfold NN
        split
        · next hk' =>
          have e1 : (s.log ++ [u] ++ s.shelf.dropLast).countP (condF L dep par (s.log ++ [u]) k) = (s.log ++ [u] ++ s.shelf.dropLast).countP (condF L dep par s.log k) :=
            List.countP_congr fun v hv => by
              rw [cond_snoc hk' (fun hd => hpar v ?_ hd) h1]
              rcases List.mem_append.mp hv with hv | hv
              · rcases List.mem_append.mp hv with hv | hv
                · exact .inl hv
                · have : v = u := by simpa using hv
                  subst this; exact .inr hm
              · exact .inr (hsub v hv)
          rw [e1, List.countP_append, List.countP_append, List.countP_append]
          conv => rhs; rw [hs, List.countP_append]
          omega
        · next hk' =>
          have ek : k = s.log.length := by omega
          subst ek
          rw [List.countP_append]
          have e1 : (s.log ++ [u]).countP (condF L dep par (s.log ++ [u]) s.log.length) = 0 := by
            rw [List.countP_eq_zero]
            intro v hv
            have := idx_lt hv
            simp only [List.length_append, List.length_cons, List.length_nil] at this
            simp only [condF, Bool.and_eq_true, decide_eq_true_eq, not_and]
            intro _; omega
          have e2 : s.shelf.dropLast.countP (condF L dep par (s.log ++ [u]) s.log.length) = s.shelf.dropLast.length := by
            rw [List.countP_eq_length]
            intro v hv
            obtain ⟨q1, q2⟩ := t.t4 v (hsub v hv)
            have hp := hpar v (.inr (hsub v hv)) q1
            have q3 := idx_lt hp
            have q4 := idx_other (u := u) (g.shz v (hsub v hv)).1 (hne v hv)
            have q4 : (s.log ++ [u]).idxOf v = s.log.length + 1 := q4
            have q5 := idx_snoc (u := u) hp
            have q1 : 0 < dep v := q1
            have q2 : dep v % L = 0 := q2
            simp only [condF, Bool.and_eq_true, decide_eq_true_eq, q4, q5]
            omega
          omega
      show _ = some ((NN L dep par (s.log ++ [u]) s.shelf.dropLast k : Nat) : Int)
      rw [hN]
      split
      · next hk' =>
        rw [List.getElem?_append_left (by rw [hlen]; exact hk')]
        exact t.hk k hk'
      · next hk' =>
        have ek : k = s.log.length := by omega
        rw [List.getElem?_append_right (by rw [hlen]; omega), hlen, ek]
        simp
    · cases e
      simp
    · simp only [hH] at hx
      rcases List.mem_append.mp hx with hx | hx
      · exact t.pk1 x hx
      · have hx : x = (s.shelf.dropLast.length : Int) := by simpa using hx
        subst hx
        cases hq : s.log with
        | nil =>
          have := (t.t4 u hm).1
          have := t.parent (.inr hm) this
          rw [show (⟨s, [], dep, par⟩ : Cfg).s.log = [] from hq] at this
          cases this
        | cons a r =>
          have hlast := t.last g (m := r.length) (by rw [show (⟨s, [], dep, par⟩ : Cfg).s.log = a :: r from hq]; rfl)
          have hk := t.hk r.length (by rw [show (⟨s, [], dep, par⟩ : Cfg).s.log = a :: r from hq]; simp)
          have := t.pk1 _ (List.mem_of_getElem? hk)
          rw [hlast] at this
          have this : (s.shelf.length : Int) ≤ (s.peak : Int) := this
          have e := congrArg List.length hs
          simp at e
          show (s.shelf.dropLast.length : Int) ≤ (s.peak : Int)
          simp
          omega
    · rcases t.pk2 with q | q
      · exact .inl q
      · simp only [hH]
        exact .inr (List.mem_append_left _ q)
    · exact (t.hok.snoc (fun _ _ e => by cases e)).snoc (fun _ _ e => by cases e)
    · exact evu_snoc (evu_snoc t.evu (fun _ _ _ e => by cases e)) (fun _ _ _ e => by cases e)
  | @done s dep par v k d F row h hk =>
    refine ⟨t.t1, t.t2, fun f hf => t.t3 f (List.mem_cons_of_mem _ hf), t.t4, t.hn, t.hl, t.hk, fun f G e hLf => ?_, t.pk1, t.pk2, t.hok, t.evu⟩
    have e : F = f :: G := e
    subst e
    have h0 := g.frd 0 ⟨v, k, d⟩ rfl
    have h1 := g.frd 1 f rfl
    have h2 := g.frb ⟨v, k, d⟩ List.mem_cons_self
    simp at h0 h1 h2
    omega
  | @skip s dep par v k d F row h hk => exact t.quiet _
  | @keep s dep par v k d u t0 F row h hk ht h0 =>
    have q := t.quiet (s.rows.set v (some (row.set k none)))
    have hT : treeOf n (s.ev ++ [.rel (some (v, k)) u (t0 - 1)]) = treeOf n s.ev := tree_relN _ _ (by omega)
    have hH : histOf (s.ev ++ [.rel (some (v, k)) u (t0 - 1)]) = histOf s.ev := hist_rel _ _ _
    have hu1 := (g.slot h hk).1
    refine ⟨by simp only [hT]; exact q.t1, by simp only [hT]; exact q.t2, q.t3, q.t4, by simp only [hH]; exact q.hn, by simp only [hH]; exact q.hl, by simp only [hH]; exact q.hk, q.top, by simp only [hH]; exact q.pk1, by simp only [hH]; exact q.pk2,
      t.hok.snoc (fun _ _ e => by cases e), evu_snoc t.evu (fun _ _ _ e => by cases e; exact hu1)⟩
  | @sink s dep par v k d u t0 F row h hk ht h0 hd =>
    obtain ⟨et, htl⟩ := tal_emptied g h hk ht
    obtain ⟨hu1, hu2, _, hu3, hu4, ⟨ru, hu5⟩, hu6⟩ := g.slot h hk
    have hvl : v ∈ s.log := (g.frl ⟨v, k, d⟩ List.mem_cons_self).1
    have hz : t0 - 1 = 0 := by omega
    have hT : treeOf n (s.ev ++ [.rel (some (v, k)) u (t0 - 1)] ++ [.des u (d + 1)]) = (treeOf n s.ev).set u (some (some (v, k))) := by rw [tree_des, tree_rel0 _ _ hz]
    have hH : histOf (s.ev ++ [.rel (some (v, k)) u (t0 - 1)] ++ [.des u (d + 1)]) = ((histOf s.ev).1 ++ [(histOf s.ev).2], (histOf s.ev).2) := by rw [hist_des, hist_rel]
    have hlen : (histOf s.ev).1.length = s.log.length := t.hl
    have hhn : (histOf s.ev).2 = (s.shelf.length : Int) := t.hn
    have hTl := treeOf_len n s.ev
    have hdv : dep v % L = d := t.t3 ⟨v, k, d⟩ List.mem_cons_self
    have hdu : (dep v + 1) % L = d + 1 := by rw [Nat.add_mod, hdv, Nat.mod_eq_of_lt (a := 1) (by omega), Nat.mod_eq_of_lt hd]
    have hdep : ∀ x, x ≠ u → fset dep u (dep v + 1) x = dep x := fun x hx => fset_ne hx
    have hpar : ∀ x, x ≠ u → fset par u v x = par x := fun x hx => fset_ne hx
    have hlu : ∀ x, x ∈ s.log → x ≠ u := fun x hx e => hu3 (by rw [← e]; exact hx)
    have hsu : ∀ x, x ∈ s.shelf → x ≠ u := fun x hx e => hu4 (by rw [← e]; exact hx)
    have hpl : ∀ x, x ∈ s.log ∨ x ∈ s.shelf → 0 < fset dep u (dep v + 1) x → fset par u v x ∈ s.log := fun x hx h0 => by
      have hxu : x ≠ u := hx.elim (hlu x) (hsu x)
      rw [hdep x hxu] at h0
      rw [hpar x hxu]
      exact t.parent hx h0
    have hcond : ∀ k' x, x ≠ u → condF L (fset dep u (dep v + 1)) (fset par u v) s.log k' x = condF L dep par s.log k' x := fun k' x hx => by unfold condF; rw [hdep x hx, hpar x hx]
    have hcu : ∀ k' log, condF L (fset dep u (dep v + 1)) (fset par u v) log k' u = false := fun k' log => by
      have e1 : decide ((dep v + 1) % L = 0) = false := decide_eq_false (by omega)
      unfold condF
      rw [fset_same, e1]; simp
    refine ⟨fun x hx => ?_, fun x hs' hx => ?_, fun f hf => ?_, fun x hx => ?_, by simp only [hH]; exact hhn, by simp only [hH]; simp [hlen], fun k' hk' => ?_, fun f G e hLf => ?_, fun x hx => ?_, ?_, ?_, ?_⟩
    · by_cases hxu : x = u
      · subst hxu
        refine ⟨some (v, k), ?_, (fun e => nomatch e), fun h' s' e => ?_⟩
        · simp only [hT]
          rw [List.getElem?_set_self (by rw [hTl]; exact hu1)]
        · cases e
          refine ⟨List.mem_append_left _ hvl, ?_, fset_same⟩
          show fset dep x (dep v + 1) x = fset dep x (dep v + 1) v + 1
          rw [fset_same, hdep v (hlu v hvl)]
      · have hx' : x ∈ s.log ∨ x ∈ s.shelf := by
          rcases hx with hx | hx
          · rcases List.mem_append.mp hx with hx | hx
            · exact .inl hx
            · exact absurd (by simpa using hx) hxu
          · exact .inr hx
        obtain ⟨q, a1, a2, a3⟩ := t.t1 x hx'
        refine ⟨q, ?_, fun e => ?_, fun h' s' e => ?_⟩
        · simp only [hT]
          rw [List.getElem?_set_ne (fun e => hxu e.symm)]
          exact a1
        · show _ ∧ fset dep u (dep v + 1) x = 0
          rw [hdep x hxu]; exact a2 e
        · obtain ⟨b1, b2, b3⟩ := a3 h' s' e
          refine ⟨List.mem_append_left _ b1, ?_, ?_⟩
          · show fset dep u (dep v + 1) x = fset dep u (dep v + 1) h' + 1
            rw [hdep x hxu, hdep h' (hlu h' b1)]; exact b2
          · show fset par u v x = h'
            rw [hpar x hxu]; exact b3
    · simp only [hT] at hx
      by_cases hxu : x = u
      · subst hxu; exact .inl (List.mem_append_right _ (by simp))
      · rw [List.getElem?_set_ne (fun e => hxu e.symm)] at hx
        rcases t.t2 x hs' hx with q | q
        · exact .inl (List.mem_append_left _ q)
        · exact .inr q
    · rcases List.mem_cons.mp hf with e | hf
      · subst e
        show fset dep u (dep v + 1) u % L = d + 1
        rw [fset_same]; exact hdu
      · have hfv : f.v ≠ u := by
          rcases List.mem_cons.mp hf with e | hf
          · subst e; exact hlu v hvl
          · exact hlu f.v (g.frl f (List.mem_cons_of_mem _ hf)).1
        show fset dep u (dep v + 1) f.v % L = f.d
        rw [hdep f.v hfv]
        rcases List.mem_cons.mp hf with e | hf
        · subst e; exact hdv
        · exact t.t3 f (List.mem_cons_of_mem _ hf)
    · have hx : x ∈ s.shelf := hx
      show 0 < fset dep u (dep v + 1) x ∧ fset dep u (dep v + 1) x % L = 0
      rw [hdep x (hsu x hx)]
      exact t.t4 x hx
    · have hkl : k' < s.log.length + 1 := by simpa using hk'
      simp only [hH]
      have hbase : ∀ k'', NN L (fset dep u (dep v + 1)) (fset par u v) s.log s.shelf k'' = NN L dep par s.log s.shelf k'' := fun k'' => List.countP_congr fun x hx => by
        rw [hcond k'' x]
        rcases List.mem_append.mp hx with hx | hx
        · exact hlu x hx
        · exact hsu x hx
      by_cases hk'' : k' < s.log.length
      · rw [List.getElem?_append_left (by rw [hlen]; exact hk''), N_snoc hk'' hpl hu3 (hcu k' _), hbase]
        exact t.hk k' hk''
      · have ek : k' = s.log.length := by omega
        subst ek
        rw [List.getElem?_append_right (by rw [hlen]; omega), hlen, hhn]
        have e1 : NN L (fset dep u (dep v + 1)) (fset par u v) (s.log ++ [u]) s.shelf s.log.length = s.shelf.length := by
          unfold NN
          rw [List.countP_append]
          have e1 : (s.log ++ [u]).countP (condF L (fset dep u (dep v + 1)) (fset par u v) (s.log ++ [u]) s.log.length) = 0 := by
            rw [List.countP_eq_zero]
            intro x hx
            have := idx_lt hx
            simp only [List.length_append, List.length_cons, List.length_nil] at this
            simp only [condF, Bool.and_eq_true, decide_eq_true_eq, not_and]
            intro _; omega
          have e2 : s.shelf.countP (condF L (fset dep u (dep v + 1)) (fset par u v) (s.log ++ [u]) s.log.length) = s.shelf.length := by
            rw [List.countP_eq_length]
            intro x hx
            obtain ⟨q1, q2⟩ := t.t4 x hx
            have q1 : 0 < dep x := q1
            have q2 : dep x % L = 0 := q2
            have hp := t.parent (.inr hx) q1
            have q3 := idx_lt hp
            have q4 : (s.log ++ [u]).idxOf x = s.log.length + 1 := idx_other (g.shz x hx).1 (hsu x hx)
            have q5 : (s.log ++ [u]).idxOf (par x) = s.log.idxOf (par x) := idx_snoc hp
            have q3 : s.log.idxOf (par x) < s.log.length := q3
            simp only [condF, Bool.and_eq_true, decide_eq_true_eq, hdep x (hsu x hx), hpar x (hsu x hx), q4, q5]
            omega
          omega
        rw [e1]; simp
    · cases e
      simp
    · simp only [hH] at hx
      rcases List.mem_append.mp hx with hx | hx
      · exact t.pk1 x hx
      · have hx : x = (s.shelf.length : Int) := by rw [← hhn]; simpa using hx
        subst hx
        have hlp := List.length_pos_of_mem hvl
        have hlast := t.last g (m := s.log.length - 1) (by show s.log.length - 1 + 1 = s.log.length; omega)
        have hk := t.hk (s.log.length - 1) (by show s.log.length - 1 < s.log.length; omega)
        have := t.pk1 _ (List.mem_of_getElem? hk)
        rw [hlast] at this
        exact this
    · rcases t.pk2 with q | q
      · exact .inl q
      · simp only [hH]
        exact .inr (List.mem_append_left _ q)
    · exact (t.hok.snoc (fun _ _ e => by cases e)).snoc (fun _ _ e => by cases e)
    · exact evu_snoc (evu_snoc t.evu (fun _ _ _ e => by cases e; exact hu1)) (fun _ _ _ e => by cases e)
  | @shelve s dep par v k d u t0 F row h hk ht h0 hd =>
    obtain ⟨et, htl⟩ := tal_emptied g h hk ht
    obtain ⟨hu1, hu2, _, hu3, hu4, ⟨ru, hu5⟩, hu6⟩ := g.slot h hk
    have hvl : v ∈ s.log := (g.frl ⟨v, k, d⟩ List.mem_cons_self).1
    have hz : t0 - 1 = 0 := by omega
    have eev : s.ev ++ [.rel (some (v, k)) u (t0 - 1), .shl u (s.shelf.length + 1)] = s.ev ++ [.rel (some (v, k)) u (t0 - 1)] ++ [.shl u (s.shelf.length + 1)] := by simp
    have hT : treeOf n (s.ev ++ [.rel (some (v, k)) u (t0 - 1), .shl u (s.shelf.length + 1)]) = (treeOf n s.ev).set u (some (some (v, k))) := by rw [eev, tree_shl, tree_rel0 _ _ hz]
    have hlen : (histOf s.ev).1.length = s.log.length := t.hl
    have hhn : (histOf s.ev).2 = (s.shelf.length : Int) := t.hn
    have hTl := treeOf_len n s.ev
    have hlp := List.length_pos_of_mem hvl
    have hlast := t.last g (m := s.log.length - 1) (by show s.log.length - 1 + 1 = s.log.length; omega)
    have hlast : NN L dep par s.log s.shelf (s.log.length - 1) = s.shelf.length := hlast
    have hkl := t.hk (s.log.length - 1) (by show s.log.length - 1 < s.log.length; omega)
    have hkl : (histOf s.ev).1[s.log.length - 1]? = some ((NN L dep par s.log s.shelf (s.log.length - 1) : Nat) : Int) := hkl
    rw [hlast] at hkl
    have hH : histOf (s.ev ++ [.rel (some (v, k)) u (t0 - 1), .shl u (s.shelf.length + 1)]) = ((histOf s.ev).1.set (s.log.length - 1) ((s.shelf.length : Int) + 1), (s.shelf.length : Int) + 1) := by
      rw [eev, histOf_snoc, hist_rel]
      show ((histOf s.ev).1.set ((histOf s.ev).1.length - 1) (max ((histOf s.ev).1.getD ((histOf s.ev).1.length - 1) 0) ((s.shelf.length + 1 : Nat) : Int)), ((s.shelf.length + 1 : Nat) : Int)) = _
      rw [hlen, List.getD_eq_getElem?_getD, hkl]
      have : max (s.shelf.length : Int) ((s.shelf.length + 1 : Nat) : Int) = (s.shelf.length : Int) + 1 := by omega
      simp only [Option.getD_some, this]
      simp
    have hdv : dep v % L = d := t.t3 ⟨v, k, d⟩ List.mem_cons_self
    have hdL := g.frb ⟨v, k, d⟩ List.mem_cons_self
    have hdL : d < L := hdL
    have hdu : (dep v + 1) % L = 0 := by
      have e1 := Nat.div_add_mod (dep v) L
      rw [hdv] at e1
      have e2 : dep v + 1 = L * (dep v / L + 1) := by rw [Nat.mul_add]; omega
      rw [e2, Nat.mul_mod_right]
    have htop : s.log.getLast? = some v := t.top ⟨v, k, d⟩ F rfl (by show L ≤ d + 1; omega)
    have hiv := idx_last g.logn htop
    have hiv : s.log.idxOf v + 1 = s.log.length := hiv
    have hdep : ∀ x, x ≠ u → fset dep u (dep v + 1) x = dep x := fun x hx => fset_ne hx
    have hpar : ∀ x, x ≠ u → fset par u v x = par x := fun x hx => fset_ne hx
    have hlu : ∀ x, x ∈ s.log → x ≠ u := fun x hx e => hu3 (by rw [← e]; exact hx)
    have hsu : ∀ x, x ∈ s.shelf → x ≠ u := fun x hx e => hu4 (by rw [← e]; exact hx)
    have hcond : ∀ k' x, x ≠ u → condF L (fset dep u (dep v + 1)) (fset par u v) s.log k' x = condF L dep par s.log k' x := fun k' x hx => by unfold condF; rw [hdep x hx, hpar x hx]
    refine ⟨fun x hx => ?_, fun x hs' hx => ?_, fun f hf => ?_, fun x hx => ?_, by simp only [hH]; simp, by simp only [hH]; simp [hlen], fun k' hk' => ?_, fun f G e hLf => ?_, fun x hx => ?_, ?_, ?_, ?_⟩
    · by_cases hxu : x = u
      · subst hxu
        refine ⟨some (v, k), ?_, (fun e => nomatch e), fun h' s' e => ?_⟩
        · simp only [hT]
          rw [List.getElem?_set_self (by rw [hTl]; exact hu1)]
        · cases e
          refine ⟨hvl, ?_, fset_same⟩
          show fset dep x (dep v + 1) x = fset dep x (dep v + 1) v + 1
          rw [fset_same, hdep v (hlu v hvl)]
      · have hx' : x ∈ s.log ∨ x ∈ s.shelf := by
          rcases hx with hx | hx
          · exact .inl hx
          · rcases List.mem_append.mp hx with hx | hx
            · exact .inr hx
            · exact absurd (by simpa using hx) hxu
        obtain ⟨q, a1, a2, a3⟩ := t.t1 x hx'
        refine ⟨q, ?_, fun e => ?_, fun h' s' e => ?_⟩
        · simp only [hT]
          rw [List.getElem?_set_ne (fun e => hxu e.symm)]
          exact a1
        · show _ ∧ fset dep u (dep v + 1) x = 0
          rw [hdep x hxu]; exact a2 e
        · obtain ⟨b1, b2, b3⟩ := a3 h' s' e
          refine ⟨b1, ?_, ?_⟩
          · show fset dep u (dep v + 1) x = fset dep u (dep v + 1) h' + 1
            rw [hdep x hxu, hdep h' (hlu h' b1)]; exact b2
          · show fset par u v x = h'
            rw [hpar x hxu]; exact b3
    · simp only [hT] at hx
      by_cases hxu : x = u
      · subst hxu; exact .inr (List.mem_append_right _ (by simp))
      · rw [List.getElem?_set_ne (fun e => hxu e.symm)] at hx
        rcases t.t2 x hs' hx with q | q
        · exact .inl q
        · exact .inr (List.mem_append_left _ q)
    · have hfv : f.v ≠ u := by
        rcases List.mem_cons.mp hf with e | hf
        · subst e; exact hlu v hvl
        · exact hlu f.v (g.frl f (List.mem_cons_of_mem _ hf)).1
      show fset dep u (dep v + 1) f.v % L = f.d
      rw [hdep f.v hfv]
      rcases List.mem_cons.mp hf with e | hf
      · subst e; exact hdv
      · exact t.t3 f (List.mem_cons_of_mem _ hf)
    · show 0 < fset dep u (dep v + 1) x ∧ fset dep u (dep v + 1) x % L = 0
      have hx : x ∈ s.shelf ++ [u] := hx
      by_cases hxu : x = u
      · subst hxu
        rw [fset_same]
        exact ⟨Nat.succ_pos _, hdu⟩
      · rcases List.mem_append.mp hx with hx | hx
        · rw [hdep x hxu]
          exact t.t4 x hx
        · exact absurd (by simpa using hx) hxu
    · have hk' : k' < s.log.length := hk'
      simp only [hH]
      have e1 : NN L (fset dep u (dep v + 1)) (fset par u v) s.log (s.shelf ++ [u]) k' = NN L dep par s.log s.shelf k' + if k' = s.log.length - 1 then 1 else 0 := by
        unfold NN
        rw [← List.append_assoc, List.countP_append]
        have e1 : (s.log ++ s.shelf).countP (condF L (fset dep u (dep v + 1)) (fset par u v) s.log k') = (s.log ++ s.shelf).countP (condF L dep par s.log k') := List.countP_congr fun x hx => by
          rw [hcond k' x]
          rcases List.mem_append.mp hx with hx | hx
          · exact hlu x hx
          · exact hsu x hx
        rw [e1]
        congr 1
        have eu : s.log.idxOf u = s.log.length := idx_no hu3
        have ec : condF L (fset dep u (dep v + 1)) (fset par u v) s.log k' u = decide (k' = s.log.length - 1) := by
          unfold condF
          rw [fset_same, fset_same, eu]
          have a1 : decide (0 < dep v + 1) = true := decide_eq_true (Nat.succ_pos _)
          have a2 : decide ((dep v + 1) % L = 0) = true := decide_eq_true hdu
          have a3 : decide (k' < s.log.length) = true := decide_eq_true hk'
          rw [a1, a2, a3]
          simp only [Bool.true_and, Bool.and_true]
          rw [decide_eq_decide]
          omega
        rw [List.countP_cons, List.countP_nil, ec]
        by_cases e : k' = s.log.length - 1 <;> simp [e]
      show _ = some ((NN L (fset dep u (dep v + 1)) (fset par u v) s.log (s.shelf ++ [u]) k' : Nat) : Int)
      rw [e1, List.getElem?_set]
      by_cases e : s.log.length - 1 = k'
      · rw [if_pos e, if_pos (by rw [hlen]; omega), if_pos e.symm, ← e, hlast]
        rfl
      · rw [if_neg e, if_neg (fun q => e q.symm), Nat.add_zero]
        exact t.hk k' hk'
    · cases e
      exact htop
    · simp only [hH] at hx
      show x ≤ ((max s.peak (s.shelf.length + 1) : Nat) : Int)
      rcases List.mem_or_eq_of_mem_set hx with hx | hx
      · have h9 := t.pk1 x hx
        have h9 : x ≤ (s.peak : Int) := h9
        omega
      · rw [hx]; omega
    · show max s.peak (s.shelf.length + 1) = 0 ∨ _
      simp only [hH]
      right
      by_cases hm : s.peak ≤ s.shelf.length + 1
      · have e : max s.peak (s.shelf.length + 1) = s.shelf.length + 1 := by omega
        rw [e]
        have hp : s.log.length - 1 < (histOf s.ev).1.length := by rw [hlen]; omega
        exact List.mem_iff_getElem.mpr ⟨s.log.length - 1, by rw [List.length_set]; exact hp, by simp⟩
      · have e : max s.peak (s.shelf.length + 1) = s.peak := by omega
        rw [e]
        rcases t.pk2 with q | q
        · have q : s.peak = 0 := q
          omega
        · have q : (s.peak : Int) ∈ (histOf s.ev).1 := q
          obtain ⟨j, hj, ej⟩ := List.getElem_of_mem q
          have hjl : s.log.length - 1 ≠ j := fun e => by
            subst e
            rw [List.getElem?_eq_getElem hj, ej] at hkl
            have := Option.some.inj hkl
            omega
          exact List.mem_iff_getElem.mpr ⟨j, by rw [List.length_set]; exact hj, by rw [List.getElem_set_ne hjl]; exact ej⟩
    · rw [eev]
      refine (t.hok.snoc (fun _ _ e => by cases e)).snoc (fun _ _ _ => ?_)
      rw [hist_rel]
      intro e
      rw [e] at hlen
      simp at hlen
      omega
    · rw [eev]
      exact evu_snoc (evu_snoc t.evu (fun _ _ _ e => by cases e; exact hu1)) (fun _ _ _ e => by cases e)
theorem Stps.trk {c c' : Cfg} (hL : 0 < L) (st : Stps L c c') (g : GoodC n L B out c) (t : Trk n L start c) : Trk n L start c' := by
  induction st with
  | refl => exact t
  | head s _ ih => exact ih (g.step hL s) (t.step hL g s)
end
end SF

/-! The plain law, part 6: a whole drop. -/
namespace SF
structure HeapOk (n : Nat) (rows : List (Option Rw)) (out : List Nat) : Prop where
  rl : rows.length = n
  ol : out.length = n
  n40 : n ≤ 40
  ok : ∀ (v : Nat) (row : Rw), rows[v]? = some (some row) → row.length ≤ 40 ∧ ∀ u, some u ∈ row → u < n ∧ ∃ r', rows[u]? = some (some r')
structure StartOk (rows : List (Option Rw)) (out : List Nat) (start : Nat) : Prop where
  live : ∃ row, rows[start]? = some (some row)
  pos : ∃ o, out[start]? = some o ∧ 0 < o
/-- the counts at the entry -/
def tal0 (rows : List (Option Rw)) (out : List Nat) : List Int := (List.range out.length).map fun u => ((out.getD u 0 + cntF rows u : Nat) : Int)
def initS (rows : List (Option Rw)) (out : List Nat) : UW := ⟨rows, tal0 rows out, [], [], 0, []⟩
theorem filled_le {rows : List (Option Rw)} : (∀ (v : Nat) (row : Rw), rows[v]? = some (some row) → row.length ≤ 40) → filled rows ≤ 40 * rows.length := by
  induction rows with
  | nil => intro _; simp [filled, tot]
  | cons r rs ih =>
    intro h
    have h1 := ih (fun v row e => h (v + 1) row (by simpa using e))
    have h2 : fo (fun row => row.countP Option.isSome) r ≤ 40 := by
      cases r with
      | none => simp [fo]
      | some row =>
        have := h 0 row rfl
        exact Nat.le_trans List.countP_le_length this
    simp only [filled, tot, List.map_cons, List.sum_cons, List.length_cons] at h1 ⊢
    omega
section
variable {n L start : Nat} {rows : List (Option Rw)} {out : List Nat}
theorem tal0_at (h : HeapOk n rows out) {u : Nat} (hu : u < n) : (tal0 rows out)[u]? = some ((out.getD u 0 + cntF rows u : Nat) : Int) := by
  unfold tal0
  rw [List.getElem?_map, List.getElem?_range (by rw [h.ol]; exact hu)]
  rfl
def out1 (out : List Nat) (start : Nat) : Nat → Nat := fun u => if u = start then out.getD u 0 - 1 else out.getD u 0
/-- the state behind the first destruction's opening -/
def S1 (rows : List (Option Rw)) (out : List Nat) (start : Nat) : UW :=
  ⟨rows, (tal0 rows out).set start 0, [start], [], 0, [.rel none start 0, .des start 0]⟩
theorem start_lt (h : HeapOk n rows out) (st : StartOk rows out start) : start < n := by
  obtain ⟨row, e⟩ := st.live
  have := (List.getElem?_eq_some_iff.mp e).1
  rw [h.rl] at this
  exact this
theorem good1 (hL : 0 < L) (h : HeapOk n rows out) (st : StartOk rows out start) (h1 : out.getD start 0 + cntF rows start = 1) (dep par : Nat → Nat) :
    GoodC n L (2 * filled rows + 2 * n) (out1 out start) ⟨S1 rows out start, [⟨start, 0, 0⟩], dep, par⟩ := by
  have hs := start_lt h st
  obtain ⟨o, ho, hpos⟩ := st.pos
  have hod : out.getD start 0 = o := by rw [List.getD_eq_getElem?_getD, ho]; rfl
  obtain ⟨row, hrow⟩ := st.live
  refine ⟨h.rl, by simp [S1, tal0, h.ol], fun u hu => ?_, fun v row e => (h.ok v row e).2, by simp [S1], fun v hv => ?_, by simp [S1], fun v hv => ?_, by simp, fun f hf => ?_, fun i f hf => ?_, fun f hf => ?_, ?_⟩
  · show ((tal0 rows out).set start 0)[u]? = some ((out1 out start u + cntF rows u : Nat) : Int)
    rw [List.getElem?_set]
    by_cases e : start = u
    · subst e
      rw [if_pos rfl, if_pos (by simp [tal0, h.ol]; exact hs)]
      have : out1 out start start + cntF rows start = 0 := by unfold out1; rw [if_pos rfl]; omega
      rw [this]; rfl
    · rw [if_neg e, tal0_at h hu]
      unfold out1
      rw [if_neg (fun q => e q.symm)]
  · have : v = start := by simpa [S1] using hv
    subst this
    refine ⟨hs, ?_⟩
    show out1 out v v + cntF rows v = 0
    unfold out1; rw [if_pos rfl]; omega
  · simp [S1] at hv
  · have : f = ⟨start, 0, 0⟩ := by simpa using hf
    subst this
    exact ⟨by simp [S1], row, hrow, Nat.zero_le _, fun j hj => absurd hj (Nat.not_lt_zero _)⟩
  · cases i with
    | zero => simp at hf; subst hf; rfl
    | succ i => simp at hf
  · have : f = ⟨start, 0, 0⟩ := by simpa using hf
    subst this
    exact hL
  · simp [S1]; omega
theorem trk1 (hL : 0 < L) (h : HeapOk n rows out) (st : StartOk rows out start) : Trk n L start ⟨S1 rows out start, [⟨start, 0, 0⟩], fun _ => 0, fun _ => 0⟩ := by
  have hs := start_lt h st
  have hT : treeOf n (S1 rows out start).ev = (List.replicate n none).set start (some none) := by simp [S1, treeOf, treeF]
  have hH : histOf (S1 rows out start).ev = ([0], 0) := by simp [S1, histOf, histF]
  refine ⟨fun v hv => ?_, fun v hs' hv => ?_, fun f hf => ?_, fun v hv => ?_, by simp only [hH]; rfl, by simp only [hH]; rfl, fun k hk => ?_, fun f F e _ => ?_, fun x hx => ?_, .inl rfl, ?_, ?_⟩
  · have : v = start := by simpa [S1] using hv
    subst this
    refine ⟨none, ?_, fun _ => ⟨rfl, rfl⟩, fun _ _ e => nomatch e⟩
    simp only [hT]
    rw [List.getElem?_set_self (by simpa using hs)]
  · simp only [hT] at hv
    by_cases e : v = start
    · subst e; exact .inl (by simp [S1])
    · rw [List.getElem?_set_ne (fun q => e q.symm)] at hv
      rw [List.getElem?_replicate] at hv
      split at hv <;> cases hv
  · have : f = ⟨start, 0, 0⟩ := by simpa using hf
    subst this
    simp
  · simp [S1] at hv
  · have : k = 0 := by simp [S1] at hk; exact hk
    subst this
    simp only [hH]
    simp [NN, condF, S1]
  · cases e
    simp [S1]
  · simp only [hH] at hx
    have : x = 0 := by simpa using hx
    subst this
    exact Int.natCast_nonneg _
  · intro i v l hi
    cases i with
    | zero => simp [S1] at hi
    | succ i =>
      cases i with
      | zero => simp [S1] at hi
      | succ i => simp [S1] at hi
  · intro hs' u c hm
    simp [S1] at hm
    obtain ⟨_, e, _⟩ := hm
    rw [e]; exact hs
/-- where the runF goes -/
theorem run_star (hL : 0 < L) (h : HeapOk n rows out) (st : StartOk rows out start) :
    (1 < out.getD start 0 + cntF rows start ∧ runF L 41 41 (initS rows out) start = some { initS rows out with tal := (tal0 rows out).set start (((out.getD start 0 + cntF rows start : Nat) : Int) - 1), ev := [.rel none start (((out.getD start 0 + cntF rows start : Nat) : Int) - 1)] }) ∨
    (out.getD start 0 + cntF rows start = 1 ∧ ∃ s' dep par, runF L 41 41 (initS rows out) start = some s' ∧ s'.shelf = [] ∧ Stps L ⟨S1 rows out start, [⟨start, 0, 0⟩], fun _ => 0, fun _ => 0⟩ ⟨s', [], dep, par⟩) := by
  have hs := start_lt h st
  obtain ⟨o, ho, hpos⟩ := st.pos
  have hod : out.getD start 0 = o := by rw [List.getD_eq_getElem?_getD, ho]; rfl
  have ht := tal0_at h hs
  have hroom : ¬ bigN ≤ (initS rows out).ev.length := by simp [initS, bigN]
  have ht' : (initS rows out).tal[start]? = some ((out.getD start 0 + cntF rows start : Nat) : Int) := ht
  by_cases h1 : 1 < out.getD start 0 + cntF rows start
  · refine .inl ⟨h1, ?_⟩
    unfold runF relF
    simp only [ht', if_neg hroom]
    rw [if_pos (by omega)]
    simp [takes, initS]
  · have h1 : out.getD start 0 + cntF rows start = 1 := by omega
    refine .inr ⟨h1, ?_⟩
    have g := good1 hL h st h1 (fun _ => 0) (fun _ => 0)
    have hB : 2 * filled rows + 2 * n < bigN := by
      have := filled_le (fun v row e => (h.ok v row e).1)
      rw [h.rl] at this
      have := h.n40
      simp only [bigN]
      omega
    have gl : LenC (fun v => ((rows[v]?.getD none).getD []).length) ⟨S1 rows out start, [⟨start, 0, 0⟩], fun _ => 0, fun _ => 0⟩ := fun v row e => by
      have e : rows[v]? = some (some row) := e
      show _ = ((rows[v]?.getD none).getD []).length
      rw [e]; rfl
    obtain ⟨s1, dep1, par1, a1, a2⟩ := des_ok (lens := fun v => ((rows[v]?.getD none).getD []).length) hL hB 41 ⟨rows, (tal0 rows out).set start 0, [], [], 0, [.rel none start 0]⟩ start 0 [] (fun _ => 0) (fun _ => 0) g gl (by have := h.n40; simp; omega)
    have g2 := a2.good hL g
    have gl2 := a2.len (lens := fun v => ((rows[v]?.getD none).getD []).length) gl
    obtain ⟨s', dep', par', e1, e2, e3⟩ := takes_ok hL hB (f := 41) (by have := h.n40; omega) 41 s1 dep1 par1 g2 gl2 (by have := h.n40; omega)
    refine ⟨s', dep', par', ?_, e2, a2.trans e3⟩
    unfold runF relF
    simp only [ht', if_neg hroom]
    rw [if_neg (by omega), if_pos hL]
    have ez : ((out.getD start 0 + cntF rows start : Nat) : Int) - 1 = 0 := by omega
    rw [ez]
    simp only [initS, List.nil_append]
    rw [a1]
    exact e1
/-- what is known of the end -/
structure RunFin (n L : Nat) (s : UW) : Prop where
  nd : s.log.Nodup
  lt : ∀ v ∈ s.log, v < n
  tree : ∀ v : Nat, v ∈ s.log ↔ ∃ hs, (treeOf n s.ev)[v]? = some (some hs)
  hist : ∃ dep par : Nat → Nat, (∀ v ∈ s.log, ∃ hs, (treeOf n s.ev)[v]? = some (some hs) ∧ (hs = none → dep v = 0) ∧ ∀ h x, hs = some (h, x) → h ∈ s.log ∧ dep v = dep h + 1 ∧ par v = h) ∧
    (histOf s.ev).1 = (List.range s.log.length).map fun k => ((s.log.countP (condF L dep par s.log k) : Nat) : Int)
  pk1 : ∀ x ∈ (histOf s.ev).1, x ≤ (s.peak : Int)
  pk2 : s.peak = 0 ∨ (s.peak : Int) ∈ (histOf s.ev).1
  hok : HistOk s.ev
  evu : EvU n s.ev
  ev : s.ev.length < bigN
  rl : s.rows.length = n
theorem run_fin (hL : 0 < L) (h : HeapOk n rows out) (st : StartOk rows out start) : ∃ s', runF L 41 41 (initS rows out) start = some s' ∧ RunFin n L s' := by
  have hs := start_lt h st
  rcases run_star hL h st with ⟨h1, e⟩ | ⟨h1, s', dep, par, e, hsh, star⟩
  · refine ⟨_, e, ?_⟩
    have hT : ∀ c : Int, c ≠ 0 → treeOf n [.rel none start c] = List.replicate n none := fun c hc => by simp [treeOf, treeF, hc]
    refine ⟨by simp [initS], by simp [initS], fun v => ?_, ⟨fun _ => 0, fun _ => 0, by simp [initS], by simp [histOf, histF, initS]⟩, by simp [histOf, histF], .inl rfl, ?_, ?_, by simp [bigN], h.rl⟩
    · rw [hT _ (by omega)]
      refine ⟨fun z => by simp [initS] at z, fun ⟨q, z⟩ => ?_⟩
      rw [List.getElem?_replicate] at z
      split at z <;> cases z
    · intro i v l hi
      cases i <;> simp at hi
    · intro hs' u c hm
      simp at hm
      obtain ⟨_, e, _⟩ := hm
      rw [e]; exact hs
  · have g := star.good hL (good1 hL h st h1 _ _)
    have t := star.trk hL (good1 hL h st h1 _ _) (trk1 hL h st)
    have hlen := t.hl
    have hlen : (histOf s'.ev).1.length = s'.log.length := hlen
    refine ⟨s', e, g.logn, fun v hv => (g.logz v hv).1, fun v => ⟨fun hv => ?_, fun ⟨hs', q⟩ => ?_⟩, ⟨dep, par, fun v hv => ?_, ?_⟩, t.pk1, t.pk2, t.hok, t.evu, ?_, g.rl⟩
    · obtain ⟨q, a, _⟩ := t.t1 v (.inl hv)
      exact ⟨q, a⟩
    · rcases t.t2 v hs' q with z | z
      · exact z
      · have z : v ∈ s'.shelf := z
        rw [hsh] at z; cases z
    · obtain ⟨q, a1, a2, a3⟩ := t.t1 v (.inl hv)
      exact ⟨q, a1, fun e => (a2 e).2, a3⟩
    · apply List.ext_getElem?
      intro k
      by_cases hk : k < s'.log.length
      · have q := t.hk k hk
        have q : (histOf s'.ev).1[k]? = some ((NN L dep par s'.log s'.shelf k : Nat) : Int) := q
        rw [q, List.getElem?_map, List.getElem?_range hk, hsh]
        simp [NN]
      · rw [List.getElem?_eq_none (by omega), List.getElem?_eq_none (by simp; omega)]
    · have hB : 2 * filled rows + 2 * n < bigN := by
        have := filled_le (fun v row e => (h.ok v row e).1)
        rw [h.rl] at this
        have := h.n40
        simp only [bigN]
        omega
      exact g.room hB
/-! ### limits that are at least n -/
theorem Stp.big {B : Nat} {ou : Nat → Nat} {L' : Nat} {c c' : Cfg} (g : GoodC n L B ou c) (h1 : n ≤ L) (h2 : n ≤ L') (st : Stp L c c') : Stp L' c c' := by
  cases st with
  | take h => exact .take h
  | done a b => exact .done a b
  | skip a b => exact .skip a b
  | keep a b c d => exact .keep a b c d
  | sink a b c d e =>
    have hd := g.depth
    obtain ⟨q1, _, _, q2, _⟩ := g.slot a b
    have := g.few' q1 q2
    exact .sink a b c d (by omega)
  | shelve a b c d e =>
    have hd := g.depth
    obtain ⟨q1, _, _, q2, _⟩ := g.slot a b
    have := g.few' q1 q2
    omega
theorem Stp.flat {B : Nat} {ou : Nat → Nat} {c c' : Cfg} (g : GoodC n L B ou c) (h1 : n ≤ L) (st : Stp L c c') (h : c.s.shelf = [] ∧ c.s.peak = 0) : c'.s.shelf = [] ∧ c'.s.peak = 0 := by
  cases st with
  | take hu => rw [h.1] at hu; cases hu
  | done a b => exact h
  | skip a b => exact h
  | keep a b c d => exact h
  | sink a b c d e => exact h
  | shelve a b c d e =>
    have hd := g.depth
    obtain ⟨q1, _, _, q2, _⟩ := g.slot a b
    have := g.few' q1 q2
    omega
theorem Stps.big {B : Nat} {ou : Nat → Nat} {L' : Nat} {c c' : Cfg} (hL : 0 < L) (g : GoodC n L B ou c) (h1 : n ≤ L) (h2 : n ≤ L') (st : Stps L c c') : Stps L' c c' := by
  induction st with
  | refl => exact .refl _
  | head s _ ih => exact .head (s.big g h1 h2) (ih (g.step hL s))
theorem Stps.flat {B : Nat} {ou : Nat → Nat} {c c' : Cfg} (hL : 0 < L) (g : GoodC n L B ou c) (h1 : n ≤ L) (st : Stps L c c') (h : c.s.shelf = [] ∧ c.s.peak = 0) : c'.s.shelf = [] ∧ c'.s.peak = 0 := by
  induction st with
  | refl => exact h
  | head s _ ih => exact ih (g.step hL s) (s.flat g h1 h)
theorem run_big {L' : Nat} (hL : 0 < L) (hL' : 0 < L') (h : HeapOk n rows out) (st : StartOk rows out start) (h1 : n ≤ L) (h2 : n ≤ L') : runF L 41 41 (initS rows out) start = runF L' 41 41 (initS rows out) start := by
  rcases run_star hL h st with ⟨a1, e⟩ | ⟨a1, s', dep, par, e, hsh, star⟩
  · rcases run_star hL' h st with ⟨b1, e'⟩ | ⟨b1, _⟩
    · rw [e, e']
    · omega
  · rcases run_star hL' h st with ⟨b1, _⟩ | ⟨b1, s2, dep2, par2, e', hsh2, star2⟩
    · omega
    · have q := (star.big hL (good1 hL h st a1 _ _) h1 h2).det star2 (ended hsh) (ended hsh2)
      have q2 : s' = s2 := congrArg Cfg.s q
      rw [e, e', q2]
theorem run_flat (hL : 0 < L) (h : HeapOk n rows out) (st : StartOk rows out start) (h1 : n ≤ L) {s' : UW} (e : runF L 41 41 (initS rows out) start = some s') : s'.peak = 0 := by
  rcases run_star hL h st with ⟨a1, e'⟩ | ⟨a1, s2, dep, par, e', hsh, star⟩
  · rw [e] at e'
    cases e'
    rfl
  · rw [e] at e'
    cases e'
    exact (star.flat hL (good1 hL h st a1 _ _) h1 ⟨rfl, rfl⟩).2
end
end SF

/-! Own rules beside the hand layer. -/
namespace WR
open PySem PySem.Spec PySem.W PyProof.Rows L2
section
variable {X : Cx}
/-- xs[k], by values, k a place of the list -/
def rGetL (K : PySem.W.Frag) : V → V → Hp → VK → Prop := fun o i H Q => ∃ (p : Addr) (xs : List V) (j : Nat) (v : V), o = .ref p ∧ i = .int (j : Int) ∧ SqL K H p xs ∧ xs[j]? = some v ∧ Q v H
theorem pget_list : PGet X (rGetL X.K) := by
  intro pins s σ H o i ov iv Q I ro ri hw
  obtain ⟨p, xs, j, v, rfl, rfl, hq, he, q⟩ := hw
  cases ro
  obtain ⟨t, rfl⟩ := ri
  obtain ⟨its, rv, pl, hz⟩ := I.list hq
  obtain ⟨u, hu, ru⟩ := rv.get he
  have hl := rv.length
  have hj := (List.getElem?_eq_some_iff.mp he).1
  have hn := line63
  refine PySem.wpAny_getItem_list pl.isList (by omega) (by omega) (x := u) ?_ ⟨v, H, I, ru, q⟩
  rw [Int.toNat_natCast]
  simpa using hu
/-- the rules by their own names: what they ask hangs on K alone -/
def rListOf (K : PySem.W.Frag) : List V → Hp → VK → Prop := fun xs H Q => ∃ p ys, xs = [.ref p] ∧ (SqL K H p ys ∨ SqT K H p ys) ∧ ∀ l, H l = none → Q (.ref l) (upd H l (.lst ys))
theorem cr_listOf : CallR X (.type "list") (rListOf X.K) := call_list_of
def rTupOf (K : PySem.W.Frag) : List V → Hp → VK → Prop := fun xs H Q => ∃ p ys, xs = [.ref p] ∧ ((SqL K H p ys ∧ ∀ l, H l = none → Q (.ref l) (upd H l (.tup ys))) ∨ (SqT K H p ys ∧ Q (.ref p) H))
theorem cr_tupOf : CallR X (.type "tuple") (rTupOf X.K) := call_tuple_of
def rLenS (K : PySem.W.Frag) : List V → Hp → VK → Prop := fun xs H Q => ∃ p ys, xs = [.ref p] ∧ (SqL K H p ys ∨ SqT K H p ys) ∧ Q (.int ys.length) H
theorem cr_lenS : CallR X (.builtin "len") (rLenS X.K) := call_len_seq
/-- max of two numbers that are not negative -/
theorem cr_max2N (hc : X.calm = true) : CallR X (.builtin "max") (fun xs H Q => ∃ i j : Nat, xs = [.int (i : Int), .int (j : Int)] ∧ Q (.int ((max i j : Nat) : Int)) H) := by
  intro pins s σ H xs us Q I r hw
  obtain ⟨i, j, rfl, q⟩ := hw
  refine call_max2 hc pins s σ H _ us Q I r ⟨_, _, rfl, ?_⟩
  have e : (if (j : Int) > (i : Int) then (j : Int) else (i : Int)) = ((max i j : Nat) : Int) := by split <;> omega
  rw [e]; exact q
/-- max of a tuple of whole numbers -/
def rMaxT (K : PySem.W.Frag) : List V → Hp → VK → Prop := fun vs H Q => ∃ (a : Addr) (ns : List Int), vs = [V.ref a] ∧ SqT K H a (ns.map V.int) ∧ 0 < ns.length ∧ ∀ m, m ∈ ns → (∀ y, y ∈ ns → y ≤ m) → Q (.int m) H
theorem dpAll_ints {K : PySem.W.Frag} {H : Hp} : ∀ ns : List Int, DpAll K H (ns.map V.int) (ns.map PyData.int)
  | [] => .nil
  | n :: r => .cons (.int n) (dpAll_ints r)
theorem foldl_max : ∀ (ns : List Int) (n : Int), (ns.foldl max n ∈ n :: ns) ∧ ∀ y, y ∈ n :: ns → y ≤ ns.foldl max n
  | [], n => ⟨List.mem_cons_self, fun y hy => by
      have : y = n := by simpa using hy
      rw [this]; exact Int.le_refl _⟩
  | k :: r, n => by
    obtain ⟨h1, h2⟩ := foldl_max r (max n k)
    refine ⟨?_, fun y hy => ?_⟩
    · rw [List.foldl_cons]
      rcases List.mem_cons.mp h1 with e | h
      · rw [e]
        by_cases hnk : n ≤ k
        · rw [Int.max_eq_right hnk]; simp
        · rw [Int.max_eq_left (by omega)]; simp
      · exact List.mem_cons_of_mem _ (List.mem_cons_of_mem _ h)
    · rw [List.foldl_cons]
      have h3 := h2 (max n k) List.mem_cons_self
      rcases List.mem_cons.mp hy with e | hy
      · subst e; omega
      · rcases List.mem_cons.mp hy with e | hy
        · subst e; omega
        · exact h2 y (List.mem_cons_of_mem _ hy)
theorem alike_all_ints (ns : List Int) : AlikeAll (ns.map PyData.int) := by
  constructor
  · intro x hx y hy
    obtain ⟨i, _, rfl⟩ := List.mem_map.mp hx
    obtain ⟨j, _, rfl⟩ := List.mem_map.mp hy
    simp [alike]
  · intro x hx e
    obtain ⟨i, _, rfl⟩ := List.mem_map.mp hx
    cases e
theorem depth_all_ints : ∀ ns : List Int, PyData.depthAll (ns.map PyData.int) = 0
  | [] => by simp [PyData.depthAll]
  | n :: r => by simp [PyData.depthAll, PyData.depth, depth_all_ints r]
theorem cr_maxT (hc : X.calm = true) (hu : X.A.units + 1 < cLine) : CallR X (.builtin "max") (rMaxT X.K) := by
  intro pins s σ H vs us Q I r hw
  obtain ⟨a, ns, rfl, hs, hne, q⟩ := hw
  obtain ⟨its, rv, ht, hz⟩ := I.tuple hs
  obtain ⟨u, rfl, ru⟩ := vals1 r
  cases ru
  cases ns with
  | nil => exact absurd hne (by simp)
  | cons n r =>
    obtain ⟨as, hr⟩ := Dp.readsAll I ((n :: r).map PyData.int) _ its (dpAll_ints _) rv
    have hd := depth_all_ints (n :: r)
    refine max_tuple_data (x := .int n) (xs := r.map PyData.int) (I.ok.hd hc) ht (vs := its.toArray) hr (alike_all_ints (n :: r)) ?_ fun i v h' tk bs hv hrd hk => ?_
    · show X.A.units + 1 + PyData.depthAll ((n :: r).map PyData.int) < cLine
      rw [hd]; exact hu
    · rw [maxD_ints] at hrd
      cases hrd with
      | int _ t =>
        obtain ⟨h1, h2⟩ := foldl_max r n
        exact ⟨.int _, H, I.kept (t' := tk) hk, ⟨t, rfl⟩, q _ h1 h2⟩
/-- sorted of a tuple of whole numbers, fewer than 64 -/
def rSortedTu (K : PySem.W.Frag) : List V → Hp → VK → Prop := fun vs H Q => ∃ (a : Addr) (ns : List Int), vs = [V.ref a] ∧ SqT K H a (ns.map V.int) ∧ ns.length < 64 ∧
  ∀ (ns' : List Int) (p : Addr), ns'.Perm ns → ns'.Pairwise (· ≤ ·) → H p = none → Q (.ref p) (upd H p (.lst (ns'.map V.int)))
theorem sortedHeap_keep {h : Heap} {a b : Addr} {vs : List Value} {out : Array Value} {o : Obj} (hb : b ≠ a) (e : h.get? b = some o) : (sortedHeap h a vs out).get? b = some o := by
  rw [sortedHeap_old hb (Heap.lt_size e)]; exact e
theorem cr_sortedTu : CallR X (.builtin "sorted") (rSortedTu X.K) := by
  intro pins s σ H vs us Q I r hw
  obtain ⟨a, ns, rfl, hs, h64, q⟩ := hw
  obtain ⟨its, rv, ht, hz⟩ := I.tuple hs
  obtain ⟨u, rfl, ru⟩ := vals1 r
  cases ru
  have hi := rv.ints
  obtain ⟨o, ho, hc, n, hd⟩ := ht
  refine Calls.call_function_entry kind_sorted plain_sorted entry_sorted (args_sorted1 _) ?_
  unfold Builtin.«sorted»
  refine wpAny_bind (m := checkCount "sorted" 1 1 _) (wpAny_pure ?_)
  refine wpAny_bind (wpAny_collect_seq a (T := "tuple") (.inr rfl) ho hc hd (fun h1 hk1 => ?_) (by rw [List.size_toArray, ← rv.length]; exact hz))
  refine wpAny_bind (wpAny_newList ?_ (by show its.length ≤ sizeLine; rw [← rv.length]; exact hz))
  have hoL : (h1.push (seqObj "list" its.toArray 0)).get? h1.objs.size = some (seqObj "list" its.toArray 0) := Heap.get?_push_size _ rfl
  show wpAny _ _ _ _ _ { s with heap := h1.push (seqObj "list" its.toArray 0) }
  refine wpAny_bind (wpAny_holding (wpAny_call_entry slot_list_sort ⟨_, hoL, rfl⟩ entry_list_sort (list_sort_tree (vs := its) hoL hi (by rw [hi.length]; exact h64) fun out ns' a1 a2 a3 => ⟨_, rfl, ?_⟩) (args_list_sort _)))
  refine wpAny_pure ⟨_, rfl, ?_⟩
  obtain ⟨ep, he'⟩ := sortedHeap_at (out := out) hoL
  have hlen : (ns'.map V.int).length ≤ sizeLine := by rw [List.length_map, a2.length_eq]; exact small64 h64
  have I1 : Inv X pins σ H { s with heap := h1 } := I.kept (t' := s.toks) hk1
  have hkk : ∀ b ob, h1.get? b = some ob → (sortedHeap (h1.push (seqObj "list" its.toArray 0)) h1.objs.size its out).get? b = some ob := fun b ob e =>
    sortedHeap_keep (Nat.ne_of_lt (Heap.lt_size e)) (Heap.get?_push_of_some _ e)
  exact ⟨.ref h1.objs.size, upd H h1.objs.size (.lst (ns'.map V.int)), I1.laid (t' := s.toks) hkk (Nat.le_refl _) ⟨hlen, out.toList, ep, vals_of_ints a1, he'⟩, rfl, q ns' _ a2 a3 (I1.hok.fresh (Nat.le_refl _))⟩

/-- tuple(list): the new tuple is known to the object (its own dict is none) -/
def TupO (o : Obj) : Prop := o.cls = .type "tuple" ∧ o.dict = none
def rTupF (K : PySem.W.Frag) : List V → Hp → VK → Prop := fun vs H Q => ∃ (p : Addr) (ys : List V), vs = [.ref p] ∧ SqL K H p ys ∧ ∀ l o, H l = none → TupO o → Q (.ref l) (upd H l (.frz o (.tup ys)))
theorem cr_tupF : CallR X (.type "tuple") (rTupF X.K) := by
  intro pins s σ H vs us Q I r hw
  obtain ⟨p, ys, rfl, hq, q⟩ := hw
  obtain ⟨u, rfl, ru⟩ := vals1 r
  cases ru
  obtain ⟨its, rv, pl, hz⟩ := I.list hq
  have hlen := rv.length
  refine call_tuple_list pl.isList (fun h1 hk1 => ?_) (by rw [List.size_toArray]; omega)
  have I1 : Inv X pins σ H { s with heap := h1 } := I.kept (t' := s.toks) hk1
  have hat : (h1.push { cls := .type "tuple", data := .seq its.toArray }).get? h1.objs.size = some { cls := .type "tuple", data := .seq its.toArray } := Heap.get?_push_size _ rfl
  refine ⟨.ref h1.objs.size, _, I1.laid (o := .frz { cls := .type "tuple", data := .seq its.toArray } (.tup ys)) (t' := s.toks) (fun b ob e => Heap.get?_push_of_some _ e) (Nat.le_refl _) ⟨hat, hz, its, rv, ⟨_, hat, rfl, _, rfl⟩⟩, rfl, q _ _ (I1.hok.fresh (Nat.le_refl _)) ⟨rfl, rfl⟩⟩
/-- t.index(k), t a known tuple of whole numbers, k among them -/
def tTupM (r : V → List V → Hp → VK → Prop) (to : TE) (t : TA) : TE := fun σ H Q => to σ H fun x H1 => (∃ p o xs, x = .ref p ∧ H1 p = some (.frz o (.tup xs)) ∧ TupO o) ∧ t σ H1 fun ys H2 => r x ys H2 Q
theorem pe_tupM {o e : Expr} {es : List Expr} {to : TE} {t : TA} {name : Str} {apos cpos : Pos} {id : String} {r : V → List V → Hp → VK → Prop} (pa : PlainAttrs "tuple") (slot : Slot "tuple" name id) (hty : typeOf (.builtin id) = pure (.type "method_descriptor"))
    (hm : MtR X id r) (ho : PE X o to) (ha : PA X (e :: es) t) (hbase : attributeBase o name X.env (eval o X.env) = eval o X.env := by rfl)
    (hfew : ((backTo cpos (starEach (e :: es) X.env)).all (fun x => !x.1) && (backToKw cpos (keywordEach [] X.env)).all (fun x => x.1.isSome) && decide ((e :: es).length + ([] : List Keyword).length + (if ([] : List Keyword).isEmpty then 0 else 1) < 30)) = true := by rfl)
    (hline : (apos.endLine == cpos.line) = true := by rfl) (hs : starEach (e :: es) X.env = (false, eval e X.env) :: starEach es X.env := by rfl) (hplain : (backTo cpos (starEach es X.env)).any (·.1) = false := by rfl) :
    PE X (.Call (.Attribute o name apos) (e :: es) [] cpos) (tTupM r to t) := by
  refine ⟨fun pins s σ H Q I hw => ?_⟩
  refine wpAny_Call_method_late hbase hfew hline rfl (thn (ho.run pins s σ H _ I hw) fun v s1 ⟨x, H1, I1, r1, ⟨p, ob, xs, ex, hp, hob⟩, q1⟩ => ?_)
  subst ex
  cases r1
  obtain ⟨hget, _⟩ := I1.hok p _ hp
  refine ⟨"tuple", id, pa, slot, hty, ⟨ob, hget, hob.1⟩, fun a ea => by cases ea; exact ⟨ob, hget, hob.2⟩, ?_⟩
  have hA := ha.run cpos pins s1 σ H1 _ I1 q1
  rw [hs] at hA ⊢
  have hany : ((false, eval e X.env) :: backTo cpos (starEach es X.env)).any (·.1) = false := by rw [List.any_cons, hplain]; rfl
  refine Calls.callWith_builtin hany (Calls.evalArgs_plain ?_)
  exact thn hA fun us s2 ⟨vs, H2, I2, r2, q2⟩ => hm pins s2 σ H2 (.ref p) vs (.ref p) us Q I2 rfl r2 q2
def rTIndex (K : PySem.W.Frag) : V → List V → Hp → VK → Prop := fun x ys H Q => ∃ (p : Addr) (ns : List Int) (k : Int), x = .ref p ∧ ys = [.int k] ∧ SqT K H p (ns.map V.int) ∧ k ∈ ns ∧ Q (.int (ns.idxOf k : Nat)) H
theorem eqAt_ints {A : Around} {s : Shared} {k : Int} {t : Tok} : ∀ {ns : List Int} {its : List Value}, Vals (ns.map V.int) its → SeqAt.ItemsEq A s its ns (.int k t) k := by
  intro ns its rv
  refine ⟨by rw [← rv.length, List.length_map], fun j h1 h2 => ?_⟩
  have e : (ns.map V.int)[j]? = some (.int ns[j]) := by rw [List.getElem?_map, List.getElem?_eq_getElem h2]; rfl
  obtain ⟨u, hu, t', ru⟩ := rv.get e
  rw [List.getElem?_eq_getElem h1] at hu
  rw [Option.some.inj hu, ru]
  have q := SeqAt.EqAt.int_int (A := A) (s := s) ns[j] t' k t
  rw [Bool.beq_eq_decide_eq] at q
  exact q
theorem mt_tindex : MtR X "tuple.index" (rTIndex X.K) := by
  intro pins s σ H x ys v us Q I rx rys hw
  obtain ⟨p, ns, k, rfl, rfl, hs, hk, q⟩ := hw
  cases rx
  obtain ⟨u, rfl, t, rfl⟩ := vals1 rys
  obtain ⟨its, rv, ht, hz⟩ := I.tuple hs
  exact SeqAt.call_tuple_index (vs := its) (ks := ns) ht (eqAt_ints rv) hk ⟨.int _, H, I.tok _, ⟨_, rfl⟩, q⟩
/-- repr of data, where no repr runs -/
def rRepr (K : PySem.W.Frag) : List V → Hp → VK → Prop := fun vs H Q => ∃ (p : Addr) (d : PyData), vs = [.ref p] ∧ Dp K H (.ref p) d ∧ d.showable = true ∧ d.hasDict = false ∧ d.depth ≤ 8 ∧ d.shown.length ≤ sizeLine ∧ Q (.str d.shown) H
theorem cr_repr (hg : X.A.guards = some []) (hu : X.A.units + 64 < cLine) : CallR X (.builtin "repr") (rRepr X.K) := by
  intro pins s σ H vs us Q I r hw
  obtain ⟨p, d, rfl, hd, h1, h2, h3, h4, q⟩ := hw
  obtain ⟨u, rfl, ru⟩ := vals1 r
  obtain ⟨as, hr⟩ := Dp.reads I d (.ref p) u hd ru
  cases ru
  refine repr_of_reads' hr h1 (PyData.noDict_hsm h2) hg (by omega) (fun _ _ e => e) (fun h' t tk hk => ?_) h4
  exact ⟨.str _, H, I.kept (t' := tk) hk, ⟨t, rfl⟩, q⟩
/-- x, *rest = a tuple -/
def gStar (K : PySem.W.Frag) (t : TGs) : TG := fun v σ H Q => ∃ (a : Addr) (x : V) (rest : List V), v = .ref a ∧ SqT K H a (x :: rest) ∧ ∀ D, H D = none → t [x, .ref D] σ (upd H D (.lst rest)) Q
theorem pg_star {e1 e2 : Expr} {p : Pos} {k : Nat} {pos : Pos} {t : TGs} (hc : X.calm = true) (h : PGs X [e1, e2] t)
    (hx : assignEach [e1, .Starred e2 p] X.env = [(false, assign e1 X.env), (true, assign e2 X.env)] := by rfl) (hy : (assignEach [e1, e2] X.env).map (·.2) = [assign e1 X.env, assign e2 X.env] := by rfl) :
    PG X (.Tuple [e1, .Starred e2 p] k pos) (gStar X.K t) := by
  refine ⟨fun pins s σ H v u Q I r hw => ?_⟩
  obtain ⟨a, x, rest, rfl, hq, hw⟩ := hw
  cases r
  obtain ⟨its, rv, ht, hz⟩ := I.tuple hq
  cases rv with
  | @cons _ u0 _ us0 r0 rr =>
  have hlt : a ≠ s.heap.objs.size := by obtain ⟨o, ho, _⟩ := ht; exact Nat.ne_of_lt (Heap.lt_size ho)
  have hsz : (u0 :: us0).toArray.size ≤ sizeLine := by
    have := rr.length
    simp only [List.size_toArray, List.length_cons] at hz ⊢
    omega
  have hcal := I.ok.hd hc
  rw [assign_Tuple, hx]
  refine wpAny_bind (wpAny_standAt ?_)
  have key : ∀ {R : List Value → Shared → Prop}, (∀ (h1 : Heap) (tk : Nat), (∀ b o, s.heap.get? b = some o → h1.get? b = some o) → R [u0, .ref h1.objs.size] { s with heap := h1.push { cls := .type "list", data := .seq us0.toArray }, toks := tk }) →
      wpAny (model X.prog X.w) X.A (unpackItems (.ref a) 2 (some 1)) R X.xe s := by
    intro R hR
    unfold unpackItems
    refine wpAny_bind ?_
    unfold notIterableAtAll
    refine wpAny_bind (wpAny_specialOf ht.typeIs slot_tuple_iter.lookup (wpAny_pure ?_))
    simp only [Bool.false_eq_true, if_false]
    refine wpAny_bind (wpAny_holding (iter_tuple ht ?_))
    refine wpAny_bind (wpAny_holding (draw_tuple hlt 1 0 _ _ ⟨_, Heap.get?_push_size _ rfl, rfl, rfl⟩ (ht.push _) (by simp) fun h1 hit1 hs1 => ?_))
    have ht1 : IsTup h1 a (u0 :: us0).toArray := (ht.push _).extBut hs1.extBut hlt
    obtain ⟨oi, hoi, hoi2⟩ := id hit1
    obtain ⟨ot, hot, hot2⟩ := id ht1
    have ef : List.take 1 (List.drop 0 (u0 :: us0).toArray.toList) = [u0] := by simp
    rw [ef]
    simp only [List.length_cons, List.length_nil, Nat.lt_irrefl, if_false, Nat.zero_add]
    refine wpAny_bind (wpAny_holding (PySem.W.kun_collect (s := { s with heap := h1 }) (T := "tuple_iterator") (.inr (.inr (.inr rfl))) (Walks.tuple (A := X.A.in1) hcal s.heap.objs.size a hlt (u0 :: us0).toArray)
      (fun j z st => st.1.typeIs) (k := 1) (by simp) ⟨hit1, ht1⟩ (Heap.lt_size hoi) (Heap.lt_size hot) (fun h2 tk hk2 => ?_) hsz))
    have el : (u0 :: us0).toArray.toList.drop 1 = us0 := by simp
    rw [el]
    simp only [Nat.sub_self, Nat.not_lt_zero, if_false, Nat.sub_zero, List.take_length, List.drop_length]
    have he : ∀ b o, s.heap.get? b = some o → h2.get? b = some o := fun b o e => hk2 b o (Nat.ne_of_lt (Heap.lt_size e)) (hs1.extBut b o (Nat.ne_of_lt (Heap.lt_size e)) (Heap.get?_push_of_some _ e))
    refine wpAny_bind (wpAny_newList (wpAny_pure ?_) (by simp at hsz; omega))
    have hfin := hR h2 tk he
    simpa using hfin
  unfold unpack
  refine wpAny_bind (wpAny_holding ?_)
  show wpAny _ _ (unpackItems (.ref a) 2 (some 1)) _ _ _
  refine key fun h1 tk hk1 => ?_
  have I1 : Inv X pins σ H { s with heap := h1, toks := tk } := I.kept (t' := tk) hk1
  have hfree := I1.hok.fresh (Nat.le_refl h1.objs.size)
  have hlr : rest.length ≤ sizeLine := by
    simp only [List.length_cons] at hz
    omega
  have I2 := I1.laid (a := h1.objs.size) (o := .lst rest) (t' := tk) (h' := h1.push { cls := .type "list", data := .seq us0.toArray }) (fun b o e => Heap.get?_push_of_some _ e) (Nat.le_refl _) ⟨hlr, us0, 0, rr, Heap.get?_push_size _ rfl⟩
  have hrun := h.run pins _ σ _ [x, .ref h1.objs.size] [u0, .ref h1.objs.size] Q I2 (.cons r0 (.cons rfl .nil)) (hw _ hfree)
  rw [hy] at hrun
  exact hrun
end
end WR

/-! Promises of defs that run where no repr runs (A.guards is known to be empty). -/
namespace WR
open PySem PySem.Spec PyProof.Rows L2
/-- FnOk, asked only where nothing guards -/
structure FnG (P : Program) (w : World) (K : PySem.W.Frag) (mg : Str → Option Value) (base : Heap) (k : Nat) (f : Addr) (fd : FuncData) (ps : List Str) (sp : Sp) : Prop where
  len : ∀ vs H Q E, sp vs H Q E → vs.length = ps.length
  run : ∀ (A : Around) (outer : List Env) (s : Shared) (H : Hp) (args : Args) (us : List Value) (vs : List V) (Q : VK) (E : XK), A.guards = some [] → Room k A → Env0 P w K mg base A outer s H → BindsTo s fd args (ps.zip us) → Vals vs us → sp vs H Q E →
    codeAny (model P w) A (.call (.ref f) args) (CR CX0 outer P w H s Q E) s
section
variable {P : Program} {w : World} {K : PySem.W.Frag} {mg : Str → Option Value} {base : Heap}
theorem Fun.okG {x qual : Str} {st : Stmt} {f : Addr} {fd : FuncData} {N ps : List Str} {k : Nat} {sp : Sp} (F : Fun K x qual st f fd) (S : FnScope N ps (defScope st)) (len : ∀ vs H Q E, sp vs H Q E → vs.length = ps.length)
    (hbody : ∀ (cdv : Value) (A : Around) (outer : List Env) (s : Shared) (H : Hp) (vs : List V) (Q : VK) (E : XK), A.guards = some [] → Room k (A.deeper (envOfC qual (defScope st) s.heap.objs.size f cdv)) → sp vs H Q E →
      ∃ t, PSs (cxOf CX0 P w K mg base N qual (defScope st) f cdv A outer s H E).nox (defBody st) t ∧ t { nx := fun _ H' => Q .non H', rt := Q } (start N vs) H) : FnG P w K mg base (k + 1) f fd ps sp := by
  obtain ⟨oc, od, kV, doc, pm, an, cdv, ct, osl, rfl, lk, hcd⟩ := F.ex
  refine ⟨len, ?_⟩
  intro A outer s H args us vs Q E hgd hroom en hb rv hsp
  have hlen := len _ _ _ _ hsp
  have kin : K.In s.heap := en.mod.kin.keeps (fun b o e => (en.bs b o e).1)
  have nolim : s.heap.NoLimit := en.mod.nolimit.keeps (fun b o e => (en.bs b o e).1)
  have hk1 : ∀ y ∈ ps.zip us, (defScope st).names.lookup y.1 = some .local ∨ ((defScope st).names.lookup y.1 = some .cell ∧ ((cellsFrom (s.heap.objs.size + 1) (defScope st).names []).lookup y.1).isSome = true) := by
    intro y hy
    have hm := (List.of_mem_zip (show (y.1, y.2) ∈ ps.zip us from hy)).1
    cases S.par y.1 hm with
    | inl q => exact .inl q
    | inr q => exact .inr ⟨q, PySem.W.cellsFrom_some _ _ _ (.inl q)⟩
  refine codeAny_call_function hroom.depth (kin _ _ lk) rfl S.co S.gen rfl (PySem.W.codeRec_of kin hcd) (hb _ _ _ _ ?_)
  refine wpAny_newFunctionEnv_cells S.kind hk1 (fun env he s1 x => ?_)
  subst he
  refine ⟨nolim.keeps x.toInCall.keep, codeAny_func ?_⟩
  obtain ⟨t, ht, hq⟩ := hbody cdv A outer s H vs Q E hgd (hroom.deeper _) hsp
  have I0 := inv_start (CX := CX0) (E := E) (qual := qual) (f := f) (cd := cdv) S hroom.hd en hlen rv x
  refine wpAny_mono (ht.nox.run [] s1 (start N vs) H _ I0 hq) (fun fl s' hs => ?_) (fun e s' hs => hs)
  cases fl with
  | ret u =>
    obtain ⟨v, σ', H', J, rv', q⟩ := hs
    exact ⟨v, H', J.os, J.bare, J.base, J.hok, rv', q⟩
  | next =>
    obtain ⟨σ', H', J, q⟩ := hs
    exact ⟨V.non, H', J.os, J.bare, J.base, J.hok, rfl, q⟩
  | brk => obtain ⟨_, _, _, q⟩ := hs; exact q.elim
  | cont => obtain ⟨_, _, _, q⟩ := hs; exact q.elim
end
/-- a call of such a def -/
theorem pe_callG {X : Cx} {k : Nat} {f : Addr} {fd : FuncData} {ps : List Str} {sp : Sp} {x : Str} {p pos : Pos} {e : Expr} {es : List Expr} {t : TA} (hgd : X.A.guards = some []) (F : FnG X.prog X.w X.K X.mg X.base k f fd ps sp) (hr : Room k X.A) (hg : Gl X x) (hm : X.mg x = some (.ref f)) (hk : PySem.W.keepIn X.K (.ref f) = true) (hb : Binds X.K fd ps [])
    (ha : PA X (e :: es) t) (hdb : (x == ("__debug__" : Str)) = false := by decide) (he : starEach (e :: es) X.env = (false, eval e X.env) :: starEach es X.env := by rfl) (hpl : (backTo pos (starEach es X.env)).any (·.1) = false := by rfl) :
    PE X (.Call (.Name x p) (e :: es) [] pos) (tCall sp [] E0 t) := by
  constructor
  intro pins s σ H Q I hw
  refine wpAny_Call_Name_kw (ld_glob I hg hm ?_ hdb)
  refine PySem.W.callWith_K (h₀ := X.base) I.ok.mod.kin hk (thn (ha.run pos pins s σ H _ I hw) (fun us s1 hh => ?_)) he hpl
  obtain ⟨vs, H1, I1, r, q⟩ := hh
  refine ⟨I1.kIn, ?_⟩
  have q : sp (vs ++ []) H1 Q E0 := q
  rw [List.append_nil] at q
  have hl : us.length = ps.length := by rw [← r.length]; exact F.len _ _ _ _ q
  have hbb := hb s1 us I1.kIn (by simpa using hl)
  rw [List.append_nil] at hbb
  refine wpAny_call (codeAny_mono (F.run X.A X.stack s1 H1 ⟨us, []⟩ us vs Q E0 hgd hr I1.env0 hbb r q) (fun res s' hq => ?_))
  cases res with
  | error ex => exact hq.elim
  | ok fl =>
    cases fl with
    | ret u => exact I1.after hq
    | next => exact hq.elim
    | brk => exact hq.elim
    | cont => exact hq.elim
/-- a def with keyword-only parameters, called by them -/
theorem Fun.kbn {K : PySem.W.Frag} {x qual : Str} {st : Stmt} {f : Addr} {fd : FuncData} {ps : List Str} (F : Fun K x qual st f fd) (n : Nat) (ks : List Str)
    (h : ∀ (kV doc pm : Value) (an : Option Addr) (cdv ct : Value) (us ws : List Value), us.length = n → ws.length = ks.length → bindArgs (PySem.W.fnOf x qual (defArgs st) (defBody st) (defScope st) .none kV doc pm an cdv ct) ⟨us, ks.zip ws⟩ = pure (ps.zip (us ++ ws))) :
    KBn K fd ps n ks (fun us ws => us ++ ws) (fun vs zs => vs ++ zs) := by
  obtain ⟨oc, od, kV, doc, pm, an, cdv, ct, osl, rfl, lk, hcd⟩ := F.ex
  exact ⟨fun s us ws _ l1 l2 => .of_eq (h kV doc pm an cdv ct us ws l1 l2), fun r1 r2 => r1.append r2⟩
end WR

/-! The end of a law row whose def's promise is asked where nothing guards. -/
namespace WR
open PySem PySem.Spec PyProof.Rows L2
theorem law_callG {P : Program} {w : World} {K : PySem.W.Frag} {mg mb : Str → Option Value} {k : Nat} {fa a : Addr} {fd : FuncData} {x : Str} {sp : Sp} {s1 : Shared} {vs : List Value} {ns : List Int}
    (kin : K.In s1.heap) (hns : s1.heap.Ns mainGlobals mg) (hb : s1.heap.Ns builtinsNs mb) (hbb : ∀ x : Str, x ≠ "__name__" → mb x = bootBuiltins x) (hlim : s1.heap.NoLimit) (hgen : s1.gens = #[])
    (ha : s1.heap.get? a = some { cls := .type "list", data := .seq vs.toArray }) (hi : IntsAre vs ns) (hl : ns.length ≤ sizeLine) (hr : Room k callerA)
    (F : ∀ base : Heap, K.In base → base.Ns mainGlobals mg → FnG P w K mg base k fa fd [x] sp) (hbind : ∀ (s : Shared) (u : Value), BindsTo s fd ⟨[u], []⟩ [(x, u)])
    (hsp : ∀ H : Hp, SqL K H a (ns.map V.int) → sp [.ref a] H (fun v _ => v = .bl true) fun _ _ _ => False) :
    codeAny (model P w) callerA (.call (.ref fa) ⟨[.ref a], []⟩) (fun r s' => r = .ok (.ret (.bool true)) ∧ OldK s1.heap s'.heap ∧ s'.os = s1.os ∧ AllBare s'.gens) s1 := by
  have rv : Vals (ns.map V.int) vs := vals_ints hi
  have lenV := hi.length
  obtain ⟨H, hone, hseq, hok, hkn⟩ : ∃ H : Hp, (∀ b u, H b = some u → b = a ∧ ∃ o xs, u = .frz o (.lst xs)) ∧ SqL K H a (ns.map V.int) ∧ HOk P w H s1.heap ∧ (H a ≠ none → K.lookup a = none) := by
    cases hk : K.lookup a with
    | some o =>
      have e := kin a o hk
      rw [ha] at e
      cases e
      refine ⟨fun _ => none, fun b u q => (nomatch q), .inr ⟨_, vs.toArray, _, hk, rfl, rfl, rfl, ?_, by simpa using rv⟩, fun b u q => (nomatch q), fun q => absurd rfl q⟩
      rw [List.size_toArray, lenV]; exact hl
    | none =>
      refine ⟨upd (fun _ => none) a (.frz { cls := .type "list", data := .seq vs.toArray } (.lst (ns.map V.int))), fun b u q => ?_, .inl (.inr ⟨_, upd_same⟩), fun b u q => ?_, fun _ => rfl⟩
      · by_cases e : b = a
        · subst e; rw [upd_same] at q; cases q; exact ⟨rfl, _, _, rfl⟩
        · rw [upd_ne e] at q; cases q
      · by_cases e : b = a
        · subst e; rw [upd_same] at q; cases q
          exact ⟨ha, by rw [List.length_map]; exact hl, vs, _, rv, ha⟩
        · rw [upd_ne e] at q; cases q
  have under : ∀ {b : Addr} {o : Obj}, s1.heap.get? b = some o → H b = none → (hidT s1.heap H).get? b = some o := fun e n => hidT_get e n
  have dictFree : ∀ {b : Addr} {o : Obj} {es : Array DictEntry} {ep : Nat}, s1.heap.get? b = some o → o.data = .dict es ep → H b = none := by
    intro b o es ep e d
    cases q : H b with
    | none => rfl
    | some u =>
      obtain ⟨e', _⟩ := hone b u q
      subst e'
      rw [ha] at e
      cases e
      exact (nomatch d)
  have nsU : ∀ {b : Addr} {m : Str → Option Value}, s1.heap.Ns b m → (hidT s1.heap H).Ns b m := by
    intro b m hm
    obtain ⟨o, es, ep, e, d, r⟩ := hm
    exact ⟨o, es, ep, under e (dictFree e d), d, r⟩
  have kinU : K.In (hidT s1.heap H) := by
    intro b o e
    refine under (kin b o e) ?_
    cases q : H b with
    | none => rfl
    | some u =>
      obtain ⟨e', _⟩ := hone b u q
      subst e'
      rw [hkn (by rw [q]; simp)] at e
      cases e
  have limU : (hidT s1.heap H).NoLimit := by
    obtain ⟨mc, h1, h2⟩ := hlim
    exact ⟨mc, nsU h1, h2⟩
  have hM : Mod K mg (hidT s1.heap H) := ⟨kinU, nsU hns, ⟨mb, nsU hb, hbb⟩, limU⟩
  have en : Env0 P w K mg (hidT s1.heap H) callerA [] s1 H :=
    ⟨rfl, hM, fun b o e => of_hidT e, Nat.le_of_eq (hidT_size _ _), trivial, fun b q => absurd (show b ∈ ([] : List Addr) from q) (by simp), hok, .of_eq hgen⟩
  refine codeAny_mono ((F _ kinU (nsU hns)).run callerA [] s1 H ⟨[.ref a], []⟩ [.ref a] [.ref a] _ _ rfl hr en (hbind s1 (.ref a)) (.cons rfl .nil) (hsp H hseq)) (fun res s' hq => ?_)
  cases res with
  | error e => exact hq.elim
  | ok fl =>
    cases fl with
    | next => exact hq.elim
    | brk => exact hq.elim
    | cont => exact hq.elim
    | ret u =>
      obtain ⟨v, H', os, bare, un, hok', r', q⟩ := hq
      have q : v = .bl true := q
      subst q
      have r' : u = Value.bool true := r'
      subst r'
      refine ⟨rfl, OldK.of_keep (fun b o e => ?_), os, bare⟩
      cases q : H b with
      | none => exact un.keep b o e q (fun z => absurd (show b ∈ ([] : List Addr) from z) (by simp)) (by simp)
      | some u =>
        obtain ⟨_, ob, xs, eu⟩ := hone b u q
        subst eu
        have q2 := un.frzs b ob _ q
        obtain ⟨e1, _⟩ := hok b _ q
        obtain ⟨e2, _⟩ := hok' b _ q2
        rw [e] at e1
        cases e1
        exact e2
theorem walk_ofG {l : PySem.W.OpenLaw} {n k : Nat} {q : Program} {loose : List Str} {XP : (Str → Option Value) → Heap → Prop} {YP : World → Heap → Prop} {d : DefRec} {K : Params → PySem.W.Frag} {sp : PySem.W.Frag → Sp} {x : Str}
    (hn : l.most = some n) (hn2 : n ≤ sizeLine) (hdf : d.params.defaults = []) (hr : Room k callerA) (hY : ∀ (w : World) (h : Heap), YP w h → (K w.params).In h)
    (F : ∀ (w : World) (mg : Str → Option Value) (fa : Addr) (h : Heap), (K w.params).In h → h.Ns mainGlobals mg → mg d.name = some (.ref fa) →
      ∃ fd : FuncData, (∀ (s : Shared) (u : Value), BindsTo s fd ⟨[u], []⟩ [(x, u)]) ∧ ∀ base : Heap, (K w.params).In base → base.Ns mainGlobals mg → FnG l.prog w (K w.params) mg base k fa fd [x] (sp (K w.params)))
    (hsp : ∀ (K : PySem.W.Frag) (H : Hp) (a : Addr) (ns : List Int), ns.length ≤ n → SqL K H a (ns.map V.int) → sp K [.ref a] H (fun v _ => v = .bl true) fun _ _ _ => False) :
    PySem.W.WalkO q loose XP YP l.row.toRowW d [] (fun f vs => PySem.call f vs) := by
  refine Att.attach_call hn hdf (fun w s0 s1 mg mb fa o pm cd doc a vs ns G Y ho hd hcd hmg hobj hints hlen hg => ?_)
  have kin := hY w _ Y
  obtain ⟨fd, hb, hF⟩ := F w mg fa _ kin G.T.g hmg
  exact law_callG kin G.T.g G.T.b G.T.builtins G.T.nolimit hg hobj hints (Nat.le_trans hlen hn2) hr hF hb (fun H hS => hsp _ H a ns hlen hS)
end WR

/-! The text by places, what its walk asks of the top. -/
namespace SW
open PySem PySem.Spec PyProof.Rows L2 WR
def top (i : Nat) : Stmt := PySem.Challenge.pw_slotfall_k41_whole_shelves_by_depths.main.body.getD i (.Pass ⟨0, 0, 0, 0⟩)
abbrev sIsInt : Stmt := top 6
abbrev sBetw : Stmt := top 7
abbrev sCounts : Stmt := top 8
abbrev sLive : Stmt := top 9
abbrev sReqN : Stmt := top 10
abbrev sReqR : Stmt := top 11
abbrev sInit : Stmt := inClass (top 13) 0
abbrev sRel : Stmt := inClass (top 13) 1
abbrev sDes : Stmt := inClass (top 13) 2
abbrev sUnw : Stmt := inClass (top 13) 3
abbrev sOut : Stmt := inClass (top 13) 4
abbrev sHeap : Stmt := inClass (top 13) 7
abbrev sRes : Stmt := inClass (top 13) 8
abbrev sDrop : Stmt := top 14
abbrev sTrace : Stmt := top 16
abbrev sHist : Stmt := top 18
abbrev sPeak : Stmt := top 19
abbrev sLeast : Stmt := top 20
abbrev sLims : Stmt := top 22
abbrev sLogs : Stmt := top 23
abbrev sTree : Stmt := top 25
abbrev sPen : Stmt := top 27
abbrev sDraw : Stmt := top 28
abbrev sPut : Stmt := top 29
abbrev sJoin : Stmt := top 30
abbrev sPileOf : Stmt := top 31
abbrev sPile : Stmt := top 32
abbrev sDepth : Stmt := top 33
abbrev sLens : Stmt := top 34
abbrev sRight : Stmt := top 35
abbrev sLaw : Stmt := top 36
/-- the built-in names that the text uses stand as they are -/
structure Blt (mg : Str → Option Value) : Prop where
  isinstance : mg "isinstance" = none
  int : mg "int" = none
  bool : mg "bool" = none
  len : mg "len" = none
  list : mg "list" = none
  tuple : mg "tuple" = none
  range : mg "range" = none
  max : mg "max" = none
  min : mg "min" = none
  sorted : mg "sorted" = none
  dict : mg "dict" = none
  abs : mg "abs" = none
  repr : mg "repr" = none
/-- a def of the top as it stands -/
def DefIn (K : PySem.W.Frag) (mg : Str → Option Value) (x : Str) (st : Stmt) (ps : List Str) : Prop := ∃ f fd, mg x = some (.ref f) ∧ Fun K x x st f fd ∧ Binds K fd ps []
/-- the same, with keyword-only parameters ks behind n others -/
def KDefIn (K : PySem.W.Frag) (mg : Str → Option Value) (x : Str) (st : Stmt) (ps : List Str) (n : Nat) (ks : List Str) : Prop := ∃ f fd, mg x = some (.ref f) ∧ Fun K x x st f fd ∧ KBn K fd ps n ks (fun us ws => us ++ ws) (fun vs zs => vs ++ zs)
section
variable (P : Program) (w : World) (K : PySem.W.Frag) (mg : Str → Option Value) (base : Heap)
/-- a def keeps its promise -/
def Cal (k : Nat) (x : Str) (ps : List Str) (sp : Sp) : Prop := ∃ f fd, mg x = some (.ref f) ∧ PySem.W.keepIn K (.ref f) = true ∧ Binds K fd ps [] ∧ FnOk P w K mg base CX0 k f fd ps sp
def KCal (k : Nat) (x : Str) (ps : List Str) (n : Nat) (ks : List Str) (sp : Sp) : Prop := ∃ f fd, mg x = some (.ref f) ∧ PySem.W.keepIn K (.ref f) = true ∧ KBn K fd ps n ks (fun us ws => us ++ ws) (fun vs zs => vs ++ zs) ∧ FnOk P w K mg base CX0 k f fd ps sp
/-- a method -/
def MCal (C : Addr) (k : Nat) (m : Str) (ps : List Str) (sp : Sp) : Prop := ∃ f fd, Meth K C m f ∧ Binds K fd ps [] ∧ FnOk P w K mg base CX0 k f fd ps sp
end
section
variable {X : Cx} {k n : Nat} {ps ks : List Str} {sp : Sp} {x m : Str} {p pos apos : Pos} {e o : Expr} {es : List Expr} {t tk : TA} {ta : TE} {kws : List Keyword} {C : Addr}
theorem pe_cal (G : Cal X.prog X.w X.K X.mg X.base k x ps sp) (hr : Room k X.A) (hg : Gl X x) (ha : PA X (e :: es) t) (hdb : (x == ("__debug__" : Str)) = false := by decide)
    (he : starEach (e :: es) X.env = (false, eval e X.env) :: starEach es X.env := by rfl) (hpl : (backTo pos (starEach es X.env)).any (·.1) = false := by rfl) : PE X (.Call (.Name x p) (e :: es) [] pos) (tCall sp [] E0 t) := by
  obtain ⟨f, fd, h1, h2, h3, h4⟩ := G
  exact pe_call h4 hr hg h1 h2 h3 .nil pass0 ha hdb he hpl
theorem pe_kcal (G : KCal X.prog X.w X.K X.mg X.base k x ps n ks sp) (hr : Room k X.A) (hg : Gl X x) (ha : PA X (e :: es) t) (hkw : PK X kws tk) (hall : (backToKw pos (keywordEach kws X.env)).all (·.1.isSome) = true := by rfl) (hks : (backToKw pos (keywordEach kws X.env)).filterMap (·.1) = ks := by rfl)
    (hdb : (x == ("__debug__" : Str)) = false := by decide) (he : starEach (e :: es) X.env = (false, eval e X.env) :: starEach es X.env := by rfl)
    (hpl : ((backTo pos (starEach (e :: es) X.env)).any (·.1) || (backToKw pos (keywordEach kws X.env)).any (·.1.isNone)) = false := by rfl) : PE X (.Call (.Name x p) (e :: es) kws pos) (tCallN n ks.length sp (fun vs zs => vs ++ zs) E0 t tk) := by
  obtain ⟨f, fd, h1, h2, h3, h4⟩ := G
  exact pe_callN h4 hr hg h1 h2 h3 pass0 ha hkw hall hks hdb he hpl
end
/-! ### the data of a heap -/
open SF
def slotV : Option Nat → V
  | none => .non
  | some u => .int (u : Int)
def rowV (row : Rw) : List V := row.map slotV
def RowAt (H : Hp) (x : V) : Option Rw → Prop
  | none => x = .non
  | some row => ∃ p, x = .ref p ∧ H p = some (.tup (rowV row))
def natV (n : Nat) : V := .int (n : Int)
/-- a heap's tuple stands at a -/
def HeapAt (H : Hp) (a : Addr) (rows : List (Option Rw)) (out : List Nat) : Prop :=
  ∃ sa oa xs, H a = some (.tup [.ref sa, .ref oa]) ∧ H sa = some (.tup xs) ∧ H oa = some (.tup (out.map natV)) ∧ Paired (RowAt H) xs rows
theorem RowAt.same {H H' : Hp} (s : Same H H') {x : V} : ∀ {r : Option Rw}, RowAt H x r → RowAt H' x r
  | none, h => h
  | some _, ⟨p, e, h⟩ => ⟨p, e, s _ _ h⟩
theorem HeapAt.same {H H' : Hp} (s : Same H H') {a : Addr} {rows : List (Option Rw)} {out : List Nat} (h : HeapAt H a rows out) : HeapAt H' a rows out := by
  obtain ⟨sa, oa, xs, h1, h2, h3, h4⟩ := h
  exact ⟨sa, oa, xs, s _ _ h1, s _ _ h2, s _ _ h3, L2.Paired.mapP h4 fun _ _ q => RowAt.same s q⟩
theorem paired_get {α β : Type} {R : α → β → Prop} : ∀ {xs : List α} {ys : List β} {i : Nat} {y : β}, Paired R xs ys → ys[i]? = some y → ∃ x, xs[i]? = some x ∧ R x y
  | _, _, i, y, .nil, h => by simp at h
  | _, _, 0, y, .cons r _, h => by simp at h; subst h; exact ⟨_, rfl, r⟩
  | _, _, i + 1, y, .cons _ t, h => by
    obtain ⟨x, e, q⟩ := paired_get (i := i) (y := y) t (by simpa using h)
    exact ⟨x, by simpa using e, q⟩
theorem paired_getL {α β : Type} {R : α → β → Prop} : ∀ {xs : List α} {ys : List β} {i : Nat} {x : α}, Paired R xs ys → xs[i]? = some x → ∃ y, ys[i]? = some y ∧ R x y
  | _, _, i, y, .nil, h => by simp at h
  | _, _, 0, y, .cons r _, h => by simp at h; subst h; exact ⟨_, rfl, r⟩
  | _, _, i + 1, y, .cons _ t, h => by
    obtain ⟨x, e, q⟩ := paired_getL (i := i) (x := y) t (by simpa using h)
    exact ⟨x, by simpa using e, q⟩
theorem same_new {H : Hp} {p : Addr} (h : H p = none) (o : HO) : Same H (upd H p o) := fun b u q => by rw [upd_ne (ne_of_none q h)]; exact q
/-! ### the smallest defs -/
def spIsInt : Sp := fun vs H Q _ => ∃ i : Int, vs = [.int i] ∧ Q (.bl true) H
def spBetw : Sp := fun vs H Q _ => ∃ i a b : Int, vs = [.int i, .int a, .int b] ∧ Q (.bl (decide (a ≤ i) && decide (i ≤ b))) H
/-- a live node of the heap -/
def spLive : Sp := fun vs H Q _ => ∃ (a : Addr) (rows : List (Option Rw)) (out : List Nat) (u : Nat) (row : Rw), vs = [.ref a, natV u] ∧ HeapAt H a rows out ∧ rows[u]? = some (some row) ∧ Q (.bl true) H
def spReqN : Sp := fun vs H Q _ => ∃ (a : Addr) (rows : List (Option Rw)) (out : List Nat) (u : Nat) (row : Rw), vs = [.ref a, natV u] ∧ HeapAt H a rows out ∧ rows[u]? = some (some row) ∧ Q .non H
def spReqR : Sp := fun vs H Q _ => ∃ (a : Addr) (rows : List (Option Rw)) (out : List Nat) (u : Nat), vs = [.ref a, natV u] ∧ HeapAt H a rows out ∧ StartOk rows out u ∧ Q .non H
section
variable {P : Program} {w : World} {K : PySem.W.Frag} {mg : Str → Option Value} {base : Heap}
theorem scIsInt : FnScope ["value"] ["value"] (defScope sIsInt) := ⟨rfl, rfl, rfl, by decide +kernel, rfl, by decide +kernel, by decide +kernel⟩
theorem ok_isint (B : Blt mg) (D : DefIn K mg "is_integer" sIsInt ["value"]) : Cal P w K mg base 1 "is_integer" ["value"] spIsInt := by
  obtain ⟨f, fd, hm, F, hb⟩ := D
  refine ⟨f, fd, hm, F.kp, hb, F.ok scIsInt (fun vs H Q E h => ?_) (fun cdv A outer s H vs Q E hr h => ?_)⟩
  · obtain ⟨i, rfl, _⟩ := h; rfl
  obtain ⟨i, rfl, q⟩ := h
  refine ⟨_, pss_one (ps_ret (pe_and (pe_callB call_isi (by rfl) B.isinstance (by decide +kernel) (pa_cons (pv 0) (pa_cons (pe_bltn (v := .ty "int") (u := .type "int") (by rfl) B.int (by decide +kernel) rfl) pa_nil)))
    (pe_one (pe_not (pe_callB call_isi (by rfl) B.isinstance (by decide +kernel) (pa_cons (pv 0) (pa_cons (pe_bltn (v := .ty "bool") (u := .type "bool") (by rfl) B.bool (by decide +kernel) rfl) pa_nil))))))), ?_⟩
  refine ⟨_, rfl, .int i, .ty "int", _, _, true, rfl, .ty _, .base (.int i), kit_ty (by decide +kernel), true, rfl, ?_⟩
  refine iteT ⟨_, rfl, .int i, .ty "bool", _, _, false, rfl, .ty _, .base (.int i), kit_ty (by decide +kernel), false, rfl, q⟩
theorem scBetw : FnScope ["value", "least", "most"] ["value", "least", "most"] (defScope sBetw) := ⟨rfl, rfl, rfl, by decide +kernel, rfl, by decide +kernel, by decide +kernel⟩
theorem ok_betw (G : Cal P w K mg base 1 "is_integer" ["value"] spIsInt) (D : DefIn K mg "is_between" sBetw ["value", "least", "most"]) : Cal P w K mg base 2 "is_between" ["value", "least", "most"] spBetw := by
  obtain ⟨f, fd, hm, F, hb⟩ := D
  refine ⟨f, fd, hm, F.kp, hb, F.ok scBetw (fun vs H Q E h => ?_) (fun cdv A outer s H vs Q E hr h => ?_)⟩
  · obtain ⟨i, a, b, rfl, _⟩ := h; rfl
  obtain ⟨i, a, b, rfl, q⟩ := h
  refine ⟨_, pss_one (ps_ret (pe_and (pe_cal G hr rfl (pa_cons (pv 0) pa_nil)) (pe_one (pe_chain op_le op_le (pv 1) (pv 0) (pv 2))))), ?_⟩
  refine ⟨_, rfl, i, rfl, true, rfl, iteT ⟨_, rfl, _, rfl, _, _, rfl, rfl, _, rfl, ?_⟩⟩
  by_cases h1 : a ≤ i
  · rw [decide_eq_true h1] at q ⊢
    refine iteT ⟨_, rfl, _, _, rfl, rfl, ?_⟩
    simpa using q
  · rw [decide_eq_false h1] at q ⊢
    exact iteF q
end
end SW

/-! The checks and the counts. -/
namespace SW
open PySem PySem.Spec PyProof.Rows L2 WR SF
theorem ixN_nat {n j : Nat} (h : j < n) : ixN n (j : Int) = some j := by
  unfold ixN
  rw [if_pos (by omega), if_pos (by omega), Int.toNat_natCast]
theorem small40 {n : Nat} (h : n ≤ 100000) : n ≤ sizeLine := by rw [sizeLine_eq]; omega
section
variable {P : Program} {w : World} {K : PySem.W.Frag} {mg : Str → Option Value} {base : Heap}
theorem scLive : FnScope ["heap", "value"] ["heap", "value"] (defScope sLive) := ⟨rfl, rfl, rfl, by decide +kernel, rfl, by decide +kernel, by decide +kernel⟩
theorem ok_live (B : Blt mg) (G : Cal P w K mg base 2 "is_between" ["value", "least", "most"] spBetw) (D : DefIn K mg "is_live" sLive ["heap", "value"]) : Cal P w K mg base 3 "is_live" ["heap", "value"] spLive := by
  obtain ⟨f, fd, hm, F, hb⟩ := D
  refine ⟨f, fd, hm, F.kp, hb, F.ok scLive (fun vs H Q E h => ?_) (fun cdv A outer s H vs Q E hr h => ?_)⟩
  · obtain ⟨_, _, _, _, _, rfl, _⟩ := h; rfl
  obtain ⟨a, rows, out, u, row, rfl, ⟨sa, oa, xs, h1, h2, h3, h4⟩, hu, q⟩ := h
  refine ⟨_, pss_one (ps_ret (pe_and (pe_cal G hr rfl (pa_cons (pv 1) (pa_cons pe_int (pa_cons (pe_op op_sub (pe_callB call_len_seq (by rfl) B.len (by decide +kernel) (pa_cons (pe_ix ix_tup (pv 0) pe_int (fun _ _ => rfl)) pa_nil)) pe_int) pa_nil))))
    (pe_one (pe_cmp (pc_notN (pe_ix ix_tup (pe_ix ix_tup (pv 0) pe_int (fun _ _ => rfl)) (pv 1) (fun _ _ => rfl))) rfl)))), ?_⟩
  obtain ⟨x, hx, hr⟩ := paired_get h4 hu
  have hl := h4.length
  have hul := (List.getElem?_eq_some_iff.mp hx).1
  have e : (decide ((0 : Int) ≤ (u : Int)) && decide ((u : Int) ≤ (xs.length : Int) - 1)) = true := by simp; omega
  refine ⟨_, rfl, _, rfl, a, _, 0, _, rfl, rfl, SqT.of h1, rfl, sa, _, rfl, .inr (SqT.of h2), _, _, rfl, rfl, (u : Int), 0, _, rfl, true, by rw [e], iteT ?_⟩
  refine ⟨_, rfl, a, _, 0, _, rfl, rfl, SqT.of h1, rfl, _, rfl, sa, _, (u : Int), x, rfl, rfl, SqT.of h2, atI_nat hx, ?_⟩
  obtain ⟨p, rfl, _⟩ := hr
  exact q
theorem scReqN : FnScope ["heap", "value"] ["heap", "value"] (defScope sReqN) := ⟨rfl, rfl, rfl, by decide +kernel, rfl, by decide +kernel, by decide +kernel⟩
theorem ok_reqN (G : Cal P w K mg base 3 "is_live" ["heap", "value"] spLive) (D : DefIn K mg "require_node" sReqN ["heap", "value"]) : Cal P w K mg base 4 "require_node" ["heap", "value"] spReqN := by
  obtain ⟨f, fd, hm, F, hb⟩ := D
  refine ⟨f, fd, hm, F.kp, hb, F.ok scReqN (fun vs H Q E h => ?_) (fun cdv A outer s H vs Q E hr h => ?_)⟩
  · obtain ⟨_, _, _, _, _, rfl, _⟩ := h; rfl
  obtain ⟨a, rows, out, u, row, rfl, hh, hu, q⟩ := h
  refine ⟨_, pss_one (ps_if (pt_not (pt_val (pe_cal G hr rfl (pa_cons (pv 0) (pa_cons (pv 1) pa_nil))))) (pss_one ps_never) pss_nil), ?_⟩
  exact ⟨_, rfl, _, rfl, a, rows, out, u, row, rfl, hh, hu, true, rfl, iteF q⟩
theorem scReqR : FnScope ["heap", "value"] ["heap", "value"] (defScope sReqR) := ⟨rfl, rfl, rfl, by decide +kernel, rfl, by decide +kernel, by decide +kernel⟩
theorem ok_reqR (G : Cal P w K mg base 4 "require_node" ["heap", "value"] spReqN) (D : DefIn K mg "require_reference" sReqR ["heap", "value"]) : Cal P w K mg base 5 "require_reference" ["heap", "value"] spReqR := by
  obtain ⟨f, fd, hm, F, hb⟩ := D
  refine ⟨f, fd, hm, F.kp, hb, F.ok scReqR (fun vs H Q E h => ?_) (fun cdv A outer s H vs Q E hr h => ?_)⟩
  · obtain ⟨_, _, _, _, rfl, _⟩ := h; rfl
  obtain ⟨a, rows, out, u, rfl, hh, ⟨⟨row, hu⟩, o, ho, hpos⟩, q⟩ := h
  refine ⟨_, pss_cons (ps_expr (pe_cal G hr rfl (pa_cons (pv 0) (pa_cons (pv 1) pa_nil))))
    (pss_one (ps_if (pt_cmpR op_eq (pe_ix ix_tup (pe_ix ix_tup (pv 0) pe_int (fun _ _ => rfl)) (pv 1) (fun _ _ => rfl)) pe_int (nomark _)) (pss_one ps_never) pss_nil)), ?_⟩
  obtain ⟨sa, oa, xs, h1, h2, h3, h4⟩ := id hh
  have hx : (out.map natV)[u]? = some (natV o) := by rw [List.getElem?_map, ho]; rfl
  refine ⟨_, rfl, _, rfl, a, rows, out, u, row, rfl, hh, hu, ?_⟩
  refine ⟨_, rfl, a, _, 1, _, rfl, rfl, SqT.of h1, rfl, _, rfl, oa, _, (u : Int), _, rfl, rfl, SqT.of h3, atI_nat hx, rfl, _, rfl, ?_⟩
  refine ite2 (fun c => ?_) (fun c => q)
  have e : natV o = V.int 0 := of_decide_eq_true c
  have e2 : (o : Int) = 0 := V.int.inj e
  omega
/-! ### reference_counts -/
def part (rows : List (Option Rw)) (out : List Nat) (i : Nat) (row : Rw) (j : Nat) : List Int := (List.range out.length).map fun u => ((out.getD u 0 + cntF (rows.take i) u + (row.take j).countP (isU u) : Nat) : Int)
theorem part_len {rows : List (Option Rw)} {out : List Nat} {i j : Nat} {row : Rw} : (part rows out i row j).length = out.length := by simp [part]
theorem part_zero (rows : List (Option Rw)) (out : List Nat) (row : Rw) : part rows out 0 row 0 = out.map (fun o => ((o : Nat) : Int)) := by
  apply List.ext_getElem?
  intro k
  unfold part
  rw [List.getElem?_map, List.getElem?_map]
  by_cases hk : k < out.length
  · rw [List.getElem?_range hk, List.getElem?_eq_getElem hk]
    simp [cntF, tot, List.getD_eq_getElem?_getD, List.getElem?_eq_getElem hk]
  · rw [List.getElem?_eq_none (by simp; omega), List.getElem?_eq_none (by omega)]
    rfl
theorem part_all (rows : List (Option Rw)) (out : List Nat) (i : Nat) (row : Rw) (h : rows.length ≤ i) : part rows out i row 0 = tal0 rows out := by
  unfold part tal0
  rw [List.take_of_length_le h]
  simp
theorem part_next {rows : List (Option Rw)} {out : List Nat} {i : Nat} {r : Option Rw} (h : rows[i]? = some r) (row' : Rw) : part rows out i (r.getD []) (r.getD []).length = part rows out (i + 1) row' 0 := by
  unfold part
  apply List.map_congr_left
  intro u _
  have e : rows.take (i + 1) = rows.take i ++ [r] := by
    obtain ⟨hi, e⟩ := List.getElem?_eq_some_iff.mp h
    rw [List.take_succ, h]; rfl
  rw [e, List.take_length]
  have e2 : cntF (rows.take i ++ [r]) u = cntF (rows.take i) u + (r.getD []).countP (isU u) := by
    unfold cntF tot
    rw [List.map_append, List.sum_append]
    cases r <;> simp [fo]
  rw [e2]; simp; omega
theorem part_skip {rows : List (Option Rw)} {out : List Nat} {i j : Nat} {row : Rw} (h : row[j]? = some none) : part rows out i row (j + 1) = part rows out i row j := by
  unfold part
  apply List.map_congr_left
  intro u _
  rw [List.take_succ, h]
  simp [isU]
theorem part_add {rows : List (Option Rw)} {out : List Nat} {i j u : Nat} {row : Rw} (h : row[j]? = some (some u)) (hu : u < out.length) :
    ∃ t : Int, (part rows out i row j)[u]? = some t ∧ part rows out i row (j + 1) = (part rows out i row j).set u (t + 1) := by
  refine ⟨((out.getD u 0 + cntF (rows.take i) u + (row.take j).countP (isU u) : Nat) : Int), by unfold part; rw [List.getElem?_map, List.getElem?_range hu]; rfl, ?_⟩
  apply List.ext_getElem?
  intro k
  rw [List.getElem?_set]
  unfold part
  rw [List.take_succ, h]
  by_cases hk : k < out.length
  · rw [List.getElem?_map, List.getElem?_range hk, List.getElem?_map, List.getElem?_range hk]
    by_cases e : u = k
    · subst e
      simp [isU, hu]; omega
    · simp [isU, e]
  · rw [List.getElem?_map, List.getElem?_eq_none (l := List.range out.length) (by simp; omega), List.getElem?_map, List.getElem?_eq_none (l := List.range out.length) (by simp; omega)]
    simp; omega
def spCounts : Sp := fun vs H Q _ => ∃ (sa oa : Addr) (xs : List V) (rows : List (Option Rw)) (out : List Nat), vs = [.ref sa, .ref oa] ∧ H sa = some (.tup xs) ∧ H oa = some (.tup (out.map natV)) ∧ Paired (RowAt H) xs rows ∧ HeapOk out.length rows out ∧
  ∀ (l : Addr) (H' : Hp), H l = none → Same H H' → H' l = some (.lst ((tal0 rows out).map V.int)) → Q (.ref l) H'
theorem scCounts : FnScope ["slots", "outside", "found", "row", "held"] ["slots", "outside"] (defScope sCounts) := ⟨rfl, rfl, rfl, by decide +kernel, rfl, by decide +kernel, by decide +kernel⟩
theorem same_upd {H0 H : Hp} {l : Addr} {o : HO} (hl : H0 l = none) (s : Same H0 H) : Same H0 (upd H l o) := fun b u q => by rw [upd_ne (ne_of_none q hl)]; exact s _ _ q
/-- row or (): a tuple of the row's slots, of none where the node is free -/
theorem or_row {K : PySem.W.Frag} {i : Nat} {x : V} {r : Option Rw} {σ : L2.St} {H : Hp} {Q : VK} (hx : RowAt H x r) (hi : σ[i]? = some (some x)) (h : ∀ a' H1, Same H H1 → H1 a' = some (.tup (rowV (r.getD []))) → Q (.ref a') H1) : tOrT K (tVar i) (tTup tNil) σ H Q := by
  refine ⟨x, hi, ?_⟩
  cases r with
  | none =>
    cases (show x = V.non from hx)
    exact ⟨false, rfl, iteF ⟨Nat.zero_le _, fun p hp => h p _ (same_new hp _) upd_same⟩⟩
  | some row =>
    obtain ⟨p, rfl, hp⟩ := hx
    refine ⟨!(rowV row).isEmpty, .inr (.inl ⟨_, SqT.of hp, rfl⟩), ?_⟩
    cases hq : (rowV row).isEmpty with
    | false => exact iteT (h p H (Same.refl H) hp)
    | true =>
      have e : rowV row = [] := by simpa using hq
      refine iteF ⟨Nat.zero_le _, fun p' hp' => h p' _ (same_new hp' _) ?_⟩
      rw [upd_same]
      show _ = some (HO.tup (rowV row))
      rw [e]
theorem ok_counts (B : Blt mg) (D : DefIn K mg "reference_counts" sCounts ["slots", "outside"]) : Cal P w K mg base 1 "reference_counts" ["slots", "outside"] spCounts := by
  obtain ⟨f, fd, hm, F, hb⟩ := D
  refine ⟨f, fd, hm, F.kp, hb, F.ok scCounts (fun vs H Q E h => ?_) (fun cdv A outer s H vs Q E hr h => ?_)⟩
  · obtain ⟨_, _, _, _, _, rfl, _⟩ := h; rfl
  obtain ⟨sa, oa, xs, rows, out, rfl, h1, h2, h3, hok, q⟩ := h
  have nd := scCounts.nd
  refine ⟨_, pss_cons (ps_set (i := 2) nd rfl (.inl rfl) (pe_callTy call_list_of (by rfl) B.list (by decide +kernel) (pa_cons (pv 1) pa_nil)))
    (pss_cons (ps_for PassesOwn.never rfl (pi_tup (pv 0)) (pg_name (i := 3) nd rfl (.inl rfl))
      (pss_one (ps_for PassesOwn.never rfl (pi_tup (pe_orT (pv 3) (pe_one (pe_tup pa_nil)))) (pg_name (i := 4) nd rfl (.inl rfl))
        (pss_one (ps_if (pt_cmp (pc_notN (pv 4))) (pss_one (ps_augS (pv 2) (pv 4) pget_list pe_int ip_add set_list)) pss_nil)))))
    (pss_one (ps_ret (pv 2)))), ?_⟩
  refine ⟨_, rfl, oa, _, rfl, .inr (SqT.of h2), fun l hl => ?_⟩
  have hlen := h3.length
  have s0 : Same H (upd H l (.lst (out.map natV))) := same_new hl _
  refine ⟨_, rfl, sa, rfl, ⟨_, SqT.of (s0 _ _ h1)⟩, for_tup (K := K) (a := sa) (xs := xs) (fun i σ H' => ∃ v3 v4 : Option V, σ = [some (.ref sa), some (.ref oa), some (.ref l), v3, v4] ∧ Same H H' ∧ H' l = some (.lst ((part rows out i [] 0).map V.int)))
    ⟨none, none, rfl, s0, ?_⟩ (fun i σ H' _ ⟨_, _, _, s', _⟩ => SqT.of (s' _ _ h1)) ?_ ?_⟩
  · rw [upd_same, part_zero, List.map_map]; rfl
  · rintro i x σ H' hx ⟨v3, v4, rfl, s', hL⟩
    obtain ⟨r, hri, hrx⟩ := paired_getL h3 hx
    refine or_row (hrx.same s') rfl (fun a' H1 s1 ha' => ?_)
    have hne : a' ≠ l := fun e => by
      subst e
      rw [s1 _ _ hL] at ha'
      cases ha'
    refine ⟨a', rfl, ⟨_, SqT.of ha'⟩, for_tup (K := K) (a := a') (xs := rowV (r.getD [])) (fun j σ H2 => ∃ v5 : Option V, σ = [some (.ref sa), some (.ref oa), some (.ref l), some x, v5] ∧ Same H H2 ∧ H2 a' = some (.tup (rowV (r.getD []))) ∧ H2 l = some (.lst ((part rows out i (r.getD []) j).map V.int)))
        ⟨v4, rfl, s'.trans s1, ha', ?_⟩ (fun j σ H2 _ ⟨_, _, _, z, _⟩ => SqT.of z) ?_ ?_⟩
    · rw [s1 _ _ hL]
      simp [part]
    · rintro j y σ H2 hy ⟨v5, rfl, s2, z1, z2⟩
      obtain ⟨o, ho, rfl⟩ : ∃ o, (r.getD [])[j]? = some o ∧ y = slotV o := by
        unfold rowV at hy
        rw [List.getElem?_map] at hy
        cases e : (r.getD [])[j]? with
        | none => rw [e] at hy; cases hy
        | some o => rw [e] at hy; exact ⟨o, rfl, (Option.some.inj hy).symm⟩
      refine ⟨_, rfl, _, rfl, ?_⟩
      cases o with
      | none =>
        refine iteF ⟨_, rfl, s2, z1, ?_⟩
        rw [part_skip ho]; exact z2
      | some u =>
        have hul : u < out.length := by
          cases r with
          | none => simp at ho
          | some row => exact ((hok.ok i row hri).2 u (List.mem_of_getElem? ho)).1
        obtain ⟨t, ht, hp⟩ := part_add (rows := rows) (out := out) (i := i) ho hul
        refine iteT ⟨_, rfl, _, rfl, l, _, u, _, rfl, rfl, SqL.of z2, by rw [List.getElem?_map, ht]; rfl, _, _, rfl, rfl, l, _, _, u, rfl, rfl, z2, ixN_nat (by rw [List.length_map, part_len]; exact hul), ?_⟩
        refine ⟨_, rfl, same_upd hl s2, ?_, ?_⟩
        · rw [upd_ne hne]; exact z1
        · rw [upd_same, hp, List.map_set]
    · rintro σ H2 ⟨v5, rfl, s2, z1, z2⟩
      refine ⟨_, _, rfl, s2, ?_⟩
      rw [z2]
      have e : (rowV (r.getD [])).length = (r.getD []).length := by simp [rowV]
      rw [e, part_next hri []]
  · rintro σ H' ⟨v3, v4, rfl, s', hL⟩
    refine ⟨_, rfl, q l H' hl s' ?_⟩
    rw [hL, part_all rows out _ [] (by omega)]
end
end SW

/-! The unwinding object's data. -/
namespace SW
open PySem PySem.Spec PyProof.Rows L2 WR SF
/-- where it all stands -/
structure Adr where
  p : Addr
  C : Addr
  dx : Addr
  rows : Addr
  refs : Addr
  tal : Addr
  log : Addr
  shelf : Addr
  ev : Addr
  row : Nat → Addr
  live : Nat → Prop
def Adr.ad (a : Adr) : Nat → Addr
  | 0 => a.p
  | 1 => a.rows
  | 2 => a.refs
  | 3 => a.tal
  | 4 => a.log
  | 5 => a.shelf
  | _ => a.ev
structure Adr.Dis (a : Adr) : Prop where
  ne : ∀ i j, i < 7 → j < 7 → i ≠ j → a.ad i ≠ a.ad j
  row : ∀ i v, i < 7 → a.live v → a.row v ≠ a.ad i
  inj : ∀ v w, a.live v → a.live w → v ≠ w → a.row v ≠ a.row w
def Adr.Own (a : Adr) (b : Addr) : Prop := (∃ i, i < 7 ∧ b = a.ad i) ∨ ∃ v, a.live v ∧ b = a.row v
/-- the instance's variables -/
def uf (a : Adr) (L pk : Nat) : List (Str × V) := [("rows", .ref a.rows), ("references", .ref a.refs), ("tallies", .ref a.tal), ("bound", natV L), ("log", .ref a.log), ("shelf", .ref a.shelf), ("peak", natV pk), ("events", .ref a.ev)]
theorem uf_peak (a : Adr) (L pk q : Nat) : putF "peak" (natV q) (uf a L pk) = uf a L q := by rfl
def cellV (a : Adr) (v : Nat) : Option Rw → V
  | none => .non
  | some _ => .ref (a.row v)
def rowsV (a : Adr) (rows : List (Option Rw)) : List V := rows.mapIdx fun v r => cellV a v r
def hV : Option (Nat × Nat) → V
  | none => .non
  | some p => natV p.1
def kV' : Option (Nat × Nat) → V
  | none => .non
  | some p => natV p.2
def evT : Evt → List V
  | .rel hs u c => [.str "release", hV hs, kV' hs, natV u, .int c]
  | .des v d => [.str "destroy", natV v, natV d]
  | .shl v l => [.str "shelve", natV v, natV l]
  | .tak v l => [.str "take", natV v, natV l]
def EvAt (H : Hp) (x : V) (e : Evt) : Prop := ∃ t, x = .ref t ∧ H t = some (.tup (evT e))
def cont (a : Adr) (L : Nat) (s : UW) (refs es : List V) : Nat → HO
  | 0 => .ins a.C a.dx (uf a L s.peak)
  | 1 => .lst (rowsV a s.rows)
  | 2 => .lst refs
  | 3 => .lst (s.tal.map V.int)
  | 4 => .lst (s.log.map natV)
  | 5 => .lst (s.shelf.map natV)
  | _ => .lst es
theorem cont_tup {a : Adr} {L : Nat} {s : UW} {refs es : List V} {i : Nat} {xs : List V} : cont a L s refs es i ≠ .tup xs := by
  unfold cont
  split <;> (intro e; cases e)
structure Rep (H : Hp) (a : Adr) (L : Nat) (s : UW) (refs es : List V) : Prop where
  at_ : ∀ i, i < 7 → H (a.ad i) = some (cont a L s refs es i)
  rw : ∀ (v : Nat) (row : Rw), s.rows[v]? = some (some row) → H (a.row v) = some (.lst (rowV row)) ∧ row.length ≤ 100 ∧ a.live v
  evs : Paired (EvAt H) es s.ev
  ll : s.log.length + s.shelf.length ≤ s.ev.length
  el : s.ev.length ≤ bigN + 5
  rl : s.rows.length ≤ 100
def Keep (a : Adr) (H H' : Hp) : Prop := ∀ b o, H b = some o → ¬ a.Own b → H' b = some o
theorem Keep.refl (a : Adr) (H : Hp) : Keep a H H := fun _ _ h _ => h
theorem Keep.trans {a : Adr} {H H1 H2 : Hp} (h : Keep a H H1) (g : Keep a H1 H2) : Keep a H H2 := fun b o e n => g b o (h b o e n) n
theorem Keep.new {a : Adr} {H : Hp} {p : Addr} {o : HO} (h : H p = none) : Keep a H (upd H p o) := fun b u e _ => by rw [upd_ne (ne_of_none e h)]; exact e
theorem Keep.own {a : Adr} {H : Hp} {p : Addr} {o : HO} (h : a.Own p) : Keep a H (upd H p o) := fun b u e n => by rw [upd_ne (fun z => n (by rw [z]; exact h))]; exact e
theorem Adr.own {a : Adr} {i : Nat} (h : i < 7) : a.Own (a.ad i) := .inl ⟨i, h, rfl⟩
theorem Adr.ownR {a : Adr} {v : Nat} (h : a.live v) : a.Own (a.row v) := .inr ⟨v, h, rfl⟩
theorem EvAt.mono {H H' : Hp} {x : V} {e : Evt} (h : EvAt H x e) (k : ∀ t xs, H t = some (.tup xs) → H' t = some (.tup xs)) : EvAt H' x e := by
  obtain ⟨t, e1, e2⟩ := h
  exact ⟨t, e1, k _ _ e2⟩
section
variable {H : Hp} {a : Adr} {L : Nat} {s s' : UW} {refs es es' : List V}
/-- a new tuple -/
theorem Rep.new {p : Addr} {xs : List V} (R : Rep H a L s refs es) (hp : H p = none) : Rep (upd H p (.tup xs)) a L s refs es := by
  refine ⟨fun i hi => ?_, fun v row h => ?_, L2.Paired.mapP R.evs fun _ _ q => q.mono fun t ys e => ?_, R.ll, R.el, R.rl⟩
  · rw [upd_ne (ne_of_none (R.at_ i hi) hp)]; exact R.at_ i hi
  · obtain ⟨h1, h2⟩ := R.rw v row h
    rw [upd_ne (ne_of_none h1 hp)]; exact ⟨h1, h2⟩
  · rw [upd_ne (ne_of_none e hp)]; exact e
/-- one of the seven is written -/
theorem Rep.set (D : a.Dis) (R : Rep H a L s refs es) (s' : UW) (refs' es' : List V) (i : Nat) (hi : i < 7) (hc : ∀ j, j < 7 → j ≠ i → cont a L s' refs' es' j = cont a L s refs es j) (hr : ∀ (v : Nat) (row : Rw), s'.rows[v]? = some (some row) → s.rows[v]? = some (some row))
    (he : Paired (EvAt (upd H (a.ad i) (cont a L s' refs' es' i))) es s.ev → Paired (EvAt (upd H (a.ad i) (cont a L s' refs' es' i))) es' s'.ev) (hl : s'.log.length + s'.shelf.length ≤ s'.ev.length) (hb : s'.ev.length ≤ bigN + 5) (hrl : s'.rows.length ≤ 100) {o : HO} (ho : o = cont a L s' refs' es' i) :
    Rep (upd H (a.ad i) o) a L s' refs' es' := by
  subst ho
  refine ⟨fun j hj => ?_, fun v row h => ?_, he (L2.Paired.mapP R.evs fun _ _ q => q.mono fun t ys e => ?_), hl, hb, hrl⟩
  · by_cases e : j = i
    · subst e; rw [upd_same]
    · rw [upd_ne (D.ne j i hj hi e), hc j hj e]; exact R.at_ j hj
  · obtain ⟨h1, h2⟩ := R.rw v row (hr v row h)
    rw [upd_ne (D.row i v hi h2.2)]; exact ⟨h1, h2⟩
  · have h1 := R.at_ i hi
    rw [upd_ne (ne_of e h1 (fun q => cont_tup q.symm))]; exact e
/-- a slot is emptied -/
theorem Rep.empty {v k : Nat} {row : Rw} (D : a.Dis) (R : Rep H a L s refs es) (h : s.rows[v]? = some (some row)) : Rep (upd H (a.row v) (.lst (rowV (row.set k none)))) a L { s with rows := s.rows.set v (some (row.set k none)) } refs es := by
  obtain ⟨h0, h0', h0l⟩ := R.rw v row h
  refine ⟨fun i hi => ?_, fun w r hr => ?_, L2.Paired.mapP R.evs fun _ _ q => q.mono fun t ys e => ?_, R.ll, R.el, by simpa using R.rl⟩
  · rw [upd_ne (D.row i v hi h0l).symm, R.at_ i hi]
    unfold cont
    split <;> try rfl
    show some (HO.lst (rowsV a s.rows)) = some (HO.lst (rowsV a (s.rows.set v (some (row.set k none)))))
    have e : rowsV a (s.rows.set v (some (row.set k none))) = rowsV a s.rows := by
      unfold rowsV
      apply List.ext_getElem?
      intro j
      rw [List.getElem?_mapIdx, List.getElem?_mapIdx, List.getElem?_set]
      by_cases ej : v = j
      · subst ej
        rw [if_pos rfl, if_pos (List.getElem?_eq_some_iff.mp h).1, h]
        rfl
      · rw [if_neg ej]
    rw [e]
  · have hr : (s.rows.set v (some (row.set k none)))[w]? = some (some r) := hr
    rw [List.getElem?_set] at hr
    by_cases e : v = w
    · subst e
      rw [if_pos rfl, if_pos (List.getElem?_eq_some_iff.mp h).1] at hr
      cases hr
      rw [upd_same, List.length_set]
      exact ⟨rfl, h0', h0l⟩
    · rw [if_neg e] at hr
      obtain ⟨h1, h2⟩ := R.rw w r hr
      rw [upd_ne (D.inj w v h2.2 h0l (fun q => e q.symm))]
      exact ⟨h1, h2⟩
  · rw [upd_ne (ne_of e h0 (fun q => by cases q))]; exact e
theorem paired_snoc {α β : Type} {F : α → β → Prop} : ∀ {xs : List α} {ys : List β} {x : α} {y : β}, Paired F xs ys → F x y → Paired F (xs ++ [x]) (ys ++ [y])
  | _, _, _, _, .nil, h => .cons h .nil
  | _, _, _, _, .cons r t, h => .cons r (paired_snoc t h)
end
/-- the class as the top has made it -/
structure Uni (K : PySem.W.Frag) (mg : Str → Option Value) (C : Addr) : Prop where
  cl : Cls K C
  rows : NoAttr K C "rows"
  references : NoAttr K C "references"
  tallies : NoAttr K C "tallies"
  bound : NoAttr K C "bound"
  log : NoAttr K C "log"
  shelf : NoAttr K C "shelf"
  peak : NoAttr K C "peak"
  events : NoAttr K C "events"
  mgC : mg "Unwinding" = some (.ref C)
end SW

/-! release and destroy, by the number of calls. -/
namespace SW
open PySem PySem.Spec PyProof.Rows L2 WR SF
section
variable {X : Cx} {k n : Nat} {ps ks : List Str} {sp : Sp} {x m : Str} {p pos apos : Pos} {e o : Expr} {es : List Expr} {t tk : TA} {ta : TE} {C : Addr}
theorem pe_mcal {pl : Sem Bool} (ho : PE X o ta) (c : Cls X.K C) (G : MCal X.prog X.w X.K X.mg X.base C k m ps sp) (hr : Room k X.A) (ha : PA X (e :: es) t)
    (hst : starEach (e :: es) X.env = (false, eval e X.env) :: starEach es X.env := by rfl) (hpl : (backTo pos (starEach es X.env)).any (·.1) = false := by rfl)
    (ht : eval (.Call (.Attribute o m apos) (e :: es) [] pos) X.env = (do
      let ov ← eval o X.env
      standAt apos.atName
      let (f, first) ← holding [ov] (getMethod ov m pl)
      callWith pos f first (backTo pos (starEach (e :: es) X.env)) (backToKw pos (keywordEach [] X.env))) := by rfl) :
    PE X (.Call (.Attribute o m apos) (e :: es) [] pos) (tMeth C m sp [] E0 ta t) := by
  obtain ⟨f, fd, h1, h2, h3⟩ := G
  exact pe_meth ho c h1 h3 hr h2 .nil pass0 ha hst hpl ht
theorem pe_mcal0 {pl : Sem Bool} (ho : PE X o ta) (c : Cls X.K C) (G : MCal X.prog X.w X.K X.mg X.base C k m ps sp) (hr : Room k X.A)
    (ht : eval (.Call (.Attribute o m apos) [] [] pos) X.env = (do
      let ov ← eval o X.env
      standAt apos.atName
      let (f, first) ← holding [ov] (getMethod ov m pl)
      callWith pos f first (backTo pos (starEach [] X.env)) (backToKw pos (keywordEach [] X.env))) := by rfl) : PE X (.Call (.Attribute o m apos) [] [] pos) (tMeth C m sp [] E0 ta tNil) := by
  obtain ⟨f, fd, h1, h2, h3⟩ := G
  exact pe_meth0 ho c h1 h3 hr h2 .nil pass0 ht
end
/-- release, where destroying goes n calls deep -/
def spRel (C : Addr) (n : Nat) : Sp := fun vs H Q _ => ∃ (a : Adr) (L : Nat) (s s' : UW) (refs es : List V) (hs : Option (Nat × Nat)) (u d : Nat), a.C = C ∧ vs = [.ref a.p, hV hs, kV' hs, natV u, natV d] ∧ a.Dis ∧ Rep H a L s refs es ∧ relF L (desF L n) s hs u d = some s' ∧
  ∀ H' es', Keep a H H' → Rep H' a L s' refs es' → Q .non H'
def spDes (C : Addr) (n : Nat) : Sp := fun vs H Q _ => ∃ (a : Adr) (L : Nat) (s s' : UW) (refs es : List V) (v d : Nat), a.C = C ∧ vs = [.ref a.p, natV v, natV d] ∧ a.Dis ∧ Rep H a L s refs es ∧ desF L n s v d = some s' ∧
  ∀ H' es', Keep a H H' → Rep H' a L s' refs es' → Q .non H'
/-- a method of the class as it stands -/
def MDefIn (K : PySem.W.Frag) (C : Addr) (m q : Str) (st : Stmt) (ps : List Str) : Prop := ∃ f fd, Meth K C m f ∧ Fun K m q st f fd ∧ Binds K fd ps []
theorem bigN_small {n : Nat} (h : n ≤ bigN + 5) : n < sizeLine := by unfold bigN at h; rw [sizeLine_eq]; omega
section
variable {P : Program} {w : World} {K : PySem.W.Frag} {mg : Str → Option Value} {base : Heap} {C : Addr}
theorem scRel : FnScope ["self", "holder", "slot", "node", "depth"] ["self", "holder", "slot", "node", "depth"] (defScope sRel) := ⟨rfl, rfl, rfl, by decide +kernel, rfl, by decide +kernel, by decide +kernel⟩
set_option maxHeartbeats 1000000 in
theorem ok_rel {n : Nat} (B : Blt mg) (T : Uni K mg C) (G : MCal P w K mg base C (2 * n) "destroy" ["self", "node", "depth"] (spDes C n)) (D : MDefIn K C "release" "Unwinding.release" sRel ["self", "holder", "slot", "node", "depth"]) :
    MCal P w K mg base C (2 * n + 1) "release" ["self", "holder", "slot", "node", "depth"] (spRel C n) := by
  obtain ⟨f, fd, hm, F, hb⟩ := D
  refine ⟨f, fd, hm, hb, F.ok scRel (fun vs H Q E h => ?_) (fun cdv A outer st H vs Q E hr h => ?_)⟩
  · obtain ⟨_, _, _, _, _, _, _, _, _, _, rfl, _⟩ := h; rfl
  obtain ⟨a, L, s, s', refs, es, hs, u, d, hC, rfl, dis, R, hrel, q⟩ := h
  refine ⟨_, pss_cons (ps_augS (pe_fld (pv 0) rfl) (pv 3) pget_list pe_int ip_sub set_list)
    (pss_cons (ps_expr (pe_bm PySem.F.plainAttrs_list PySem.F.slot_list_append PySem.F.type_list_append mt_append (pe_fld (pv 0) rfl) (pa_cons (pe_tup (pa_cons pe_str (pa_cons (pv 1) (pa_cons (pv 2) (pa_cons (pv 3) (pa_cons (pe_ix ix_list (pe_fld (pv 0) rfl) (pv 3) (fun _ _ => rfl)) pa_nil)))))) pa_nil)))
    (pss_cons (ps_if (pt_cmpR op_gt (pe_ix ix_list (pe_fld (pv 0) rfl) (pv 3) (fun _ _ => rfl)) pe_int (nomark _)) (pss_one ps_retN) pss_nil)
    (pss_cons (ps_if (pt_cmpR op_lt (pv 4) (pe_fld (pv 0) rfl) (nomark _)) (pss_cons (ps_expr (pe_mcal (pv 0) T.cl G hr (pa_cons (pv 3) (pa_cons (pv 4) pa_nil)))) (pss_one ps_retN)) pss_nil)
    (pss_cons (ps_expr (pe_bm PySem.F.plainAttrs_list PySem.F.slot_list_append PySem.F.type_list_append mt_append (pe_fld (pv 0) rfl) (pa_cons (pv 3) pa_nil)))
    (pss_cons (ps_fld (pv 0) (pe_callB (cr_max2N rfl) (by rfl) B.max (by decide +kernel) (pa_cons (pe_fld (pv 0) rfl) (pa_cons (pe_callB call_len_seq (by rfl) B.len (by decide +kernel) (pa_cons (pe_fld (pv 0) rfl) pa_nil)) pa_nil))) rfl)
    (pss_one (ps_expr (pe_bm PySem.F.plainAttrs_list PySem.F.slot_list_append PySem.F.type_list_append mt_append (pe_fld (pv 0) rfl) (pa_cons (pe_tup (pa_cons pe_str (pa_cons (pv 3) (pa_cons (pe_callB call_len_seq (by rfl) B.len (by decide +kernel) (pa_cons (pe_fld (pv 0) rfl) pa_nil)) pa_nil)))) pa_nil)))))))))
    , ?_⟩
  subst hC
  have cl := T.cl
  unfold relF at hrel
  cases ht : s.tal[u]? with
  | none => rw [ht] at hrel; cases hrel
  | some t =>
  rw [ht] at hrel
  simp only at hrel
  by_cases hroom : bigN ≤ s.ev.length
  · rw [if_pos hroom] at hrel; cases hrel
  rw [if_neg hroom] at hrel
  have hul := (List.getElem?_eq_some_iff.mp ht).1
  have hp := R.at_ 0 (by decide)
  have htal := R.at_ 3 (by decide)
  -- self.tallies[node] -= 1
  refine ⟨_, rfl, a.p, a.C, a.dx, _, _, rfl, hp, cl, T.tallies, rfl, _, rfl, a.tal, _, u, _, rfl, rfl, SqL.of htal, by rw [List.getElem?_map, ht]; rfl, _, _, rfl, rfl, a.tal, _, _, u, rfl, rfl, htal, ixN_nat (by rw [List.length_map]; exact hul), ?_⟩
  have R1 : Rep (upd H a.tal (.lst ((s.tal.map V.int).set u (.int (t - 1))))) a L { s with tal := s.tal.set u (t - 1) } refs es :=
    R.set dis { s with tal := s.tal.set u (t - 1) } refs es 3 (by decide) (fun j hj hne => by rcases j with _ | _ | _ | _ | _ | _ | _ | j <;> first | rfl | exact absurd rfl hne | omega) (fun _ _ h => h) (fun h => h) R.ll R.el R.rl (by show HO.lst _ = HO.lst _; rw [List.map_set])
  have k1 : Keep a H (upd H a.tal (.lst ((s.tal.map V.int).set u (.int (t - 1))))) := Keep.own (a.own (i := 3) (by decide))
  generalize hH1 : upd H a.tal (.lst ((s.tal.map V.int).set u (.int (t - 1)))) = H1 at R1 k1
  have ht1 : ({ s with tal := s.tal.set u (t - 1) } : UW).tal[u]? = some (t - 1) := List.getElem?_set_self hul
  have hat1 : (({ s with tal := s.tal.set u (t - 1) } : UW).tal.map V.int)[u]? = some (V.int (t - 1)) := by rw [List.getElem?_map, ht1]; rfl
  -- self.events.append(..)
  refine ⟨_, rfl, a.p, a.C, a.dx, _, _, rfl, R1.at_ 0 (by decide), cl, T.events, rfl, .inl ⟨rfl, _, SqL.of (R1.at_ 6 (by decide))⟩, _, rfl, _, rfl, _, rfl, _, rfl, a.p, a.C, a.dx, _, _, rfl, R1.at_ 0 (by decide), cl, T.tallies, rfl, _, rfl, a.tal, _, _, _, rfl, rfl, SqL.of (R1.at_ 3 (by decide)), atI_nat hat1, (by show 5 ≤ sizeLine; decide), fun tp htp => ?_⟩
  have R2 := R1.new (xs := [V.str "release", hV hs, kV' hs, natV u, V.int (t - 1)]) htp
  have k2 := k1.trans (Keep.new (a := a) (o := .tup [V.str "release", hV hs, kV' hs, natV u, V.int (t - 1)]) htp)
  have hel : es.length = s.ev.length := R.evs.length
  refine ⟨a.ev, _, _, rfl, rfl, R2.at_ 6 (by decide), bigN_small (by rw [hel]; unfold bigN at *; omega), ?_⟩
  have R3 : Rep (upd (upd H1 tp (.tup [V.str "release", hV hs, kV' hs, natV u, V.int (t - 1)])) a.ev (.lst (es ++ [V.ref tp]))) a L { s with tal := s.tal.set u (t - 1), ev := s.ev ++ [.rel hs u (t - 1)] } refs (es ++ [V.ref tp]) := by
    have hll := R.ll
    refine R2.set dis { s with tal := s.tal.set u (t - 1), ev := s.ev ++ [.rel hs u (t - 1)] } refs (es ++ [V.ref tp]) 6 (by decide) (fun j hj hne => by rcases j with _ | _ | _ | _ | _ | _ | _ | j <;> first | rfl | exact absurd rfl hne | omega) (fun _ _ h => h) (fun h => paired_snoc h ⟨tp, rfl, ?_⟩) (by show s.log.length + s.shelf.length ≤ (s.ev ++ [Evt.rel hs u (t - 1)]).length; rw [List.length_append]; omega) (by show (s.ev ++ [Evt.rel hs u (t - 1)]).length ≤ _; rw [List.length_append, List.length_singleton]; omega) R.rl rfl
    rw [upd_ne (ne_of upd_same (R2.at_ 6 (by decide)) (fun q => cont_tup q.symm)), upd_same]
    rfl
  have k3 : Keep a H (upd (upd H1 tp (.tup [V.str "release", hV hs, kV' hs, natV u, V.int (t - 1)])) a.ev (.lst (es ++ [V.ref tp]))) := k2.trans (Keep.own (a := a) (o := .lst (es ++ [V.ref tp])) (a.own (i := 6) (by decide)))
  generalize hH3 : upd (upd H1 tp (.tup [V.str "release", hV hs, kV' hs, natV u, V.int (t - 1)])) a.ev (.lst (es ++ [V.ref tp])) = H3 at R3 k3
  -- if self.tallies[node] > 0
  refine ⟨_, rfl, a.p, a.C, a.dx, _, _, rfl, R3.at_ 0 (by decide), cl, T.tallies, rfl, _, rfl, a.tal, _, _, _, rfl, rfl, SqL.of (R3.at_ 3 (by decide)), atI_nat hat1, _, _, rfl, rfl, _, rfl, ?_⟩
  refine ite2 (fun c => ?_) (fun c => ?_)
  · have c : t - 1 > 0 := of_decide_eq_true c
    rw [if_pos (by omega)] at hrel
    cases hrel
    exact q _ _ k3 R3
  · have c : ¬ t - 1 > 0 := of_decide_eq_false (Bool.eq_false_iff.mpr c)
    rw [if_neg (by omega)] at hrel
    -- if depth < self.bound
    refine ⟨_, rfl, _, rfl, a.p, a.C, a.dx, _, _, rfl, R3.at_ 0 (by decide), cl, T.bound, rfl, _, _, rfl, rfl, _, rfl, ?_⟩
    refine ite2 (fun c2 => ?_) (fun c2 => ?_)
    · have c2 : (d : Int) < (L : Int) := of_decide_eq_true c2
      rw [if_pos (by omega)] at hrel
      refine ⟨_, rfl, a.p, a.dx, _, rfl, R3.at_ 0 (by decide), rfl, _, rfl, _, rfl, a, L, _, s', refs, _, u, d, rfl, rfl, dis, R3, hrel, fun H' es' k4 R4 => ?_⟩
      exact q _ _ (k3.trans k4) R4
    · have c2 : ¬ (d : Int) < (L : Int) := of_decide_eq_false (Bool.eq_false_iff.mpr c2)
      rw [if_neg (by omega)] at hrel
      cases hrel
      -- self.shelf.append(node)
      have hll := R.ll
      refine ⟨_, rfl, a.p, a.C, a.dx, _, _, rfl, R3.at_ 0 (by decide), cl, T.shelf, rfl, .inl ⟨rfl, _, SqL.of (R3.at_ 5 (by decide))⟩, _, rfl, a.shelf, _, _, rfl, rfl, R3.at_ 5 (by decide), bigN_small (by rw [List.length_map]; unfold bigN at *; show s.shelf.length ≤ _; omega), ?_⟩
      have R4 : Rep (upd H3 a.shelf (.lst (s.shelf.map natV ++ [natV u]))) a L { s with tal := s.tal.set u (t - 1), ev := s.ev ++ [.rel hs u (t - 1)], shelf := s.shelf ++ [u] } refs (es ++ [V.ref tp]) :=
        R3.set dis { s with tal := s.tal.set u (t - 1), ev := s.ev ++ [.rel hs u (t - 1)], shelf := s.shelf ++ [u] } refs (es ++ [V.ref tp]) 5 (by decide) (fun j hj hne => by rcases j with _ | _ | _ | _ | _ | _ | _ | j <;> first | rfl | exact absurd rfl hne | omega) (fun _ _ h => h) (fun h => h) (by simp; omega) R3.el R.rl (by show HO.lst _ = HO.lst _; rw [List.map_append]; rfl)
      have k4 : Keep a H (upd H3 a.shelf (.lst (s.shelf.map natV ++ [natV u]))) := k3.trans (Keep.own (a := a) (o := .lst (s.shelf.map natV ++ [natV u])) (a.own (i := 5) (by decide)))
      generalize hH4 : upd H3 a.shelf (.lst (s.shelf.map natV ++ [natV u])) = H4 at R4 k4
      have hsl : ((s.shelf ++ [u]).map natV).length = s.shelf.length + 1 := by simp
      -- self.peak = max(self.peak, len(self.shelf))
      refine ⟨_, rfl, a.p, a.C, a.dx, _, _, rfl, R4.at_ 0 (by decide), cl, T.peak, rfl, _, rfl, a.p, a.C, a.dx, _, _, rfl, R4.at_ 0 (by decide), cl, T.shelf, rfl, a.shelf, _, rfl, .inl (SqL.of (R4.at_ 5 (by decide))), s.peak, s.shelf.length + 1, by rw [← hsl]; rfl, _, rfl, a.p, a.C, a.dx, _, rfl, R4.at_ 0 (by decide), cl, T.peak, (by show 8 < 1000; decide), ?_⟩
      have R5 : Rep (upd H4 a.p (.ins a.C a.dx (uf a L (max s.peak (s.shelf.length + 1))))) a L { s with tal := s.tal.set u (t - 1), ev := s.ev ++ [.rel hs u (t - 1)], shelf := s.shelf ++ [u], peak := max s.peak (s.shelf.length + 1) } refs (es ++ [V.ref tp]) :=
        R4.set dis { s with tal := s.tal.set u (t - 1), ev := s.ev ++ [.rel hs u (t - 1)], shelf := s.shelf ++ [u], peak := max s.peak (s.shelf.length + 1) } refs (es ++ [V.ref tp]) 0 (by decide) (fun j hj hne => by rcases j with _ | _ | _ | _ | _ | _ | _ | j <;> first | rfl | exact absurd rfl hne | omega) (fun _ _ h => h) (fun h => h) R4.ll R4.el R.rl rfl
      have k5 : Keep a H (upd H4 a.p (.ins a.C a.dx (uf a L (max s.peak (s.shelf.length + 1))))) := k4.trans (Keep.own (a := a) (o := .ins a.C a.dx (uf a L (max s.peak (s.shelf.length + 1)))) (a.own (i := 0) (by decide)))
      have e5 : HO.ins a.C a.dx (putF "peak" (V.int ((max s.peak (s.shelf.length + 1) : Nat) : Int)) (uf a L s.peak)) = HO.ins a.C a.dx (uf a L (max s.peak (s.shelf.length + 1))) := rfl
      change L2.Ends.nx _ _ (upd H4 a.p (.ins a.C a.dx (uf a L (max s.peak (s.shelf.length + 1)))))
      generalize hH5 : upd H4 a.p (.ins a.C a.dx (uf a L (max s.peak (s.shelf.length + 1)))) = H5 at R5 k5
      -- self.events.append(("shelve", ..))
      refine ⟨_, rfl, a.p, a.C, a.dx, _, _, rfl, R5.at_ 0 (by decide), cl, T.events, rfl, .inl ⟨rfl, _, SqL.of (R5.at_ 6 (by decide))⟩, _, rfl, _, rfl, a.p, a.C, a.dx, _, _, rfl, R5.at_ 0 (by decide), cl, T.shelf, rfl, a.shelf, _, rfl, .inl (SqL.of (R5.at_ 5 (by decide))), (by show 3 ≤ sizeLine; decide), fun tq htq => ?_⟩
      have et : [V.str "shelve", natV u, V.int ((((s.shelf ++ [u]).map natV).length : Nat) : Int)] = evT (.shl u (s.shelf.length + 1)) := by rw [hsl]; rfl
      have R6 := R5.new (xs := evT (.shl u (s.shelf.length + 1))) htq
      have k6 := k5.trans (Keep.new (a := a) (o := .tup (evT (.shl u (s.shelf.length + 1)))) htq)
      refine ⟨a.ev, es ++ [V.ref tp], _, rfl, rfl, ?_, bigN_small (by rw [List.length_append, hel]; unfold bigN at *; simp; omega), ?_⟩
      · exact (upd_ne (ne_of_none (R5.at_ 6 (by decide)) htq)).trans (R5.at_ 6 (by decide))
      show Q .non (upd (upd H5 tq (.tup [V.str "shelve", natV u, V.int ((((s.shelf ++ [u]).map natV).length : Nat) : Int)])) a.ev _)
      rw [et]
      refine q _ (es ++ [V.ref tp] ++ [V.ref tq]) (k6.trans (Keep.own (a.own (i := 6) (by decide)))) ?_
      refine R6.set dis { s with tal := s.tal.set u (t - 1), shelf := s.shelf ++ [u], peak := max s.peak (s.shelf.length + 1), ev := s.ev ++ [.rel hs u (t - 1), .shl u (s.shelf.length + 1)] } refs (es ++ [V.ref tp] ++ [V.ref tq]) 6 (by decide) (fun j hj hne => by rcases j with _ | _ | _ | _ | _ | _ | _ | j <;> first | rfl | exact absurd rfl hne | omega) (fun _ _ h => h) (fun h => ?_) (by simp; omega) (by simp; unfold bigN at *; omega) R.rl rfl
      have h9 := paired_snoc h (show EvAt _ (.ref tq) (.shl u (s.shelf.length + 1)) from ⟨tq, rfl, by rw [upd_ne (ne_of upd_same (R6.at_ 6 (by decide)) (fun q => cont_tup q.symm)), upd_same]⟩)
      simpa using h9
end
end SW

/-! destroy; both by induction. -/
namespace SW
open PySem PySem.Spec PyProof.Rows L2 WR SF
section
variable {P : Program} {w : World} {K : PySem.W.Frag} {mg : Str → Option Value} {base : Heap} {C : Addr}
theorem rowsV_at {a : Adr} {rows : List (Option Rw)} {v : Nat} {r : Option Rw} (h : rows[v]? = some r) : (rowsV a rows)[v]? = some (cellV a v r) := by
  unfold rowsV
  rw [List.getElem?_mapIdx, h]; rfl
theorem rowsV_len {a : Adr} {rows : List (Option Rw)} : (rowsV a rows).length = rows.length := by simp [rowsV]
theorem rowsV_set {a : Adr} {rows : List (Option Rw)} {v : Nat} : rowsV a (rows.set v none) = (rowsV a rows).set v .non := by
  unfold rowsV
  apply List.ext_getElem?
  intro j
  rw [List.getElem?_mapIdx, List.getElem?_set, List.getElem?_set, List.getElem?_mapIdx]
  by_cases e : v = j
  · subst e
    simp [cellV]
  · rw [if_neg e, if_neg e]
theorem scDes : FnScope ["self", "node", "depth", "row", "slot", "held"] ["self", "node", "depth"] (defScope sDes) := ⟨rfl, rfl, rfl, by decide +kernel, rfl, by decide +kernel, by decide +kernel⟩
set_option maxHeartbeats 1000000 in
theorem ok_des {n : Nat} (B : Blt mg) (T : Uni K mg C) (G : MCal P w K mg base C (2 * n + 1) "release" ["self", "holder", "slot", "node", "depth"] (spRel C n)) (D : MDefIn K C "destroy" "Unwinding.destroy" sDes ["self", "node", "depth"]) :
    MCal P w K mg base C (2 * n + 1 + 1) "destroy" ["self", "node", "depth"] (spDes C (n + 1)) := by
  obtain ⟨f, fd, hm, F, hb⟩ := D
  refine ⟨f, fd, hm, hb, F.ok scDes (fun vs H Q E h => ?_) (fun cdv A outer st H vs Q E hr h => ?_)⟩
  · obtain ⟨_, _, _, _, _, _, _, _, _, rfl, _⟩ := h; rfl
  obtain ⟨a, L, s, s', refs, es, v, d, hC, rfl, dis, R, hdes, q⟩ := h
  have nd := scDes.nd
  refine ⟨_, pss_cons (ps_expr (pe_bm PySem.F.plainAttrs_list PySem.F.slot_list_append PySem.F.type_list_append mt_append (pe_fld (pv 0) rfl) (pa_cons (pv 1) pa_nil)))
    (pss_cons (ps_expr (pe_bm PySem.F.plainAttrs_list PySem.F.slot_list_append PySem.F.type_list_append mt_append (pe_fld (pv 0) rfl) (pa_cons (pe_tup (pa_cons pe_str (pa_cons (pv 1) (pa_cons (pv 2) pa_nil)))) pa_nil)))
    (pss_cons (ps_set (i := 3) nd rfl (.inl rfl) (pe_ix ix_list (pe_fld (pv 0) rfl) (pv 1) (fun _ _ => rfl)))
    (pss_cons (ps_for PassesOwn.never rfl (pi_range1 rfl B.range (pa_cons (pe_callB call_len_seq (by rfl) B.len (by decide +kernel) (pa_cons (pv 3) pa_nil)) pa_nil)) (pg_name (i := 4) nd rfl (.inl rfl))
      (pss_cons (ps_set (i := 5) nd rfl (.inl rfl) (pe_ix ix_list (pv 3) (pv 4) (fun _ _ => rfl)))
      (pss_cons (ps_asg pe_non (pg_sub (pv 3) (pv 4) set_list))
      (pss_one (ps_if (pt_cmp (pc_notN (pv 5))) (pss_one (ps_expr (pe_mcal (pv 0) T.cl G hr (pa_cons (pv 1) (pa_cons (pv 4) (pa_cons (pv 5) (pa_cons (pe_op op_add (pv 2) pe_int) pa_nil))))))) pss_nil)))))
    (pss_one (ps_asg pe_non (pg_sub (pe_fld (pv 0) rfl) (pv 1) set_list)))))), ?_⟩
  subst hC
  have cl := T.cl
  unfold desF at hdes
  cases hrow : s.rows[v]? with
  | none => rw [hrow] at hdes; cases hdes
  | some r =>
  cases r with
  | none => rw [hrow] at hdes; cases hdes
  | some row =>
  rw [hrow] at hdes
  simp only at hdes
  by_cases hroom : bigN ≤ s.ev.length
  · rw [if_pos hroom] at hdes; cases hdes
  rw [if_neg hroom] at hdes
  have hll := R.ll
  have hel : es.length = s.ev.length := R.evs.length
  -- self.log.append(node)
  refine ⟨_, rfl, a.p, a.C, a.dx, _, _, rfl, R.at_ 0 (by decide), cl, T.log, rfl, .inl ⟨rfl, _, SqL.of (R.at_ 4 (by decide))⟩, _, rfl, a.log, _, _, rfl, rfl, R.at_ 4 (by decide), bigN_small (by rw [List.length_map]; omega), ?_⟩
  -- log and event go together: the tuple, then the event
  have hp1 : ∀ o, upd H a.log o a.p = some (.ins a.C a.dx (uf a L s.peak)) := fun o => (upd_ne (dis.ne 0 4 (by decide) (by decide) (by decide))).trans (R.at_ 0 (by decide))
  have he1 : ∀ o, upd H a.log o a.ev = some (.lst es) := fun o => (upd_ne (dis.ne 6 4 (by decide) (by decide) (by decide))).trans (R.at_ 6 (by decide))
  refine ⟨_, rfl, a.p, a.C, a.dx, _, _, rfl, hp1 _, cl, T.events, rfl, .inl ⟨rfl, _, SqL.of (he1 _)⟩, _, rfl, _, rfl, (by show 3 ≤ sizeLine; decide), fun tp htp => ?_⟩
  have htp0 : H tp = none := by
    have hne : tp ≠ a.log := fun e => by rw [e, upd_same] at htp; cases htp
    rw [upd_ne hne] at htp; exact htp
  have hlog0 : H a.log = some (.lst (s.log.map natV)) := R.at_ 4 (by decide)
  have hne : tp ≠ a.log := fun e => by rw [e, hlog0] at htp0; cases htp0
  have hswap : upd (upd H a.log (.lst (s.log.map natV ++ [natV v]))) tp (.tup [V.str "destroy", natV v, natV d]) = upd (upd H tp (.tup [V.str "destroy", natV v, natV d])) a.log (.lst (s.log.map natV ++ [natV v])) := by
    funext b
    unfold upd
    by_cases e1 : b = tp
    · by_cases e2 : b = a.log
      · exact absurd (e1.symm.trans e2) hne
      · simp [e1, e2, hne]
    · simp [e1]
  refine ⟨a.ev, es, _, rfl, rfl, (upd_ne (ne_of_none (he1 _) htp)).trans (he1 _), bigN_small (by rw [hel]; omega), ?_⟩
  have R1 := R.new (xs := [V.str "destroy", natV v, natV d]) htp0
  have k1 : Keep a H (upd H tp (.tup [V.str "destroy", natV v, natV d])) := Keep.new htp0
  generalize hH1 : upd H tp (.tup [V.str "destroy", natV v, natV d]) = H1 at R1 k1
  have hat1 : H1 tp = some (.tup [V.str "destroy", natV v, natV d]) := by rw [← hH1, upd_same]
  have R3 : Rep (upd (upd H1 a.log (.lst (s.log.map natV ++ [natV v]))) a.ev (.lst (es ++ [V.ref tp]))) a L { s with log := s.log ++ [v], ev := s.ev ++ [.des v d] } refs (es ++ [V.ref tp]) := by
    -- both at once: first the event, then the log
    have q1 : Rep (upd H1 a.ev (.lst (es ++ [V.ref tp]))) a L { s with ev := s.ev ++ [.des v d] } refs (es ++ [V.ref tp]) := by
      refine R1.set dis { s with ev := s.ev ++ [.des v d] } refs (es ++ [V.ref tp]) 6 (by decide) (fun j hj hne => by rcases j with _ | _ | _ | _ | _ | _ | _ | j <;> first | rfl | exact absurd rfl hne | omega) (fun _ _ h => h) (fun h => paired_snoc h ⟨tp, rfl, ?_⟩)
        (by show s.log.length + s.shelf.length ≤ (s.ev ++ [Evt.des v d]).length; rw [List.length_append]; omega) (by show (s.ev ++ [Evt.des v d]).length ≤ _; rw [List.length_append, List.length_singleton]; omega) R.rl rfl
      exact (upd_ne (ne_of hat1 (R1.at_ 6 (by decide)) (fun q => cont_tup q.symm))).trans hat1
    have q2 : Rep (upd (upd H1 a.ev (.lst (es ++ [V.ref tp]))) a.log (.lst (s.log.map natV ++ [natV v]))) a L { s with log := s.log ++ [v], ev := s.ev ++ [.des v d] } refs (es ++ [V.ref tp]) :=
      q1.set dis { s with log := s.log ++ [v], ev := s.ev ++ [.des v d] } refs (es ++ [V.ref tp]) 4 (by decide) (fun j hj hne => by rcases j with _ | _ | _ | _ | _ | _ | _ | j <;> first | rfl | exact absurd rfl hne | omega) (fun _ _ h => h) (fun h => h)
        (by show (s.log ++ [v]).length + s.shelf.length ≤ (s.ev ++ [Evt.des v d]).length; rw [List.length_append, List.length_append, List.length_singleton, List.length_singleton]; omega) q1.el R.rl (by show HO.lst _ = HO.lst _; rw [List.map_append]; rfl)
    have esw : upd (upd H1 a.log (.lst (s.log.map natV ++ [natV v]))) a.ev (.lst (es ++ [V.ref tp])) = upd (upd H1 a.ev (.lst (es ++ [V.ref tp]))) a.log (.lst (s.log.map natV ++ [natV v])) := by
      funext b
      unfold upd
      by_cases e1 : b = a.ev
      · by_cases e2 : b = a.log
        · exact absurd (e2.symm.trans e1) (dis.ne 4 6 (by decide) (by decide) (by decide))
        · have : a.ev ≠ a.log := dis.ne 6 4 (by decide) (by decide) (by decide)
          simp [e1, this]
      · simp [e1]
    rw [esw]; exact q2
  have k3 : Keep a H (upd (upd H1 a.log (.lst (s.log.map natV ++ [natV v]))) a.ev (.lst (es ++ [V.ref tp]))) := (k1.trans (Keep.own (a.own (i := 4) (by decide)))).trans (Keep.own (a.own (i := 6) (by decide)))
  have hsw2 : upd (upd (upd H a.log (.lst (s.log.map natV ++ [natV v]))) tp (.tup [V.str "destroy", natV v, natV d])) a.ev (.lst (es ++ [V.ref tp])) = upd (upd H1 a.log (.lst (s.log.map natV ++ [natV v]))) a.ev (.lst (es ++ [V.ref tp])) := by rw [hswap, hH1]
  change L2.Ends.nx _ _ (upd (upd (upd H a.log (.lst (s.log.map natV ++ [natV v]))) tp (.tup [V.str "destroy", natV v, natV d])) a.ev (.lst (es ++ [V.ref tp])))
  rw [hsw2]
  generalize upd (upd H1 a.log (.lst (s.log.map natV ++ [natV v]))) a.ev (.lst (es ++ [V.ref tp])) = H3 at R3 k3
  -- row = self.rows[node]
  have hrow3 : ({ s with log := s.log ++ [v], ev := s.ev ++ [.des v d] } : UW).rows[v]? = some (some row) := hrow
  refine ⟨_, rfl, a.p, a.C, a.dx, _, _, rfl, R3.at_ 0 (by decide), cl, T.rows, rfl, _, rfl, a.rows, _, _, V.ref (a.row v), rfl, rfl, SqL.of (R3.at_ 1 (by decide)), atI_nat (rowsV_at hrow3), ?_⟩
  obtain ⟨hr1, hr2, hr3⟩ := R3.rw v row hrow3
  have hrl : (rowV row).length = row.length := by simp [rowV]
  cases hloop : slotsL (relF L (desF L n)) v d row.length 0 { s with log := s.log ++ [v], ev := s.ev ++ [.des v d] } with
  | none => rw [hloop] at hdes; cases hdes
  | some s2 =>
  rw [hloop] at hdes
  simp only at hdes
  by_cases hvl : v < s2.rows.length
  case neg => rw [if_neg hvl] at hdes; cases hdes
  rw [if_pos hvl] at hdes
  cases hdes
  -- for slot in range(len(row))
  refine ⟨_, rfl, a.row v, _, rfl, .inl (SqL.of hr1), _, rfl, by rw [hrl]; omega, by rw [hrl]; omega, ?_⟩
  rw [hrl, Int.toNat_natCast]
  refine for_range (lo := 0) (n := row.length) (fun k σ H' => ∃ (x4 x5 : Option V) (sk : UW) (es' : List V), σ = [some (.ref a.p), some (natV v), some (natV d), some (.ref (a.row v)), x4, x5] ∧ Rep H' a L sk refs es' ∧ Keep a H H' ∧ slotsL (relF L (desF L n)) v d (row.length - k) k sk = some s2)
    ⟨none, none, _, _, rfl, R3, k3, hloop⟩ ?_ ?_
  · rintro k σ H' hk ⟨x4, x5, sk, es', rfl, Rk, kk, hsl⟩
    obtain ⟨m, hm⟩ : ∃ m, row.length - k = m + 1 := ⟨row.length - k - 1, by omega⟩
    have hm2 : row.length - (k + 1) = m := by omega
    rw [hm] at hsl
    unfold slotsL at hsl
    cases hq : sk.rows[v]? with
    | none => rw [hq] at hsl; cases hsl
    | some r' =>
    cases r' with
    | none => rw [hq] at hsl; cases hsl
    | some row' =>
    rw [hq] at hsl
    simp only at hsl
    cases hx : row'[k]? with
    | none => rw [hx] at hsl; cases hsl
    | some x =>
    rw [hx] at hsl
    obtain ⟨hrk, hrk2, hrk3⟩ := Rk.rw v row' hq
    have hkl := (List.getElem?_eq_some_iff.mp hx).1
    have hxv : (rowV row')[k]? = some (slotV x) := by unfold rowV; rw [List.getElem?_map, hx]; rfl
    rw [Int.zero_add]
    refine ⟨_, rfl, _, rfl, a.row v, _, (k : Int), _, rfl, rfl, SqL.of hrk, atI_nat hxv, _, rfl, _, rfl, a.row v, _, (k : Int), k, rfl, rfl, hrk, ixN_nat (by unfold rowV; rw [List.length_map]; exact hkl), ?_⟩
    have Re := Rk.empty (k := k) dis hq
    have ke : Keep a H (upd H' (a.row v) (.lst (rowV (row'.set k none)))) := kk.trans (Keep.own (a.ownR hrk3))
    have eset : (rowV row').set k .non = rowV (row'.set k none) := by unfold rowV; rw [List.map_set]; rfl
    change L2.Ends.nx _ _ (upd H' (a.row v) (.lst ((rowV row').set k .non)))
    rw [eset]
    generalize upd H' (a.row v) (.lst (rowV (row'.set k none))) = H4 at Re ke
    refine ⟨_, rfl, _, rfl, ?_⟩
    cases x with
    | none =>
      refine iteF ⟨_, _, _, es', rfl, Re, ke, ?_⟩
      rw [hm2]; exact hsl
    | some u =>
      simp only at hsl
      cases hrr : relF L (desF L n) { sk with rows := sk.rows.set v (some (row'.set k none)) } (some (v, k)) u (d + 1) with
      | none => rw [hrr] at hsl; cases hsl
      | some s4 =>
      rw [hrr] at hsl
      refine iteT ⟨_, rfl, a.p, a.dx, _, rfl, Re.at_ 0 (by decide), rfl, _, rfl, _, rfl, _, rfl, _, rfl, _, _, rfl, rfl, a, L, _, s4, refs, es', some (v, k), u, d + 1, rfl, rfl, dis, Re, hrr, fun H5 es5 k5 R5 => ?_⟩
      refine ⟨_, _, s4, es5, rfl, R5, ke.trans k5, ?_⟩
      rw [hm2]; exact hsl
  · rintro σ H' ⟨x4, x5, sk, es', rfl, Rk, kk, hsl⟩
    rw [Nat.sub_self] at hsl
    unfold slotsL at hsl
    cases hsl
    -- self.rows[node] = None
    refine ⟨_, rfl, a.p, a.C, a.dx, _, _, rfl, Rk.at_ 0 (by decide), cl, T.rows, rfl, _, rfl, a.rows, _, (v : Int), v, rfl, rfl, Rk.at_ 1 (by decide), ixN_nat (by rw [rowsV_len]; exact hvl), ?_⟩
    refine q _ es' (kk.trans (Keep.own (a.own (i := 1) (by decide)))) ?_
    refine Rk.set dis { s2 with rows := s2.rows.set v none } refs es' 1 (by decide) (fun j hj hne => by rcases j with _ | _ | _ | _ | _ | _ | _ | j <;> first | rfl | exact absurd rfl hne | omega) (fun w r hw => ?_) (fun h => h) Rk.ll Rk.el (by simpa using Rk.rl) (by show HO.lst _ = HO.lst _; rw [rowsV_set])
    have hw : (s2.rows.set v none)[w]? = some (some r) := hw
    rw [List.getElem?_set] at hw
    split at hw
    · first | cases hw | (split at hw <;> cases hw)
    · exact hw
/-- both, for every number of calls -/
theorem both (B : Blt mg) (T : Uni K mg C) (DR : MDefIn K C "release" "Unwinding.release" sRel ["self", "holder", "slot", "node", "depth"]) (DD : MDefIn K C "destroy" "Unwinding.destroy" sDes ["self", "node", "depth"]) :
    ∀ n : Nat, MCal P w K mg base C (2 * n) "destroy" ["self", "node", "depth"] (spDes C n) ∧ MCal P w K mg base C (2 * n + 1) "release" ["self", "holder", "slot", "node", "depth"] (spRel C n)
  | 0 => by
    have no : ∀ vs H Q E, ¬ spDes C 0 vs H Q E := fun vs H Q E h => by
      obtain ⟨_, _, _, _, _, _, _, _, _, _, _, _, e, _⟩ := h
      cases e
    have G0 : MCal P w K mg base C (2 * 0) "destroy" ["self", "node", "depth"] (spDes C 0) := by
      obtain ⟨f, fd, hm, F, hb⟩ := id DD
      exact ⟨f, fd, hm, hb, fun vs H Q E h => absurd h (no vs H Q E), fun _ _ _ H _ _ vs Q E _ _ _ _ h => absurd h (no vs H Q E)⟩
    exact ⟨G0, ok_rel B T G0 DR⟩
  | n + 1 => by
    have ih := both B T DR DD n
    have G1 : MCal P w K mg base C (2 * (n + 1)) "destroy" ["self", "node", "depth"] (spDes C (n + 1)) := ok_des B T ih.2 DD
    exact ⟨G1, ok_rel B T G1 DR⟩
end
end SW

/-! unwind, drop_outside, heap, result. -/
namespace SW
open PySem PySem.Spec PyProof.Rows L2 WR SF
theorem shaped_ints_list (ns : List Int) : SeqAt.shaped (.list (ns.map PyData.int)) = true := by
  have h1 : ∀ ns : List Int, PyData.canLayAll0 (ns.map PyData.int) = true := by
    intro ns
    induction ns with
    | nil => rfl
    | cons n r ih => simp [PyData.canLayAll0, PyData.canLay0, ih]
  simp [SeqAt.shaped, PyData.canLay0, h1, PyData.depth, depth_all_ints]
theorem shaped_ints_tuple (ns : List Int) : SeqAt.shaped (.tuple (ns.map PyData.int)) = true := by
  have h1 : ∀ ns : List Int, PyData.canLayAll0 (ns.map PyData.int) = true := by
    intro ns
    induction ns with
    | nil => rfl
    | cons n r ih => simp [PyData.canLayAll0, PyData.canLay0, ih]
  simp [SeqAt.shaped, PyData.canLay0, h1, PyData.depth, depth_all_ints]
theorem eqv_nil_list (ns : List Int) : PyData.eqv (.list (ns.map PyData.int)) (.list []) = ns.isEmpty := by
  cases ns <;> simp [PyData.eqv, PyData.eqvAll]
theorem natV_ints (ns : List Nat) : ns.map natV = (ns.map (fun n => ((n : Nat) : Int))).map V.int := by
  rw [List.map_map]; rfl
theorem dp_nats {K : PySem.W.Frag} {H : Hp} (ns : List Nat) : DpAll K H (ns.map natV) ((ns.map (fun n => ((n : Nat) : Int))).map PyData.int) := by
  rw [natV_ints]; exact dpAll_ints _
/-- unwind -/
def unwF (L f g : Nat) (s : UW) (hs : Option (Nat × Nat)) (u : Nat) : Option UW := match relF L (desF L f) s hs u 0 with
  | some s' => takes L f g s'
  | none => none
def spUnw (C : Addr) (n g : Nat) : Sp := fun vs H Q _ => ∃ (a : Adr) (L : Nat) (s s' : UW) (refs es : List V) (hs : Option (Nat × Nat)) (u : Nat), a.C = C ∧ vs = [.ref a.p, hV hs, kV' hs, natV u] ∧ a.Dis ∧ Rep H a L s refs es ∧ unwF L n g s hs u = some s' ∧
  ∀ H' es', Keep a H H' → Rep H' a L s' refs es' → Q .non H'
def spOut (C : Addr) (n g : Nat) : Sp := fun vs H Q _ => ∃ (a : Adr) (L : Nat) (s s' : UW) (ns : List Int) (es : List V) (u : Nat), a.C = C ∧ vs = [.ref a.p, natV u] ∧ a.Dis ∧ Rep H a L s (ns.map V.int) es ∧ u < ns.length ∧ runF L n g s u = some s' ∧
  ∀ H' refs' es', Keep a H H' → Rep H' a L s' refs' es' → Q .non H'
section
variable {P : Program} {w : World} {K : PySem.W.Frag} {mg : Str → Option Value} {base : Heap} {C : Addr}
theorem scUnw : FnScope ["self", "holder", "slot", "node", "taken"] ["self", "holder", "slot", "node"] (defScope sUnw) := ⟨rfl, rfl, rfl, by decide +kernel, rfl, by decide +kernel, by decide +kernel⟩
set_option maxHeartbeats 1000000 in
theorem ok_unw {n g : Nat} (B : Blt mg) (T : Uni K mg C) (GR : MCal P w K mg base C (2 * n + 1) "release" ["self", "holder", "slot", "node", "depth"] (spRel C n)) (GD : MCal P w K mg base C (2 * n) "destroy" ["self", "node", "depth"] (spDes C n))
    (D : MDefIn K C "unwind" "Unwinding.unwind" sUnw ["self", "holder", "slot", "node"]) : MCal P w K mg base C (2 * n + 2) "unwind" ["self", "holder", "slot", "node"] (spUnw C n g) := by
  obtain ⟨f, fd, hm, F, hb⟩ := D
  refine ⟨f, fd, hm, hb, F.ok scUnw (fun vs H Q E h => ?_) (fun cdv A outer st H vs Q E hr h => ?_)⟩
  · obtain ⟨_, _, _, _, _, _, _, _, _, rfl, _⟩ := h; rfl
  obtain ⟨a, L, s, s', refs, es, hs, u, hC, rfl, dis, R, hun, q⟩ := h
  have nd := scUnw.nd
  refine ⟨_, pss_cons (ps_expr (pe_mcal (pv 0) T.cl GR hr (pa_cons (pv 1) (pa_cons (pv 2) (pa_cons (pv 3) (pa_cons pe_int pa_nil))))))
    (pss_one (ps_while PassesOwn.never (pt_cmpR (op_neD hr.units) (pe_fld (pv 0) rfl) (pe_lst pa_nil) (nomark _))
      (pss_cons (ps_set (i := 4) nd rfl (.inl rfl) (pe_bm0 PySem.F.plainAttrs_list PySem.F.slot_list_pop PySem.F.type_list_pop mt_pop (pe_fld (pv 0) rfl)))
      (pss_cons (ps_expr (pe_bm PySem.F.plainAttrs_list PySem.F.slot_list_append PySem.F.type_list_append mt_append (pe_fld (pv 0) rfl) (pa_cons (pe_tup (pa_cons pe_str (pa_cons (pv 4) (pa_cons (pe_callB call_len_seq (by rfl) B.len (by decide +kernel) (pa_cons (pe_fld (pv 0) rfl) pa_nil)) pa_nil)))) pa_nil)))
      (pss_one (ps_expr (pe_mcal (pv 0) T.cl GD (hr.mono (by omega)) (pa_cons (pv 4) (pa_cons pe_int pa_nil))))))))), ?_⟩
  subst hC
  have cl := T.cl
  unfold unwF at hun
  cases hrel : relF L (desF L n) s hs u 0 with
  | none => rw [hrel] at hun; cases hun
  | some s1 =>
  rw [hrel] at hun
  simp only at hun
  refine ⟨_, rfl, a.p, a.dx, _, rfl, R.at_ 0 (by decide), rfl, _, rfl, _, rfl, _, rfl, a, L, s, s1, refs, es, hs, u, 0, rfl, rfl, dis, R, hrel, fun H1 es1 k1 R1 => ?_⟩
  refine ⟨fun m σ H' => ∃ (x4 : Option V) (sk : UW) (es' : List V), σ = [some (.ref a.p), some (hV hs), some (kV' hs), some (natV u), x4] ∧ Rep H' a L sk refs es' ∧ Keep a H H' ∧ takes L n m sk = some s', ⟨g, none, s1, es1, rfl, R1, k1, hun⟩, ?_⟩
  rintro m σ H' ⟨x4, sk, es', rfl, Rk, kk, htk⟩
  refine ⟨_, rfl, a.p, a.C, a.dx, _, _, rfl, Rk.at_ 0 (by decide), cl, T.shelf, rfl, Nat.zero_le _, fun ep hep => ?_⟩
  have hshelf : SqL K (upd H' ep (.lst [])) a.shelf (sk.shelf.map natV) := by
    refine SqL.of ?_
    exact (upd_ne (ne_of_none (Rk.at_ 5 (by decide)) hep)).trans (Rk.at_ 5 (by decide))
  refine ⟨.list ((sk.shelf.map (fun n => ((n : Nat) : Int))).map PyData.int), .list [], .lst hshelf (dp_nats _), .lst (SqL.of upd_same) .nil, shaped_ints_list _, rfl, !(sk.shelf.map (fun n => ((n : Nat) : Int))).isEmpty, ?_, ?_⟩
  · rw [eqv_nil_list]
  -- the empty list that was made for the comparison
  have R2 : Rep (upd H' ep (.lst [])) a L sk refs es' := by
    refine ⟨fun i hi => (upd_ne (ne_of_none (Rk.at_ i hi) hep)).trans (Rk.at_ i hi), fun v row h => ?_, L2.Paired.mapP Rk.evs fun _ _ z => z.mono fun t ys e => (upd_ne (ne_of_none e hep)).trans e, Rk.ll, Rk.el, Rk.rl⟩
    obtain ⟨z1, z2⟩ := Rk.rw v row h
    exact ⟨(upd_ne (ne_of_none z1 hep)).trans z1, z2⟩
  have k2 : Keep a H (upd H' ep (.lst [])) := kk.trans (Keep.new hep)
  generalize upd H' ep (.lst []) = H2 at R2 k2
  cases hq : sk.shelf with
  | nil =>
    refine iteF ?_
    have e : takes L n m sk = some sk := by
      cases m <;> unfold takes <;> simp [hq]
    rw [e] at htk
    cases htk
    exact q _ _ k2 R2
  | cons x r =>
    refine iteT ?_
    obtain ⟨y, hy⟩ : ∃ y, sk.shelf.getLast? = some y := ⟨_, by rw [hq]; exact List.getLast?_eq_some_getLast (by simp)⟩
    cases m with
    | zero => unfold takes at htk; rw [hq] at htk; simp at htk
    | succ m =>
    unfold takes at htk
    simp only [hy] at htk
    by_cases hroom : bigN ≤ sk.ev.length
    · rw [if_pos hroom] at htk; cases htk
    rw [if_neg hroom] at htk
    have hll := R2.ll
    have hel : es'.length = sk.ev.length := R2.evs.length
    have hlast : (sk.shelf.map natV)[(sk.shelf.map natV).length - 1]? = some (natV y) := by
      rw [List.length_map, List.getElem?_map, ← List.getLast?_eq_getElem?, hy]; rfl
    refine ⟨fun σ' H' => ∃ (x4 : Option V) (sk : UW) (es' : List V), σ' = [some (.ref a.p), some (hV hs), some (kV' hs), some (natV u), x4] ∧ Rep H' a L sk refs es' ∧ Keep a H H' ∧ takes L n m sk = some s', fun σ' H' z => ⟨m, Nat.lt_succ_self m, z⟩, ?_⟩
    -- taken = self.shelf.pop()
    refine ⟨_, rfl, a.p, a.C, a.dx, _, _, rfl, R2.at_ 0 (by decide), cl, T.shelf, rfl, .inl ⟨rfl, _, SqL.of (R2.at_ 5 (by decide))⟩, a.shelf, _, natV y, rfl, rfl, R2.at_ 5 (by decide), hlast, ?_⟩
    have hdl : (sk.shelf.map natV).dropLast = sk.shelf.dropLast.map natV := by simp [List.map_dropLast]
    have R3 : Rep (upd H2 a.shelf (.lst (sk.shelf.map natV).dropLast)) a L { sk with shelf := sk.shelf.dropLast } refs es' :=
      R2.set dis { sk with shelf := sk.shelf.dropLast } refs es' 5 (by decide) (fun j hj hne => by rcases j with _ | _ | _ | _ | _ | _ | _ | j <;> first | rfl | exact absurd rfl hne | omega) (fun _ _ h => h) (fun h => h)
        (by show sk.log.length + sk.shelf.dropLast.length ≤ sk.ev.length; rw [List.length_dropLast]; omega) R2.el R2.rl (by show HO.lst _ = HO.lst _; rw [hdl])
    have k3 : Keep a H (upd H2 a.shelf (.lst (sk.shelf.map natV).dropLast)) := k2.trans (Keep.own (a.own (i := 5) (by decide)))
    generalize upd H2 a.shelf (.lst (sk.shelf.map natV).dropLast) = H3 at R3 k3
    -- self.events.append(("take", ..))
    refine ⟨_, rfl, a.p, a.C, a.dx, _, _, rfl, R3.at_ 0 (by decide), cl, T.events, rfl, .inl ⟨rfl, _, SqL.of (R3.at_ 6 (by decide))⟩, _, rfl, _, rfl, a.p, a.C, a.dx, _, _, rfl, R3.at_ 0 (by decide), cl, T.shelf, rfl, a.shelf, _, rfl, .inl (SqL.of (R3.at_ 5 (by decide))), (by show 3 ≤ sizeLine; decide), fun tp htp => ?_⟩
    have et : [V.str "take", natV y, V.int (((sk.shelf.dropLast.map natV).length : Nat) : Int)] = evT (.tak y sk.shelf.dropLast.length) := by rw [List.length_map]; rfl
    have R4 := R3.new (xs := evT (.tak y sk.shelf.dropLast.length)) htp
    have k4 : Keep a H (upd H3 tp (.tup (evT (.tak y sk.shelf.dropLast.length)))) := k3.trans (Keep.new htp)
    refine ⟨a.ev, es', _, rfl, rfl, (upd_ne (ne_of_none (R3.at_ 6 (by decide)) htp)).trans (R3.at_ 6 (by decide)), bigN_small (by rw [hel]; omega), ?_⟩
    have R5 : Rep (upd (upd H3 tp (.tup (evT (.tak y sk.shelf.dropLast.length)))) a.ev (.lst (es' ++ [V.ref tp]))) a L { sk with shelf := sk.shelf.dropLast, ev := sk.ev ++ [.tak y sk.shelf.dropLast.length] } refs (es' ++ [V.ref tp]) := by
      refine R4.set dis { sk with shelf := sk.shelf.dropLast, ev := sk.ev ++ [.tak y sk.shelf.dropLast.length] } refs (es' ++ [V.ref tp]) 6 (by decide) (fun j hj hne => by rcases j with _ | _ | _ | _ | _ | _ | _ | j <;> first | rfl | exact absurd rfl hne | omega) (fun _ _ h => h) (fun h => paired_snoc h ⟨tp, rfl, ?_⟩)
        (by show sk.log.length + sk.shelf.dropLast.length ≤ (sk.ev ++ [Evt.tak y sk.shelf.dropLast.length]).length; rw [List.length_append, List.length_dropLast]; omega) (by show (sk.ev ++ [Evt.tak y sk.shelf.dropLast.length]).length ≤ _; rw [List.length_append, List.length_singleton]; omega) R3.rl rfl
      rw [upd_ne (ne_of upd_same (R4.at_ 6 (by decide)) (fun q => cont_tup q.symm)), upd_same]
    have k5 : Keep a H (upd (upd H3 tp (.tup (evT (.tak y sk.shelf.dropLast.length)))) a.ev (.lst (es' ++ [V.ref tp]))) := k4.trans (Keep.own (a.own (i := 6) (by decide)))
    change L2.Ends.nx _ _ (upd (upd H3 tp (.tup [V.str "take", natV y, V.int (((sk.shelf.dropLast.map natV).length : Nat) : Int)])) a.ev (.lst (es' ++ [V.ref tp])))
    rw [et]
    generalize upd (upd H3 tp (.tup (evT (.tak y sk.shelf.dropLast.length)))) a.ev (.lst (es' ++ [V.ref tp])) = H5 at R5 k5
    cases hdes : desF L n { sk with shelf := sk.shelf.dropLast, ev := sk.ev ++ [.tak y sk.shelf.dropLast.length] } y 0 with
    | none => rw [hdes] at htk; cases htk
    | some s6 =>
    rw [hdes] at htk
    refine ⟨_, rfl, a.p, a.dx, _, rfl, R5.at_ 0 (by decide), rfl, _, rfl, a, L, _, s6, refs, _, y, 0, rfl, rfl, dis, R5, hdes, fun H6 es6 k6 R6 => ?_⟩
    exact ⟨_, s6, es6, rfl, R6, k5.trans k6, htk⟩
theorem scOut : FnScope ["self", "node"] ["self", "node"] (defScope sOut) := ⟨rfl, rfl, rfl, by decide +kernel, rfl, by decide +kernel, by decide +kernel⟩
theorem ok_out {n g : Nat} (T : Uni K mg C) (G : MCal P w K mg base C (2 * n + 2) "unwind" ["self", "holder", "slot", "node"] (spUnw C n g))
    (D : MDefIn K C "drop_outside" "Unwinding.drop_outside" sOut ["self", "node"]) : MCal P w K mg base C (2 * n + 3) "drop_outside" ["self", "node"] (spOut C n g) := by
  obtain ⟨f, fd, hm, F, hb⟩ := D
  refine ⟨f, fd, hm, hb, F.ok scOut (fun vs H Q E h => ?_) (fun cdv A outer st H vs Q E hr h => ?_)⟩
  · obtain ⟨_, _, _, _, _, _, _, _, rfl, _⟩ := h; rfl
  obtain ⟨a, L, s, s', ns, es, u, hC, rfl, dis, R, hu, hrun, q⟩ := h
  refine ⟨_, pss_cons (ps_augS (pe_fld (pv 0) rfl) (pv 1) pget_list pe_int ip_sub set_list)
    (pss_one (ps_expr (pe_mcal (pv 0) T.cl G hr (pa_cons pe_non (pa_cons pe_non (pa_cons (pv 1) pa_nil)))))), ?_⟩
  subst hC
  have cl := T.cl
  have href : H a.refs = some (.lst (ns.map V.int)) := R.at_ 2 (by decide)
  refine ⟨_, rfl, a.p, a.C, a.dx, _, _, rfl, R.at_ 0 (by decide), cl, T.references, rfl, _, rfl, a.refs, _, u, .int ns[u], rfl, rfl, SqL.of href, by rw [List.getElem?_map, List.getElem?_eq_getElem hu]; rfl, _, _, rfl, rfl, a.refs, _, _, u, rfl, rfl, href, ixN_nat (by rw [List.length_map]; exact hu), ?_⟩
  have R1 : Rep (upd H a.refs (.lst ((ns.map V.int).set u (.int (ns[u] - 1))))) a L s ((ns.map V.int).set u (.int (ns[u] - 1))) es :=
    R.set dis s ((ns.map V.int).set u (.int (ns[u] - 1))) es 2 (by decide) (fun j hj hne => by rcases j with _ | _ | _ | _ | _ | _ | _ | j <;> first | rfl | exact absurd rfl hne | omega) (fun _ _ h => h) (fun h => h) R.ll R.el R.rl rfl
  have k1 : Keep a H (upd H a.refs (.lst ((ns.map V.int).set u (.int (ns[u] - 1))))) := Keep.own (a.own (i := 2) (by decide))
  refine ⟨_, rfl, a.p, a.dx, _, rfl, R1.at_ 0 (by decide), rfl, _, rfl, a, L, s, s', _, es, none, u, rfl, rfl, dis, R1, hrun, fun H' es' k2 R2 => ?_⟩
  exact q H' _ es' (k1.trans k2) R2
end
end SW

/-! heap, result, __init__. -/
namespace SW
open PySem PySem.Spec PyProof.Rows L2 WR SF
def spHeap (C : Addr) : Sp := fun vs H Q _ => ∃ (a : Adr) (L : Nat) (s : UW) (refs es : List V), a.C = C ∧ vs = [.ref a.p] ∧ Rep H a L s refs es ∧ ∀ t H', Same H H' → Q (.ref t) H'
def spRes (C : Addr) : Sp := fun vs H Q _ => ∃ (a : Adr) (L : Nat) (s : UW) (refs es : List V), a.C = C ∧ vs = [.ref a.p] ∧ Rep H a L s refs es ∧
  ∀ t lt ht H', Same H H' → H' t = some (.tup [.ref lt, natV s.peak, .ref ht]) → H' lt = some (.tup (s.log.map natV)) → Q (.ref t) H'
section
variable {P : Program} {w : World} {K : PySem.W.Frag} {mg : Str → Option Value} {base : Heap} {C : Addr}
theorem scHeap : FnScope ["self", "row"] ["self"] (defScope sHeap) := ⟨rfl, rfl, rfl, by decide +kernel, rfl, by decide +kernel, by decide +kernel⟩
theorem ok_heap (B : Blt mg) (T : Uni K mg C) (D : MDefIn K C "heap" "Unwinding.heap" sHeap ["self"]) : MCal P w K mg base C 1 "heap" ["self"] (spHeap C) := by
  obtain ⟨f, fd, hm, F, hb⟩ := D
  refine ⟨f, fd, hm, hb, F.ok scHeap (fun vs H Q E h => ?_) (fun cdv A outer st H vs Q E hr h => ?_)⟩
  · obtain ⟨_, _, _, _, _, _, rfl, _⟩ := h; rfl
  obtain ⟨a, L, s, refs, es, hC, rfl, R, q⟩ := h
  have nd := scHeap.nd
  refine ⟨_, pss_one (ps_ret (pe_tup (pa_cons (pe_callTy call_tuple_of (by rfl) B.tuple (by decide +kernel) (pa_cons
      (pe_lc (own := [("row", 1)]) (g := gName 1) (tt := tYes) (te := tIf (tB (tIsN (tVar 1))) (tC .non) (tCB (rTupOf K) (tCons (tVar 1) tNil))) rfl nd (pi_list (pe_fld (pv 0) rfl)) (blkOk_by (N := ["self", "row"]) (sc := defScope sHeap) (by decide +kernel)) (fun _ _ _ _ _ => pg_name (i := 1) nd rfl (Or.inl rfl)) (fun _ _ _ _ _ => pts_nil)
        (fun _ _ _ _ _ => pe_ifExp (pt_cmp (pc_isN (pv 1))) pe_non (pe_callTy (T := "tuple") cr_tupOf (by rfl) B.tuple (by decide +kernel) (pa_cons (pv 1) pa_nil)))) pa_nil))
    (pa_cons (pe_callTy call_tuple_of (by rfl) B.tuple (by decide +kernel) (pa_cons (pe_fld (pv 0) rfl) pa_nil)) pa_nil)))), ?_⟩
  subst hC
  have cl := T.cl
  refine ⟨_, rfl, a.p, a.C, a.dx, _, _, rfl, R.at_ 0 (by decide), cl, T.rows, rfl, a.rows, rfl, ⟨_, SqL.of (R.at_ 1 (by decide))⟩, fun D hD => ?_⟩
  refine lc_list (K := K) (a := a.rows) (xs := rowsV a s.rows) (fun i H' => Same H H' ∧ ∃ acc, H' D = some (.lst acc) ∧ acc.length = i) ⟨same_new hD _, [], upd_same, rfl⟩ (fun i H' _ z => SqL.of (z.1 _ _ (R.at_ 1 (by decide)))) ?_ ?_
  · rintro i x H' hx ⟨s1, acc, hacc, hlen⟩
    have hil : i < (rowsV a s.rows).length := (List.getElem?_eq_some_iff.mp hx).1
    rw [rowsV_len] at hil
    have hsz : acc.length < sizeLine := by have := R.rl; rw [sizeLine_eq]; omega
    refine ⟨rfl, ⟨_, rfl, _, rfl, ?_⟩⟩
    have hr : ∃ r, s.rows[i]? = some r ∧ x = cellV a i r := by
      have e := rowsV_at (a := a) (List.getElem?_eq_getElem hil)
      rw [hx] at e
      exact ⟨_, List.getElem?_eq_getElem hil, Option.some.inj e⟩
    obtain ⟨r, hr1, rfl⟩ := hr
    cases r with
    | none => exact iteT ⟨acc, hacc, hsz, same_upd hD s1, _, upd_same, by simp [hlen]⟩
    | some row =>
      have h1 := (R.rw i row hr1).1
      refine iteF ⟨_, rfl, a.row i, _, rfl, .inl ⟨SqL.of (s1 _ _ h1), fun l hl => ?_⟩⟩
      have hDl : D ≠ l := ne_of_none hacc hl
      exact ⟨acc, (upd_ne hDl).trans hacc, hsz, same_upd hD (s1.trans (same_new hl _)), _, upd_same, by simp [hlen]⟩
  · rintro H1 ⟨s1, acc, hacc, _⟩
    refine ⟨D, _, rfl, .inl ⟨SqL.of hacc, fun l hl => ?_⟩⟩
    have s2 := s1.trans (same_new hl (.tup acc))
    have href : H a.refs = some (.lst refs) := R.at_ 2 (by decide)
    refine ⟨_, rfl, a.p, a.C, a.dx, _, _, rfl, s2 _ _ (R.at_ 0 (by decide)), cl, T.references, rfl, a.refs, _, rfl, .inl ⟨SqL.of (s2 _ _ href), fun l2 hl2 => ?_⟩⟩
    exact ⟨(by show 2 ≤ sizeLine; decide), fun t ht => q t _ ((s2.trans (same_new hl2 _)).trans (same_new ht _))⟩
theorem scRes : FnScope ["self"] ["self"] (defScope sRes) := ⟨rfl, rfl, rfl, by decide +kernel, rfl, by decide +kernel, by decide +kernel⟩
theorem ok_res (B : Blt mg) (T : Uni K mg C) (G : MCal P w K mg base C 1 "heap" ["self"] (spHeap C)) (D : MDefIn K C "result" "Unwinding.result" sRes ["self"]) : MCal P w K mg base C 2 "result" ["self"] (spRes C) := by
  obtain ⟨f, fd, hm, F, hb⟩ := D
  refine ⟨f, fd, hm, hb, F.ok scRes (fun vs H Q E h => ?_) (fun cdv A outer st H vs Q E hr h => ?_)⟩
  · obtain ⟨_, _, _, _, _, _, rfl, _⟩ := h; rfl
  obtain ⟨a, L, s, refs, es, hC, rfl, R, q⟩ := h
  refine ⟨_, pss_one (ps_ret (pe_tup (pa_cons (pe_callTy call_tuple_of (by rfl) B.tuple (by decide +kernel) (pa_cons (pe_fld (pv 0) rfl) pa_nil)) (pa_cons (pe_fld (pv 0) rfl) (pa_cons (pe_mcal0 (pv 0) T.cl G hr) pa_nil))))), ?_⟩
  subst hC
  have cl := T.cl
  refine ⟨_, rfl, a.p, a.C, a.dx, _, _, rfl, R.at_ 0 (by decide), cl, T.log, rfl, a.log, _, rfl, .inl ⟨SqL.of (R.at_ 4 (by decide)), fun l hl => ?_⟩⟩
  have R1 := R.new (xs := s.log.map natV) hl
  refine ⟨_, rfl, a.p, a.C, a.dx, _, _, rfl, R1.at_ 0 (by decide), cl, T.peak, rfl, _, rfl, a.p, a.dx, _, rfl, R1.at_ 0 (by decide), rfl, a, L, s, refs, es, rfl, rfl, R1, fun ht H' s1 => ?_⟩
  refine ⟨(by show 3 ≤ sizeLine; decide), fun t htt => ?_⟩
  have hl1 : H' l = some (.tup (s.log.map natV)) := s1 _ _ upd_same
  exact q t l ht _ (((same_new hl _).trans s1).trans (same_new htt _)) upd_same ((upd_ne (ne_of_none hl1 htt)).trans hl1)
/-! ### __init__ -/
structure IS (H0 : Hp) (p C dx : Addr) (H : Hp) (fs : List (Str × V)) (A : List (Addr × HO)) : Prop where
  ob : H p = some (.ins C dx fs)
  old : ∀ b o, H0 b = some o → b ≠ p → H b = some o
  it : ∀ q, q ∈ A → H q.1 = some q.2 ∧ H0 q.1 = none
  nd : (A.map (·.1)).Nodup
  p0 : ∃ o, H0 p = some o
section
variable {H0 H H' : Hp} {p dx : Addr} {fs fs' : List (Str × V)} {A : List (Addr × HO)} {l : Addr} {o o' : HO}
theorem IS.free (I : IS H0 p C dx H fs A) (hl : H l = none) : H0 l = none ∧ l ≠ p := by
  have hp : l ≠ p := fun e => by rw [e, I.ob] at hl; cases hl
  refine ⟨?_, hp⟩
  cases q : H0 l with
  | none => rfl
  | some u => rw [I.old l u q hp] at hl; cases hl
theorem IS.call (I : IS H0 p C dx H fs A) (s : Same H H') (hl : H l = none) (h : H' l = some o) : IS H0 p C dx H' fs ((l, o) :: A) := by
  obtain ⟨h1, h2⟩ := I.free hl
  refine ⟨s _ _ I.ob, fun b u e n => s _ _ (I.old b u e n), fun q hq => ?_, List.nodup_cons.mpr ⟨fun z => ?_, I.nd⟩, I.p0⟩
  · rcases List.mem_cons.mp hq with e | hq
    · subst e; exact ⟨h, h1⟩
    · exact ⟨s _ _ (I.it q hq).1, (I.it q hq).2⟩
  · obtain ⟨q, hq, e⟩ := List.mem_map.mp z
    have := (I.it q hq).1
    rw [e, hl] at this; cases this
theorem IS.new (I : IS H0 p C dx H fs A) (hl : H l = none) : IS H0 p C dx (upd H l o) fs ((l, o) :: A) := I.call (same_new hl o) hl upd_same
theorem IS.store (I : IS H0 p C dx H fs A) : IS H0 p C dx (upd H p (.ins C dx fs')) fs' A := by
  refine ⟨upd_same, fun b u e n => by rw [upd_ne n]; exact I.old b u e n, fun q hq => ?_, I.nd, I.p0⟩
  obtain ⟨h1, h2⟩ := I.it q hq
  have : q.1 ≠ p := fun e => by
    obtain ⟨o, ho⟩ := I.p0
    rw [e, ho] at h2; cases h2
  exact ⟨(upd_ne this).trans h1, h2⟩
theorem IS.put (I : IS H0 p C dx H fs ((l, o) :: A)) : IS H0 p C dx (upd H l o') fs ((l, o') :: A) := by
  obtain ⟨h1, h2⟩ := I.it (l, o) List.mem_cons_self
  have hp : p ≠ l := fun e => by
    obtain ⟨o, ho⟩ := I.p0
    rw [← e, ho] at h2; cases h2
  have hnd := I.nd
  rw [List.map_cons, List.nodup_cons] at hnd
  refine ⟨(upd_ne hp).trans I.ob, fun b u e n => ?_, fun q hq => ?_, by rw [List.map_cons, List.nodup_cons]; exact hnd, I.p0⟩
  · have : b ≠ l := fun e2 => by rw [e2, h2] at e; cases e
    rw [upd_ne this]; exact I.old b u e n
  · rcases List.mem_cons.mp hq with e | hq
    · subst e; exact ⟨upd_same, h2⟩
    · have : q.1 ≠ l := fun e => hnd.1 (List.mem_map.mpr ⟨q, hq, e⟩)
      obtain ⟨z1, z2⟩ := I.it q (List.mem_cons_of_mem _ hq)
      exact ⟨(upd_ne this).trans z1, z2⟩
end
def spInit (C : Addr) : Sp := fun vs H Q _ => ∃ (p dx ha : Addr) (L : Nat) (rows : List (Option Rw)) (out : List Nat), vs = [.ref p, .ref ha, natV L] ∧ H p = some (.ins C dx []) ∧ HeapAt H ha rows out ∧ HeapOk out.length rows out ∧
  ∀ (a : Adr) (H' : Hp), a.p = p → a.C = C → a.Dis → Rep H' a L (initS rows out) (out.map natV) [] → (∀ b o, H b = some o → b ≠ p → H' b = some o) → (∀ b, a.Own b → b = p ∨ H b = none) → Q .non H'
theorem scInit : FnScope ["self", "heap", "limit", "slots", "outside", "row"] ["self", "heap", "limit"] (defScope sInit) := ⟨rfl, rfl, rfl, by decide +kernel, rfl, by decide +kernel, by decide +kernel⟩
def NewRow (A : List (Addr × HO)) (x : V) : Option Rw → Prop
  | none => x = .non
  | some row => ∃ q, x = .ref q ∧ (q, HO.lst (rowV row)) ∈ A
theorem NewRow.mono {A A' : List (Addr × HO)} {x : V} (h : ∀ q, q ∈ A → q ∈ A') : ∀ {r : Option Rw}, NewRow A x r → NewRow A' x r
  | none, z => z
  | some _, ⟨q, e, z⟩ => ⟨q, e, h _ z⟩
def rowOf (acc : List V) (p : Addr) (v : Nat) : Addr := match acc[v]? with
  | some (.ref q) => q
  | _ => p
set_option maxHeartbeats 1000000 in
theorem ok_init (B : Blt mg) (T : Uni K mg C) (GC : Cal P w K mg base 1 "reference_counts" ["slots", "outside"] spCounts) {f : Addr} {fd : FuncData} (F : Fun K "__init__" "Unwinding.__init__" sInit f fd) :
    FnOk P w K mg base CX0 2 f fd ["self", "heap", "limit"] (spInit C) := by
  refine F.ok scInit (fun vs H Q E h => ?_) (fun cdv A outer st H vs Q E hr h => ?_)
  · obtain ⟨_, _, _, _, _, _, rfl, _⟩ := h; rfl
  obtain ⟨p, dx, ha, L, rows, out, rfl, hp, ⟨sa, oa, xs, h1, h2, h3, h4⟩, hok, q⟩ := h
  have nd := scInit.nd
  have cl := T.cl
  refine ⟨_, pss_cons (ps_asg (pv 1) (pg_tup rfl (pgs_cons (pg_name (i := 3) nd rfl (.inl rfl)) (pgs_cons (pg_name (i := 4) nd rfl (.inl rfl)) pgs_nil))))
    (pss_cons (ps_fld (pv 0) (pe_lc (own := [("row", 5)]) (g := gName 5) (tt := tYes) (te := tIf (tB (tIsN (tVar 5))) (tC .non) (tCB (rListOf K) (tCons (tVar 5) tNil))) rfl nd (pi_tup (pv 3)) (blkOk_by (N := ["self", "heap", "limit", "slots", "outside", "row"]) (sc := defScope sInit) (by decide +kernel)) (fun _ _ _ _ _ => pg_name (i := 5) nd rfl (Or.inl rfl)) (fun _ _ _ _ _ => pts_nil)
        (fun _ _ _ _ _ => pe_ifExp (pt_cmp (pc_isN (pv 5))) pe_non (pe_callTy (T := "list") cr_listOf (by rfl) B.list (by decide +kernel) (pa_cons (pv 5) pa_nil)))) rfl)
    (pss_cons (ps_fld (pv 0) (pe_callTy call_list_of (by rfl) B.list (by decide +kernel) (pa_cons (pv 4) pa_nil)) rfl)
    (pss_cons (ps_fld (pv 0) (pe_cal GC hr rfl (pa_cons (pv 3) (pa_cons (pv 4) pa_nil))) rfl)
    (pss_cons (ps_fld (pv 0) (pv 2) rfl)
    (pss_cons (ps_fld (pv 0) (pe_lst pa_nil) rfl)
    (pss_cons (ps_fld (pv 0) (pe_lst pa_nil) rfl)
    (pss_cons (ps_fld (pv 0) pe_int rfl)
    (pss_one (ps_fld (pv 0) (pe_lst pa_nil) rfl))))))))), ?_⟩
  have hlen := h4.length
  have I0 : IS H p C dx H [] [] := ⟨hp, fun _ _ e _ => e, (fun _ z => by cases z), List.nodup_nil, _, hp⟩
  have nep : ∀ {b o}, H b = some (.tup o) → b ≠ p := fun e => ne_of e hp (fun z => by cases z)
  refine ⟨_, rfl, ha, _, rfl, SqT.of h1, rfl, _, _, rfl, _, _, rfl, rfl, ?_⟩
  refine ⟨_, rfl, sa, rfl, ⟨_, SqT.of h2⟩, fun D hD => ?_⟩
  refine lc_tup (K := K) (a := sa) (xs := xs) (fun i H' => ∃ (acc : List V) (A : List (Addr × HO)), IS H p C dx H' [] ((D, .lst acc) :: A) ∧ Paired (NewRow A) acc (rows.take i) ∧ ∀ (v w : Nat) (q : Addr), acc[v]? = some (.ref q) → acc[w]? = some (.ref q) → v = w)
    ⟨[], [], I0.new hD, .nil, fun v w q e => by simp at e⟩ (fun i H' _ ⟨_, _, I, _⟩ => SqT.of (I.old _ _ h2 (nep h2))) ?_ ?_
  · rintro i x H' hx ⟨acc, A', I, hpr, hinj⟩
    obtain ⟨r, hri, hrx⟩ := paired_getL h4 hx
    have hil := (List.getElem?_eq_some_iff.mp hx).1
    have haccl : acc.length = i := by rw [hpr.length, List.length_take]; omega
    have hsz : acc.length < sizeLine := by have := hok.n40; rw [sizeLine_eq]; have := hok.rl; omega
    have etake : rows.take (i + 1) = rows.take i ++ [r] := by rw [List.take_succ, hri]; rfl
    refine ⟨rfl, ⟨_, rfl, _, rfl, ?_⟩⟩
    cases r with
    | none =>
      cases (show x = V.non from hrx)
      refine iteT ⟨acc, (I.it _ List.mem_cons_self).1, hsz, _, A', I.put, ?_, ?_⟩
      · rw [etake]; exact paired_snoc hpr rfl
      · intro v w q e1 e2
        have hv : ∀ {v : Nat}, (acc ++ [V.non])[v]? = some (V.ref q) → acc[v]? = some (V.ref q) := fun {v} e => by
          by_cases hv : v < acc.length
          · rw [List.getElem?_append_left hv] at e; exact e
          · rw [List.getElem?_append_right (by omega)] at e
            cases hvv : v - acc.length with
            | zero => rw [hvv] at e; simp at e
            | succ k => rw [hvv] at e; simp at e
        exact hinj v w q (hv e1) (hv e2)
    | some row =>
      obtain ⟨ra, rfl, hra⟩ := hrx
      refine iteF ⟨_, rfl, ra, _, rfl, .inr (SqT.of (I.old _ _ hra (nep hra))), fun l hl => ?_⟩
      have I2 := I.new (o := .lst (rowV row)) hl
      -- the list that is made stands first again
      have I3 : IS H p C dx (upd H' l (.lst (rowV row))) [] ((D, .lst acc) :: (l, .lst (rowV row)) :: A') := by
        refine ⟨I2.ob, I2.old, fun z hz => I2.it z ?_, ?_, I2.p0⟩
        · simp at hz ⊢; rcases hz with h | h | h
          · exact .inr (.inl h)
          · exact .inl h
          · exact .inr (.inr h)
        · have := I2.nd
          simp only [List.map_cons, List.nodup_cons, List.mem_cons, not_or] at this ⊢
          exact ⟨⟨fun e => this.1.1 e.symm, this.2.1⟩, this.1.2, this.2.2⟩
      have hnew : ∀ v : Nat, acc[v]? ≠ some (V.ref l) := fun v e => by
        obtain ⟨r', hr', hz⟩ := paired_getL hpr e
        cases r' with
        | none => cases hz
        | some row' =>
          obtain ⟨q, eq, hm⟩ := hz
          cases eq
          have := (I.it _ (List.mem_cons_of_mem _ hm)).1
          rw [hl] at this; cases this
      refine ⟨acc, (I3.it _ List.mem_cons_self).1, hsz, _, _, I3.put, ?_, ?_⟩
      · rw [etake]
        exact paired_snoc (L2.Paired.mapP hpr fun _ _ z => z.mono fun _ h => List.mem_cons_of_mem _ h) ⟨l, rfl, List.mem_cons_self⟩
      · intro v w q e1 e2
        have hv : ∀ {v : Nat}, (acc ++ [V.ref l])[v]? = some (V.ref q) → (acc[v]? = some (V.ref q)) ∨ (v = acc.length ∧ q = l) := fun {v} e => by
          by_cases hv : v < acc.length
          · rw [List.getElem?_append_left hv] at e; exact .inl e
          · rw [List.getElem?_append_right (by omega)] at e
            cases hvv : v - acc.length with
            | zero => rw [hvv] at e; simp at e; exact .inr ⟨by omega, e.symm⟩
            | succ k => rw [hvv] at e; simp at e
        rcases hv e1 with a1 | ⟨a1, a2⟩
        · rcases hv e2 with b1 | ⟨b1, b2⟩
          · exact hinj v w q a1 b1
          · subst b2; exact absurd a1 (hnew v)
        · rcases hv e2 with b1 | ⟨b1, b2⟩
          · subst a2; exact absurd b1 (hnew w)
          · omega
  · rintro H1 ⟨acc, A1, I1, hpr, hinj⟩
    rw [hlen, List.take_length] at hpr
    -- self.rows, self.references
    refine ⟨_, rfl, p, C, dx, _, rfl, I1.ob, cl, T.rows, (by show 0 < 1000; decide), ?_⟩
    have I2 := I1.store (fs' := [("rows", .ref D)])
    refine ⟨_, rfl, oa, _, rfl, .inr (SqT.of (I2.old _ _ h3 (nep h3))), fun l2 hl2 => ?_⟩
    have I3 := I2.new (o := .lst (out.map natV)) hl2
    refine ⟨_, rfl, p, C, dx, _, rfl, I3.ob, cl, T.references, (by show 1 < 1000; decide), ?_⟩
    have I4 := I3.store (fs' := [("rows", .ref D), ("references", .ref l2)])
    -- self.tallies
    have hx4 : Paired (RowAt (upd (upd (upd H1 p (.ins C dx [("rows", .ref D)])) l2 (.lst (out.map natV))) p (.ins C dx [("rows", .ref D), ("references", .ref l2)]))) xs rows :=
      L2.Paired.mapP h4 fun x r z => by
        cases r with
        | none => exact z
        | some row =>
          obtain ⟨ra, e, hra⟩ := z
          exact ⟨ra, e, I4.old _ _ hra (nep hra)⟩
    refine ⟨_, rfl, _, rfl, sa, oa, xs, rows, out, rfl, I4.old _ _ h2 (nep h2), I4.old _ _ h3 (nep h3), hx4, hok, fun l3 H5 hl3 s5 hH5 => ?_⟩
    have I5 := I4.call s5 hl3 hH5
    refine ⟨_, rfl, p, C, dx, _, rfl, I5.ob, cl, T.tallies, (by show 2 < 1000; decide), ?_⟩
    have I6 := I5.store (fs' := [("rows", .ref D), ("references", .ref l2), ("tallies", .ref l3)])
    -- self.bound
    refine ⟨_, rfl, _, rfl, p, C, dx, _, rfl, I6.ob, cl, T.bound, (by show 3 < 1000; decide), ?_⟩
    have I7 := I6.store (fs' := [("rows", .ref D), ("references", .ref l2), ("tallies", .ref l3), ("bound", natV L)])
    -- self.log
    refine ⟨Nat.zero_le _, fun l4 hl4 => ?_⟩
    have I8 := I7.new (o := .lst []) hl4
    refine ⟨_, rfl, p, C, dx, _, rfl, I8.ob, cl, T.log, (by show 4 < 1000; decide), ?_⟩
    have I9 := I8.store (fs' := [("rows", .ref D), ("references", .ref l2), ("tallies", .ref l3), ("bound", natV L), ("log", .ref l4)])
    -- self.shelf
    refine ⟨Nat.zero_le _, fun l5 hl5 => ?_⟩
    have I10 := I9.new (o := .lst []) hl5
    refine ⟨_, rfl, p, C, dx, _, rfl, I10.ob, cl, T.shelf, (by show 5 < 1000; decide), ?_⟩
    have I11 := I10.store (fs' := [("rows", .ref D), ("references", .ref l2), ("tallies", .ref l3), ("bound", natV L), ("log", .ref l4), ("shelf", .ref l5)])
    -- self.peak
    refine ⟨_, rfl, p, C, dx, _, rfl, I11.ob, cl, T.peak, (by show 6 < 1000; decide), ?_⟩
    have I12 := I11.store (fs' := [("rows", .ref D), ("references", .ref l2), ("tallies", .ref l3), ("bound", natV L), ("log", .ref l4), ("shelf", .ref l5), ("peak", natV 0)])
    -- self.events
    refine ⟨Nat.zero_le _, fun l6 hl6 => ?_⟩
    have I13 := I12.new (o := .lst []) hl6
    refine ⟨_, rfl, p, C, dx, _, rfl, I13.ob, cl, T.events, (by show 7 < 1000; decide), ?_⟩
    have I14 := I13.store (fs' := [("rows", .ref D), ("references", .ref l2), ("tallies", .ref l3), ("bound", natV L), ("log", .ref l4), ("shelf", .ref l5), ("peak", natV 0), ("events", .ref l6)])
    have hrow : ∀ (v : Nat) (row : Rw), rows[v]? = some (some row) → (rowOf acc p v, HO.lst (rowV row)) ∈ A1 ∧ acc[v]? = some (.ref (rowOf acc p v)) := fun v row hv => by
      obtain ⟨x, hx, hz⟩ := paired_get hpr hv
      obtain ⟨qa, rfl, hm⟩ := hz
      have e : rowOf acc p v = qa := by unfold rowOf; rw [hx]
      rw [e]; exact ⟨hm, hx⟩
    have hnd := I14.nd
    have hnp : ∀ z, z ∈ ((l6, HO.lst []) :: (l5, HO.lst []) :: (l4, HO.lst []) :: (l3, HO.lst ((tal0 rows out).map V.int)) :: (l2, HO.lst (out.map natV)) :: (D, HO.lst acc) :: A1) → z.1 ≠ p := fun z hz e => by
      have := (I14.it z hz).2
      rw [e, hp] at this; cases this
    refine q ⟨p, C, dx, D, l2, l3, l4, l5, l6, rowOf acc p, fun v => ∃ row, rows[v]? = some (some row)⟩ _ rfl rfl ⟨fun i j hi hj hne => ?_, fun i v hi hv => ?_, fun v w hv hw hne => ?_⟩ ?_ (fun b o e n => I14.old b o e n) (fun b hb => ?_)
    · simp only [List.map_cons, List.nodup_cons, List.mem_cons, not_or] at hnd
      have p6 := hnp (l6, .lst []) (by simp)
      have p5 := hnp (l5, .lst []) (by simp)
      have p4 := hnp (l4, .lst []) (by simp)
      have p3 := hnp (l3, .lst ((tal0 rows out).map V.int)) (by simp)
      have p2 := hnp (l2, .lst (out.map natV)) (by simp)
      have p1 := hnp (D, .lst acc) (by simp)
      simp only at p1 p2 p3 p4 p5 p6
      obtain ⟨⟨a1, a2, a3, a4, a5, _⟩, ⟨b1, b2, b3, b4, _⟩, ⟨c1, c2, c3, _⟩, ⟨d1, d2, _⟩, ⟨e1, _⟩, _⟩ := hnd
      rcases i with _ | _ | _ | _ | _ | _ | _ | i <;> rcases j with _ | _ | _ | _ | _ | _ | _ | j <;> first | exact absurd rfl hne | omega | (simp only [Adr.ad]; first | assumption | (exact Ne.symm (by assumption)))
    · obtain ⟨row, hv⟩ := hv
      have hm := (hrow v row hv).1
      have hz : (rowOf acc p v) ∈ A1.map (·.1) := List.mem_map.mpr ⟨_, hm, rfl⟩
      have pv' := hnp _ (List.mem_cons_of_mem _ (List.mem_cons_of_mem _ (List.mem_cons_of_mem _ (List.mem_cons_of_mem _ (List.mem_cons_of_mem _ (List.mem_cons_of_mem _ hm))))))
      simp only [List.map_cons, List.nodup_cons, List.mem_cons, not_or] at hnd
      obtain ⟨⟨_, _, _, _, _, a1⟩, ⟨_, _, _, _, b1⟩, ⟨_, _, _, c1⟩, ⟨_, _, d1⟩, ⟨_, e1⟩, f1, _⟩ := hnd
      have key : ∀ x, x ∉ A1.map (·.1) → rowOf acc p v ≠ x := fun x hx e => hx (by rw [← e]; exact hz)
      rcases i with _ | _ | _ | _ | _ | _ | _ | i <;> first | omega | exact pv' | exact key _ (by assumption)
    · obtain ⟨r1, hv⟩ := hv
      obtain ⟨r2, hw⟩ := hw
      intro e
      have e1 := (hrow v r1 hv).2
      have e2 := (hrow w r2 hw).2
      have e : rowOf acc p v = rowOf acc p w := e
      rw [← e] at e2
      exact hne (hinj v w _ e1 e2)
    · refine ⟨fun i hi => ?_, fun v row hv => ?_, .nil, Nat.le_refl _, Nat.zero_le _, ?_⟩
      · have er : rowsV ⟨p, C, dx, D, l2, l3, l4, l5, l6, rowOf acc p, fun v => ∃ row, rows[v]? = some (some row)⟩ rows = acc := by
          apply List.ext_getElem?
          intro v
          by_cases hv : v < rows.length
          · rw [rowsV_at (List.getElem?_eq_getElem hv)]
            obtain ⟨x, hx, hz⟩ := paired_get hpr (List.getElem?_eq_getElem hv)
            cases hq : rows[v] with
            | none => rw [hq] at hz; rw [hx, show x = V.non from hz]; rfl
            | some row => exact (hrow v row (by rw [List.getElem?_eq_getElem hv, hq])).2.symm
          · have := hpr.length
            rw [List.getElem?_eq_none (by rw [rowsV_len]; omega), List.getElem?_eq_none (by omega)]
        rcases i with _ | _ | _ | _ | _ | _ | _ | i
        · exact I14.ob
        · show _ = some (HO.lst (rowsV _ rows))
          rw [er]
          exact (I14.it (D, .lst acc) (by simp)).1
        · exact (I14.it (l2, .lst (out.map natV)) (by simp)).1
        · exact (I14.it (l3, .lst ((tal0 rows out).map V.int)) (by simp)).1
        · exact (I14.it (l4, .lst []) (by simp)).1
        · exact (I14.it (l5, .lst []) (by simp)).1
        · exact (I14.it (l6, .lst []) (by simp)).1
        · omega
      · have hv : rows[v]? = some (some row) := hv
        have hm := (hrow v row hv).1
        refine ⟨(I14.it _ (List.mem_cons_of_mem _ (List.mem_cons_of_mem _ (List.mem_cons_of_mem _ (List.mem_cons_of_mem _ (List.mem_cons_of_mem _ (List.mem_cons_of_mem _ hm))))))).1, ?_, row, hv⟩
        have := (hok.ok v row hv).1
        omega
      · show rows.length ≤ 100
        have := hok.n40
        have := hok.rl
        omega
    · rcases hb with ⟨i, hi, e⟩ | ⟨v, ⟨row, hv⟩, e⟩
      · subst e
        rcases i with _ | _ | _ | _ | _ | _ | _ | i
        · exact .inl rfl
        · exact .inr (I14.it (D, .lst acc) (by simp)).2
        · exact .inr (I14.it (l2, .lst (out.map natV)) (by simp)).2
        · exact .inr (I14.it (l3, .lst ((tal0 rows out).map V.int)) (by simp)).2
        · exact .inr (I14.it (l4, .lst []) (by simp)).2
        · exact .inr (I14.it (l5, .lst []) (by simp)).2
        · exact .inr (I14.it (l6, .lst []) (by simp)).2
        · omega
      · subst e
        exact .inr (I14.it _ (List.mem_cons_of_mem _ (List.mem_cons_of_mem _ (List.mem_cons_of_mem _ (List.mem_cons_of_mem _ (List.mem_cons_of_mem _ (List.mem_cons_of_mem _ (hrow v row hv).1))))))).2
end
end SW

/-! drop, trace. -/
namespace SW
open PySem PySem.Spec PyProof.Rows L2 WR SF
/-- the class is made by an __init__ that keeps its promise -/
def ICal (P : Program) (w : World) (K : PySem.W.Frag) (mg : Str → Option Value) (base : Heap) (C : Addr) (k : Nat) (ps : List Str) (sp : Sp) : Prop := ∃ f fd, Mk K C f ∧ Binds K fd ps [] ∧ FnOk P w K mg base CX0 k f fd ps sp
theorem pe_ical {X : Cx} {k : Nat} {ps : List Str} {sp : Sp} {x : Str} {p pos : Pos} {e : Expr} {es : List Expr} {t : TA} {C : Addr} (G : ICal X.prog X.w X.K X.mg X.base C k ps sp) (hr : Room (k + 1) X.A) (hg : Gl X x) (hm : X.mg x = some (.ref C)) (ha : PA X (e :: es) t)
    (hdb : (x == ("__debug__" : Str)) = false := by decide) (he : starEach (e :: es) X.env = (false, eval e X.env) :: starEach es X.env := by rfl) (hpl : (backTo pos (starEach es X.env)).any (·.1) = false := by rfl) :
    PE X (.Call (.Name x p) (e :: es) [] pos) (tMake C sp [] E0 t) := by
  obtain ⟨f, fd, h1, h2, h3⟩ := G
  exact pe_make h1 h3 hr hg hm h2 .nil pass0 ha hdb he hpl
/-- what a drop is asked of -/
structure Ask (H : Hp) (ha : Addr) (rows : List (Option Rw)) (out : List Nat) (u : Nat) : Prop where
  at_ : HeapAt H ha rows out
  ok : HeapOk out.length rows out
  st : StartOk rows out u
theorem Ask.same {H H' : Hp} {ha : Addr} {rows : List (Option Rw)} {out : List Nat} {u : Nat} (h : Ask H ha rows out u) (s : Same H H') : Ask H' ha rows out u := ⟨h.at_.same s, h.ok, h.st⟩
def spDrop : Sp := fun vs H Q _ => ∃ (ha : Addr) (rows : List (Option Rw)) (out : List Nat) (u L : Nat) (s : UW), vs = [.ref ha, natV u, natV L] ∧ Ask H ha rows out u ∧ runF L 41 41 (initS rows out) u = some s ∧
  ∀ t lt ht H', Same H H' → H' t = some (.tup [.ref lt, natV s.peak, .ref ht]) → H' lt = some (.tup (s.log.map natV)) → Q (.ref t) H'
def spTrace : Sp := fun vs H Q _ => ∃ (ha : Addr) (rows : List (Option Rw)) (out : List Nat) (u L : Nat) (s : UW), vs = [.ref ha, natV u, natV L] ∧ Ask H ha rows out u ∧ runF L 41 41 (initS rows out) u = some s ∧
  ∀ t es H', Same H H' → H t = none → H' t = some (.lst es) → Paired (EvAt H') es s.ev → es.length ≤ bigN + 5 → Q (.ref t) H'
section
variable {P : Program} {w : World} {K : PySem.W.Frag} {mg : Str → Option Value} {base : Heap} {C : Addr}
theorem scDrop : FnScope ["heap", "node", "limit", "run"] ["heap", "node", "limit"] (defScope sDrop) := ⟨rfl, rfl, rfl, by decide +kernel, rfl, by decide +kernel, by decide +kernel⟩
theorem scTrace : FnScope ["heap", "node", "limit", "run"] ["heap", "node", "limit"] (defScope sTrace) := ⟨rfl, rfl, rfl, by decide +kernel, rfl, by decide +kernel, by decide +kernel⟩
theorem made_same {H : Hp} {x dx : Addr} {o o' : HO} (hx : H x = none) (hdx : H dx = none) : Same H (upd (upd H dx o) x o') := fun b u e => by
  rw [upd_ne (ne_of_none e hx), upd_ne (ne_of_none e hdx)]; exact e
theorem ok_drop (T : Uni K mg C) (GR : Cal P w K mg base 5 "require_reference" ["heap", "value"] spReqR) (GI : ICal P w K mg base C 2 ["self", "heap", "limit"] (spInit C)) (GO : MCal P w K mg base C 85 "drop_outside" ["self", "node"] (spOut C 41 41))
    (GS : MCal P w K mg base C 2 "result" ["self"] (spRes C)) (D : KDefIn K mg "drop" sDrop ["heap", "node", "limit"] 2 ["limit"]) : KCal P w K mg base 86 "drop" ["heap", "node", "limit"] 2 ["limit"] spDrop := by
  obtain ⟨f, fd, hm, F, hb⟩ := D
  refine ⟨f, fd, hm, F.kp, hb, F.ok scDrop (fun vs H Q E h => ?_) (fun cdv A outer st H vs Q E hr h => ?_)⟩
  · obtain ⟨_, _, _, _, _, _, rfl, _⟩ := h; rfl
  obtain ⟨ha, rows, out, u, L, s, rfl, ask, hrun, q⟩ := h
  have nd := scDrop.nd
  have cl := T.cl
  refine ⟨_, pss_cons (ps_expr (pe_cal GR (hr.mono (by decide)) rfl (pa_cons (pv 0) (pa_cons (pv 1) pa_nil))))
    (pss_cons (ps_set (i := 3) nd rfl (.inl rfl) (pe_ical GI (hr.mono (by decide)) rfl T.mgC (pa_cons (pv 0) (pa_cons (pv 2) pa_nil))))
    (pss_cons (ps_expr (pe_mcal (pv 3) cl GO hr (pa_cons (pv 1) pa_nil)))
    (pss_one (ps_ret (pe_mcal0 (pv 3) cl GS (hr.mono (by decide))))))), ?_⟩
  refine ⟨_, rfl, _, rfl, ha, rows, out, u, rfl, ask.at_, ask.st, ?_⟩
  refine ⟨_, rfl, _, rfl, fun x dx hx hdx hne => ?_⟩
  have s1 := made_same (o := .own x) (o' := .ins C dx []) hx hdx
  refine ⟨x, dx, ha, L, rows, out, rfl, upd_same, ask.at_.same s1, ask.ok, fun a H2 e1 e2 dis R k own => ⟨rfl, ?_⟩⟩
  have s2 : Same H H2 := fun b o e => k b o (s1 b o e) (ne_of_none e hx)
  subst e1 e2
  have hul : u < (out.map fun n => ((n : Nat) : Int)).length := by
    have := start_lt ask.ok ask.st
    simpa using this
  refine ⟨_, rfl, a.p, a.dx, _, rfl, R.at_ 0 (by decide), rfl, _, rfl, a, L, _, s, out.map (fun n => ((n : Nat) : Int)), [], u, rfl, rfl, dis, by rw [← natV_ints]; exact R, hul, hrun, fun H3 refs' es' k3 R3 => ?_⟩
  have s3 : Same H H3 := fun b o e => k3 b o (s2 b o e) (fun z => by
    rcases own b z with e' | e'
    · rw [e', hx] at e; cases e
    · by_cases eb : b = a.p
      · rw [eb, hx] at e; cases e
      · rw [s1 b o e] at e'; cases e')
  refine ⟨_, rfl, a.p, a.dx, _, rfl, R3.at_ 0 (by decide), rfl, a, L, s, refs', es', rfl, rfl, R3, fun t lt ht H4 s4 h4 h4' => ?_⟩
  exact q t lt ht H4 (s3.trans s4) h4 h4'
theorem ok_trace (B : Blt mg) (T : Uni K mg C) (GR : Cal P w K mg base 5 "require_reference" ["heap", "value"] spReqR) (GI : ICal P w K mg base C 2 ["self", "heap", "limit"] (spInit C)) (GO : MCal P w K mg base C 85 "drop_outside" ["self", "node"] (spOut C 41 41))
    (D : KDefIn K mg "trace" sTrace ["heap", "node", "limit"] 2 ["limit"]) : KCal P w K mg base 86 "trace" ["heap", "node", "limit"] 2 ["limit"] spTrace := by
  obtain ⟨f, fd, hm, F, hb⟩ := D
  refine ⟨f, fd, hm, F.kp, hb, F.ok scTrace (fun vs H Q E h => ?_) (fun cdv A outer st H vs Q E hr h => ?_)⟩
  · obtain ⟨_, _, _, _, _, _, rfl, _⟩ := h; rfl
  obtain ⟨ha, rows, out, u, L, s, rfl, ask, hrun, q⟩ := h
  have nd := scTrace.nd
  have cl := T.cl
  refine ⟨_, pss_cons (ps_expr (pe_cal GR (hr.mono (by decide)) rfl (pa_cons (pv 0) (pa_cons (pv 1) pa_nil))))
    (pss_cons (ps_set (i := 3) nd rfl (.inl rfl) (pe_ical GI (hr.mono (by decide)) rfl T.mgC (pa_cons (pv 0) (pa_cons (pv 2) pa_nil))))
    (pss_cons (ps_expr (pe_mcal (pv 3) cl GO hr (pa_cons (pv 1) pa_nil)))
    (pss_one (ps_ret (pe_callTy cr_listOf (by rfl) B.list (by decide +kernel) (pa_cons (pe_fld (pv 3) rfl) pa_nil)))))), ?_⟩
  refine ⟨_, rfl, _, rfl, ha, rows, out, u, rfl, ask.at_, ask.st, ?_⟩
  refine ⟨_, rfl, _, rfl, fun x dx hx hdx hne => ?_⟩
  have s1 := made_same (o := .own x) (o' := .ins C dx []) hx hdx
  refine ⟨x, dx, ha, L, rows, out, rfl, upd_same, ask.at_.same s1, ask.ok, fun a H2 e1 e2 dis R k own => ⟨rfl, ?_⟩⟩
  have s2 : Same H H2 := fun b o e => k b o (s1 b o e) (ne_of_none e hx)
  subst e1 e2
  have hul : u < (out.map fun n => ((n : Nat) : Int)).length := by
    have := start_lt ask.ok ask.st
    simpa using this
  refine ⟨_, rfl, a.p, a.dx, _, rfl, R.at_ 0 (by decide), rfl, _, rfl, a, L, _, s, out.map (fun n => ((n : Nat) : Int)), [], u, rfl, rfl, dis, by rw [← natV_ints]; exact R, hul, hrun, fun H3 refs' es' k3 R3 => ?_⟩
  have s3 : Same H H3 := fun b o e => k3 b o (s2 b o e) (fun z => by
    rcases own b z with e' | e'
    · rw [e', hx] at e; cases e
    · by_cases eb : b = a.p
      · rw [eb, hx] at e; cases e
      · rw [s1 b o e] at e'; cases e')
  refine ⟨_, rfl, a.p, a.C, a.dx, _, _, rfl, R3.at_ 0 (by decide), cl, T.events, rfl, a.ev, _, rfl, .inl (SqL.of (R3.at_ 6 (by decide))), fun l hl => ?_⟩
  refine q l es' _ (s3.trans (same_new hl _)) (s3.free hl) upd_same (L2.Paired.mapP R3.evs fun _ _ z => z.mono fun t ys e => (upd_ne (ne_of_none e hl)).trans e) ?_
  rw [R3.evs.length]; exact R3.el
end
end SW

/-! shelf_history, shelf_peak, least_limit. -/
namespace SW
open PySem PySem.Spec PyProof.Rows L2 WR SF
theorem hist_len_le (ev : List Evt) : (histOf ev).1.length ≤ ev.length := by
  have : ∀ (ev : List Evt) (a : List Int × Int), (ev.foldl histF a).1.length ≤ a.1.length + ev.length := by
    intro ev
    induction ev with
    | nil => intro a; simp
    | cons e r ih =>
      intro a
      rw [List.foldl_cons]
      refine Nat.le_trans (ih _) ?_
      cases e <;> simp [histF] <;> omega
  have := this ev ([], 0)
  simpa [histOf] using this
theorem hist_next {ev : List Evt} {i : Nat} {e : Evt} (h : ev[i]? = some e) : histOf (ev.take (i + 1)) = histF (histOf (ev.take i)) e := by
  rw [List.take_succ, h]
  exact histOf_snoc _ _
theorem ixN_last {n : Nat} (h : 0 < n) : ixN n (-1) = some (n - 1) := by
  unfold ixN
  rw [if_neg (by omega), if_pos (by omega)]
  congr 1
  omega
theorem at_last {xs : List V} {v : V} (h : xs[xs.length - 1]? = some v) : atI xs (-1) = some v := by
  have hl := (List.getElem?_eq_some_iff.mp h).1
  unfold atI
  rw [ixN_last (by omega)]
  exact h
/-- the greatest of some numbers -/
def maxI : List Int → Int
  | [] => 0
  | n :: r => r.foldl max n
theorem maxI_mem {ns : List Int} (h : 0 < ns.length) : maxI ns ∈ ns ∧ ∀ y, y ∈ ns → y ≤ maxI ns := by
  cases ns with
  | nil => simp at h
  | cons n r => exact foldl_max r n
theorem maxI_eq {ns : List Int} {m : Int} (h1 : m ∈ ns) (h2 : ∀ y, y ∈ ns → y ≤ m) : m = maxI ns := by
  obtain ⟨a, b⟩ := maxI_mem (List.length_pos_of_mem h1)
  have := b m h1
  have := h2 _ a
  omega
def pkV (h : List Int) : List V := if h = [] then [.int 0, .non] else [.int (maxI h), .int ((h.idxOf (maxI h) : Nat) : Int)]
def spHist : Sp := fun vs H Q _ => ∃ (ha : Addr) (rows : List (Option Rw)) (out : List Nat) (u L : Nat) (s : UW), vs = [.ref ha, natV u, natV L] ∧ Ask H ha rows out u ∧ runF L 41 41 (initS rows out) u = some s ∧ HistOk s.ev ∧
  ∀ t o H', Same H H' → TupO o → H' t = some (.frz o (.tup ((histOf s.ev).1.map V.int))) → Q (.ref t) H'
def spPeak : Sp := fun vs H Q _ => ∃ (ha : Addr) (rows : List (Option Rw)) (out : List Nat) (u L : Nat) (s : UW), vs = [.ref ha, natV u, natV L] ∧ Ask H ha rows out u ∧ runF L 41 41 (initS rows out) u = some s ∧ HistOk s.ev ∧
  ∀ t H', Same H H' → H' t = some (.tup (pkV (histOf s.ev).1)) → Q (.ref t) H'
section
variable {P : Program} {w : World} {K : PySem.W.Frag} {mg : Str → Option Value} {base : Heap}
theorem scHist : FnScope ["heap", "node", "limit", "history", "length", "event"] ["heap", "node", "limit"] (defScope sHist) := ⟨rfl, rfl, rfl, by decide +kernel, rfl, by decide +kernel, by decide +kernel⟩
theorem ok_hist (B : Blt mg) (GT : KCal P w K mg base 86 "trace" ["heap", "node", "limit"] 2 ["limit"] spTrace) (D : KDefIn K mg "shelf_history" sHist ["heap", "node", "limit"] 2 ["limit"]) :
    KCal P w K mg base 87 "shelf_history" ["heap", "node", "limit"] 2 ["limit"] spHist := by
  obtain ⟨f, fd, hm, F, hb⟩ := D
  refine ⟨f, fd, hm, F.kp, hb, F.ok scHist (fun vs H Q E h => ?_) (fun cdv A outer st H vs Q E hr h => ?_)⟩
  · obtain ⟨_, _, _, _, _, _, rfl, _⟩ := h; rfl
  obtain ⟨ha, rows, out, u, L, s, rfl, ask, hrun, hok, q⟩ := h
  have nd := scHist.nd
  refine ⟨_, pss_cons (ps_set (i := 3) nd rfl (.inl rfl) (pe_lst pa_nil))
    (pss_cons (ps_set (i := 4) nd rfl (.inl rfl) pe_int)
    (pss_cons (ps_for PassesOwn.never rfl (pi_list (pe_kcal GT hr rfl (pa_cons (pv 0) (pa_cons (pv 1) pa_nil)) (pk_cons (pv 2) pk_nil))) (pg_name (i := 5) nd rfl (.inl rfl))
      (pss_one (ps_if (pt_cmpR op_eq (pe_ix ix_tup (pv 5) pe_int (fun _ _ => rfl)) pe_str (nomark _))
        (pss_one (ps_expr (pe_bm PySem.F.plainAttrs_list PySem.F.slot_list_append PySem.F.type_list_append mt_append (pv 3) (pa_cons (pv 4) pa_nil))))
        (pss_one (ps_if (pt_cmpR op_eq (pe_ix ix_tup (pv 5) pe_int (fun _ _ => rfl)) pe_str (nomark _))
          (pss_one (ps_set (i := 4) nd rfl (.inl rfl) (pe_ix ix_tup (pv 5) pe_int (fun _ _ => rfl))))
          (pss_one (ps_if (pt_cmpR op_eq (pe_ix ix_tup (pv 5) pe_int (fun _ _ => rfl)) pe_str (nomark _))
            (pss_cons (ps_set (i := 4) nd rfl (.inl rfl) (pe_ix ix_tup (pv 5) pe_int (fun _ _ => rfl)))
            (pss_one (ps_asg (pe_callB (call_max2 rfl) (by rfl) B.max (by decide +kernel) (pa_cons (pe_ix ix_list (pv 3) (pe_un un_neg pe_int) (fun _ _ => rfl)) (pa_cons (pv 4) pa_nil))) (pg_sub (pv 3) (pe_un un_neg pe_int) set_list))))
            pss_nil)))))))
    (pss_one (ps_ret (pe_callTy cr_tupF (by rfl) B.tuple (by decide +kernel) (pa_cons (pv 3) pa_nil)))))), ?_⟩
  refine ⟨Nat.zero_le _, fun hl hhl => ?_⟩
  have s0 := same_new hhl (.lst [])
  refine ⟨_, rfl, _, rfl, _, rfl, rfl, rfl, ha, rows, out, u, L, s, rfl, ask.same s0, hrun, fun t es H1 s1 ht0 ht1 hev hel => ?_⟩
  have hle : hl ≠ t := fun e => by rw [← e, upd_same] at ht0; cases ht0
  have hlen := hev.length
  refine ⟨t, rfl, ⟨_, SqL.of ht1⟩, for_list (K := K) (a := t) (xs := es) (fun i σ H' => ∃ x5 : Option V, σ = [some (.ref ha), some (natV u), some (natV L), some (.ref hl), some (.int (histOf (s.ev.take i)).2), x5] ∧ Same H H' ∧ H' t = some (.lst es) ∧ H' hl = some (.lst ((histOf (s.ev.take i)).1.map V.int)) ∧ Paired (EvAt H') es s.ev)
    ⟨none, rfl, s0.trans s1, ht1, s1 _ _ upd_same, hev⟩ (fun i σ H' _ ⟨_, _, _, z, _⟩ => SqL.of z) ?_ ?_⟩
  · rintro i x σ H' hx ⟨x5, rfl, s2, z1, z2, z3⟩
    obtain ⟨e, he, tp, rfl, htp⟩ := paired_getL z3 hx
    have hn := hist_next he
    have hil := (List.getElem?_eq_some_iff.mp he).1
    have hsz : ((histOf (s.ev.take i)).1.map V.int).length < sizeLine := by
      rw [List.length_map]
      have h1 := hist_len_le (s.ev.take i)
      rw [List.length_take] at h1
      refine bigN_small ?_
      omega
    have hkeep : ∀ o, Paired (EvAt (upd H' hl (.lst o))) es s.ev := fun o => L2.Paired.mapP z3 fun _ _ z => z.mono fun b ys e' => (upd_ne (ne_of e' z2 (fun q => by cases q))).trans e'
    have hfree : H hl = none := by
      exact hhl
    have hend : ∀ {x6 : Option V} {hh : List Int × Int} {H2 : Hp}, histOf (s.ev.take (i + 1)) = hh → Same H H2 → H2 t = some (.lst es) → H2 hl = some (.lst (hh.1.map V.int)) → Paired (EvAt H2) es s.ev →
        ∃ x5 : Option V, ([some (.ref ha), some (natV u), some (natV L), some (.ref hl), some (.int hh.2), x6] : L2.St) = [some (.ref ha), some (natV u), some (natV L), some (.ref hl), some (.int (histOf (s.ev.take (i + 1))).2), x5] ∧ Same H H2 ∧ H2 t = some (.lst es) ∧ H2 hl = some (.lst ((histOf (s.ev.take (i + 1))).1.map V.int)) ∧ Paired (EvAt H2) es s.ev := by
      intro x6 hh H2 e a1 a2 a3 a4
      subst e
      exact ⟨x6, rfl, a1, a2, a3, a4⟩
    cases e with
    | rel hs v c =>
      refine ⟨_, rfl, tp, _, 0, _, rfl, rfl, SqT.of htp, rfl, rfl, _, rfl, ite2 (fun c => absurd (of_decide_eq_true c) (by decide +kernel)) (fun _ => ?_)⟩
      refine ⟨_, rfl, tp, _, 0, _, rfl, rfl, SqT.of htp, rfl, rfl, _, rfl, ite2 (fun c => absurd (of_decide_eq_true c) (by decide +kernel)) (fun _ => ?_)⟩
      refine ⟨_, rfl, tp, _, 0, _, rfl, rfl, SqT.of htp, rfl, rfl, _, rfl, ite2 (fun c => absurd (of_decide_eq_true c) (by decide +kernel)) (fun _ => ?_)⟩
      exact hend hn s2 z1 z2 z3
    | des v d =>
      refine ⟨_, rfl, tp, _, 0, _, rfl, rfl, SqT.of htp, rfl, rfl, _, rfl, ite2 (fun _ => ?_) (fun c => absurd (decide_eq_true rfl) c)⟩
      refine ⟨_, rfl, .inl ⟨rfl, _, SqL.of z2⟩, _, rfl, hl, _, _, rfl, rfl, z2, hsz, ?_⟩
      exact hend (hh := ((histOf (s.ev.take i)).1 ++ [(histOf (s.ev.take i)).2], (histOf (s.ev.take i)).2)) hn (same_upd hfree s2) ((upd_ne hle.symm).trans z1) (by rw [upd_same]; simp) (hkeep _)
    | tak v l =>
      refine ⟨_, rfl, tp, _, 0, _, rfl, rfl, SqT.of htp, rfl, rfl, _, rfl, ite2 (fun c => absurd (of_decide_eq_true c) (by decide +kernel)) (fun _ => ?_)⟩
      refine ⟨_, rfl, tp, _, 0, _, rfl, rfl, SqT.of htp, rfl, rfl, _, rfl, ite2 (fun _ => ?_) (fun c => absurd (decide_eq_true rfl) c)⟩
      refine ⟨_, rfl, tp, _, 2, _, rfl, rfl, SqT.of htp, rfl, ?_⟩
      exact hend hn s2 z1 z2 z3
    | shl v l =>
      refine ⟨_, rfl, tp, _, 0, _, rfl, rfl, SqT.of htp, rfl, rfl, _, rfl, ite2 (fun c => absurd (of_decide_eq_true c) (by decide +kernel)) (fun _ => ?_)⟩
      refine ⟨_, rfl, tp, _, 0, _, rfl, rfl, SqT.of htp, rfl, rfl, _, rfl, ite2 (fun c => absurd (of_decide_eq_true c) (by decide +kernel)) (fun _ => ?_)⟩
      refine ⟨_, rfl, tp, _, 0, _, rfl, rfl, SqT.of htp, rfl, rfl, _, rfl, ite2 (fun _ => ?_) (fun c => absurd (decide_eq_true rfl) c)⟩
      refine ⟨_, rfl, tp, _, 2, _, rfl, rfl, SqT.of htp, rfl, ?_⟩
      have hne := hok i v l he
      generalize hst : histOf (s.ev.take i) = a at hn z2 hne hsz
      obtain ⟨h9, n9⟩ := a
      simp only at hn z2 hne hsz
      have hp9 : 0 < h9.length := by cases h9 <;> simp at hne ⊢
      have hlast : (h9.map V.int)[(h9.map V.int).length - 1]? = some (.int (h9.getD (h9.length - 1) 0)) := by
        rw [List.length_map, List.getElem?_map, List.getD_eq_getElem?_getD, List.getElem?_eq_getElem (by omega)]; rfl
      refine ⟨_, rfl, _, rfl, hl, _, -1, _, rfl, rfl, SqL.of z2, at_last hlast, _, rfl, _, _, rfl, _, rfl, _, rfl, hl, _, -1, h9.length - 1, rfl, rfl, z2, by rw [ixN_last (by rw [List.length_map]; exact hp9), List.length_map], ?_⟩
      refine hend (x6 := some (.ref tp)) hn (same_upd hfree s2) ((upd_ne hle.symm).trans z1) ?_ (hkeep _)
      rw [upd_same]
      have em : (if (l : Int) > h9.getD (h9.length - 1) 0 then (l : Int) else h9.getD (h9.length - 1) 0) = max (h9.getD (h9.length - 1) 0) (l : Int) := by split <;> omega
      show some (HO.lst ((h9.map V.int).set (h9.length - 1) (V.int (if (l : Int) > h9.getD (h9.length - 1) 0 then (l : Int) else h9.getD (h9.length - 1) 0)))) = _
      rw [em]
      simp [histF, List.map_set]
  · rintro σ H' ⟨x5, rfl, s2, z1, z2, z3⟩
    rw [hlen, List.take_length] at z2
    exact ⟨_, rfl, hl, _, rfl, SqL.of z2, fun l o hl' ho => q l o _ (s2.trans (same_new hl' _)) ho upd_same⟩
theorem eqv_nil_tuple (ns : List Int) : PyData.eqv (.tuple (ns.map PyData.int)) (.tuple []) = ns.isEmpty := by
  cases ns <;> simp [PyData.eqv, PyData.eqvAll]
theorem scPeak : FnScope ["heap", "node", "limit", "history", "peak"] ["heap", "node", "limit"] (defScope sPeak) := ⟨rfl, rfl, rfl, by decide +kernel, rfl, by decide +kernel, by decide +kernel⟩
theorem ok_peak (B : Blt mg) (GH : KCal P w K mg base 87 "shelf_history" ["heap", "node", "limit"] 2 ["limit"] spHist) (D : KDefIn K mg "shelf_peak" sPeak ["heap", "node", "limit"] 2 ["limit"]) :
    KCal P w K mg base 88 "shelf_peak" ["heap", "node", "limit"] 2 ["limit"] spPeak := by
  obtain ⟨f, fd, hm, F, hb⟩ := D
  refine ⟨f, fd, hm, F.kp, hb, F.ok scPeak (fun vs H Q E h => ?_) (fun cdv A outer st H vs Q E hr h => ?_)⟩
  · obtain ⟨_, _, _, _, _, _, rfl, _⟩ := h; rfl
  obtain ⟨ha, rows, out, u, L, s, rfl, ask, hrun, hok, q⟩ := h
  have nd := scPeak.nd
  refine ⟨_, pss_cons (ps_set (i := 3) nd rfl (.inl rfl) (pe_kcal GH hr rfl (pa_cons (pv 0) (pa_cons (pv 1) pa_nil)) (pk_cons (pv 2) pk_nil)))
    (pss_cons (ps_if (pt_cmpR (op_eqD hr.units) (pv 3) (pe_tup pa_nil) (nomark _)) (pss_one (ps_ret (pe_tup (pa_cons pe_int (pa_cons pe_non pa_nil))))) pss_nil)
    (pss_cons (ps_set (i := 4) nd rfl (.inl rfl) (pe_callB (cr_maxT rfl (hu_of hr)) (by rfl) B.max (by decide +kernel) (pa_cons (pv 3) pa_nil)))
    (pss_one (ps_ret (pe_tup (pa_cons (pv 4) (pa_cons (pe_tupM PySem.F.plainAttrs_tuple PySem.F.slot_tuple_index PySem.F.type_tuple_index mt_tindex (pv 3) (pa_cons (pv 4) pa_nil)) pa_nil))))))), ?_⟩
  refine ⟨_, rfl, _, rfl, _, rfl, rfl, rfl, ha, rows, out, u, L, s, rfl, ask, hrun, hok, fun t o H1 s1 ho ht => ?_⟩
  have hst : ∀ {H' : Hp}, Same H1 H' → SqT K H' t ((histOf s.ev).1.map V.int) := fun z => .inl (.inr ⟨o, z _ _ ht⟩)
  refine ⟨_, rfl, Nat.zero_le _, fun ep hep => ?_⟩
  have s2 := s1.trans (same_new hep (.tup []))
  refine ⟨.tuple ((histOf s.ev).1.map PyData.int), .tuple [], .tup (hst (same_new hep _)) (dpAll_ints _), .tup (SqT.of upd_same) .nil, shaped_ints_tuple _, rfl, (histOf s.ev).1.isEmpty, by rw [eqv_nil_tuple], ?_⟩
  cases hq : (histOf s.ev).1 with
  | nil =>
    refine iteT ⟨(by show 2 ≤ sizeLine; decide), fun t2 ht2 => q t2 _ (s2.trans (same_new ht2 _)) ?_⟩
    rw [upd_same, hq]
    rfl
  | cons n r =>
    rw [hq] at hst
    refine iteF ⟨_, rfl, t, n :: r, rfl, hst (same_new hep _), by simp, fun m hm1 hm2 => ?_⟩
    have em := maxI_eq hm1 hm2
    refine ⟨_, rfl, _, rfl, ⟨t, o, _, rfl, (same_new hep _) _ _ ht, ho⟩, _, rfl, t, n :: r, m, rfl, rfl, hst (same_new hep _), hm1, (by show 2 ≤ sizeLine; decide), fun t2 ht2 => ?_⟩
    refine q t2 _ (s2.trans (same_new ht2 _)) ?_
    rw [upd_same, hq, em]
    rfl
/-! ### least_limit -/
/-- the peak that shelf_peak tells for a limit -/
def pkOf (rows : List (Option Rw)) (out : List Nat) (u L : Nat) : Int := match runF L 41 41 (initS rows out) u with
  | some s => if (histOf s.ev).1 = [] then 0 else maxI (histOf s.ev).1
  | none => 0
theorem pkV_head (h : List Int) : ∃ y, pkV h = [.int (if h = [] then 0 else maxI h), y] := by
  unfold pkV
  by_cases e : h = []
  · rw [if_pos e, if_pos e]; exact ⟨_, rfl⟩
  · rw [if_neg e, if_neg e]; exact ⟨_, rfl⟩
def spLeast : Sp := fun vs H Q _ => ∃ (ha : Addr) (rows : List (Option Rw)) (out : List Nat) (u : Nat) (most : Int) (n : Nat), vs = [.ref ha, natV u, .int most] ∧ Ask H ha rows out u ∧ 0 < n ∧ pkOf rows out u n ≤ most ∧
  ∀ (L : Nat) H', Same H H' → 0 < L → pkOf rows out u L ≤ most → (∀ L', 0 < L' → L' < L → most < pkOf rows out u L') → Q (natV L) H'
theorem scLeast : FnScope ["heap", "node", "most", "limit"] ["heap", "node", "most"] (defScope sLeast) := ⟨rfl, rfl, rfl, by decide +kernel, rfl, by decide +kernel, by decide +kernel⟩
theorem ok_least (GR : Cal P w K mg base 5 "require_reference" ["heap", "value"] spReqR) (GP : KCal P w K mg base 88 "shelf_peak" ["heap", "node", "limit"] 2 ["limit"] spPeak) (D : KDefIn K mg "least_limit" sLeast ["heap", "node", "most"] 2 ["most"]) :
    KCal P w K mg base 89 "least_limit" ["heap", "node", "most"] 2 ["most"] spLeast := by
  obtain ⟨f, fd, hm, F, hb⟩ := D
  refine ⟨f, fd, hm, F.kp, hb, F.ok scLeast (fun vs H Q E h => ?_) (fun cdv A outer st H vs Q E hr h => ?_)⟩
  · obtain ⟨_, _, _, _, _, _, rfl, _⟩ := h; rfl
  obtain ⟨ha, rows, out, u, most, n, rfl, ask, hn, hnm, q⟩ := h
  have nd := scLeast.nd
  refine ⟨_, pss_cons (ps_expr (pe_cal GR (hr.mono (by decide)) rfl (pa_cons (pv 0) (pa_cons (pv 1) pa_nil))))
    (pss_cons (ps_set (i := 3) nd rfl (.inl rfl) pe_int)
    (pss_cons (ps_while PassesOwn.never (pt_cmpR op_gt (pe_ix ix_tup (pe_kcal GP hr rfl (pa_cons (pv 0) (pa_cons (pv 1) pa_nil)) (pk_cons (pv 3) pk_nil)) pe_int (fun _ _ => rfl)) (pv 2) (nomark _))
      (pss_one (ps_aug (i := 3) nd rfl (.inl rfl) pe_int ip_add)))
    (pss_one (ps_ret (pv 3))))), ?_⟩
  refine ⟨_, rfl, _, rfl, ha, rows, out, u, rfl, ask.at_, ask.st, ?_⟩
  refine ⟨fun m σ H' => ∃ L : Nat, σ = [some (.ref ha), some (natV u), some (.int most), some (natV L)] ∧ Same H H' ∧ 0 < L ∧ L ≤ n ∧ m = n - L ∧ ∀ L', 0 < L' → L' < L → most < pkOf rows out u L', ⟨n - 1, 1, rfl, Same.refl H, by decide, hn, rfl, fun L' h1 h2 => by omega⟩, ?_⟩
  rintro m σ H' ⟨L, rfl, s1, hL, hLn, rfl, hlow⟩
  obtain ⟨s, hrun, fin⟩ := run_fin (start := u) hL ask.ok ask.st
  refine ⟨_, rfl, _, rfl, _, rfl, rfl, rfl, ha, rows, out, u, L, s, rfl, ask.same s1, hrun, fin.hok, fun t H2 s2 ht => ?_⟩
  obtain ⟨y, hy⟩ := pkV_head (histOf s.ev).1
  have epk : pkOf rows out u L = if (histOf s.ev).1 = [] then 0 else maxI (histOf s.ev).1 := by unfold pkOf; rw [hrun]
  rw [hy, ← epk] at ht
  refine ⟨t, _, 0, _, rfl, rfl, SqT.of ht, rfl, _, rfl, _, _, rfl, rfl, _, rfl, ?_⟩
  refine ite2 (fun c => ?_) (fun c => ?_)
  · have c : pkOf rows out u L > most := of_decide_eq_true c
    have hne : L ≠ n := fun e => by rw [e] at c; omega
    refine ⟨fun σ' H'' => σ' = [some (.ref ha), some (natV u), some (.int most), some (natV (L + 1))] ∧ Same H H'', fun σ' H'' z => ?_, ⟨_, rfl, _, _, rfl, rfl, rfl, s1.trans s2⟩⟩
    obtain ⟨e1, e2⟩ := z
    refine ⟨n - (L + 1), by omega, L + 1, e1, e2, by omega, by omega, rfl, fun L' h1 h2 => ?_⟩
    by_cases e : L' = L
    · rw [e]; omega
    · exact hlow L' h1 (by omega)
  · have c : ¬ pkOf rows out u L > most := of_decide_eq_false (Bool.eq_false_iff.mpr c)
    exact ⟨_, rfl, q L H2 (s1.trans s2) hL (by omega) hlow⟩
end
end SW

/-! limits_of, all_logs, release_tree. -/
namespace SW
open PySem PySem.Spec PyProof.Rows L2 WR SF
def spLims : Sp := fun vs H Q _ => ∃ (ha : Addr) (rows : List (Option Rw)) (out : List Nat), vs = [.ref ha] ∧ HeapAt H ha rows out ∧ rows.length ≤ 100 ∧ ∀ t H', H t = none → Same H H' → H' t = some (.lst ((List.range rows.length).map fun i => natV (i + 1))) → Q (.ref t) H'
/-- the log of a drop for a limit stands at x -/
def LogAt (rows : List (Option Rw)) (out : List Nat) (u : Nat) (H : Hp) (x : V) (L : Nat) : Prop := ∃ t s, x = .ref t ∧ runF L 41 41 (initS rows out) u = some s ∧ H t = some (.tup (s.log.map natV))
def spLogs : Sp := fun vs H Q _ => ∃ (ha : Addr) (rows : List (Option Rw)) (out : List Nat) (u : Nat), vs = [.ref ha, natV u] ∧ Ask H ha rows out u ∧
  ∀ t xs H', Same H H' → H' t = some (.lst xs) → Paired (LogAt rows out u H') xs ((List.range rows.length).map (· + 1)) → Q (.ref t) H'
theorem LogAt.same {rows : List (Option Rw)} {out : List Nat} {u : Nat} {H H' : Hp} (s : Same H H') {x : V} {L : Nat} (h : LogAt rows out u H x L) : LogAt rows out u H' x L := by
  obtain ⟨t, st, e, h1, h2⟩ := h
  exact ⟨t, st, e, h1, s _ _ h2⟩
/-- an entry of a release tree -/
def TrAt (H : Hp) (x : V) : Option (Option (Nat × Nat)) → Prop
  | none => x = .non
  | some none => ∃ q, x = .ref q ∧ H q = some (.tup [])
  | some (some p) => ∃ q, x = .ref q ∧ H q = some (.tup [natV p.1, natV p.2])
theorem TrAt.mono {H H' : Hp} {x : V} : ∀ {t : Option (Option (Nat × Nat))}, TrAt H x t → (∀ b xs, H b = some (.tup xs) → H' b = some (.tup xs)) → TrAt H' x t
  | none, h, _ => h
  | some none, ⟨q, e, h⟩, k => ⟨q, e, k _ _ h⟩
  | some (some _), ⟨q, e, h⟩, k => ⟨q, e, k _ _ h⟩
def spTree : Sp := fun vs H Q _ => ∃ (ha : Addr) (rows : List (Option Rw)) (out : List Nat) (u L : Nat) (s : UW), vs = [.ref ha, natV u, natV L] ∧ Ask H ha rows out u ∧ runF L 41 41 (initS rows out) u = some s ∧ EvU rows.length s.ev ∧
  ∀ t xs H', Same H H' → H' t = some (.tup xs) → Paired (TrAt H') xs (treeOf rows.length s.ev) → Q (.ref t) H'
section
variable {P : Program} {w : World} {K : PySem.W.Frag} {mg : Str → Option Value} {base : Heap}
theorem scLims : FnScope ["heap"] ["heap"] (defScope sLims) := ⟨rfl, rfl, rfl, by decide +kernel, rfl, by decide +kernel, by decide +kernel⟩
theorem rgV_eq (n : Nat) : rgV 1 ((n : Int) + 1) = (List.range n).map fun i => natV (i + 1) := by
  unfold rgV
  have e : ((n : Int) + 1 - 1).toNat = n := by omega
  rw [e]
  apply List.map_congr_left
  intro i _
  show V.int _ = V.int _
  congr 1
  omega
theorem ok_lims (B : Blt mg) (D : DefIn K mg "limits_of" sLims ["heap"]) : Cal P w K mg base 1 "limits_of" ["heap"] spLims := by
  obtain ⟨f, fd, hm, F, hb⟩ := D
  refine ⟨f, fd, hm, F.kp, hb, F.ok scLims (fun vs H Q E h => ?_) (fun cdv A outer st H vs Q E hr h => ?_)⟩
  · obtain ⟨_, _, _, rfl, _⟩ := h; rfl
  obtain ⟨ha, rows, out, rfl, ⟨sa, oa, xs, h1, h2, h3, h4⟩, hn, q⟩ := h
  refine ⟨_, pss_one (ps_ret (pe_listRg rfl (by rfl) B.list (prg_2 (by rfl) B.range pe_int (pe_op op_add (pe_callB cr_lenS (by rfl) B.len (by decide +kernel) (pa_cons (pe_ix ix_tup (pv 0) pe_int (fun _ _ => rfl)) pa_nil)) pe_int)))), ?_⟩
  have hl := h4.length
  refine ⟨_, rfl, ha, _, 0, _, rfl, rfl, SqT.of h1, rfl, sa, _, rfl, .inr (SqT.of h2), _, _, rfl, rfl, _, _, rfl, rfl, RgOk.of_le (by decide) (by omega) (by decide) (by omega), fun t ht => ?_⟩
  refine q t _ ht (same_new ht _) ?_
  rw [upd_same, hl, rgV_eq]
theorem scLogs : FnScope ["heap", "node", "limit"] ["heap", "node"] (defScope sLogs) := ⟨rfl, rfl, rfl, by decide +kernel, rfl, by decide +kernel, by decide +kernel⟩
theorem ok_logs (B : Blt mg) (GR : Cal P w K mg base 5 "require_reference" ["heap", "value"] spReqR) (GD : KCal P w K mg base 86 "drop" ["heap", "node", "limit"] 2 ["limit"] spDrop) (GL : Cal P w K mg base 1 "limits_of" ["heap"] spLims)
    (D : DefIn K mg "all_logs" sLogs ["heap", "node"]) : Cal P w K mg base 87 "all_logs" ["heap", "node"] spLogs := by
  obtain ⟨f, fd, hm, F, hb⟩ := D
  refine ⟨f, fd, hm, F.kp, hb, F.ok scLogs (fun vs H Q E h => ?_) (fun cdv A outer st H vs Q E hr h => ?_)⟩
  · obtain ⟨_, _, _, _, rfl, _⟩ := h; rfl
  obtain ⟨ha, rows, out, u, rfl, ask, q⟩ := h
  have nd := scLogs.nd
  refine ⟨_, pss_cons (ps_expr (pe_cal GR (hr.mono (by decide)) rfl (pa_cons (pv 0) (pa_cons (pv 1) pa_nil))))
    (pss_one (ps_ret (pe_lc (own := [("limit", 2)]) (g := gName 2) (tt := tYes) (te := tOp (rIxT K) (tCallN 2 1 spDrop (fun vs zs => vs ++ zs) E0 (tCons (tVar 0) (tCons (tVar 1) tNil)) (tCons (tVar 2) tNil)) (tC (.int 0))) rfl nd (pi_list (pe_cal GL (hr.mono (by decide)) rfl (pa_cons (pv 0) pa_nil)))
      (blkOk_by (N := ["heap", "node", "limit"]) (sc := defScope sLogs) (by decide +kernel)) (fun _ _ _ _ _ => pg_name (i := 2) nd rfl (Or.inl rfl)) (fun _ _ _ _ _ => pts_nil)
      (fun _ _ _ _ _ => pe_ix ix_tup (pe_kcal (ks := ["limit"]) GD hr rfl (pa_cons (pv 0) (pa_cons (pv 1) pa_nil)) (pk_cons (pv 2) pk_nil)) pe_int (fun _ _ => rfl))))), ?_⟩
  refine ⟨_, rfl, _, rfl, ha, rows, out, u, rfl, ask.at_, ask.st, ?_⟩
  have hrn : rows.length ≤ 100 := by have := ask.ok.n40; have := ask.ok.rl; omega
  refine ⟨_, rfl, ha, rows, out, rfl, ask.at_, hrn, fun t H1 ht0 s1 ht1 => ?_⟩
  refine ⟨t, rfl, ⟨_, SqL.of ht1⟩, fun D hD => ?_⟩
  refine lc_list (K := K) (a := t) (xs := (List.range rows.length).map fun i => natV (i + 1)) (fun i H' => Same H1 H' ∧ ∃ acc, H' D = some (.lst acc) ∧ Paired (LogAt rows out u H') acc (((List.range rows.length).map (· + 1)).take i))
    ⟨same_new hD _, [], upd_same, .nil⟩ (fun i H' _ z => SqL.of (z.1 _ _ ht1)) ?_ ?_
  · rintro i x H' hx ⟨s2, acc, hacc, hpr⟩
    have hil := (List.getElem?_eq_some_iff.mp hx).1
    simp only [List.length_map, List.length_range] at hil
    have ex : x = natV (i + 1) := by
      rw [List.getElem?_map, List.getElem?_range hil] at hx
      exact (Option.some.inj hx).symm
    subst ex
    obtain ⟨s, hrun, fin⟩ := run_fin (start := u) (L := i + 1) (Nat.succ_pos i) ask.ok ask.st
    have hal : acc.length ≤ i := by rw [hpr.length]; simp; omega
    refine ⟨rfl, ⟨_, rfl, _, rfl, _, rfl, rfl, rfl, ha, rows, out, u, i + 1, s, rfl, ask.same (s1.trans s2), hrun, fun tt lt hh H3 s3 h3 h3' => ?_⟩⟩
    refine ⟨tt, _, 0, _, rfl, rfl, SqT.of h3, rfl, acc, s3 _ _ hacc, by rw [sizeLine_eq]; omega, ?_⟩
    have s4 : Same H1 (upd H3 D (.lst (acc ++ [V.ref lt]))) := same_upd hD (s2.trans s3)
    refine ⟨s4, _, upd_same, ?_⟩
    have etake : ((List.range rows.length).map (· + 1)).take (i + 1) = ((List.range rows.length).map (· + 1)).take i ++ [i + 1] := by
      rw [List.take_succ, List.getElem?_map, List.getElem?_range hil]; rfl
    rw [etake]
    have hDl : ∀ {b : Addr} {ys : List V}, H3 b = some (.tup ys) → b ≠ D := fun e => ne_of e (s3 _ _ hacc) (fun q => by cases q)
    refine paired_snoc (L2.Paired.mapP hpr fun x L z => ?_) ⟨lt, s, rfl, hrun, (upd_ne (hDl h3')).trans h3'⟩
    obtain ⟨b, st', e, z1, z2⟩ := z
    exact ⟨b, st', e, z1, (upd_ne (hDl (s3 _ _ z2))).trans (s3 _ _ z2)⟩
  · rintro H' ⟨s2, acc, hacc, hpr⟩
    have e : ((List.range rows.length).map (· + 1)).take ((List.range rows.length).map fun i => natV (i + 1)).length = (List.range rows.length).map (· + 1) := by
      rw [List.length_map]; exact List.take_of_length_le (by simp)
    rw [e] at hpr
    exact q D acc H' (s1.trans s2) hacc hpr
theorem scTree : FnScope ["heap", "node", "limit", "found", "label", "details", "holder", "slot", "released", "count"] ["heap", "node", "limit"] (defScope sTree) := ⟨rfl, rfl, rfl, by decide +kernel, rfl, by decide +kernel, by decide +kernel⟩
theorem tree_next {n : Nat} {ev : List Evt} {i : Nat} {e : Evt} (h : ev[i]? = some e) : treeOf n (ev.take (i + 1)) = treeF (treeOf n (ev.take i)) e := by
  rw [List.take_succ, h]
  exact treeOf_snoc _ _ _
theorem paired_repl (H : Hp) : ∀ n : Nat, Paired (TrAt H) (List.replicate n V.non) (List.replicate n none)
  | 0 => .nil
  | n + 1 => by
    rw [List.replicate_succ, List.replicate_succ]
    exact .cons rfl (paired_repl H n)
theorem paired_set {α β : Type} {F : α → β → Prop} : ∀ {xs : List α} {ys : List β} {x : α} {y : β} (i : Nat), Paired F xs ys → F x y → Paired F (xs.set i x) (ys.set i y)
  | _, _, _, _, _, .nil, _ => .nil
  | _, _, _, _, 0, .cons _ t, h => .cons h t
  | _, _, _, _, i + 1, .cons r t, h => .cons r (paired_set i t h)
set_option maxHeartbeats 1000000 in
theorem ok_tree (B : Blt mg) (GT : KCal P w K mg base 86 "trace" ["heap", "node", "limit"] 2 ["limit"] spTrace) (D : KDefIn K mg "release_tree" sTree ["heap", "node", "limit"] 2 ["limit"]) :
    KCal P w K mg base 87 "release_tree" ["heap", "node", "limit"] 2 ["limit"] spTree := by
  obtain ⟨f, fd, hm, F, hb⟩ := D
  refine ⟨f, fd, hm, F.kp, hb, F.ok scTree (fun vs H Q E h => ?_) (fun cdv A outer st H vs Q E hr h => ?_)⟩
  · obtain ⟨_, _, _, _, _, _, rfl, _⟩ := h; rfl
  obtain ⟨ha, rows, out, u, L, s, rfl, ask, hrun, hevu, q⟩ := h
  have nd := scTree.nd
  refine ⟨_, pss_cons (ps_set (i := 3) nd rfl (.inl rfl) (pe_op op_rep (pe_lst (pa_cons pe_non pa_nil)) (pe_callB cr_lenS (by rfl) B.len (by decide +kernel) (pa_cons (pe_ix ix_tup (pv 0) pe_int (fun _ _ => rfl)) pa_nil))))
    (pss_cons (ps_for PassesOwn.never rfl (pi_list (pe_kcal GT hr rfl (pa_cons (pv 0) (pa_cons (pv 1) pa_nil)) (pk_cons (pv 2) pk_nil))) (pg_star rfl (pgs_cons (pg_name (i := 4) nd rfl (.inl rfl)) (pgs_cons (pg_name (i := 5) nd rfl (.inl rfl)) pgs_nil)))
      (pss_one (ps_if (pt_cmpR op_eq (pv 4) pe_str (nomark _))
        (pss_cons (ps_asg (pv 5) (pg_unl rfl (pgs_cons (pg_name (i := 6) nd rfl (.inl rfl)) (pgs_cons (pg_name (i := 7) nd rfl (.inl rfl)) (pgs_cons (pg_name (i := 8) nd rfl (.inl rfl)) (pgs_cons (pg_name (i := 9) nd rfl (.inl rfl)) pgs_nil))))))
        (pss_one (ps_if (pt_cmpR op_eq (pv 9) pe_int (nomark _))
          (pss_one (ps_asg (pe_ifExp (pt_cmp (pc_isN (pv 6))) (pe_tup pa_nil) (pe_tup (pa_cons (pv 6) (pa_cons (pv 7) pa_nil)))) (pg_sub (pv 3) (pv 8) set_list)))
          pss_nil)))
        pss_nil)))
    (pss_one (ps_ret (pe_callTy cr_tupOf (by rfl) B.tuple (by decide +kernel) (pa_cons (pv 3) pa_nil))))), ?_⟩
  obtain ⟨sa, oa, xs, h1, h2, h3, h4⟩ := id ask.at_
  have hl4 := h4.length
  have hrn : rows.length ≤ 100 := by have := ask.ok.n40; have := ask.ok.rl; omega
  -- found = [None] * len(heap[0])
  refine ⟨(by show 1 ≤ sizeLine; decide), fun p1 hp1 => ?_⟩
  have s0 := same_new hp1 (.lst [V.non])
  refine ⟨_, rfl, ha, _, 0, _, rfl, rfl, SqT.of (s0 _ _ h1), rfl, sa, _, rfl, .inr (SqT.of (s0 _ _ h2)), p1, _, _, rfl, rfl, upd_same, by omega, by omega, by rw [hl4, Int.toNat_natCast, sizeLine_eq]; simp; omega, fun fl hfl => ?_⟩
  have efl : (List.replicate ((xs.length : Int)).toNat [V.non]).flatten = List.replicate rows.length V.non := by
    rw [Int.toNat_natCast, hl4]
    simp
  rw [efl]
  have hfl0 : H fl = none := s0.free hfl
  have s1 := s0.trans (same_new hfl (.lst (List.replicate rows.length V.non)))
  -- for label, *details in trace(..)
  refine ⟨_, rfl, _, rfl, _, rfl, rfl, rfl, ha, rows, out, u, L, s, rfl, ask.same s1, hrun, fun t es H1 s2 ht0 ht1 hev hel => ?_⟩
  have hfe : fl ≠ t := fun e => by rw [← e, upd_same] at ht0; cases ht0
  have hlen := hev.length
  refine ⟨t, rfl, ⟨_, SqL.of ht1⟩, for_list (K := K) (a := t) (xs := es) (fun i σ H' => ∃ (x4 x5 x6 x7 x8 x9 : Option V) (xs : List V), σ = [some (.ref ha), some (natV u), some (natV L), some (.ref fl), x4, x5, x6, x7, x8, x9] ∧ Same H H' ∧ H' t = some (.lst es) ∧ H' fl = some (.lst xs) ∧ Paired (TrAt H') xs (treeOf rows.length (s.ev.take i)) ∧ Paired (EvAt H') es s.ev)
    ⟨none, none, none, none, none, none, _, rfl, s1.trans s2, ht1, s2 _ _ upd_same, paired_repl H1 _, hev⟩ (fun i σ H' _ ⟨_, _, _, _, _, _, _, _, _, z, _⟩ => SqL.of z) ?_ ?_⟩
  · rintro i x σ H' hx ⟨x4, x5, x6, x7, x8, x9, ys, rfl, k1, k2, k3, k4, k5⟩
    obtain ⟨e, he, tp, rfl, htp⟩ := paired_getL k5 hx
    have hn := tree_next (n := rows.length) he
    have htlen := treeOf_len rows.length (s.ev.take i)
    have hylen := k4.length
    -- a heap that grew by new objects
    have grow : ∀ {H2 : Hp}, Same H' H2 → Same H H2 ∧ H2 t = some (.lst es) ∧ H2 fl = some (.lst ys) ∧ Paired (TrAt H2) ys (treeOf rows.length (s.ev.take i)) ∧ Paired (EvAt H2) es s.ev := fun {H2} z =>
      ⟨k1.trans z, z _ _ k2, z _ _ k3, L2.Paired.mapP k4 fun _ _ q => q.mono fun b zs e' => z _ _ e', L2.Paired.mapP k5 fun _ _ q => q.mono fun b zs e' => z _ _ e'⟩
    have quiet : ∀ {H2 : Hp} {y4 y5 y6 y7 y8 y9 : Option V}, Same H' H2 → treeOf rows.length (s.ev.take (i + 1)) = treeOf rows.length (s.ev.take i) →
        ∃ (x4 x5 x6 x7 x8 x9 : Option V) (xs : List V), ([some (.ref ha), some (natV u), some (natV L), some (.ref fl), y4, y5, y6, y7, y8, y9] : L2.St) = [some (.ref ha), some (natV u), some (natV L), some (.ref fl), x4, x5, x6, x7, x8, x9] ∧ Same H H2 ∧ H2 t = some (.lst es) ∧ H2 fl = some (.lst xs) ∧ Paired (TrAt H2) xs (treeOf rows.length (s.ev.take (i + 1))) ∧ Paired (EvAt H2) es s.ev := by
      intro H2 y4 y5 y6 y7 y8 y9 z e
      obtain ⟨a1, a2, a3, a4, a5⟩ := grow z
      rw [e]
      exact ⟨y4, y5, y6, y7, y8, y9, ys, rfl, a1, a2, a3, a4, a5⟩
    cases e with
    | des v d =>
      refine ⟨tp, _, _, rfl, SqT.of htp, fun D hD => ⟨_, _, rfl, _, _, rfl, rfl, ?_⟩⟩
      exact ⟨_, rfl, rfl, _, rfl, ite2 (fun c => absurd (of_decide_eq_true c) (by decide +kernel)) (fun _ => quiet (same_new hD _) hn)⟩
    | shl v l =>
      refine ⟨tp, _, _, rfl, SqT.of htp, fun D hD => ⟨_, _, rfl, _, _, rfl, rfl, ?_⟩⟩
      exact ⟨_, rfl, rfl, _, rfl, ite2 (fun c => absurd (of_decide_eq_true c) (by decide +kernel)) (fun _ => quiet (same_new hD _) hn)⟩
    | tak v l =>
      refine ⟨tp, _, _, rfl, SqT.of htp, fun D hD => ⟨_, _, rfl, _, _, rfl, rfl, ?_⟩⟩
      exact ⟨_, rfl, rfl, _, rfl, ite2 (fun c => absurd (of_decide_eq_true c) (by decide +kernel)) (fun _ => quiet (same_new hD _) hn)⟩
    | rel hs v c =>
      have hv : v < rows.length := hevu hs v c (List.mem_of_getElem? he)
      refine ⟨tp, _, _, rfl, SqT.of htp, fun D hD => ⟨_, _, rfl, _, _, rfl, rfl, ?_⟩⟩
      refine ⟨_, rfl, rfl, _, rfl, ite2 (fun _ => ?_) (fun c => absurd (decide_eq_true rfl) c)⟩
      refine ⟨_, rfl, D, _, rfl, SqL.of upd_same, rfl, _, _, rfl, _, _, rfl, _, _, rfl, _, _, rfl, rfl, ?_⟩
      refine ⟨_, rfl, rfl, _, rfl, ite2 (fun hc => ?_) (fun hc => ?_)⟩
      · have hc : c = 0 := V.int.inj (of_decide_eq_true hc)
        subst hc
        have en : treeOf rows.length (s.ev.take (i + 1)) = (treeOf rows.length (s.ev.take i)).set v (some hs) := by rw [hn]; simp [treeF]
        have sD := same_new hD (.lst [hV hs, kV' hs, natV v, V.int 0])
        have fin : ∀ {H2 : Hp} {y : V} {z4 z5 z6 z7 z8 z9 : Option V}, Same H' H2 → TrAt H2 y (some hs) →
            ∃ (x4 x5 x6 x7 x8 x9 : Option V) (xs : List V), ([some (.ref ha), some (natV u), some (natV L), some (.ref fl), z4, z5, z6, z7, z8, z9] : L2.St) = [some (.ref ha), some (natV u), some (natV L), some (.ref fl), x4, x5, x6, x7, x8, x9] ∧ Same H (upd H2 fl (.lst (ys.set v y))) ∧ (upd H2 fl (.lst (ys.set v y))) t = some (.lst es) ∧ (upd H2 fl (.lst (ys.set v y))) fl = some (.lst xs) ∧ Paired (TrAt (upd H2 fl (.lst (ys.set v y)))) xs (treeOf rows.length (s.ev.take (i + 1))) ∧ Paired (EvAt (upd H2 fl (.lst (ys.set v y)))) es s.ev := by
          intro H2 y z4 z5 z6 z7 z8 z9 z hy
          obtain ⟨a1, a2, a3, a4, a5⟩ := grow z
          have kt : ∀ (b : Addr) (zs : List V), H2 b = some (.tup zs) → (upd H2 fl (.lst (ys.set v y))) b = some (.tup zs) := fun b zs e' => (upd_ne (ne_of e' a3 (fun q => by cases q))).trans e'
          refine ⟨z4, z5, z6, z7, z8, z9, _, rfl, same_upd hfl0 a1, (upd_ne hfe.symm).trans a2, upd_same, ?_, L2.Paired.mapP a5 fun _ _ q => q.mono kt⟩
          rw [en]
          exact paired_set v (L2.Paired.mapP a4 fun _ _ q => q.mono kt) (hy.mono kt)
        have hset : ∀ {H2 : Hp}, Same H' H2 → H2 fl = some (.lst ys) := fun z => z _ _ k3
        have hix : ixN ys.length (v : Int) = some v := ixN_nat (by rw [hylen, htlen]; exact hv)
        refine ⟨_, rfl, _, rfl, ?_⟩
        cases hs with
        | none =>
          refine iteT ⟨Nat.zero_le _, fun p hp => ?_⟩
          have sp := sD.trans (same_new hp (.tup []))
          exact ⟨_, rfl, _, rfl, fl, _, (v : Int), v, rfl, rfl, hset sp, hix, fin sp ⟨p, rfl, upd_same⟩⟩
        | some pr =>
          refine iteF ⟨_, rfl, _, rfl, (by show 2 ≤ sizeLine; decide), fun p hp => ?_⟩
          have sp := sD.trans (same_new hp (.tup [natV pr.1, natV pr.2]))
          exact ⟨_, rfl, _, rfl, fl, _, (v : Int), v, rfl, rfl, hset sp, hix, fin sp ⟨p, rfl, upd_same⟩⟩
      · have hc : c ≠ 0 := fun e => by subst e; exact hc (decide_eq_true rfl)
        exact quiet (same_new hD _) (by rw [hn]; simp [treeF, hc])
  · rintro σ H' ⟨x4, x5, x6, x7, x8, x9, ys, rfl, k1, k2, k3, k4, k5⟩
    rw [hlen, List.take_length] at k4
    refine ⟨_, rfl, fl, _, rfl, .inl ⟨SqL.of k3, fun l hl => ?_⟩⟩
    exact q l ys _ (k1.trans (same_new hl _)) upd_same (L2.Paired.mapP k4 fun _ _ q => q.mono fun b zs e' => (same_new hl _) _ _ e')
end
end SW

/-! The pen: its making, a draw, an insertion. -/
namespace SW
open PySem PySem.Spec PyProof.Rows L2 WR SF
/-- a pen at p with its cells at a; c draws are left -/
def Pen (H : Hp) (p a : Addr) (c : Nat) : Prop := ∃ (ns : List Int) (t : Nat) (b : Int), H p = some (.lst [.ref a, natV t, .int b]) ∧ H a = some (.lst (ns.map V.int)) ∧ t + c ≤ 1000
theorem Pen.ne {H : Hp} {p a : Addr} {c : Nat} (h : Pen H p a c) : p ≠ a := by
  obtain ⟨ns, t, b, h1, h2, _⟩ := h
  refine ne_of h1 h2 (fun e => ?_)
  cases ns with
  | nil => cases e
  | cons n r => injection e with e; injection e with e1 _; cases e1
theorem Pen.mono {H : Hp} {p a : Addr} {c d : Nat} (h : Pen H p a c) (hd : d ≤ c) : Pen H p a d := by
  obtain ⟨ns, t, b, h1, h2, h3⟩ := h
  exact ⟨ns, t, b, h1, h2, by omega⟩
theorem Pen.keep {H H' : Hp} {p a : Addr} {c : Nat} (h : Pen H p a c) (kp : ∀ o, H p = some o → H' p = some o) (ka : ∀ o, H a = some o → H' a = some o) : Pen H' p a c := by
  obtain ⟨ns, t, b, h1, h2, h3⟩ := h
  exact ⟨ns, t, b, kp _ h1, ka _ h2, h3⟩
/-- all but the pen is kept -/
def But (p : Addr) (H H' : Hp) : Prop := ∀ b o, H b = some o → b ≠ p → H' b = some o
theorem But.refl (p : Addr) (H : Hp) : But p H H := fun _ _ h _ => h
theorem But.trans {p : Addr} {H H1 H2 : Hp} (h : But p H H1) (g : But p H1 H2) : But p H H2 := fun b o e n => g b o (h b o e n) n
theorem But.same {p : Addr} {H H1 : Hp} (h : Same H H1) : But p H H1 := fun b o e _ => h b o e
theorem But.put {p : Addr} {H : Hp} {o : HO} : But p H (upd H p o) := fun b u e n => (upd_ne n).trans e
def spPen : PySem.W.Frag → Sp := fun K vs H Q _ => ∃ (a : Addr) (ns : List Int), vs = [.ref a] ∧ SqL K H a (ns.map V.int) ∧ ∀ p a' H', H p = none → Same H H' → Pen H' p a' 1000 → Q (.ref p) H'
def spDraw : Sp := fun vs H Q _ => ∃ (p a : Addr) (m c : Nat), vs = [.ref p, natV m] ∧ 0 < m ∧ m ≤ 1000 ∧ Pen H p a (c + 1) ∧ ∀ (r : Nat) H', r < m → Pen H' p a c → But p H H' → Q (natV r) H'
def spPut : Sp := fun vs H Q _ => ∃ (p a r : Addr) (row : Rw) (o : Option Nat) (c : Nat), vs = [.ref p, .ref r, slotV o] ∧ Pen H p a (c + 1) ∧ H r = some (.lst (rowV row)) ∧ row.length ≤ 40 ∧ r ≠ p ∧ r ≠ a ∧
  ∀ (row' : Rw) H', row'.length ≤ 40 → (∀ x, x ∈ row' → x ∈ row ∨ x = o) → H' r = some (.lst (rowV row')) → Pen H' p a c → (∀ b u, H b = some u → b ≠ p → b ≠ r → H' b = some u) → Q .non H'
theorem fm_nat {x : Int} {m : Nat} (h : 0 < m) : ∃ r : Nat, r < m ∧ x.fmod (m : Int) = (r : Int) := by
  have h1 : 0 ≤ x.fmod (m : Int) := Int.fmod_nonneg_of_pos _ (by omega)
  have h2 : x.fmod (m : Int) < (m : Int) := Int.fmod_lt_of_pos _ (by omega)
  exact ⟨(x.fmod (m : Int)).toNat, by omega, by omega⟩
theorem cut_ints (ns : List Int) (lo hi : Option Int) : ∃ ns' : List Int, cutV (ns.map V.int) lo hi = ns'.map V.int := by
  unfold cutV
  refine ⟨(ns.drop (HT.sIx (ns.map V.int).length 0 lo)).take (HT.sIx (ns.map V.int).length (ns.map V.int).length hi - HT.sIx (ns.map V.int).length 0 lo), ?_⟩
  rw [← List.map_drop, ← List.map_take]
section
variable {P : Program} {w : World} {K : PySem.W.Frag} {mg : Str → Option Value} {base : Heap}
theorem scPen : FnScope ["_law_script"] ["_law_script"] (defScope sPen) := ⟨rfl, rfl, rfl, by decide +kernel, rfl, by decide +kernel, by decide +kernel⟩
theorem ok_pen (B : Blt mg) (D : DefIn K mg "_law_pen" sPen ["_law_script"]) : Cal P w K mg base 1 "_law_pen" ["_law_script"] (spPen K) := by
  obtain ⟨f, fd, hm, F, hb⟩ := D
  refine ⟨f, fd, hm, F.kp, hb, F.ok scPen (fun vs H Q E h => ?_) (fun cdv A outer st H vs Q E hr h => ?_)⟩
  · obtain ⟨_, _, rfl, _⟩ := h; rfl
  obtain ⟨a, ns, rfl, hS, q⟩ := h
  refine ⟨_, pss_one (ps_ret (pe_lst (pa_cons (pe_callTy cr_listOf (by rfl) B.list (by decide +kernel) (pa_cons (pe_slice sl_list (pv 0) po_none (po_some pe_int)) pa_nil)) (pa_cons pe_int (pa_cons pe_int pa_nil))))), ?_⟩
  obtain ⟨ns', en⟩ := cut_ints ns none (some 63)
  refine ⟨_, rfl, _, rfl, a, _, rfl, hS, fun p1 hp1 => ?_⟩
  rw [en]
  refine ⟨p1, _, rfl, .inl (SqL.of upd_same), fun p2 hp2 => ⟨(by show 3 ≤ sizeLine; decide), fun p hp => ?_⟩⟩
  have s1 := (same_new hp1 (.lst (ns'.map V.int))).trans (same_new hp2 (.lst (ns'.map V.int)))
  refine q p p2 _ (s1.free hp) (s1.trans (same_new hp _)) ⟨ns', 0, 0, upd_same, ?_, by decide⟩
  exact (upd_ne (ne_of_none upd_same hp)).trans upd_same
theorem scDraw : FnScope ["_law_pen_here", "_law_many", "_law_digit", "_law_turn", "_law_cell", "_law_whole", "_law_mixed"] ["_law_pen_here", "_law_many"] (defScope sDraw) := ⟨rfl, rfl, rfl, by decide +kernel, rfl, by decide +kernel, by decide +kernel⟩
set_option maxHeartbeats 1000000 in
theorem ok_draw (B : Blt mg) (D : DefIn K mg "_law_draw" sDraw ["_law_pen_here", "_law_many"]) : Cal P w K mg base 1 "_law_draw" ["_law_pen_here", "_law_many"] spDraw := by
  obtain ⟨f, fd, hm, F, hb⟩ := D
  refine ⟨f, fd, hm, F.kp, hb, F.ok scDraw (fun vs H Q E h => ?_) (fun cdv A outer st H vs Q E hr h => ?_)⟩
  · obtain ⟨_, _, _, _, rfl, _⟩ := h; rfl
  obtain ⟨p, a, m, c, rfl, hm0, hm1, ⟨ns, t, b, h1, h2, h3⟩, q⟩ := h
  have nd := scDraw.nd
  have hpa : p ≠ a := Pen.ne ⟨ns, t, b, h1, h2, h3⟩
  refine ⟨_, pss_cons (ps_if (pt_cmpR op_gt (pe_ix ix_list (pv 0) pe_int (fun _ _ => rfl)) pe_int (nomark _))
      (pss_cons (ps_set (i := 2) nd rfl (.inl rfl) (pe_op op_modN (pe_ix ix_list (pv 0) pe_int (fun _ _ => rfl)) (pv 1)))
      (pss_cons (ps_asg (pe_op op_fdivN (pe_ix ix_list (pv 0) pe_int (fun _ _ => rfl)) (pv 1)) (pg_sub (pv 0) pe_int set_list))
      (pss_one (ps_ret (pv 2))))) pss_nil)
    (pss_cons (ps_set (i := 3) nd rfl (.inl rfl) (pe_ix ix_list (pv 0) pe_int (fun _ _ => rfl)))
    (pss_cons (ps_asg (pe_op op_add (pv 3) pe_int) (pg_sub (pv 0) pe_int set_list))
    (pss_cons (ps_set (i := 4) nd rfl (.inl rfl) (pe_op op_add (pe_op op_mul pe_int (pv 3)) pe_int))
    (C8.pss_cut (ps_if (pt_cmpR (op_neD hr.units) (pe_ix ix_list (pv 0) pe_int (fun _ _ => rfl)) (pe_lst pa_nil) (nomark _))
      (pss_one (ps_set (i := 4) nd rfl (.inl rfl) (pe_ix ix_list (pe_ix ix_list (pv 0) pe_int (fun _ _ => rfl)) (pe_op op_modN (pv 3) (pe_callB cr_lenS (by rfl) B.len (by decide +kernel) (pa_cons (pe_ix ix_list (pv 0) pe_int (fun _ _ => rfl)) pa_nil))) (fun _ _ => rfl)))) pss_nil)
    (C8.pss_cut (ps_if (PW.pt (pw_and (pt_cmpR op_lt (pv 3) (pe_callB cr_lenS (by rfl) B.len (by decide +kernel) (pa_cons (pe_ix ix_list (pv 0) pe_int (fun _ _ => rfl)) pa_nil)) (nomark _)) (pw_and1 (pt_cmpR op_ge (pe_callB call_abs (by rfl) B.abs (by decide +kernel) (pa_cons (pv 4) pa_nil)) (pe_op op_pow pe_int pe_int) (nomark _)))))
      (pss_cons (ps_set (i := 5) nd rfl (.inl rfl) (pe_op op_add (pe_op op_mul pe_int (pe_callB call_abs (by rfl) B.abs (by decide +kernel) (pa_cons (pv 4) pa_nil))) (pe_callTy call_int1 (by rfl) B.int (by decide +kernel) (pa_cons (pe_cmpR op_lt (pv 4) pe_int (nomark _)) pa_nil))))
      (pss_cons (ps_asg (pe_op op_fdivN (pv 5) (pv 1)) (pg_sub (pv 0) pe_int set_list))
      (pss_one (ps_ret (pe_op op_modN (pv 5) (pv 1)))))) pss_nil)
    (pss_cons (ps_set (i := 6) nd rfl (.inl rfl) (pe_op op_modN (pe_op op_pow (pe_op op_add (pe_op op_add (pe_op op_modN (pv 4) pe_int) (pe_op op_mul pe_int (pv 3))) pe_int) pe_int) pe_int))
    (pss_cons (ps_set (i := 6) nd rfl (.inl rfl) (pe_op op_modN (pe_op op_pow (pe_op op_add (pe_op op_add (pe_op op_mul (pv 6) (pe_op op_add (pe_op op_mul pe_int (pv 3)) pe_int)) (pe_op op_mul (pe_op op_mul pe_int (pv 3)) (pv 3))) pe_int) pe_int) pe_int))
    (pss_one (ps_ret (pe_op op_modN (pe_op op_fdivN (pv 6) pe_int) (pv 1)))))))))))
    , ?_⟩
  have hmz : ((m : Nat) : Int) ≠ 0 := by omega
  have hms : ((m : Nat) : Int).natAbs < 1073741824 := by omega
  refine ⟨_, rfl, p, _, 2, _, rfl, rfl, SqL.of h1, rfl, _, _, rfl, rfl, _, rfl, ?_⟩
  refine ite2 (fun c1 => ?_) (fun c1 => ?_)
  · obtain ⟨r, hr1, er⟩ := fm_nat (x := b) hm0
    refine ⟨_, rfl, p, _, 2, _, rfl, rfl, SqL.of h1, rfl, _, rfl, _, _, rfl, rfl, hmz, ?_⟩
    refine ⟨_, rfl, p, _, 2, _, rfl, rfl, SqL.of h1, rfl, _, rfl, _, _, rfl, rfl, ⟨hmz, hms⟩, _, rfl, p, _, 2, 2, rfl, rfl, h1, rfl, ?_⟩
    refine ⟨_, rfl, ?_⟩
    show Q (V.int (b.fmod (m : Int))) _
    rw [er]
    exact q r _ hr1 ⟨ns, t, b.fdiv m, upd_same, (upd_ne hpa.symm).trans h2, by omega⟩ But.put
  · refine ⟨_, rfl, p, _, 1, _, rfl, rfl, SqL.of h1, rfl, ?_⟩
    refine ⟨_, rfl, _, _, rfl, rfl, _, rfl, p, _, 1, 1, rfl, rfl, h1, rfl, ?_⟩
    have hb1 : But p H (upd H p (.lst [.ref a, .int ((t : Int) + 1), .int b])) := But.put
    have g1 : (upd H p (.lst [.ref a, .int ((t : Int) + 1), .int b])) p = some (.lst [.ref a, .int ((t : Int) + 1), .int b]) := upd_same
    have g2 : (upd H p (.lst [.ref a, .int ((t : Int) + 1), .int b])) a = some (.lst (ns.map V.int)) := (upd_ne hpa.symm).trans h2
    change L2.Ends.nx _ _ (upd H p (.lst [.ref a, .int ((t : Int) + 1), .int b]))
    generalize upd H p (.lst [.ref a, .int ((t : Int) + 1), .int b]) = H1 at hb1 g1 g2
    refine ⟨_, rfl, _, _, rfl, rfl, .inl ⟨by decide, by decide⟩, _, _, rfl, rfl, ?_⟩
    refine ⟨fun σ' H' => ∃ z : Int, σ' = [some (.ref p), some (natV m), none, some (natV t), some (.int z), none, none] ∧ Same H1 H', ?_, ?_⟩
    · refine ⟨_, rfl, p, _, 0, _, rfl, rfl, SqL.of g1, rfl, Nat.zero_le _, fun e he => ?_⟩
      have s1 := same_new he (.lst [])
      refine ⟨.list (ns.map PyData.int), .list [], .lst (SqL.of (s1 _ _ g2)) (dpAll_ints _), .lst (SqL.of upd_same) .nil, shaped_ints_list _, rfl, !ns.isEmpty, by rw [eqv_nil_list], ?_⟩
      cases hns : ns with
      | nil => exact iteF ⟨_, rfl, s1⟩
      | cons n0 rest =>
        obtain ⟨j, hj1, ej⟩ := fm_nat (x := (t : Int)) (m := ns.length) (by rw [hns]; simp)
        have hn0 : ((ns.map V.int).length : Int) ≠ 0 := by rw [hns]; simp; omega
        refine iteT ⟨_, rfl, p, _, 0, _, rfl, rfl, SqL.of (s1 _ _ g1), rfl, _, rfl, _, rfl, p, _, 0, _, rfl, rfl, SqL.of (s1 _ _ g1), rfl, a, _, rfl, .inl (SqL.of (s1 _ _ g2)), _, _, rfl, rfl, hn0, ?_⟩
        refine ⟨a, _, (j : Int), .int ns[j], rfl, ?_, SqL.of (s1 _ _ g2), atI_nat (by rw [List.getElem?_map, List.getElem?_eq_getElem hj1]; rfl), _, rfl, s1⟩
        rw [List.length_map]
        exact congrArg V.int ej
    · rintro σ' H2 ⟨z, rfl, s2⟩
      have k1 := s2 _ _ g1
      have k2 := s2 _ _ g2
      have hb2 : But p H H2 := hb1.trans (But.same s2)
      have fin : ∀ x : Int, Q (V.int (x.fmod (m : Int))) H2 := fun x => by
        obtain ⟨r, hr1, er⟩ := fm_nat (x := x) hm0
        rw [er]
        exact q r H2 hr1 ⟨ns, t + 1, b, k1, k2, by omega⟩ hb2
      -- the great cell
      refine ⟨fun σ' H' => σ' = [some (.ref p), some (natV m), none, some (natV t), some (.int z), none, none] ∧ H' = H2, ?_, ?_⟩
      · refine ⟨_, rfl, _, rfl, p, _, 0, _, rfl, rfl, SqL.of k1, rfl, a, _, rfl, .inl (SqL.of k2), _, _, rfl, rfl, _, rfl, ?_⟩
        refine ite2 (fun _ => ?_) (fun _ => iteF ⟨rfl, rfl⟩)
        refine ⟨_, rfl, _, rfl, _, _, rfl, rfl, ⟨by decide, by decide, by decide⟩, _, _, rfl, rfl, _, rfl, ?_⟩
        refine ite2 (fun _ => ?_) (fun _ => ⟨rfl, rfl⟩)
        refine ⟨_, rfl, _, rfl, _, _, rfl, rfl, .inl ⟨by decide, by decide⟩, _, rfl, _, _, rfl, rfl, .inr ⟨_, rfl, _, _, rfl, rfl, ?_⟩⟩
        refine ⟨_, rfl, _, rfl, _, _, rfl, rfl, ⟨hmz, hms⟩, _, rfl, p, _, 2, 2, rfl, rfl, k1, rfl, ?_⟩
        refine ⟨_, rfl, _, rfl, _, _, rfl, rfl, hmz, ?_⟩
        obtain ⟨r, hr1, er⟩ := fm_nat (x := 2 * (if z < 0 then -z else z) + (if decide (z < 0) = true then 1 else 0)) hm0
        show Q (V.int ((2 * (if z < 0 then -z else z) + (if decide (z < 0) = true then 1 else 0)).fmod (m : Int))) _
        rw [er]
        exact q r _ hr1 ⟨ns, t + 1, _, upd_same, (upd_ne hpa.symm).trans k2, by omega⟩ (hb2.trans But.put)
      · rintro σ' H3 ⟨rfl, rfl⟩
        have ht : t ≤ 1000 := by omega
        -- mixed
        obtain ⟨y1, hy1, ey1⟩ := fm_nat (x := z) (m := 2147483629) (by decide)
        refine ⟨_, rfl, _, _, rfl, rfl, (by decide : (2147483629 : Int) ≠ 0), _, rfl, _, _, rfl, rfl, .inl ⟨by decide, by decide⟩, _, _, rfl, rfl, _, _, rfl, rfl, _, _, rfl, rfl, ⟨by decide, by decide, ?_⟩, _, _, rfl, rfl, (by decide : (2147483587 : Int) ≠ 0), ?_⟩
        · show (z.fmod (2147483629 : Int) + 52067 * (t : Int) + 23).natAbs < 2 ^ 64
          have ey1' : z.fmod (2147483629 : Int) = (y1 : Int) := ey1
          rw [ey1']
          omega
        obtain ⟨y2, hy2, ey2⟩ := fm_nat (x := (z.fmod (2147483629 : Int) + 52067 * (t : Int) + 23) ^ (3 : Int).toNat) (m := 2147483587) (by decide)
        refine ⟨_, rfl, _, rfl, _, _, rfl, rfl, .inl ⟨by decide, by decide⟩, _, _, rfl, rfl, _, _, rfl, rfl, .inl ⟨?_, ?_⟩, _, rfl, _, _, rfl, rfl, .inl ⟨by decide, by decide⟩, _, rfl, _, _, rfl, rfl, .inr ⟨?_, ?_⟩, _, _, rfl, rfl, _, _, rfl, rfl, _, _, rfl, rfl, ⟨by decide, by decide, ?_⟩, _, _, rfl, rfl, (by decide : (2147483563 : Int) ≠ 0), ?_⟩
        · show -2 ^ 64 < ((z.fmod (2147483629 : Int) + 52067 * (t : Int) + 23) ^ (3 : Int).toNat).fmod (2147483587 : Int)
          have ey2' : ((z.fmod (2147483629 : Int) + 52067 * (t : Int) + 23) ^ (3 : Int).toNat).fmod (2147483587 : Int) = (y2 : Int) := ey2
          rw [ey2']
          omega
        · show ((z.fmod (2147483629 : Int) + 52067 * (t : Int) + 23) ^ (3 : Int).toNat).fmod (2147483587 : Int) < 2 ^ 64
          have ey2' : ((z.fmod (2147483629 : Int) + 52067 * (t : Int) + 23) ^ (3 : Int).toNat).fmod (2147483587 : Int) = (y2 : Int) := ey2
          rw [ey2']
          omega
        · show -2 ^ 64 < (t : Int)
          omega
        · show (t : Int) < 2 ^ 64
          omega
        · show (((z.fmod (2147483629 : Int) + 52067 * (t : Int) + 23) ^ (3 : Int).toNat).fmod (2147483587 : Int) * (2 * (t : Int) + 43) + 30011 * (t : Int) * (t : Int) + 7).natAbs < 2 ^ 64
          have ey2' : ((z.fmod (2147483629 : Int) + 52067 * (t : Int) + 23) ^ (3 : Int).toNat).fmod (2147483587 : Int) = (y2 : Int) := ey2
          rw [ey2']
          have b1 : y2 * (2 * t + 43) ≤ 2147483587 * 2043 := Nat.mul_le_mul (by omega) (by omega)
          have b2 : 30011 * t * t ≤ 30011 * 1000 * 1000 := Nat.mul_le_mul (by omega) ht
          have e : (y2 : Int) * (2 * (t : Int) + 43) + 30011 * (t : Int) * (t : Int) + 7 = ((y2 * (2 * t + 43) + 30011 * t * t + 7 : Nat) : Int) := by push_cast; rfl
          rw [e, Int.natAbs_natCast]
          omega
        refine ⟨_, rfl, _, _, rfl, rfl, ⟨by decide, by decide⟩, _, rfl, _, _, rfl, rfl, hmz, ?_⟩
        exact fin _
end
end SW

/-! An insertion. -/
namespace SW
open PySem PySem.Spec PyProof.Rows L2 WR SF
section
variable {P : Program} {w : World} {K : PySem.W.Frag} {mg : Str → Option Value} {base : Heap}
theorem scPut : FnScope ["_law_pen_here", "_law_row", "_law_held"] ["_law_pen_here", "_law_row", "_law_held"] (defScope sPut) := ⟨rfl, rfl, rfl, by decide +kernel, rfl, by decide +kernel, by decide +kernel⟩
theorem rowV_ins (row : Rw) (o : Option Nat) (i : Nat) : (rowV row).take i ++ [slotV o] ++ (rowV row).drop i = rowV (row.take i ++ [o] ++ row.drop i) := by
  unfold rowV
  rw [List.map_append, List.map_append, List.map_take, List.map_drop]; rfl
theorem ok_put (B : Blt mg) (G : Cal P w K mg base 1 "_law_draw" ["_law_pen_here", "_law_many"] spDraw) (D : DefIn K mg "_law_put_in" sPut ["_law_pen_here", "_law_row", "_law_held"]) :
    Cal P w K mg base 2 "_law_put_in" ["_law_pen_here", "_law_row", "_law_held"] spPut := by
  obtain ⟨f, fd, hm, F, hb⟩ := D
  refine ⟨f, fd, hm, F.kp, hb, F.ok scPut (fun vs H Q E h => ?_) (fun cdv A outer st H vs Q E hr h => ?_)⟩
  · obtain ⟨_, _, _, _, _, _, rfl, _⟩ := h; rfl
  obtain ⟨p, a, r, row, o, c, rfl, pen, hr0, hrl, hrp, hra, q⟩ := h
  refine ⟨_, pss_one (ps_if (pt_cmpR op_lt (pe_callB cr_lenS (by rfl) B.len (by decide +kernel) (pa_cons (pv 1) pa_nil)) pe_int (nomark _))
    (pss_one (ps_expr (pe_bm PySem.F.plainAttrs_list PySem.F.slot_list_insert PySem.F.type_list_insert mt_insert (pv 1) (pa_cons (pe_cal G hr rfl (pa_cons (pv 0) (pa_cons (pe_op op_add (pe_callB cr_lenS (by rfl) B.len (by decide +kernel) (pa_cons (pv 1) pa_nil)) pe_int) pa_nil))) (pa_cons (pv 2) pa_nil))))) pss_nil), ?_⟩
  have hl : (rowV row).length = row.length := by unfold rowV; rw [List.length_map]
  refine ⟨_, rfl, r, _, rfl, .inl (SqL.of hr0), _, _, rfl, rfl, _, rfl, ite2 (fun hc => ?_) (fun hc => ?_)⟩
  · have hc : (((rowV row).length : Nat) : Int) < 40 := of_decide_eq_true hc
    rw [hl] at hc
    refine ⟨_, rfl, .inl ⟨rfl, _, SqL.of hr0⟩, _, rfl, _, rfl, r, _, rfl, .inl (SqL.of hr0), _, _, rfl, rfl, ?_⟩
    refine ⟨p, a, row.length + 1, c, by rw [hl]; rfl, Nat.succ_pos _, by omega, pen, fun i H1 hi pen1 hb => ?_⟩
    have hr1 := hb _ _ hr0 hrp
    refine ⟨_, rfl, r, rowV row, (i : Int), slotV o, rfl, rfl, hr1, by rw [hl, sizeLine_eq]; omega, by omega, by omega, ?_⟩
    rw [Int.toNat_natCast, rowV_ins]
    refine q (row.take i ++ [o] ++ row.drop i) _ ?_ ?_ upd_same (pen1.keep (fun u e => (upd_ne hrp.symm).trans e) (fun u e => (upd_ne hra.symm).trans e)) (fun b u e hbp hbr => (upd_ne hbr).trans (hb _ _ e hbp))
    · simp; omega
    · intro x hx
      rcases List.mem_append.mp hx with hx | hx
      · rcases List.mem_append.mp hx with hx | hx
        · exact .inl (List.mem_of_mem_take hx)
        · exact .inr (List.mem_singleton.mp hx)
      · exact .inl (List.mem_of_mem_drop hx)
  · exact q row H (by omega) (fun x hx => .inl hx) hr0 (pen.mono (Nat.le_succ c)) (fun b u e _ _ => e)
end
end SW

/-! The pile under way, and its joins. -/
namespace SW
open PySem PySem.Spec PyProof.Rows L2 WR SF
def adV : Option Addr → V
  | none => .non
  | some q => .ref q
def RowOk (H : Hp) (lv : List Nat) (q : Addr) : Prop := ∃ row : Rw, H q = some (.lst (rowV row)) ∧ row.length ≤ 40 ∧ ∀ v, some v ∈ row → v ∈ lv
structure GS (H : Hp) (p a ra la fa : Addr) (n c : Nat) (lv : List Nat) (adr : List (Option Addr)) (refs : List Nat) : Prop where
  pen : Pen H p a c
  hra : H ra = some (.lst (adr.map adV))
  hla : H la = some (.lst (lv.map natV))
  hfa : H fa = some (.lst (refs.map natV))
  fne : fa ≠ p ∧ fa ≠ a ∧ fa ≠ ra ∧ fa ≠ la
  pne : p ≠ ra ∧ p ≠ la
  rows : ∀ q, some q ∈ adr → q ≠ p ∧ q ≠ a ∧ q ≠ ra ∧ q ≠ la ∧ q ≠ fa ∧ RowOk H lv q
  n40 : n ≤ 40
  al : adr.length = n
  rl : refs.length = n
  lvn : ∀ v, v ∈ lv → v < n ∧ ∃ q, adr[v]? = some (some q)
  l40 : lv.length ≤ 40
  l0 : 0 < lv.length
  ref0 : ∀ v0, lv[0]? = some v0 → ∃ r, refs[v0]? = some r ∧ 0 < r
variable {H H' : Hp} {p a ra la fa : Addr} {n c d : Nat} {lv : List Nat} {adr : List (Option Addr)} {refs : List Nat}
theorem GS.mono (g : GS H p a ra la fa n c lv adr refs) (h : d ≤ c) : GS H p a ra la fa n d lv adr refs :=
  { g with pen := g.pen.mono h }
theorem GS.move (g : GS H p a ra la fa n c lv adr refs) (pen : Pen H' p a d) (k : But p H H') : GS H' p a ra la fa n d lv adr refs :=
  { g with
    pen := pen
    hra := k _ _ g.hra g.pne.1.symm
    hla := k _ _ g.hla g.pne.2.symm
    hfa := k _ _ g.hfa g.fne.1
    rows := fun q hq => by
      obtain ⟨h1, h2, h3, h4, h5, row, h6, h7, h8⟩ := g.rows q hq
      exact ⟨h1, h2, h3, h4, h5, row, k _ _ h6 h1, h7, h8⟩ }
theorem GS.same (g : GS H p a ra la fa n c lv adr refs) (k : Same H H') : GS H' p a ra la fa n c lv adr refs :=
  g.move (g.pen.keep (fun _ e => k _ _ e) (fun _ e => k _ _ e)) (But.same k)
theorem GS.put {q : Addr} {row' : Rw} (g : GS H p a ra la fa n c lv adr refs) (hq : some q ∈ adr) (pen : Pen H' p a d) (hr : H' q = some (.lst (rowV row'))) (hl : row'.length ≤ 40) (hv : ∀ v, some v ∈ row' → v ∈ lv)
    (k : ∀ b u, H b = some u → b ≠ p → b ≠ q → H' b = some u) : GS H' p a ra la fa n d lv adr refs := by
  obtain ⟨q1, q2, q3, q4, q5, _⟩ := g.rows q hq
  exact { g with
    pen := pen
    hra := k _ _ g.hra g.pne.1.symm q3.symm
    hla := k _ _ g.hla g.pne.2.symm q4.symm
    hfa := k _ _ g.hfa g.fne.1 q5.symm
    rows := fun q' hq' => by
      obtain ⟨h1, h2, h3, h4, h5, row, h6, h7, h8⟩ := g.rows q' hq'
      by_cases e : q' = q
      · subst e; exact ⟨h1, h2, h3, h4, h5, row', hr, hl, hv⟩
      · exact ⟨h1, h2, h3, h4, h5, row, k _ _ h6 h1 e, h7, h8⟩ }
theorem GS.ref {v r : Nat} (g : GS H p a ra la fa n c lv adr refs) (hr : 0 < r) : GS (upd H fa (.lst ((refs.set v r).map natV))) p a ra la fa n c lv adr (refs.set v r) :=
  { g with
    pen := g.pen.keep (fun _ e => (upd_ne g.fne.1.symm).trans e) (fun _ e => (upd_ne g.fne.2.1.symm).trans e)
    hra := (upd_ne g.fne.2.2.1.symm).trans g.hra
    hla := (upd_ne g.fne.2.2.2.symm).trans g.hla
    hfa := upd_same
    rows := fun q' hq' => by
      obtain ⟨h1, h2, h3, h4, h5, row, h6, h7, h8⟩ := g.rows q' hq'
      exact ⟨h1, h2, h3, h4, h5, row, (upd_ne h5).trans h6, h7, h8⟩
    rl := by rw [List.length_set]; exact g.rl
    ref0 := fun v0 h0 => by
      obtain ⟨s, h1, h2⟩ := g.ref0 v0 h0
      by_cases e : v = v0
      · subst e
        exact ⟨r, List.getElem?_set_self (List.getElem?_eq_some_iff.mp h1).1, hr⟩
      · exact ⟨s, by rw [List.getElem?_set_ne e]; exact h1, h2⟩ }
def spJoin : Sp := fun vs H Q _ => ∃ (p a ra la fa : Addr) (n c : Nat) (lv : List Nat) (adr : List (Option Addr)) (refs : List Nat), vs = [.ref p, .ref ra, .ref la, .ref fa] ∧ GS H p a ra la fa n (c + 57) lv adr refs ∧
  ∀ refs' H', GS H' p a ra la fa n c lv adr refs' → Q .non H'
section
variable {P : Program} {w : World} {K : PySem.W.Frag} {mg : Str → Option Value} {base : Heap}
theorem scJoin : FnScope ["_law_pen_here", "_law_rows", "_law_live", "_law_references", "_law_k", "_law_way", "_law_ends", "_law_low", "_law_high"] ["_law_pen_here", "_law_rows", "_law_live", "_law_references"] (defScope sJoin) := ⟨rfl, rfl, rfl, by decide +kernel, rfl, by decide +kernel, by decide +kernel⟩
theorem pick4 {r : Nat} (h : r < 4) (xs : List V) (hl : xs.length = 4) : ∃ x, x ∈ xs ∧ atI xs (r : Int) = some x := by
  have hr : r < xs.length := by omega
  exact ⟨xs[r], List.getElem_mem hr, atI_nat (List.getElem?_eq_getElem hr)⟩
set_option maxHeartbeats 1000000 in
theorem ok_join (B : Blt mg) (G : Cal P w K mg base 1 "_law_draw" ["_law_pen_here", "_law_many"] spDraw) (GP : Cal P w K mg base 2 "_law_put_in" ["_law_pen_here", "_law_row", "_law_held"] spPut) (D : DefIn K mg "_law_joined" sJoin ["_law_pen_here", "_law_rows", "_law_live", "_law_references"]) :
    Cal P w K mg base 3 "_law_joined" ["_law_pen_here", "_law_rows", "_law_live", "_law_references"] spJoin := by
  obtain ⟨f, fd, hm, F, hb⟩ := D
  refine ⟨f, fd, hm, F.kp, hb, F.ok scJoin (fun vs H Q E h => ?_) (fun cdv A outer st H vs Q E hr h => ?_)⟩
  · obtain ⟨_, _, _, _, _, _, _, _, _, _, rfl, _⟩ := h; rfl
  obtain ⟨p, a, ra, la, fa, n, c, lv, adr, refs, rfl, g, q⟩ := h
  have nd := scJoin.nd
  have hr1 := hr.mono (show 1 ≤ 2 by decide)
  have hr0 := hr.mono (show 2 ≤ 2 by decide)
  refine ⟨_, pss_one (ps_for PassesOwn.never rfl (pi_range1 rfl B.range (pa_cons (pe_ix ix_list (pe_lst (pa_cons pe_int (pa_cons pe_int (pa_cons pe_int (pa_cons pe_int pa_nil))))) (pe_cal G hr1 rfl (pa_cons (pv 0) (pa_cons pe_int pa_nil))) (fun _ _ => rfl)) pa_nil)) (pg_name (i := 4) nd rfl (.inl rfl))
    (pss_cons (ps_set (i := 5) nd rfl (.inl rfl) (pe_cal G hr1 rfl (pa_cons (pv 0) (pa_cons pe_int pa_nil))))
    (pss_cons (ps_set (i := 6) nd rfl (.inl rfl) (pe_callB cr_sorted (by rfl) B.sorted (by decide +kernel) (pa_cons (pe_lst
        (pa_cons (pe_cal G hr1 rfl (pa_cons (pv 0) (pa_cons (pe_callB cr_lenS (by rfl) B.len (by decide +kernel) (pa_cons (pv 2) pa_nil)) pa_nil)))
        (pa_cons (pe_cal G hr1 rfl (pa_cons (pv 0) (pa_cons (pe_callB cr_lenS (by rfl) B.len (by decide +kernel) (pa_cons (pv 2) pa_nil)) pa_nil))) pa_nil))) pa_nil)))
    (pss_cons (ps_set (i := 7) nd rfl (.inl rfl) (pe_ix ix_list (pv 2) (pe_ix ix_list (pv 6) pe_int (fun _ _ => rfl)) (fun _ _ => rfl)))
    (pss_cons (ps_set (i := 8) nd rfl (.inl rfl) (pe_ix ix_list (pv 2) (pe_ix ix_list (pv 6) pe_int (fun _ _ => rfl)) (fun _ _ => rfl)))
    (pss_one (ps_if (pt_cmpR op_eq (pv 5) pe_int (nomark _))
      (pss_one (ps_asg (pe_callB (call_min2 rfl) (by rfl) B.min (by decide +kernel) (pa_cons pe_int (pa_cons (pe_op op_add (pe_ix ix_list (pv 3) (pv 8) (fun _ _ => rfl)) pe_int) pa_nil))) (pg_sub (pv 3) (pv 8) set_list)))
      (pss_one (ps_if (pt_cmpR op_eq (pv 5) pe_int (nomark _))
        (pss_one (ps_expr (pe_cal GP hr0 rfl (pa_cons (pv 0) (pa_cons (pe_ix ix_list (pv 1) (pv 8) (fun _ _ => rfl)) (pa_cons (pv 7) pa_nil))))))
        (pss_one (ps_if (pt_cmpR op_eq (pv 5) pe_int (nomark _))
          (pss_one (ps_expr (pe_cal GP hr0 rfl (pa_cons (pv 0) (pa_cons (pe_ix ix_list (pv 1) (pv 7) (fun _ _ => rfl)) (pa_cons pe_non pa_nil))))))
          (pss_one (ps_if (pt_cmpR op_ne (pv 7) (pv 8) (nomark _))
            (pss_one (ps_expr (pe_cal GP hr0 rfl (pa_cons (pv 0) (pa_cons (pe_ix ix_list (pv 1) (pv 7) (fun _ _ => rfl)) (pa_cons (pv 8) pa_nil))))))
            pss_nil))))))))))))), ?_⟩
  refine ⟨(by show 4 ≤ sizeLine; decide), fun p1 hp1 => ?_⟩
  have s1 := same_new hp1 (.lst [V.int 0, V.int 2, V.int 5, V.int 14])
  have g1 := g.same s1
  refine ⟨_, rfl, p, a, 4, c + 56, rfl, by decide, by decide, g1.pen, fun r H1 hr4 pen1 b1 => ?_⟩
  have hp1p : p1 ≠ p := fun e => by
    obtain ⟨_, _, _, h, _⟩ := g.pen
    rw [← e, hp1] at h; cases h
  have g2 := g1.move pen1 b1
  obtain ⟨x, hx, ex⟩ := pick4 hr4 [V.int 0, V.int 2, V.int 5, V.int 14] rfl
  have hm : ∃ m : Nat, x = V.int (m : Int) ∧ m ≤ 14 := by
    simp only [List.mem_cons, List.not_mem_nil, or_false] at hx
    rcases hx with rfl | rfl | rfl | rfl
    · exact ⟨0, rfl, by decide⟩
    · exact ⟨2, rfl, by decide⟩
    · exact ⟨5, rfl, by decide⟩
    · exact ⟨14, rfl, by decide⟩
  obtain ⟨m, rfl, hm14⟩ := hm
  refine ⟨p1, _, (r : Int), _, rfl, rfl, SqL.of (b1 _ _ upd_same hp1p), ex, _, rfl, by omega, by omega, ?_⟩
  rw [Int.toNat_natCast]
  refine for_range (lo := 0) (n := m) (fun i σ H' => ∃ (x4 x5 x6 x7 x8 : Option V) (refs' : List Nat), σ = [some (.ref p), some (.ref ra), some (.ref la), some (.ref fa), x4, x5, x6, x7, x8] ∧ GS H' p a ra la fa n (c + 4 * (m - i)) lv adr refs')
    ⟨none, none, none, none, none, refs, rfl, g2.mono (by omega)⟩ ?_ (fun σ H' ⟨_, _, _, _, _, refs', _, z⟩ => q refs' H' (z.mono (by omega)))
  rintro i σ H' hi ⟨x4, x5, x6, x7, x8, refs', rfl, gi⟩
  have gi := gi.mono (show c + 4 * (m - (i + 1)) + 1 + 1 + 1 + 1 ≤ _ by omega)
  generalize c + 4 * (m - (i + 1)) = ci at gi ⊢
  have hlen : (lv.map natV).length = lv.length := List.length_map _
  refine ⟨_, rfl, p, a, 8, ci + 1 + 1 + 1, rfl, by decide, by decide, gi.pen, fun way H1 hw8 penA bA => ?_⟩
  have gA := gi.move penA bA
  refine ⟨_, rfl, _, rfl, la, _, rfl, .inl (SqL.of gA.hla), p, a, lv.length, ci + 1 + 1, by rw [hlen]; rfl, gA.l0, by have := gA.l40; omega, gA.pen, fun e1 H2 he1 penB bB => ?_⟩
  have gB := gA.move penB bB
  refine ⟨_, rfl, _, rfl, la, _, rfl, .inl (SqL.of gB.hla), p, a, lv.length, ci + 1, by rw [hlen]; rfl, gB.l0, by have := gB.l40; omega, gB.pen, fun e2 H3 he2 penC bC => ?_⟩
  have gC := gB.move penC bC
  refine ⟨(by show 2 ≤ sizeLine; decide), fun p2 hp2 => ?_⟩
  have gD := gC.same (same_new hp2 (.lst [natV e1, natV e2]))
  refine ⟨p2, [(e1 : Int), (e2 : Int)], rfl, SqL.of upd_same, by show 2 < 64; decide, fun ns' p3 hperm _ hp3 => ?_⟩
  have gE := gD.same (same_new hp3 (.lst (ns'.map V.int)))
  have hends : ∃ f1 f2 : Nat, ns' = [(f1 : Int), (f2 : Int)] ∧ f1 < lv.length ∧ f2 < lv.length := by
    have hl := hperm.length_eq
    match ns', hl with
    | [z1, z2], _ =>
      have m1 : z1 ∈ [(e1 : Int), (e2 : Int)] := hperm.mem_iff.mp (by simp)
      have m2 : z2 ∈ [(e1 : Int), (e2 : Int)] := hperm.mem_iff.mp (by simp)
      simp only [List.mem_cons, List.not_mem_nil, or_false] at m1 m2
      have f1 : ∃ f : Nat, z1 = (f : Int) ∧ f < lv.length := by
        rcases m1 with rfl | rfl
        · exact ⟨e1, rfl, he1⟩
        · exact ⟨e2, rfl, he2⟩
      have f2 : ∃ f : Nat, z2 = (f : Int) ∧ f < lv.length := by
        rcases m2 with rfl | rfl
        · exact ⟨e1, rfl, he1⟩
        · exact ⟨e2, rfl, he2⟩
      obtain ⟨f1, rfl, h1⟩ := f1
      obtain ⟨f2, rfl, h2⟩ := f2
      exact ⟨f1, f2, rfl, h1, h2⟩
  obtain ⟨f1, f2, rfl, hf1, hf2⟩ := hends
  have hp3s : (upd (upd H3 p2 (.lst [natV e1, natV e2])) p3 (.lst (([(f1 : Int), (f2 : Int)] : List Int).map V.int))) p3 = some (.lst [natV f1, natV f2]) := upd_same
  change L2.Ends.nx _ _ (upd (upd H3 p2 (.lst [natV e1, natV e2])) p3 (.lst (([(f1 : Int), (f2 : Int)] : List Int).map V.int)))
  generalize upd (upd H3 p2 (.lst [natV e1, natV e2])) p3 (.lst (([(f1 : Int), (f2 : Int)] : List Int).map V.int)) = H4 at gE hp3s
  refine ⟨_, rfl, _, rfl, p3, _, 0, _, rfl, rfl, SqL.of hp3s, rfl, la, _, f1, natV lv[f1], rfl, rfl, SqL.of gE.hla, atI_nat (by rw [List.getElem?_map, List.getElem?_eq_getElem hf1]; rfl), ?_⟩
  refine ⟨_, rfl, _, rfl, p3, _, 1, _, rfl, rfl, SqL.of hp3s, rfl, la, _, f2, natV lv[f2], rfl, rfl, SqL.of gE.hla, atI_nat (by rw [List.getElem?_map, List.getElem?_eq_getElem hf2]; rfl), ?_⟩
  have mlo : lv[f1] ∈ lv := List.getElem_mem hf1
  have mhi : lv[f2] ∈ lv := List.getElem_mem hf2
  generalize lv[f1] = lo at mlo ⊢
  generalize lv[f2] = hi2 at mhi ⊢
  obtain ⟨hlo, qlo, elo⟩ := gE.lvn lo mlo
  obtain ⟨hhi, qhi, ehi⟩ := gE.lvn hi2 mhi
  have fin : ∀ {H5 : Hp} {y4 y5 y6 y7 y8 : Option V} {refs5 : List Nat}, GS H5 p a ra la fa n ci lv adr refs5 →
      ∃ (x4 x5 x6 x7 x8 : Option V) (refs' : List Nat), ([some (.ref p), some (.ref ra), some (.ref la), some (.ref fa), y4, y5, y6, y7, y8] : L2.St) = [some (.ref p), some (.ref ra), some (.ref la), some (.ref fa), x4, x5, x6, x7, x8] ∧ GS H5 p a ra la fa n ci lv adr refs' :=
    fun z => ⟨_, _, _, _, _, _, rfl, z⟩
  have rowat : ∀ {v : Nat} {qv : Addr}, adr[v]? = some (some qv) → atI (adr.map adV) (v : Int) = some (V.ref qv) := fun e => atI_nat (by rw [List.getElem?_map, e]; rfl)
  -- a put into the row of a live node
  have put : ∀ {v : Nat} {qv : Addr} (o : Option Nat) {y4 y5 y6 y7 y8 : Option V}, adr[v]? = some (some qv) → (∀ x, o = some x → x ∈ lv) →
      spPut [V.ref p, V.ref qv, slotV o] H4 (fun _ H5 => ∃ (x4 x5 x6 x7 x8 : Option V) (refs' : List Nat), ([some (.ref p), some (.ref ra), some (.ref la), some (.ref fa), y4, y5, y6, y7, y8] : L2.St) = [some (.ref p), some (.ref ra), some (.ref la), some (.ref fa), x4, x5, x6, x7, x8] ∧ GS H5 p a ra la fa n ci lv adr refs') E0 := by
    intro v qv o y4 y5 y6 y7 y8 e ho
    have hmem : some qv ∈ adr := List.mem_of_getElem? e
    obtain ⟨h1, h2, h3, h4, h5, row, h6, h7, h8⟩ := gE.rows qv hmem
    refine ⟨p, a, qv, row, o, ci, rfl, gE.pen, h6, h7, h1, h2, fun row' H5 hl hx hr5 pen5 k5 => fin (gE.put hmem pen5 hr5 hl (fun v hv => ?_) k5)⟩
    rcases hx _ hv with z | z
    · exact h8 v z
    · exact ho v z.symm
  refine ⟨_, rfl, rfl, _, rfl, ite2 (fun _ => ?_) (fun _ => ?_)⟩
  · -- a reference more
    have hrl : hi2 < refs'.length := by rw [gE.rl]; exact hhi
    refine ⟨_, rfl, _, rfl, fa, _, hi2, natV refs'[hi2], rfl, rfl, SqL.of gE.hfa, atI_nat (by rw [List.getElem?_map, List.getElem?_eq_getElem hrl]; rfl), _, _, rfl, rfl, _, _, rfl, ?_⟩
    refine ⟨_, rfl, _, rfl, fa, _, (hi2 : Int), hi2, rfl, rfl, gE.hfa, ixN_nat (by rw [List.length_map]; exact hrl), ?_⟩
    have e : (refs'.map natV).set hi2 (V.int (if (refs'[hi2] : Int) + 1 < 9 then (refs'[hi2] : Int) + 1 else 9)) = (refs'.set hi2 (min (refs'[hi2] + 1) 9)).map natV := by
      rw [List.map_set]
      congr 1
      show V.int _ = V.int _
      congr 1
      split <;> omega
    rw [e]
    exact fin ((gE.ref (v := hi2) (r := min (refs'[hi2] + 1) 9) (by omega)).mono (Nat.le_succ _))
  refine ⟨_, rfl, rfl, _, rfl, ite2 (fun _ => ?_) (fun _ => ?_)⟩
  · exact ⟨_, rfl, _, rfl, _, rfl, ra, _, (hi2 : Int), _, rfl, rfl, SqL.of gE.hra, rowat ehi, _, rfl, put (some lo) ehi (fun x e => by cases e; exact mlo)⟩
  refine ⟨_, rfl, rfl, _, rfl, ite2 (fun _ => ?_) (fun _ => ?_)⟩
  · exact ⟨_, rfl, _, rfl, _, rfl, ra, _, (lo : Int), _, rfl, rfl, SqL.of gE.hra, rowat elo, put none elo (fun x e => by cases e)⟩
  refine ⟨_, rfl, _, rfl, rfl, _, rfl, ite2 (fun _ => ?_) (fun _ => ?_)⟩
  · exact ⟨_, rfl, _, rfl, _, rfl, ra, _, (lo : Int), _, rfl, rfl, SqL.of gE.hra, rowat elo, _, rfl, put (some hi2) elo (fun x e => by cases e; exact mhi)⟩
  · exact fin (gE.mono (Nat.le_succ _))
end
end SW

/-! A pile of a number of nodes. -/
namespace SW
open PySem PySem.Spec PyProof.Rows L2 WR SF
variable {H H' : Hp} {p a ra la fa : Addr} {n c d : Nat} {lv : List Nat} {adr : List (Option Addr)} {refs : List Nat}
theorem Pen.upd {q : Addr} {o : HO} (h : Pen H p a c) (h1 : q ≠ p) (h2 : q ≠ a) : Pen (upd H q o) p a c := h.keep (fun _ e => (upd_ne h1.symm).trans e) (fun _ e => (upd_ne h2.symm).trans e)
theorem Pen.fresh {q : Addr} (h : Pen H p a c) (hq : H q = none) : q ≠ p ∧ q ≠ a := by
  obtain ⟨_, _, _, h1, h2, _⟩ := h
  exact ⟨(ne_of_none h1 hq).symm, (ne_of_none h2 hq).symm⟩
def rInt1 : List V → Hp → VK → Prop := fun xs H Q => (∃ i, xs = [.int i] ∧ Q (.int i) H) ∨ ∃ k, xs = [.bl k] ∧ Q (.int (if k then 1 else 0)) H
section
variable {X : Cx}
theorem cr_int1 : CallR X (.type "int") rInt1 := call_int1
end
theorem si_nat {i n : Nat} (h : i < n) : seqIndex? (i : Int) n = some i := by
  unfold seqIndex?
  have e1 : ¬ ((i : Int) < 0) := by omega
  simp only [e1, if_false]
  rw [if_pos (by simp; exact h), Int.toNat_natCast]
theorem in_nat {v : Nat} {lv : List Nat} (h : v ∈ lv) : inV (natV v) (lv.map natV) = true := by
  unfold inV
  rw [List.any_eq_true]
  exact ⟨natV v, List.mem_map.mpr ⟨v, h, rfl⟩, by show ((v : Int) == (v : Int)) = true; simp⟩
theorem flat_nats (lv : List Nat) : (lv.map natV).all flatV = true := by
  rw [List.all_eq_true]
  intro x hx
  obtain ⟨v, _, rfl⟩ := List.mem_map.mp hx
  rfl
theorem cut_from (xs : List Nat) (s : Nat) : cutV (xs.map natV) (some (s : Int)) none = (xs.drop s).map natV := by
  unfold cutV
  rw [HT.sIx_none, HT.sIx_nat, List.length_map, List.map_drop]
  by_cases h : s ≤ xs.length
  · rw [Nat.min_eq_left h, List.take_of_length_le (by simp)]
  · rw [Nat.min_eq_right (by omega), List.take_of_length_le (by simp), List.drop_of_length_le (by simp), List.drop_of_length_le (by simp; omega)]
theorem repl_nats (m z : Nat) : (List.replicate ((m : Int)).toNat [natV z]).flatten = (List.replicate m z).map natV := by
  rw [Int.toNat_natCast]
  simp
theorem map_eraseIdx' {α β : Type} (f : α → β) : ∀ (l : List α) (i : Nat), (l.map f).eraseIdx i = (l.eraseIdx i).map f
  | [], _ => rfl
  | _ :: _, 0 => rfl
  | x :: l, i + 1 => by
    show f x :: (l.map f).eraseIdx i = f x :: (l.eraseIdx i).map f
    rw [map_eraseIdx' f l i]
theorem rgV0 (n : Nat) : rgV 0 (n : Int) = (List.range n).map natV := by
  unfold rgV
  have e : ((n : Int) - 0).toNat = n := by omega
  rw [e]
  apply List.map_congr_left
  intro i _
  show V.int _ = V.int _
  congr 1
  omega
theorem live_at {lv : List Nat} {adr : List (Option Addr)} {m : Nat} (hl : adr.length = m) (hA : ∀ v, v < adr.length → v ∈ lv → ∃ q, adr[v]? = some (some q)) (hv : ∀ v, v ∈ lv → v < m) : ∀ v, v ∈ lv → v < m ∧ ∃ q, adr[v]? = some (some q) :=
  fun v h => ⟨hv v h, hA v (by rw [hl]; exact hv v h) h⟩
theorem at0 {xs : List Nat} (h : 0 < xs.length) : atI (xs.map natV) 0 = some (natV xs[0]) :=
  atI_nat (j := 0) (by rw [List.getElem?_map, List.getElem?_eq_getElem h]; rfl)
theorem atn {xs : List Nat} {i : Nat} (h : i < xs.length) : atI (xs.map natV) (i : Int) = some (natV xs[i]) :=
  atI_nat (by rw [List.getElem?_map, List.getElem?_eq_getElem h]; rfl)
theorem GS.doput {v : Nat} {qv : Addr} {o : Option Nat} {R : VK} (g : GS H p a ra la fa n (c + 1) lv adr refs) (e : adr[v]? = some (some qv)) (ho : ∀ x, o = some x → x ∈ lv) (hR : ∀ H5, GS H5 p a ra la fa n c lv adr refs → R .non H5) :
    spPut [V.ref p, V.ref qv, slotV o] H R E0 := by
  have hmem : some qv ∈ adr := List.mem_of_getElem? e
  obtain ⟨h1, h2, h3, h4, h5, row, h6, h7, h8⟩ := g.rows qv hmem
  refine ⟨p, a, qv, row, o, c, rfl, g.pen, h6, h7, h1, h2, fun row' H5 hl hx hr5 pen5 k5 => hR H5 (g.put hmem pen5 hr5 hl (fun v hv => ?_) k5)⟩
  rcases hx _ hv with z | z
  · exact h8 v z
  · exact ho v z.symm
def spPileOf : Sp := fun vs H Q _ => ∃ (p a : Addr) (m c : Nat), vs = [.ref p, natV m] ∧ 0 < m ∧ m ≤ 40 ∧ Pen H p a (c + 190) ∧
  ∀ (t ha : Addr) (u : Nat) (rows : List (Option Rw)) (out : List Nat) H', Pen H' p a c → Ask H' ha rows out u → 0 < rows.length → H' t = some (.tup [.ref ha, natV u]) → Q (.ref t) H'
/-- a row of the pile, and what stands there -/
def RA (H : Hp) (lv : List Nat) : Option Addr → Option Rw → Prop
  | none, none => True
  | some q, some row => H q = some (.lst (rowV row)) ∧ row.length ≤ 40 ∧ ∀ v, some v ∈ row → v ∈ lv
  | _, _ => False
section
variable {P : Program} {w : World} {K : PySem.W.Frag} {mg : Str → Option Value} {base : Heap}
abbrev nPileOf : List Str := ["_law_pen_here", "_law_many", "_law_left", "_law_order", "_law_live", "_law_rows", "_law_references", "_law_form", "_law_k", "_law_ahead", "_law_some", "_law_start", "_law_item", "_law_row"]
theorem scPileOf : FnScope nPileOf ["_law_pen_here", "_law_many"] (defScope sPileOf) := ⟨rfl, rfl, rfl, by decide +kernel, rfl, by decide +kernel, by decide +kernel⟩
set_option maxHeartbeats 4000000 in
theorem ok_pileof (B : Blt mg) (G : Cal P w K mg base 1 "_law_draw" ["_law_pen_here", "_law_many"] spDraw) (GP : Cal P w K mg base 2 "_law_put_in" ["_law_pen_here", "_law_row", "_law_held"] spPut) (GJ : Cal P w K mg base 3 "_law_joined" ["_law_pen_here", "_law_rows", "_law_live", "_law_references"] spJoin)
    (D : DefIn K mg "_law_pile_of" sPileOf ["_law_pen_here", "_law_many"]) : Cal P w K mg base 4 "_law_pile_of" ["_law_pen_here", "_law_many"] spPileOf := by
  obtain ⟨f, fd, hm, F, hb⟩ := D
  refine ⟨f, fd, hm, F.kp, hb, F.ok scPileOf (fun vs H Q E h => ?_) (fun cdv A outer st H vs Q E hr h => ?_)⟩
  · obtain ⟨_, _, _, _, rfl, _⟩ := h; rfl
  obtain ⟨p, a, m, c, rfl, hm0, hm40, pen, q⟩ := h
  have nd := scPileOf.nd
  have hr1 := hr.mono (show 1 ≤ 3 by decide)
  have hr2 := hr.mono (show 2 ≤ 3 by decide)
  have hr3 := hr.mono (show 3 ≤ 3 by decide)
  refine ⟨_, pss_cons (ps_set (i := 2) nd rfl (.inr rfl) (pe_listRg rfl (by rfl) B.list (prg_1 (by rfl) B.range (pv 1))))
    (pss_cons (ps_setLc (i := 3) (own := [("_law_k", 8)]) (g := gName 8) (tt := tYes) (te := tBM K "list" rPopAt (tVar 2) (tCons (tCall spDraw [] E0 (tCons (tVar 0) (tCons (tCB (rLenS K) (tCons (tVar 2) tNil)) tNil))) tNil)) (by rfl) nd rfl rfl (sw_true rfl rfl rfl (by decide +kernel)) (pi_range1 rfl B.range (pa_cons (pv 1) pa_nil))
      (blkOk_by (N := nPileOf) (sc := defScope sPileOf) (by decide +kernel)) (fun _ _ _ _ _ => pg_name (i := 8) nd rfl (Or.inl rfl)) (fun _ _ _ _ _ => pts_nil)
      (fun _ _ _ _ _ => pe_bm PySem.F.plainAttrs_list PySem.F.slot_list_pop PySem.F.type_list_pop mt_popAt (pv 2) (pa_cons (pe_cal G hr1 rfl (pa_cons (pv 0) (pa_cons (pe_callB cr_lenS (by rfl) B.len (by decide +kernel) (pa_cons (pv 2) pa_nil)) pa_nil))) pa_nil)))
    (pss_cons (ps_set (i := 4) nd rfl (.inr rfl) (pe_slice sl_list (pv 3) (po_some (pe_callB (call_min2 rfl) (by rfl) B.min (by decide +kernel) (pa_cons (pe_op op_sub (pv 1) pe_int) (pa_cons (pe_ix ix_list (pe_lst (pa_cons pe_int (pa_cons pe_int (pa_cons pe_int (pa_cons pe_int pa_nil))))) (pe_cal G hr1 rfl (pa_cons (pv 0) (pa_cons pe_int pa_nil))) (fun _ _ => rfl)) pa_nil)))) po_none))
    (pss_cons (ps_setLc (i := 5) (own := [("_law_item", 12)]) (g := gName 12) (tt := tYes) (te := tOp (rIxL K) (tLst (tCons (tC .non) (tCons (tLst tNil) tNil))) (tCB rInt1 (tCons (tOp (rIn K false) (tVar 12) (tVar 4)) tNil))) (by rfl) nd rfl rfl (sw_true rfl rfl rfl (by decide +kernel)) (pi_range1 rfl B.range (pa_cons (pv 1) pa_nil))
      (blkOk_by (N := nPileOf) (sc := defScope sPileOf) (by decide +kernel)) (fun _ _ _ _ _ => pg_name (i := 12) nd rfl (Or.inl rfl)) (fun _ _ _ _ _ => pts_nil)
      (fun _ _ _ _ _ => pe_ix ix_list (pe_lst (pa_cons pe_non (pa_cons (pe_lst pa_nil) pa_nil))) (pe_callTy cr_int1 (by rfl) B.int (by decide +kernel) (pa_cons (pe_cmpR op_in_seq (pv 12) (pv 4) (by with_unfolding_all rfl)) pa_nil)) (fun _ _ => rfl)))
    (pss_cons (ps_set (i := 6) nd rfl (.inr rfl) (pe_op op_rep (pe_lst (pa_cons pe_int pa_nil)) (pv 1)))
    (C8.pss_cut (ps_asg pe_int (pg_sub (pv 6) (pe_ix ix_list (pv 4) pe_int (fun _ _ => rfl)) set_list))
    (pss_cons (ps_set (i := 7) nd rfl (.inl rfl) (pe_cal G hr1 rfl (pa_cons (pv 0) (pa_cons pe_int pa_nil))))
    (C8.pss_cut (ps_for PassesOwn.never rfl (pi_range2 rfl B.range (pa_cons pe_int (pa_cons (pe_callB cr_lenS (by rfl) B.len (by decide +kernel) (pa_cons (pv 4) pa_nil)) pa_nil))) (pg_name (i := 8) nd rfl (.inl rfl))
      (pss_cons (ps_set (i := 9) nd rfl (.inl rfl) (pe_ix ix_list (pe_lst (pa_cons (pe_op op_sub (pv 8) pe_int) (pa_cons pe_int (pa_cons (pe_op op_fdivN (pe_op op_sub (pv 8) pe_int) pe_int) (pa_cons (pe_callB (call_max2 rfl) (by rfl) B.max (by decide +kernel) (pa_cons pe_int (pa_cons (pe_op op_sub (pv 8) pe_int) pa_nil))) pa_nil))))) (pv 7) (fun _ _ => rfl)))
      (C8.pss_cut (ps_if (pt_cmpR op_in_seq (pv 7) (pe_tup (pa_cons pe_int (pa_cons pe_int pa_nil))) (by with_unfolding_all rfl))
        (pss_one (ps_set (i := 9) nd rfl (.inl rfl) (pe_op op_add (pv 9) (pe_cal G hr1 rfl (pa_cons (pv 0) (pa_cons (pe_op op_sub (pv 8) (pv 9)) pa_nil)))))) pss_nil)
      (pss_one (ps_expr (pe_cal GP hr2 rfl (pa_cons (pv 0) (pa_cons (pe_ix ix_list (pv 5) (pe_ix ix_list (pv 4) (pv 9) (fun _ _ => rfl)) (fun _ _ => rfl)) (pa_cons (pe_ix ix_list (pv 4) (pv 8) (fun _ _ => rfl)) pa_nil)))))))))
    (pss_cons (ps_expr (pe_cal GJ hr3 rfl (pa_cons (pv 0) (pa_cons (pv 5) (pa_cons (pv 4) (pa_cons (pv 6) pa_nil))))))
    (pss_cons (ps_setLc (i := 10) (own := [("_law_item", 12)]) (g := gName 12) (tt := tTest (tOp (rI0 fun i j => .bl (decide (j < i))) (tOp (rIxL K) (tVar 6) (tVar 12)) (tC (.int 0)))) (te := tVar 12) (by rfl) nd rfl rfl (sw_true rfl rfl rfl (by decide +kernel)) (pi_list (pv 4))
      (blkOk_by (N := nPileOf) (sc := defScope sPileOf) (by decide +kernel)) (fun _ _ _ _ _ => pg_name (i := 12) nd rfl (Or.inl rfl)) (fun _ _ _ _ _ => pts_one (pt_cmpR op_gt (pe_ix ix_list (pv 6) (pv 12) (fun _ _ => rfl)) pe_int (nomark _)))
      (fun _ _ _ _ _ => pv 12))
    (C8.pss_cut (ps_set (i := 11) nd rfl (.inl rfl) (pe_ix ix_list (pe_lst (pa_cons (pe_ix ix_list (pv 4) pe_int (fun _ _ => rfl)) (pa_cons (pe_ix ix_list (pv 10) (pe_cal G hr1 rfl (pa_cons (pv 0) (pa_cons (pe_callB cr_lenS (by rfl) B.len (by decide +kernel) (pa_cons (pv 10) pa_nil)) pa_nil))) (fun _ _ => rfl)) pa_nil)))
      (pe_callTy cr_int1 (by rfl) B.int (by decide +kernel) (pa_cons (pe_cmpR op_eq (pe_cal G hr1 rfl (pa_cons (pv 0) (pa_cons pe_int pa_nil))) pe_int (nomark _)) pa_nil)) (fun _ _ => rfl)))
    (pss_cons (ps_setLc (i := 5) (own := [("_law_row", 13)]) (g := gName 13) (tt := tYes) (te := tOp (rIxL K) (tLst (tCons (tC .non) (tCons (tCB (rTupOf K) (tCons (tOrT K (tVar 13) (tLst tNil)) tNil)) tNil))) (tCB rInt1 (tCons (tNotN (tVar 13)) tNil))) (by rfl) nd rfl rfl (sw_true rfl rfl rfl (by decide +kernel)) (pi_list (pv 5))
      (blkOk_by (N := nPileOf) (sc := defScope sPileOf) (by decide +kernel)) (fun _ _ _ _ _ => pg_name (i := 13) nd rfl (Or.inl rfl)) (fun _ _ _ _ _ => pts_nil)
      (fun _ _ _ _ _ => pe_ix ix_list (pe_lst (pa_cons pe_non (pa_cons (pe_callTy cr_tupOf (by rfl) B.tuple (by decide +kernel) (pa_cons (pe_orT (pv 13) (pe_one (pe_lst pa_nil))) pa_nil)) pa_nil))) (pe_callTy cr_int1 (by rfl) B.int (by decide +kernel) (pa_cons (pe_cmp (pc_notN (pv 13))) pa_nil)) (fun _ _ => rfl)))
    (pss_one (ps_ret (pe_tup (pa_cons (pe_tup (pa_cons (pe_callTy cr_tupOf (by rfl) B.tuple (by decide +kernel) (pa_cons (pv 5) pa_nil)) (pa_cons (pe_callTy cr_tupOf (by rfl) B.tuple (by decide +kernel) (pa_cons (pv 6) pa_nil)) pa_nil))) (pa_cons (pv 11) pa_nil))))))))))))))))
    , ?_⟩
  -- left, order
  refine ⟨_, rfl, _, rfl, RgOk.of_le (by decide) (by omega) (by decide) (by omega), fun lfa hlf => ?_⟩
  rw [rgV0]
  have pen1 := pen.upd (q := lfa) (o := .lst ((List.range m).map natV)) (pen.fresh hlf).1 (pen.fresh hlf).2
  obtain ⟨lfp, lfa'⟩ := pen.fresh hlf
  have hl1 : (upd H lfa (.lst ((List.range m).map natV))) lfa = some (.lst ((List.range m).map natV)) := upd_same
  change L2.Ends.nx _ _ (upd H lfa (.lst ((List.range m).map natV)))
  generalize upd H lfa (.lst ((List.range m).map natV)) = H1 at pen1 hl1
  refine ⟨_, rfl, _, rfl, by omega, by omega, fun oda hod => ?_⟩
  rw [Int.toNat_natCast]
  obtain ⟨odp, oda'⟩ := pen1.fresh hod
  have odl : oda ≠ lfa := (ne_of_none hl1 hod).symm
  refine lc_range (lo := 0) (n := m) (fun i H' => ∃ lf od : List Nat, Pen H' p a (c + 150 + (m - i)) ∧ H' lfa = some (.lst (lf.map natV)) ∧ lf.length = m - i ∧ (∀ v, v ∈ lf → v < m) ∧ H' oda = some (.lst (od.map natV)) ∧ od.length = i ∧ (∀ v, v ∈ od → v < m))
    ⟨List.range m, [], (pen1.upd odp oda').mono (by omega), (upd_ne odl.symm).trans hl1, by simp, fun v hv => List.mem_range.mp hv, upd_same, rfl, fun v hv => by cases hv⟩ ?_ ?_
  · rintro i H2 hi ⟨lf, od, hp2, hlf2, hll, hlv, hod2, hol, hov⟩
    refine ⟨rfl, _, rfl, .inl ⟨rfl, _, SqL.of hlf2⟩, _, rfl, _, rfl, lfa, _, rfl, .inl (SqL.of hlf2), ?_⟩
    refine ⟨p, a, lf.length, c + 150 + (m - (i + 1)), by rw [List.length_map]; rfl, by omega, by omega, hp2.mono (by omega), fun r H3 hr3' pen3 b3 => ?_⟩
    have hlf3 := b3 _ _ hlf2 lfp
    have hod3 := b3 _ _ hod2 odp
    refine ⟨lfa, _, (r : Int), r, natV lf[r], rfl, rfl, hlf3, by omega, by omega, si_nat (by rw [List.length_map]; exact hr3'), by rw [List.getElem?_map, List.getElem?_eq_getElem hr3']; rfl, ?_⟩
    refine ⟨od.map natV, (upd_ne odl).trans hod3, by rw [List.length_map, sizeLine_eq]; omega, lf.eraseIdx r, od ++ [lf[r]], (pen3.upd lfp lfa').upd odp oda', ?_, ?_, ?_, ?_, ?_, ?_⟩
    · rw [upd_ne odl.symm, upd_same]
      congr 2
      exact map_eraseIdx' natV lf r
    · rw [List.length_eraseIdx, if_pos hr3']; omega
    · exact fun v hv => hlv v (List.mem_of_mem_eraseIdx hv)
    · rw [upd_same, List.map_append]; rfl
    · rw [List.length_append, hol]; rfl
    · intro v hv
      rcases List.mem_append.mp hv with hv | hv
      · exact hov v hv
      · rw [List.mem_singleton.mp hv]; exact hlv _ (List.getElem_mem hr3')
  rintro H2 ⟨lf, od, pen2, _, _, _, hod2, hol, hov⟩
  -- live
  refine ⟨_, rfl, _, rfl, _, _, rfl, rfl, (by show 4 ≤ sizeLine; decide), fun p1 hp1 => ?_⟩
  obtain ⟨p1p, p1a⟩ := pen2.fresh hp1
  have pen3 := pen2.upd (o := .lst [V.int 0, V.int 0, V.int 1, V.int 3]) p1p p1a
  refine ⟨_, rfl, p, a, 4, c + 149, rfl, by decide, by decide, pen3.mono (by omega), fun r H3 hr4 pen4 b4 => ?_⟩
  obtain ⟨x, hx, ex⟩ := pick4 hr4 [V.int 0, V.int 0, V.int 1, V.int 3] rfl
  have hz : ∃ z : Nat, x = V.int (z : Int) := by
    simp only [List.mem_cons, List.not_mem_nil, or_false] at hx
    rcases hx with rfl | rfl | rfl | rfl
    · exact ⟨0, rfl⟩
    · exact ⟨0, rfl⟩
    · exact ⟨1, rfl⟩
    · exact ⟨3, rfl⟩
  obtain ⟨z, rfl⟩ := hz
  have hod3 : H3 oda = some (.lst (od.map natV)) := b4 _ _ ((upd_ne (ne_of_none hod2 hp1)).trans hod2) odp
  refine ⟨p1, _, (r : Int), _, rfl, rfl, SqL.of (b4 _ _ upd_same p1p), ex, _, _, rfl, _, rfl, oda, _, rfl, SqL.of hod3, fun la hla => ?_⟩
  have ez : (if (z : Int) < (m : Int) - 1 then (z : Int) else (m : Int) - 1) = ((min z (m - 1) : Nat) : Int) := by split <;> omega
  rw [ez, cut_from]
  obtain ⟨lap, laa⟩ := pen4.fresh hla
  have pen5 := pen4.upd (o := .lst ((od.drop (min z (m - 1))).map natV)) lap laa
  have hla5 : (upd H3 la (.lst ((od.drop (min z (m - 1))).map natV))) la = some (.lst ((od.drop (min z (m - 1))).map natV)) := upd_same
  have hlvl : (od.drop (min z (m - 1))).length ≤ m ∧ 0 < (od.drop (min z (m - 1))).length := by
    rw [List.length_drop, hol]; omega
  have hlvm : ∀ v, v ∈ od.drop (min z (m - 1)) → v < m := fun v hv => hov v (List.mem_of_mem_drop hv)
  change L2.Ends.nx _ _ (upd H3 la (.lst ((od.drop (min z (m - 1))).map natV)))
  generalize upd H3 la (.lst ((od.drop (min z (m - 1))).map natV)) = H4 at pen5 hla5
  generalize od.drop (min z (m - 1)) = lv at hla5 hlvl hlvm
  -- rows
  refine ⟨_, rfl, _, rfl, by omega, by omega, fun ra hra => ?_⟩
  rw [Int.toNat_natCast]
  obtain ⟨rap, raa⟩ := pen5.fresh hra
  have sra := same_new hra (.lst [])
  refine lc_range (lo := 0) (n := m) (fun i H' => ∃ adr : List (Option Addr), Same H4 H' ∧ H' ra = some (.lst (adr.map adV)) ∧ adr.length = i ∧ (∀ v, v < adr.length → v ∈ lv → ∃ q, adr[v]? = some (some q)) ∧ (∀ q, some q ∈ adr → H4 q = none ∧ q ≠ ra ∧ H' q = some (.lst [])))
    ⟨[], sra, upd_same, rfl, fun v hv => absurd hv (Nat.not_lt_zero v), fun q hq => by cases hq⟩ ?_ ?_
  · rintro i H5 hi ⟨adr, s5, hra5, hal, hA, hQ⟩
    refine ⟨rfl, Nat.zero_le _, fun q1 hq1 => ⟨(by show 2 ≤ sizeLine; decide), fun q2 hq2 => ?_⟩⟩
    have t1 := same_new hq1 (.lst [])
    have t2 := same_new hq2 (.lst [V.non, V.ref q1])
    have hla6 := (t1.trans t2) _ _ (s5 _ _ hla5)
    have hq1ra : q1 ≠ ra := (ne_of_none hra5 hq1).symm
    refine ⟨_, rfl, _, rfl, la, _, rfl, .inl (SqL.of hla6), rfl, flat_nats lv, .inr ⟨_, rfl, ?_⟩⟩
    -- what is put
    have step : ∀ o : Option Addr, (o = none → i ∉ lv) → (∀ q, o = some q → q = q1) → ∃ acc, (upd (upd H5 q1 (.lst [])) q2 (.lst [V.non, V.ref q1])) ra = some (.lst acc) ∧ acc.length < sizeLine ∧
        ∃ adr' : List (Option Addr), Same H4 (upd (upd (upd H5 q1 (.lst [])) q2 (.lst [V.non, V.ref q1])) ra (.lst (acc ++ [adV o]))) ∧ (upd (upd (upd H5 q1 (.lst [])) q2 (.lst [V.non, V.ref q1])) ra (.lst (acc ++ [adV o]))) ra = some (.lst (adr'.map adV)) ∧ adr'.length = i + 1 ∧
          (∀ v, v < adr'.length → v ∈ lv → ∃ q, adr'[v]? = some (some q)) ∧ (∀ q, some q ∈ adr' → H4 q = none ∧ q ≠ ra ∧ (upd (upd (upd H5 q1 (.lst [])) q2 (.lst [V.non, V.ref q1])) ra (.lst (acc ++ [adV o]))) q = some (.lst [])) := by
      intro o ho1 ho2
      have e3 := (t1.trans t2) _ _ hra5
      refine ⟨adr.map adV, e3, by rw [List.length_map, hal, sizeLine_eq]; omega, adr ++ [o], same_upd hra (s5.trans (t1.trans t2)), by rw [upd_same, List.map_append]; rfl, by rw [List.length_append, hal]; rfl, ?_, ?_⟩
      · intro v hv hvl
        rw [List.length_append] at hv
        by_cases e : v < adr.length
        · rw [List.getElem?_append_left e]; exact hA v e hvl
        · have ev : v = i := by simp at hv; omega
          subst ev
          cases o with
          | none => exact absurd hvl (ho1 rfl)
          | some q => exact ⟨q, by rw [← hal, List.getElem?_append_right (Nat.le_refl _), Nat.sub_self]; rfl⟩
      · intro q hq
        rcases List.mem_append.mp hq with hq | hq
        · obtain ⟨z1, z2, z3⟩ := hQ q hq
          exact ⟨z1, z2, (upd_ne z2).trans ((t1.trans t2) _ _ z3)⟩
        · have e := ho2 q (List.mem_singleton.mp hq).symm
          subst e
          exact ⟨s5.free hq1, hq1ra, (upd_ne hq1ra).trans (t2 _ _ upd_same)⟩
    cases hin : inV (V.int (0 + (i : Int))) (lv.map natV) with
    | true => 
      refine ⟨q2, _, 1, V.ref q1, rfl, rfl, SqL.of upd_same, rfl, ?_⟩
      exact step (some q1) (fun e => by cases e) (fun q e => (Option.some.inj e).symm)
    | false => 
      refine ⟨q2, _, 0, V.non, rfl, rfl, SqL.of upd_same, rfl, ?_⟩
      refine step none (fun _ hm' => ?_) (fun q e => by cases e)
      rw [Int.zero_add] at hin
      have := in_nat hm'
      rw [show natV i = V.int (i : Int) from rfl, hin] at this
      cases this
  rintro H5 ⟨adr, s5, hra5, hal, hA, hQ⟩
  -- references
  refine ⟨(by show 1 ≤ sizeLine; decide), fun p2 hp2 => ?_⟩
  have u1 : Same H5 (upd H5 p2 (.lst [V.int 0])) := same_new hp2 (.lst [V.int 0])
  refine ⟨_, rfl, p2, (m : Int), _, rfl, rfl, upd_same, by omega, by omega, by rw [Int.toNat_natCast, sizeLine_eq]; simp; omega, fun fa hfa => ?_⟩
  have erep := repl_nats m 0
  have u2 := same_new hfa (.lst ((List.replicate m 0).map natV))
  have erep' : (List.replicate ((m : Int)).toNat [V.int 0]).flatten = (List.replicate m 0).map natV := erep
  rw [erep']
  have s6 := s5.trans (u1.trans u2)
  have hfa6 : (upd (upd H5 p2 (.lst [V.int 0])) fa (.lst ((List.replicate m 0).map natV))) fa = some (.lst ((List.replicate m 0).map natV)) := upd_same
  have fr : H5 fa = none := u1.free hfa
  have hQ6 : ∀ q, some q ∈ adr → q ≠ fa ∧ (upd (upd H5 p2 (.lst [V.int 0])) fa (.lst ((List.replicate m 0).map natV))) q = some (.lst []) := fun q hq => ⟨ne_of_none (hQ q hq).2.2 fr, (u1.trans u2) _ _ (hQ q hq).2.2⟩
  have hra6 := (u1.trans u2) _ _ hra5
  have fra : fa ≠ ra := (ne_of_none hra5 fr).symm
  have fr4 : H4 fa = none := s5.free fr
  change L2.Ends.nx _ _ (upd (upd H5 p2 (.lst [V.int 0])) fa (.lst ((List.replicate m 0).map natV)))
  generalize upd (upd H5 p2 (.lst [V.int 0])) fa (.lst ((List.replicate m 0).map natV)) = H6 at s6 hfa6 hQ6 hra6
  refine ⟨fun σ' H' => ∃ adr refs, σ' = [some (.ref p), some (natV m), some (.ref lfa), some (.ref oda), some (.ref la), some (.ref ra), some (.ref fa), none, none, none, none, none, none, none] ∧ GS H' p a ra la fa m (c + 149) lv adr refs, ?_, ?_⟩
  · have hv0 : lv[0] < m := hlvm _ (List.getElem_mem hlvl.2)
    refine ⟨_, rfl, _, rfl, la, _, 0, natV (lv[0]'hlvl.2), rfl, rfl, SqL.of (s6 _ _ hla5), at0 hlvl.2, fa, _, _, lv[0]'hlvl.2, rfl, rfl, hfa6, ixN_nat (by rw [List.length_map, List.length_replicate]; exact hv0), adr, (List.replicate m 0).set (lv[0]'hlvl.2) 1, rfl, ?_⟩
    have pfa := pen5.fresh fr4
    have e : ((List.replicate m 0).map natV).set (lv[0]'hlvl.2) (V.int 1) = ((List.replicate m 0).set (lv[0]'hlvl.2) 1).map natV := by rw [List.map_set]; rfl
    rw [e]
    exact {
      pen := (pen5.keep (fun _ e => s6 _ _ e) (fun _ e => s6 _ _ e)).upd pfa.1 pfa.2
      hra := (upd_ne fra.symm).trans hra6
      hla := (upd_ne (ne_of_none hla5 fr4)).trans (s6 _ _ hla5)
      hfa := upd_same
      fne := ⟨pfa.1, pfa.2, fra, (ne_of_none hla5 fr4).symm⟩
      pne := ⟨rap.symm, lap.symm⟩
      rows := fun q hq => ⟨(pen5.fresh (hQ q hq).1).1, (pen5.fresh (hQ q hq).1).2, (hQ q hq).2.1, (ne_of_none hla5 (hQ q hq).1).symm, (hQ6 q hq).1, [], (upd_ne (hQ6 q hq).1).trans (hQ6 q hq).2, Nat.zero_le _, fun v hv => by cases hv⟩
      n40 := hm40
      al := hal
      rl := by rw [List.length_set, List.length_replicate]
      lvn := live_at hal hA hlvm
      l40 := by omega
      l0 := hlvl.2
      ref0 := fun v0 h0 => by
        rw [List.getElem?_eq_getElem hlvl.2] at h0
        have e0 := Option.some.inj h0
        subst e0
        exact ⟨1, List.getElem?_set_self (by rw [List.length_replicate]; exact hv0), Nat.one_pos⟩ }
  rintro σ' H7 ⟨adr, refs, rfl, g7⟩
  clear hQ hA hal hra5 hra6 hQ6
  -- the form, the spine
  refine ⟨_, rfl, p, a, 4, c + 148, rfl, by decide, by decide, g7.pen, fun form H8 hf4 pen8 b8 => ?_⟩
  have g8 := g7.move pen8 b8
  refine ⟨fun σ' H' => ∃ (x8 x9 : Option V) (refs : List Nat), σ' = [some (.ref p), some (natV m), some (.ref lfa), some (.ref oda), some (.ref la), some (.ref ra), some (.ref fa), some (natV form), x8, x9, none, none, none, none] ∧ GS H' p a ra la fa m (c + 70) lv adr refs, ?_, ?_⟩
  · refine ⟨_, rfl, la, _, rfl, .inl (SqL.of g8.hla), 1, _, rfl, ⟨by decide, by decide, by omega, by rw [List.length_map]; omega⟩, ?_⟩
    have en : (((lv.map natV).length : Int) - 1).toNat = lv.length - 1 := by rw [List.length_map]; omega
    rw [en]
    refine for_range (lo := 1) (n := lv.length - 1) (fun i σ' H' => ∃ (x8 x9 : Option V) (refs : List Nat), σ' = [some (.ref p), some (natV m), some (.ref lfa), some (.ref oda), some (.ref la), some (.ref ra), some (.ref fa), some (natV form), x8, x9, none, none, none, none] ∧ GS H' p a ra la fa m (c + 70 + 2 * (lv.length - 1 - i)) lv adr refs)
      ⟨none, none, refs, rfl, g8.mono (by omega)⟩ ?_ (fun σ H' ⟨x8, x9, rf, e, z⟩ => ⟨x8, x9, rf, e, z.mono (by omega)⟩)
    rintro i σ H' hi ⟨x8, x9, refs', rfl, gi⟩
    have gi := gi.mono (show c + 70 + 2 * (lv.length - 1 - (i + 1)) + 1 + 1 ≤ _ by omega)
    generalize c + 70 + 2 * (lv.length - 1 - (i + 1)) = ci at gi ⊢
    have ek : (1 : Int) + (i : Int) = ((i + 1 : Nat) : Int) := by omega
    rw [ek]
    obtain ⟨hk0, hkl⟩ : 0 < i + 1 ∧ i + 1 < lv.length := by omega
    generalize i + 1 = k at hk0 hkl ⊢
    refine ⟨_, rfl, _, _, rfl, rfl, _, rfl, _, _, rfl, rfl, _, _, rfl, rfl, ⟨by decide, by decide⟩, _, rfl, _, _, rfl, rfl, _, _, rfl, (by show 4 ≤ sizeLine; decide), fun p3 hp3 => ?_⟩
    obtain ⟨x, hx, ex⟩ := pick4 hf4 [V.int ((k : Int) - 1), V.int 0, V.int (((k : Int) - 1).fdiv 2), V.int (if (k : Int) - 3 > 0 then (k : Int) - 3 else 0)] rfl
    have hh : ∃ h : Nat, x = V.int (h : Int) ∧ h < k := by
      simp only [List.mem_cons, List.not_mem_nil, or_false] at hx
      rcases hx with rfl | rfl | rfl | rfl
      · exact ⟨k - 1, by congr 1; omega, by omega⟩
      · exact ⟨0, rfl, hk0⟩
      · rw [Int.fdiv_eq_ediv_of_nonneg _ (by decide)]
        exact ⟨(k - 1) / 2, by congr 1; omega, by omega⟩
      · exact ⟨k - 3, by congr 1; split <;> omega, by omega⟩
    obtain ⟨h, rfl, hhk⟩ := hh
    have g9 := gi.same (same_new hp3 (.lst [V.int ((k : Int) - 1), V.int 0, V.int (((k : Int) - 1).fdiv 2), V.int (if (k : Int) - 3 > 0 then (k : Int) - 3 else 0)]))
    refine ⟨_, rfl, p3, _, (form : Int), _, rfl, rfl, SqL.of upd_same, ex, ?_⟩
    change C8.tCut _ _ _ _ (upd H' p3 (.lst [V.int ((k : Int) - 1), V.int 0, V.int (((k : Int) - 1).fdiv 2), V.int (if (k : Int) - 3 > 0 then (k : Int) - 3 else 0)]))
    generalize upd H' p3 (.lst [V.int ((k : Int) - 1), V.int 0, V.int (((k : Int) - 1).fdiv 2), V.int (if (k : Int) - 3 > 0 then (k : Int) - 3 else 0)]) = H9 at g9
    refine ⟨fun σ' H' => ∃ (z : Int) (h' : Nat), z = (h' : Int) ∧ h' < k ∧ σ' = [some (.ref p), some (natV m), some (.ref lfa), some (.ref oda), some (.ref la), some (.ref ra), some (.ref fa), some (natV form), some (natV k), some (V.int z), none, none, none, none] ∧ GS H' p a ra la fa m (ci + 1) lv adr refs', ?_, ?_⟩
    · refine ⟨_, rfl, (by show 2 ≤ sizeLine; decide), fun t ht => ⟨t, _, rfl, .inr (SqT.of upd_same), rfl, rfl, _, rfl, ?_⟩⟩
      have g10 := g9.same (same_new ht (.tup [V.int 1, V.int 3]))
      refine ite2 (fun _ => ?_) (fun _ => ⟨_, h, rfl, hhk, rfl, g10.mono (Nat.le_succ _)⟩)
      refine ⟨_, rfl, _, rfl, _, rfl, _, rfl, _, _, rfl, rfl, p, a, k - h, ci + 1, ?_, by omega, by omega, g10.pen, fun r2 H11 hr2' pen11 b11 => ?_⟩
      · have e : (k : Int) - (h : Int) = ((k - h : Nat) : Int) := by omega
        show [V.ref p, V.int ((k : Int) - (h : Int))] = [V.ref p, V.int ((k - h : Nat) : Int)]
        rw [e]
      · exact ⟨_, _, rfl, rfl, _, h + r2, rfl, by omega, rfl, g10.move pen11 b11⟩
    · rintro σ' H10 ⟨z, h', rfl, hk', rfl, g10⟩
      have hl' : h' < lv.length := by omega
      obtain ⟨_, qv, eqv⟩ := g10.lvn lv[h'] (List.getElem_mem hl')
      refine ⟨_, rfl, _, rfl, _, rfl, _, rfl, la, _, (h' : Int), _, rfl, rfl, SqL.of g10.hla, atn hl', ra, _, (lv[h'] : Int), V.ref qv, rfl, rfl, SqL.of g10.hra, atI_nat (by rw [List.getElem?_map, eqv]; rfl), _, rfl, _, rfl, la, _, (k : Int), _, rfl, rfl, SqL.of g10.hla, atn hkl, ?_⟩
      exact GS.doput (R := fun _ H5 => ∃ (x8 x9 : Option V) (refs : List Nat), ([some (.ref p), some (natV m), some (.ref lfa), some (.ref oda), some (.ref la), some (.ref ra), some (.ref fa), some (natV form), some (natV k), some (natV h'), none, none, none, none] : L2.St) = [some (.ref p), some (natV m), some (.ref lfa), some (.ref oda), some (.ref la), some (.ref ra), some (.ref fa), some (natV form), x8, x9, none, none, none, none] ∧ GS H5 p a ra la fa m ci lv adr refs)
        g10 eqv (o := some lv[k]) (fun x e => by cases e; exact List.getElem_mem hkl) (fun H5 g5 => ⟨_, _, refs', rfl, g5⟩)
  clear g8 g7 refs
  rintro σ' H8 ⟨x8, x9, refs, rfl, g8⟩
  -- joins
  refine ⟨_, rfl, _, rfl, _, rfl, _, rfl, p, a, ra, la, fa, m, c + 13, lv, adr, refs, rfl, g8, fun refs H9 g9 => ?_⟩
  -- some
  refine ⟨_, rfl, la, rfl, ⟨_, SqL.of g9.hla⟩, fun sma hsm => ?_⟩
  refine lc_list (K := K) (a := la) (xs := lv.map natV) (fun i H' => ∃ sm : List Nat, Same H9 H' ∧ H' sma = some (.lst (sm.map natV)) ∧ (∀ v, v ∈ sm → v ∈ lv ∧ ∃ r, refs[v]? = some r ∧ 0 < r) ∧ sm.length ≤ i ∧ (0 < i → 0 < sm.length))
    ⟨[], same_new hsm _, upd_same, (fun v hv => by cases hv), Nat.le_refl _, fun e => e⟩ (fun i H' _ ⟨_, s, _⟩ => SqL.of (s _ _ g9.hla)) ?_ ?_
  · rintro i x H' hx ⟨sm, s, hs, hm', hl', h0'⟩
    have hil := (List.getElem?_eq_some_iff.mp hx).1
    rw [List.length_map] at hil
    rw [List.getElem?_map, List.getElem?_eq_getElem hil] at hx
    have ex := (Option.some.inj hx).symm
    subst ex
    have hv := List.getElem_mem hil
    have hvi : lv[i]? = some lv[i] := List.getElem?_eq_getElem hil
    generalize lv[i] = v at hv hvi
    obtain ⟨hvm, _⟩ := g9.lvn v hv
    have hvr : v < refs.length := by rw [g9.rl]; exact hvm
    refine ⟨rfl, _, rfl, _, rfl, fa, _, (v : Int), natV refs[v], rfl, rfl, SqL.of (s _ _ g9.hfa), atn hvr, _, _, rfl, rfl, _, rfl, ite2 (fun e => ?_) (fun e => ?_)⟩
    · have e : (0 : Int) < (refs[v] : Int) := of_decide_eq_true e
      refine ⟨_, rfl, sm.map natV, hs, by rw [List.length_map, sizeLine_eq]; omega, sm ++ [v], same_upd hsm s, by rw [upd_same, List.map_append]; rfl, ?_, by simp; omega, by simp⟩
      intro v' hv'
      rcases List.mem_append.mp hv' with hv' | hv'
      · exact hm' v' hv'
      · rw [List.mem_singleton.mp hv']
        exact ⟨hv, refs[v], List.getElem?_eq_getElem hvr, by omega⟩
    · refine ⟨sm, s, hs, hm', by omega, fun _ => ?_⟩
      rcases Nat.eq_zero_or_pos i with z | z
      · subst z
        obtain ⟨r, h1, h2⟩ := g9.ref0 v hvi
        rw [List.getElem?_eq_getElem hvr] at h1
        have h1 := Option.some.inj h1
        exact absurd (decide_eq_true (by show (0 : Int) < (refs[v] : Int); omega)) e
      · exact h0' z
  rintro H10 ⟨sm, s10, hsm10, hsmv, hsml, hsm0⟩
  have g10 := g9.same s10
  have hs0 : 0 < sm.length := hsm0 (by rw [List.length_map]; exact g9.l0)
  rw [List.length_map] at hsml
  -- start
  refine ⟨fun σ' H' => ∃ (x8 x9 x10 : Option V) (u : Nat), σ' = [some (.ref p), some (natV m), some (.ref lfa), some (.ref oda), some (.ref la), some (.ref ra), some (.ref fa), some (natV form), x8, x9, x10, some (natV u), none, none] ∧ (u ∈ lv ∧ ∃ r, refs[u]? = some r ∧ 0 < r) ∧ GS H' p a ra la fa m c lv adr refs, ?_, ?_⟩
  · refine ⟨_, rfl, la, _, 0, _, rfl, rfl, SqL.of g10.hla, at0 g10.l0, _, rfl, _, rfl, _, rfl, sma, _, rfl, .inl (SqL.of hsm10), p, a, sm.length, c + 12, by rw [List.length_map]; rfl, hs0, by have := g9.l40; omega, g10.pen, fun r2 H11 hr2' pen11 b11 => ?_⟩
    have g11 := g10.move pen11 b11
    have hsmp : sma ≠ p := (g9.pen.fresh hsm).1
    refine ⟨sma, _, (r2 : Int), _, rfl, rfl, SqL.of (b11 _ _ hsm10 hsmp), atn hr2', (by show 2 ≤ sizeLine; decide), fun p3 hp3 => ?_⟩
    have g12 := g11.same (same_new hp3 (.lst [natV lv[0], natV sm[r2]]))
    have hp3p := (g11.pen.fresh hp3).1
    refine ⟨_, rfl, p, a, 4, c + 11, rfl, by decide, by decide, g12.pen, fun r3 H13 _ pen13 b13 => ?_⟩
    have g13 := (g12.move pen13 b13).mono (show c ≤ c + 11 by omega)
    have h3 := b13 _ _ ((upd_same : (upd H11 p3 (.lst [natV lv[0], natV sm[r2]])) p3 = some (.lst [natV lv[0], natV sm[r2]]))) hp3p
    refine ⟨rfl, .inr ⟨_, rfl, ?_⟩⟩
    have o0 : lv[0]'g9.l0 ∈ lv ∧ ∃ r, refs[lv[0]'g9.l0]? = some r ∧ 0 < r := ⟨List.getElem_mem _, g9.ref0 _ (List.getElem?_eq_getElem g9.l0)⟩
    cases hd : decide (natV r3 = V.int 0) with
    | true => exact ⟨p3, _, 1, _, rfl, rfl, SqL.of h3, rfl, _, _, _, sm[r2], rfl, hsmv _ (List.getElem_mem _), g13⟩
    | false => exact ⟨p3, _, 0, _, rfl, rfl, SqL.of h3, rfl, _, _, _, lv[0], rfl, o0, g13⟩
  clear g10 g9 g8
  rintro σ' H11 ⟨x8, x9, x10, u, rfl, hu, g11⟩
  -- the rows as tuples
  refine ⟨_, rfl, ra, rfl, ⟨_, SqL.of g11.hra⟩, fun rta hrt => ?_⟩
  refine lc_list (K := K) (a := ra) (xs := adr.map adV) (fun i H' => ∃ (acc : List V) (rws : List (Option Rw)), Same H11 H' ∧ H' rta = some (.lst acc) ∧ Paired (RowAt H') acc rws ∧ Paired (RA H11 lv) (adr.take i) rws)
    ⟨[], [], same_new hrt _, upd_same, .nil, .nil⟩ (fun i H' _ ⟨_, _, s, _⟩ => SqL.of (s _ _ g11.hra)) ?_ ?_
  · rintro i x H' hx ⟨acc, rws, s, hacc, hp1, hp2⟩
    have hil := (List.getElem?_eq_some_iff.mp hx).1
    rw [List.length_map] at hil
    rw [List.getElem?_map, List.getElem?_eq_getElem hil] at hx
    have ex := (Option.some.inj hx).symm
    subst ex
    have htk : adr.take (i + 1) = adr.take i ++ [adr[i]] := by rw [List.take_succ, List.getElem?_eq_getElem hil]; rfl
    have hmem := List.getElem_mem hil
    have hal : acc.length ≤ 40 := by
      have h1 := hp1.length
      have h2 := hp2.length
      have h3 := g11.al
      have h4 := g11.n40
      rw [List.length_take] at h2
      omega
    generalize adr[i] = o at htk hmem
    -- what is put
    have step : ∀ {H2 : Hp} {x : V} {r : Option Rw}, Same H' H2 → RowAt H2 x r → RA H11 lv o r → ∃ acc, H2 rta = some (.lst acc) ∧ acc.length < sizeLine ∧
        ∃ (acc' : List V) (rws : List (Option Rw)), Same H11 (upd H2 rta (.lst (acc ++ [x]))) ∧ (upd H2 rta (.lst (acc ++ [x]))) rta = some (.lst acc') ∧ Paired (RowAt (upd H2 rta (.lst (acc ++ [x])))) acc' rws ∧ Paired (RA H11 lv) (adr.take (i + 1)) rws := by
      intro H2 x r s2 hx2 hra2
      have e2 := s2 _ _ hacc
      have kt : ∀ {y : V} {r : Option Rw}, RowAt H2 y r → RowAt (upd H2 rta (.lst (acc ++ [x]))) y r := fun {y} {r} z => by
        cases r with
        | none => exact z
        | some row =>
          obtain ⟨q, z1, z2⟩ := z
          exact ⟨q, z1, (upd_ne (ne_of z2 e2 (fun e => by cases e))).trans z2⟩
      refine ⟨acc, e2, by rw [sizeLine_eq]; omega, acc ++ [x], rws ++ [r], same_upd hrt (s.trans s2), upd_same, paired_snoc (L2.Paired.mapP hp1 fun _ _ z => kt (RowAt.same s2 z)) (kt hx2), ?_⟩
      rw [htk]
      exact paired_snoc hp2 hra2
    cases o with
    | none =>
      refine ⟨rfl, _, rfl, false, rfl, iteF ⟨Nat.zero_le _, fun e1 he1 => ⟨e1, _, rfl, .inl ⟨SqL.of upd_same, fun t1 ht1 => ⟨(by show 2 ≤ sizeLine; decide), fun p3 hp3 => ⟨_, rfl, .inr ⟨_, rfl, p3, _, 0, .non, rfl, rfl, SqL.of upd_same, rfl, ?_⟩⟩⟩⟩⟩⟩⟩
      exact step (r := none) (((same_new he1 _).trans (same_new ht1 _)).trans (same_new hp3 _)) rfl trivial
    | some q =>
      obtain ⟨_, _, _, _, _, row, h6, h7, h8⟩ := g11.rows q hmem
      have hq' := s _ _ h6
      refine ⟨rfl, _, rfl, !(rowV row).isEmpty, .inl ⟨_, SqL.of hq', rfl⟩, ?_⟩
      cases hrow : rowV row with
      | nil =>
        refine iteF ⟨Nat.zero_le _, fun e1 he1 => ⟨e1, _, rfl, .inl ⟨SqL.of upd_same, fun t1 ht1 => ⟨(by show 2 ≤ sizeLine; decide), fun p3 hp3 => ⟨_, rfl, .inr ⟨_, rfl, p3, _, 1, .ref t1, rfl, rfl, SqL.of upd_same, rfl, ?_⟩⟩⟩⟩⟩⟩
        exact step (r := some row) (((same_new he1 _).trans (same_new ht1 _)).trans (same_new hp3 _)) ⟨t1, rfl, by rw [hrow]; exact (same_new hp3 _) _ _ upd_same⟩ ⟨h6, h7, h8⟩
      | cons y ys =>
        rw [hrow] at hq'
        refine iteT ⟨q, _, rfl, .inl ⟨SqL.of hq', fun t1 ht1 => ⟨(by show 2 ≤ sizeLine; decide), fun p3 hp3 => ⟨_, rfl, .inr ⟨_, rfl, p3, _, 1, .ref t1, rfl, rfl, SqL.of upd_same, rfl, ?_⟩⟩⟩⟩⟩
        exact step (r := some row) ((same_new ht1 _).trans (same_new hp3 _)) ⟨t1, rfl, by rw [hrow]; exact (same_new hp3 _) _ _ upd_same⟩ ⟨h6, h7, h8⟩
  rintro H12 ⟨acc, rws, s12, hacc, hp1, hp2⟩
  rw [List.length_map, List.take_length] at hp2
  have g12 := g11.same s12
  -- the end
  refine ⟨_, rfl, rta, _, rfl, .inl ⟨SqL.of hacc, fun sa hsa => ?_⟩⟩
  have w1 := same_new hsa (.tup acc)
  refine ⟨_, rfl, fa, _, rfl, .inl ⟨SqL.of (w1 _ _ g12.hfa), fun oa hoa => ?_⟩⟩
  have w2 := w1.trans (same_new hoa (.tup (refs.map natV)))
  have e2 := same_new hoa (.tup (refs.map natV)) _ _ (upd_same : (upd H12 sa (.tup acc)) sa = some (.tup acc))
  refine ⟨(by show 2 ≤ sizeLine; decide), fun ha hha => ?_⟩
  have n3 := same_new hha (.tup [V.ref sa, V.ref oa])
  have w3 := w2.trans n3
  refine ⟨_, rfl, (by show 2 ≤ sizeLine; decide), fun t ht => ?_⟩
  have n4 := same_new ht (.tup [V.ref ha, natV u])
  have w4 := w3.trans n4
  have g13 := g12.same w4
  have hlr : rws.length = m := by rw [← hp2.length]; exact g11.al
  -- what a row of the pile is
  have rowOf : ∀ (v : Nat) (row : Rw), rws[v]? = some (some row) → row.length ≤ 40 ∧ ∀ x, some x ∈ row → x ∈ lv := fun v row e => by
    obtain ⟨o, _, z⟩ := paired_get hp2 e
    cases o with
    | none => exact False.elim z
    | some q => exact ⟨z.2.1, z.2.2⟩
  have liveOf : ∀ v : Nat, v ∈ lv → ∃ row, rws[v]? = some (some row) := fun v hv => by
    obtain ⟨_, q, e⟩ := g11.lvn v hv
    obtain ⟨r, e2, z⟩ := paired_getL hp2 e
    cases r with
    | none => exact False.elim z
    | some row => exact ⟨row, e2⟩
  refine q t ha u rws refs _ g13.pen ⟨⟨sa, oa, acc, n4 _ _ upd_same, n4 _ _ (n3 _ _ e2), n4 _ _ (n3 _ _ upd_same), L2.Paired.mapP hp1 fun _ _ z => RowAt.same w4 z⟩, ⟨by rw [hlr, g11.rl], rfl, by rw [g11.rl]; exact hm40, fun v row e => ?_⟩, ⟨liveOf u hu.1, hu.2⟩⟩ (by omega) upd_same
  obtain ⟨z1, z2⟩ := rowOf v row e
  refine ⟨z1, fun x hx => ?_⟩
  obtain ⟨row', e'⟩ := liveOf x (z2 x hx)
  exact ⟨by rw [g11.rl]; exact (g11.lvn x (z2 x hx)).1, row', e'⟩
end
end SW

/-! A pile; the depth of a node. -/
namespace SW
open PySem PySem.Spec PyProof.Rows L2 WR SF
def spPile : Sp := fun vs H Q _ => ∃ (p a : Addr) (m c : Nat), vs = [.ref p, natV m] ∧ 0 < m ∧ m ≤ 40 ∧ Pen H p a (c + 192) ∧
  ∀ (t ha : Addr) (u : Nat) (rows : List (Option Rw)) (out : List Nat) H', Pen H' p a c → Ask H' ha rows out u → 0 < rows.length → H' t = some (.tup [.ref ha, natV u]) → Q (.ref t) H'
/-- what a release tree and its depths and parents are, on the log -/
def DepOk (tr : Trr) (log : List Nat) (dep par : Nat → Nat) : Prop := ∀ v, v ∈ log → ∃ hs, tr[v]? = some (some hs) ∧ (hs = none → dep v = 0) ∧ ∀ h x, hs = some (h, x) → h ∈ log ∧ dep v = dep h + 1 ∧ par v = h
def spDepth : Sp := fun vs H Q _ => ∃ (t : Addr) (xs : List V) (tr : Trr) (log : List Nat) (dep par : Nat → Nat) (v : Nat), vs = [.ref t, natV v] ∧ H t = some (.tup xs) ∧ Paired (TrAt H) xs tr ∧ DepOk tr log dep par ∧ v ∈ log ∧
  ∀ H', Same H H' → Q (natV (dep v)) H'
section
variable {P : Program} {w : World} {K : PySem.W.Frag} {mg : Str → Option Value} {base : Heap}
theorem scPile : FnScope ["_law_pen_here", "_law_top", "_law_way", "_law_many"] ["_law_pen_here", "_law_top"] (defScope sPile) := ⟨rfl, rfl, rfl, by decide +kernel, rfl, by decide +kernel, by decide +kernel⟩
theorem ok_pile (B : Blt mg) (G : Cal P w K mg base 1 "_law_draw" ["_law_pen_here", "_law_many"] spDraw) (GO : Cal P w K mg base 4 "_law_pile_of" ["_law_pen_here", "_law_many"] spPileOf)
    (D : DefIn K mg "_law_pile" sPile ["_law_pen_here", "_law_top"]) : Cal P w K mg base 5 "_law_pile" ["_law_pen_here", "_law_top"] spPile := by
  obtain ⟨f, fd, hm, F, hb⟩ := D
  refine ⟨f, fd, hm, F.kp, hb, F.ok scPile (fun vs H Q E h => ?_) (fun cdv A outer st H vs Q E hr h => ?_)⟩
  · obtain ⟨_, _, _, _, rfl, _⟩ := h; rfl
  obtain ⟨p, a, m, c, rfl, hm0, hm40, pen, q⟩ := h
  have nd := scPile.nd
  have hr1 := hr.mono (show 1 ≤ 4 by decide)
  have hr4 := hr.mono (show 4 ≤ 4 by decide)
  refine ⟨_, pss_cons (ps_set (i := 2) nd rfl (.inl rfl) (pe_cal G hr1 rfl (pa_cons (pv 0) (pa_cons pe_int pa_nil))))
    (pss_cons (ps_set (i := 3) nd rfl (.inl rfl) (pe_op op_add pe_int (pe_cal G hr1 rfl (pa_cons (pv 0) (pa_cons (pe_ix ix_list (pe_lst (pa_cons pe_int (pa_cons pe_int (pa_cons pe_int (pa_cons pe_int (pa_cons pe_int (pa_cons (pv 1) (pa_cons (pv 1) (pa_cons (pv 1) pa_nil))))))))) (pv 2) (fun _ _ => rfl)) pa_nil)))))
    (pss_one (ps_ret (pe_cal GO hr4 rfl (pa_cons (pv 0) (pa_cons (pe_ix ix_list (pe_lst (pa_cons (pv 3) (pa_cons (pv 1) pa_nil))) (pe_callTy cr_int1 (by rfl) B.int (by decide +kernel) (pa_cons (pe_cmpR op_eq (pv 2) pe_int (nomark _)) pa_nil)) (fun _ _ => rfl)) pa_nil)))))), ?_⟩
  refine ⟨_, rfl, p, a, 8, c + 191, rfl, by decide, by decide, pen, fun way H1 hw pen1 b1 => ?_⟩
  refine ⟨_, rfl, _, rfl, _, rfl, _, rfl, (by show 8 ≤ sizeLine; decide), fun p1 hp1 => ?_⟩
  have pen2 := pen1.upd (o := .lst [V.int 4, V.int 7, V.int 7, V.int 12, V.int 12, natV m, natV m, natV m]) (pen1.fresh hp1).1 (pen1.fresh hp1).2
  have hway : way < [V.int 4, V.int 7, V.int 7, V.int 12, V.int 12, natV m, natV m, natV m].length := hw
  have hx := List.getElem_mem hway
  have ex := atI_nat (List.getElem?_eq_getElem hway)
  generalize [V.int 4, V.int 7, V.int 7, V.int 12, V.int 12, natV m, natV m, natV m][way] = x at hx ex
  have hz : ∃ z : Nat, x = natV z ∧ 0 < z ∧ z ≤ 40 := by
    simp only [List.mem_cons, List.not_mem_nil, or_false] at hx
    rcases hx with rfl | rfl | rfl | rfl | rfl | rfl | rfl | rfl
    · exact ⟨4, rfl, by decide, by decide⟩
    · exact ⟨7, rfl, by decide, by decide⟩
    · exact ⟨7, rfl, by decide, by decide⟩
    · exact ⟨12, rfl, by decide, by decide⟩
    · exact ⟨12, rfl, by decide, by decide⟩
    · exact ⟨m, rfl, hm0, hm40⟩
    · exact ⟨m, rfl, hm0, hm40⟩
    · exact ⟨m, rfl, hm0, hm40⟩
  obtain ⟨z, rfl, hz0, hz40⟩ := hz
  refine ⟨_, rfl, p1, _, (way : Int), _, rfl, rfl, SqL.of upd_same, ex, p, a, z, c + 190, rfl, hz0, by omega, pen2, fun r H2 hrz pen3 b3 => ?_⟩
  refine ⟨_, _, rfl, rfl, ?_⟩
  refine ⟨_, rfl, _, rfl, _, rfl, (by show 2 ≤ sizeLine; decide), fun p2 hp2 => ?_⟩
  have pen4 := pen3.upd (o := .lst [natV (1 + r), natV m]) (pen3.fresh hp2).1 (pen3.fresh hp2).2
  refine ⟨_, rfl, rfl, .inr ⟨_, rfl, ?_⟩⟩
  cases decide (natV way = V.int 7) with
  | true => exact ⟨p2, _, 1, natV m, rfl, rfl, SqL.of upd_same, rfl, p, a, m, c, rfl, hm0, hm40, pen4, q⟩
  | false => exact ⟨p2, _, 0, natV (1 + r), rfl, rfl, SqL.of upd_same, rfl, p, a, 1 + r, c, rfl, by omega, by omega, pen4, q⟩
theorem scDepth : FnScope ["_law_tree", "_law_item", "_law_found"] ["_law_tree", "_law_item"] (defScope sDepth) := ⟨rfl, rfl, rfl, by decide +kernel, rfl, by decide +kernel, by decide +kernel⟩
theorem paired_same {H H' : Hp} (s : Same H H') {xs : List V} {tr : Trr} (h : Paired (TrAt H) xs tr) : Paired (TrAt H') xs tr := L2.Paired.mapP h fun _ _ q => q.mono fun b zs e => s _ _ e
theorem ok_depth (D : DefIn K mg "_law_depth" sDepth ["_law_tree", "_law_item"]) : Cal P w K mg base 1 "_law_depth" ["_law_tree", "_law_item"] spDepth := by
  obtain ⟨f, fd, hm, F, hb⟩ := D
  refine ⟨f, fd, hm, F.kp, hb, F.ok scDepth (fun vs H Q E h => ?_) (fun cdv A outer st H vs Q E hr h => ?_)⟩
  · obtain ⟨_, _, _, _, _, _, _, rfl, _⟩ := h; rfl
  obtain ⟨t, xs, tr, log, dep, par, v0, rfl, ht, htr, hdep, hv0, q⟩ := h
  have nd := scDepth.nd
  refine ⟨_, pss_cons (ps_set (i := 2) nd rfl (.inl rfl) pe_int)
    (pss_cons (ps_while PassesOwn.never (pt_cmpR (op_neD hr.units) (pe_ix ix_tup (pv 0) (pv 1) (fun _ _ => rfl)) (pe_tup pa_nil) (nomark _))
      (pss_cons (ps_set (i := 1) nd rfl (.inl rfl) (pe_ix ix_tup (pe_ix ix_tup (pv 0) (pv 1) (fun _ _ => rfl)) pe_int (fun _ _ => rfl)))
      (pss_one (ps_set (i := 2) nd rfl (.inl rfl) (pe_op op_add (pv 2) pe_int)))))
    (pss_one (ps_ret (pv 2)))), ?_⟩
  refine ⟨fun m σ H' => ∃ v k : Nat, σ = [some (.ref t), some (natV v), some (natV k)] ∧ Same H H' ∧ v ∈ log ∧ dep v = m ∧ k + m = dep v0, ⟨dep v0, v0, 0, rfl, fun _ _ e => e, hv0, rfl, by omega⟩, ?_⟩
  rintro m σ H' ⟨v, k, rfl, s, hv, hm', hk⟩
  obtain ⟨hs, e1, e2, e3⟩ := hdep v hv
  obtain ⟨x, hx, htx⟩ := paired_get (paired_same s htr) e1
  have hat : atI xs (v : Int) = some x := atI_nat hx
  cases hs with
  | none =>
    obtain ⟨p1, rfl, hp1⟩ := htx
    refine ⟨_, rfl, _, rfl, t, xs, (v : Int), _, rfl, rfl, SqT.of (s _ _ ht), hat, Nat.zero_le _, fun ep hep => ?_⟩
    have n1 := same_new hep (.tup [])
    refine ⟨.tuple [], .tuple [], .tup (SqT.of (n1 _ _ hp1)) .nil, .tup (SqT.of upd_same) .nil, rfl, rfl, false, rfl, iteF ⟨_, rfl, ?_⟩⟩
    have ek : k = dep v0 := by rw [← hk, ← hm', e2 rfl]; omega
    rw [ek]
    exact q _ (s.trans n1)
  | some hx' =>
    obtain ⟨h, sl⟩ := hx'
    obtain ⟨hl, hd, _⟩ := e3 h sl rfl
    obtain ⟨p1, rfl, hp1⟩ := htx
    refine ⟨_, rfl, _, rfl, t, xs, (v : Int), _, rfl, rfl, SqT.of (s _ _ ht), hat, Nat.zero_le _, fun ep hep => ?_⟩
    have n1 := same_new hep (.tup [])
    refine ⟨.tuple ([(h : Int), (sl : Int)].map PyData.int), .tuple [], .tup (SqT.of (n1 _ _ hp1)) (dpAll_ints [(h : Int), (sl : Int)]), .tup (SqT.of upd_same) .nil, shaped_ints_tuple _, rfl, true, by rw [eqv_nil_tuple]; rfl, iteT ?_⟩
    have s2 := s.trans n1
    refine ⟨fun σ' H' => ∃ m', m' < m ∧ ∃ v k : Nat, σ' = [some (.ref t), some (natV v), some (natV k)] ∧ Same H H' ∧ v ∈ log ∧ dep v = m' ∧ k + m' = dep v0, fun σ' H' z => z, ?_⟩
    refine ⟨_, rfl, _, rfl, t, xs, (v : Int), _, rfl, rfl, SqT.of (s2 _ _ ht), hat, p1, _, 0, natV h, rfl, rfl, SqT.of (n1 _ _ hp1), rfl, _, rfl, _, _, rfl, rfl, ?_⟩
    exact ⟨dep h, by omega, h, k + 1, rfl, s2, hl, rfl, by omega⟩
end
end SW

/-! The lengths that the law counts. -/
namespace SW
open PySem PySem.Spec PyProof.Rows L2 WR SF
def spotsKV : Nat → List Nat → List (Key × V)
  | _, [] => []
  | i, v :: r => (.inl (v : Int), natV i) :: spotsKV (i + 1) r
theorem spots_len : ∀ (i : Nat) (log : List Nat), (spotsKV i log).length = log.length
  | _, [] => rfl
  | i, _ :: r => by
    show (spotsKV (i + 1) r).length + 1 = _
    rw [spots_len (i + 1) r]; rfl
theorem spots_get : ∀ (j : Nat) (log : List Nat) (i v : Nat), log[i]? = some v → (spotsKV j log)[i]? = some (.inl (v : Int), natV (j + i))
  | _, [], i, v, h => by simp at h
  | j, x :: r, 0, v, h => by
    simp at h
    subst h
    rfl
  | j, x :: r, i + 1, v, h => by
    have := spots_get (j + 1) r i v (by simpa using h)
    show (spotsKV (j + 1) r)[i]? = _
    rw [this]
    rw [show j + 1 + i = j + (i + 1) by omega]
theorem idx_ne {x v : Nat} {r : List Nat} (h : x ≠ v) : (x :: r).idxOf v = r.idxOf v + 1 := by
  rw [List.idxOf_cons]
  have : (x == v) = false := by simpa using h
  rw [this]; rfl
theorem spots_val : ∀ (log : List Nat) (i : Nat) (acc : List (Key × V)) (v : Nat), log.Nodup → valV (mergeK acc (spotsKV i log)) (.inl (v : Int)) = if v ∈ log then some (natV (i + log.idxOf v)) else valV acc (.inl (v : Int))
  | [], i, acc, v, _ => by simp [spotsKV, mergeK]
  | x :: r, i, acc, v, hn => by
    obtain ⟨hx, hr⟩ := List.nodup_cons.mp hn
    show valV (mergeK (putK acc (.inl (x : Int)) (natV i)) (spotsKV (i + 1) r)) (.inl (v : Int)) = _
    rw [spots_val r (i + 1) _ v hr, valV_put]
    by_cases e : v = x
    · subst e
      rw [if_neg hx, if_pos rfl, if_pos List.mem_cons_self, List.idxOf_cons_self]
      rfl
    · have ne : ¬ ((Sum.inl (v : Int) : Key) = Sum.inl (x : Int)) := fun q => e (by injection q with q; omega)
      rw [if_neg ne]
      by_cases hm : v ∈ r
      · rw [if_pos hm, if_pos (List.mem_cons_of_mem _ hm), idx_ne (fun q => e q.symm)]
        congr 2
        omega
      · rw [if_neg hm, if_neg (fun q => by cases List.mem_cons.mp q with
          | inl q => exact e q
          | inr q => exact hm q)]
/-- the nodes that stand on the shelf at some time -/
def shF (L : Nat) (dep : Nat → Nat) (v : Nat) : Bool := decide (0 < dep v) && decide (dep v % L = 0)
def pairF (par : Nat → Nat) (log : List Nat) (v : Nat) : Nat × Nat := (log.idxOf (par v), log.idxOf v)
def inF (k : Nat) (ab : Nat × Nat) : Bool := decide (ab.1 ≤ k) && decide (k < ab.2)
theorem spans_count (L : Nat) (dep par : Nat → Nat) (log : List Nat) (k : Nat) : ((log.filter (shF L dep)).map (pairF par log)).countP (inF k) = log.countP (condF L dep par log k) := by
  rw [List.countP_map, List.countP_filter]
  congr 1
  funext v
  unfold condF shF inF pairF
  simp only [Function.comp]
  generalize decide (0 < dep v) = b1
  generalize decide (dep v % L = 0) = b2
  generalize decide (log.idxOf (par v) ≤ k) = b3
  generalize decide (k < log.idxOf v) = b4
  cases b1 <;> cases b2 <;> cases b3 <;> cases b4 <;> rfl
def spLens : Sp := fun vs H Q _ => ∃ (t lg : Addr) (xs : List V) (tr : Trr) (log : List Nat) (L : Nat) (dep par : Nat → Nat), vs = [.ref t, .ref lg, natV L] ∧ H t = some (.tup xs) ∧ Paired (TrAt H) xs tr ∧ H lg = some (.tup (log.map natV)) ∧ log.Nodup ∧ log.length ≤ 40 ∧ 0 < L ∧ L ≤ 100 ∧ DepOk tr log dep par ∧
  ∀ t' o H', Same H H' → TupO o → H' t' = some (.frz o (.tup (((List.range log.length).map fun k => ((log.countP (condF L dep par log k) : Nat) : Int)).map V.int))) → Q (.ref t') H'
section
variable {P : Program} {w : World} {K : PySem.W.Frag} {mg : Str → Option Value} {base : Heap}
def lensSc : Scope := { kind := .function, names := [(".0", .local), ("_law_k", .cell), ("len", .globalImplicit), ("_law_spans", .cell)], isGenerator := false, isCoroutine := false }
abbrev nLens : List Str := ["_law_tree", "_law_log", "_law_cap", "_law_spots", "_law_spans", "_law_item", "_law_deep", "_law_k", "_law_span"]
theorem scLens : FnScope nLens ["_law_tree", "_law_log", "_law_cap"] (defScope sLens) := ⟨rfl, rfl, rfl, by decide +kernel, rfl, by decide +kernel, by decide +kernel⟩
set_option maxHeartbeats 4000000 in
theorem ok_lens (B : Blt mg) (GD : Cal P w K mg base 1 "_law_depth" ["_law_tree", "_law_item"] spDepth) (D : DefIn K mg "_law_lengths" sLens ["_law_tree", "_law_log", "_law_cap"]) : Cal P w K mg base 2 "_law_lengths" ["_law_tree", "_law_log", "_law_cap"] spLens := by
  obtain ⟨f, fd, hm, F, hb⟩ := D
  refine ⟨f, fd, hm, F.kp, hb, F.ok scLens (fun vs H Q E h => ?_) (fun cdv A outer st H vs Q E hr h => ?_)⟩
  · obtain ⟨_, _, _, _, _, _, _, _, rfl, _⟩ := h; rfl
  obtain ⟨t, lg, xs, tr, log, L, dep, par, rfl, ht, htr, hlg, hnd, hl40, hL, hL100, hdep, q⟩ := h
  have nd := scLens.nd
  refine ⟨_, pss_cons (ps_set (i := 3) nd rfl (.inl rfl) (pe_callTy (call_dictP rfl) (by rfl) B.dict (by decide +kernel) (pa_cons (pe_lc (own := [("_law_k", 7)]) (g := gName 7) (tt := tYes) (te := tTup (tCons (tOp (rIxT K) (tVar 1) (tVar 7)) (tCons (tVar 7) tNil))) rfl nd (pi_range1 rfl B.range (pa_cons (pe_callB cr_lenS (by rfl) B.len (by decide +kernel) (pa_cons (pv 1) pa_nil)) pa_nil))
      (blkOk_by (N := nLens) (sc := defScope sLens) (by decide +kernel)) (fun _ _ _ _ _ => pg_name (i := 7) nd rfl (Or.inl rfl)) (fun _ _ _ _ _ => pts_nil)
      (fun _ _ _ _ _ => pe_tup (pa_cons (pe_ix ix_tup (pv 1) (pv 7) (fun _ _ => rfl)) (pa_cons (pv 7) pa_nil)))) pa_nil)))
    (pss_cons (ps_set (i := 4) nd rfl (.inr rfl) (pe_lst pa_nil))
    (C8.pss_cut (ps_for PassesOwn.never rfl (pi_tup (pv 1)) (pg_name (i := 5) nd rfl (.inl rfl))
      (pss_cons (ps_set (i := 6) nd rfl (.inl rfl) (pe_cal GD hr rfl (pa_cons (pv 0) (pa_cons (pv 5) pa_nil))))
      (pss_one (ps_if (PW.pt (pw_and (pt_cmpR op_gt (pv 6) pe_int (nomark _)) (pw_and1 (pt_cmpR op_eq (pe_op op_modN (pv 6) (pv 2)) pe_int (nomark _)))))
        (pss_one (ps_expr (pe_bm PySem.F.plainAttrs_list PySem.F.slot_list_append PySem.F.type_list_append mt_append (pv 4) (pa_cons (pe_tup (pa_cons (pe_dget (hu_of hr) (pv 3) (pe_ix ix_tup (pe_ix ix_tup (pv 0) (pv 5) (fun _ _ => rfl)) pe_int (fun _ _ => rfl)) (fun _ _ => rfl)) (pa_cons (pe_dget (hu_of hr) (pv 3) (pv 5) (fun _ _ => rfl)) pa_nil))) pa_nil)))) pss_nil))))
    (pss_one (ps_ret (pe_callTy cr_tupF (by rfl) B.tuple (by decide +kernel) (pa_cons (pe_lc (own := [("_law_k", 7)]) (g := gName 7) (tt := tYes)
        (te := tCB (rLenS K) (tCons (tLc (iList K (tVar 4)) (gName 8) (tTest (tChain (rI0 fun i j => .bl (decide (i ≤ j))) (rI0 fun i j => .bl (decide (i < j))) (tOp (rIxT K) (tVar 8) (tC (.int 0))) (tVar 7) (tOp (rIxT K) (tVar 8) (tC (.int 1))))) (tVar 8) [8]) tNil)) rfl nd
        (pi_range1 rfl B.range (pa_cons (pe_callB cr_lenS (by rfl) B.len (by decide +kernel) (pa_cons (pv 1) pa_nil)) pa_nil))
        (blkOk_by (N := nLens) (sc := defScope sLens) (by decide +kernel)) (fun _ _ _ _ _ => pg_name (i := 7) nd rfl (Or.inr rfl)) (fun _ _ _ _ _ => pts_nil)
        (fun _ _ _ _ _ => pe_callB cr_lenS (by rfl) B.len (by decide +kernel) (pa_cons (pe_lc (own := [("_law_span", 8)]) (g := gName 8) (tt := tTest (tChain (rI0 fun i j => .bl (decide (i ≤ j))) (rI0 fun i j => .bl (decide (i < j))) (tOp (rIxT K) (tVar 8) (tC (.int 0))) (tVar 7) (tOp (rIxT K) (tVar 8) (tC (.int 1))))) (te := tVar 8) rfl nd
          (pi_list (pv 4)) (blkOk_by (N := nLens) (sc := lensSc) (by decide +kernel)) (fun _ _ _ _ _ => pg_name (i := 8) nd rfl (Or.inl rfl)) (fun _ _ _ _ _ => pts_one (pt_chain op_le op_lt (pe_ix ix_tup (pv 8) pe_int (fun _ _ => rfl)) (pv 7) (pe_ix ix_tup (pv 8) pe_int (fun _ _ => rfl))))
          (fun _ _ _ _ _ => pv 8)) pa_nil))) pa_nil)))))), ?_⟩
  have hll : (log.map natV).length = log.length := List.length_map _
  -- spots
  refine ⟨_, rfl, lg, _, rfl, .inr (SqT.of hlg), _, rfl, by rw [hll]; omega, by rw [hll]; omega, fun pda hpd => ?_⟩
  rw [hll, Int.toNat_natCast]
  refine lc_range (lo := 0) (n := log.length) (fun i H' => ∃ ps : List Addr, Same H H' ∧ H' pda = some (.lst (ps.map V.ref)) ∧ Paired (fun p (kv : Key × V) => H' p = some (.tup [kV kv.1, kv.2])) ps ((spotsKV 0 log).take i))
    ⟨[], same_new hpd _, upd_same, .nil⟩ ?_ ?_
  · rintro i H' hi ⟨ps, s, h1, h2⟩
    rw [Int.zero_add]
    refine ⟨rfl, _, rfl, _, rfl, lg, _, (i : Int), _, rfl, rfl, SqT.of (s _ _ hlg), atn hi, _, rfl, (by show 2 ≤ sizeLine; decide), fun tp htp => ?_⟩
    have n1 := same_new htp (.tup [natV log[i], natV i])
    have e1 := n1 _ _ h1
    have hpl : ps.length ≤ 40 := by
      have := h2.length
      rw [List.length_take] at this
      omega
    have kt : ∀ {p : Addr} {ys : List V}, H' p = some (.tup ys) → (upd (upd H' tp (.tup [natV log[i], natV i])) pda (.lst (ps.map V.ref ++ [V.ref tp]))) p = some (.tup ys) := fun e => (upd_ne (ne_of e h1 (fun z => by cases z))).trans (n1 _ _ e)
    have htpd : tp ≠ pda := ne_of upd_same e1 (fun z => by cases z)
    refine ⟨ps.map V.ref, e1, by rw [List.length_map, sizeLine_eq]; omega, ps ++ [tp], same_upd hpd (s.trans n1), by rw [upd_same, List.map_append]; rfl, ?_⟩
    have hg := spots_get 0 log i log[i] (List.getElem?_eq_getElem hi)
    rw [Nat.zero_add] at hg
    rw [List.take_succ, hg]
    exact paired_snoc (L2.Paired.mapP h2 fun _ _ z => kt z) ((upd_ne htpd).trans upd_same)
  rintro H1 ⟨ps, s1, h1, h2⟩
  rw [show (spotsKV 0 log).take log.length = spotsKV 0 log by rw [← spots_len 0 log, List.take_length]] at h2
  refine ⟨pda, ps, spotsKV 0 log, rfl, SqL.of h1, L2.Paired.mapP h2 fun _ _ z => SqT.of z, fun da hda => ?_⟩
  have s2 := s1.trans (same_new hda (.dK (mergeK [] (spotsKV 0 log))))
  have hd2 : (upd H1 da (.dK (mergeK [] (spotsKV 0 log)))) da = some (.dK (mergeK [] (spotsKV 0 log))) := upd_same
  change L2.Ends.nx _ _ (upd H1 da (.dK (mergeK [] (spotsKV 0 log))))
  generalize upd H1 da (.dK (mergeK [] (spotsKV 0 log))) = H2 at s2 hd2
  have spot : ∀ {H' : Hp} (v : Nat), H' da = some (.dK (mergeK [] (spotsKV 0 log))) → v ∈ log → DGet H' da (natV v) (some (natV (log.idxOf v))) := fun {H'} v e hv => by
    have := DGet.k (k := .inl (v : Int)) e
    rw [spots_val log 0 [] v hnd, if_pos hv, Nat.zero_add] at this
    exact this
  clear h1 h2 s1 hda
  -- spans
  refine ⟨Nat.zero_le _, fun spa hsp => ?_⟩
  have s3 := s2.trans (same_new hsp (.lst []))
  have hspH : H spa = none := s2.free hsp
  refine ⟨fun σ' H' => ∃ (x5 x6 : Option V) (sps : List Addr), σ' = [some (.ref t), some (.ref lg), some (natV L), some (.ref da), some (.ref spa), x5, x6, none, none] ∧ Same H H' ∧ H' spa = some (.lst (sps.map V.ref)) ∧ Paired (fun p (ab : Nat × Nat) => H' p = some (.tup [natV ab.1, natV ab.2])) sps ((log.filter (shF L dep)).map (pairF par log)), ?_, ?_⟩
  · refine ⟨_, rfl, lg, rfl, ⟨_, SqT.of (s3 _ _ hlg)⟩, for_tup (K := K) (a := lg) (xs := log.map natV) (fun i σ' H' => ∃ (x5 x6 : Option V) (sps : List Addr), σ' = [some (.ref t), some (.ref lg), some (natV L), some (.ref da), some (.ref spa), x5, x6, none, none] ∧ Same H H' ∧ H' da = some (.dK (mergeK [] (spotsKV 0 log))) ∧ H' spa = some (.lst (sps.map V.ref)) ∧ Paired (fun p (ab : Nat × Nat) => H' p = some (.tup [natV ab.1, natV ab.2])) sps (((log.take i).filter (shF L dep)).map (pairF par log)))
      ⟨none, none, [], rfl, s3, (upd_ne (ne_of_none hd2 hsp)).trans hd2, upd_same, .nil⟩ (fun i σ H' _ ⟨_, _, _, _, s, _⟩ => SqT.of (s _ _ hlg)) ?_ ?_⟩
    · rintro i x σ H' hx ⟨x5, x6, sps, rfl, s, hd', hs', hp'⟩
      have hil := (List.getElem?_eq_some_iff.mp hx).1
      rw [List.length_map] at hil
      rw [List.getElem?_map, List.getElem?_eq_getElem hil] at hx
      have ex := (Option.some.inj hx).symm
      subst ex
      have htk : log.take (i + 1) = log.take i ++ [log[i]] := by rw [List.take_succ, List.getElem?_eq_getElem hil]; rfl
      have hv := List.getElem_mem hil
      generalize log[i] = v at htk hv
      have hsl : sps.length ≤ 40 := by
        have h1 := hp'.length
        rw [List.length_map] at h1
        have h2 := List.length_filter_le (shF L dep) (log.take i)
        rw [List.length_take] at h2
        omega
      refine ⟨_, rfl, _, rfl, t, xs, tr, log, dep, par, v, rfl, s _ _ ht, paired_same s htr, hdep, hv, fun H3 s3' => ?_⟩
      have s4 := s.trans s3'
      have hd4 := s3' _ _ hd'
      have hs4 := s3' _ _ hs'
      have hp4 : Paired (fun p (ab : Nat × Nat) => H3 p = some (.tup [natV ab.1, natV ab.2])) sps (((log.take i).filter (shF L dep)).map (pairF par log)) := L2.Paired.mapP hp' fun _ _ z => s3' _ _ z
      have quiet : shF L dep v = false → ∃ (x5' x6' : Option V) (sps : List Addr), ([some (.ref t), some (.ref lg), some (natV L), some (.ref da), some (.ref spa), some (natV v), some (natV (dep v)), none, none] : L2.St) = [some (.ref t), some (.ref lg), some (natV L), some (.ref da), some (.ref spa), x5', x6', none, none] ∧ Same H H3 ∧ H3 da = some (.dK (mergeK [] (spotsKV 0 log))) ∧ H3 spa = some (.lst (sps.map V.ref)) ∧ Paired (fun p (ab : Nat × Nat) => H3 p = some (.tup [natV ab.1, natV ab.2])) sps (((log.take (i + 1)).filter (shF L dep)).map (pairF par log)) := fun e => by
        refine ⟨_, _, sps, rfl, s4, hd4, hs4, ?_⟩
        rw [htk, List.filter_append, List.filter_cons_of_neg (by rw [e]; decide), List.filter_nil, List.append_nil]
        exact hp4
      refine ⟨_, rfl, _, _, rfl, rfl, _, rfl, ite2 (fun c1 => ?_) (fun c1 => iteF (quiet ?_))⟩
      case refine_2 =>
        unfold shF
        have : ¬ (0 : Int) < (dep v : Int) := fun z => c1 (decide_eq_true z)
        rw [decide_eq_false (by omega)]; rfl
      have c1 : (0 : Int) < (dep v : Int) := of_decide_eq_true c1
      have efm : ((dep v : Nat) : Int).fmod ((L : Nat) : Int) = ((dep v % L : Nat) : Int) := by
        rw [Int.fmod_eq_emod_of_nonneg _ (by omega)]; rfl
      refine ⟨_, rfl, _, rfl, _, _, rfl, rfl, (by show ((L : Nat) : Int) ≠ 0; omega), rfl, _, rfl, ite2 (fun c2 => ?_) (fun c2 => quiet ?_)⟩
      case refine_2 =>
        unfold shF
        have : ¬ V.int (((dep v : Nat) : Int).fmod ((L : Nat) : Int)) = V.int 0 := fun z => c2 (decide_eq_true z)
        rw [efm] at this
        rw [decide_eq_false (p := dep v % L = 0) (fun z => this (by rw [z]; rfl)), Bool.and_false]
      have c2 : V.int (((dep v : Nat) : Int).fmod ((L : Nat) : Int)) = V.int 0 := of_decide_eq_true c2
      rw [efm] at c2
      have c3 : dep v % L = 0 := by injection c2 with c2; omega
      have hsh : shF L dep v = true := by
        unfold shF
        rw [decide_eq_true (show 0 < dep v by omega), decide_eq_true c3]; rfl
      obtain ⟨hs, e1, e2, e3⟩ := hdep v hv
      obtain ⟨x, hx, htx⟩ := paired_get (paired_same s4 htr) e1
      cases hs with
      | none => rw [e2 rfl] at c1; exact absurd c1 (by decide)
      | some pr =>
      obtain ⟨h, sl⟩ := pr
      obtain ⟨hl, _, hpv⟩ := e3 h sl rfl
      obtain ⟨p1, rfl, hp1⟩ := htx
      refine ⟨_, rfl, .inl ⟨rfl, _, SqL.of hs4⟩, _, rfl, _, rfl, _, rfl, t, xs, (v : Int), _, rfl, rfl, SqT.of (s4 _ _ ht), atI_nat hx, p1, _, 0, natV h, rfl, rfl, SqT.of hp1, rfl, da, _, rfl, spot h hd4 hl, _, rfl, _, rfl, da, _, rfl, spot v hd4 hv, (by show 2 ≤ sizeLine; decide), fun tp htp => ?_⟩
      have n1 := same_new htp (.tup [natV (log.idxOf h), natV (log.idxOf v)])
      have e5 := n1 _ _ hs4
      refine ⟨spa, _, _, rfl, rfl, e5, by rw [List.length_map, sizeLine_eq]; omega, ?_⟩
      have kt : ∀ {p : Addr} {ys : List V}, H3 p = some (.tup ys) → (upd (upd H3 tp (.tup [natV (log.idxOf h), natV (log.idxOf v)])) spa (.lst (sps.map V.ref ++ [V.ref tp]))) p = some (.tup ys) := fun e => (upd_ne (ne_of e hs4 (fun z => by cases z))).trans (n1 _ _ e)
      have htps : tp ≠ spa := ne_of upd_same e5 (fun z => by cases z)
      refine ⟨_, _, sps ++ [tp], rfl, same_upd hspH (s4.trans n1), (upd_ne (ne_of hd4 hs4 (fun z => by cases z))).trans (n1 _ _ hd4), by rw [upd_same, List.map_append]; rfl, ?_⟩
      rw [htk, List.filter_append, List.filter_cons_of_pos hsh, List.filter_nil, List.map_append]
      refine paired_snoc (L2.Paired.mapP hp4 fun _ _ z => kt z) ?_
      refine (upd_ne htps).trans ?_
      show (upd H3 tp (.tup [natV (log.idxOf h), natV (log.idxOf v)])) tp = some (.tup [natV (log.idxOf (par v)), natV (log.idxOf v)])
      rw [hpv, upd_same]
    · rintro σ' H' ⟨x5, x6, sps, rfl, s, _, hs', hp'⟩
      rw [List.length_map, List.take_length] at hp'
      exact ⟨x5, x6, sps, rfl, s, hs', hp'⟩
  rintro σ' H3 ⟨x5, x6, sps, rfl, s4, hs4, hp4⟩
  have hsc : ∀ k, ((log.filter (shF L dep)).map (pairF par log)).countP (inF k) = log.countP (condF L dep par log k) := spans_count L dep par log
  have hspl : ((log.filter (shF L dep)).map (pairF par log)).length ≤ 40 := by
    rw [List.length_map]
    exact Nat.le_trans (List.length_filter_le _ _) hl40
  generalize (log.filter (shF L dep)).map (pairF par log) = spl at hp4 hsc hspl
  -- the counts
  refine ⟨_, rfl, lg, _, rfl, .inr (SqT.of (s4 _ _ hlg)), _, rfl, by rw [hll]; omega, by rw [hll]; omega, fun rsa hrs => ?_⟩
  rw [hll, Int.toNat_natCast]
  refine lc_range (lo := 0) (n := log.length) (fun i H' => Same H3 H' ∧ H' rsa = some (.lst ((List.range i).map fun k => natV (log.countP (condF L dep par log k)))))
    ⟨same_new hrs _, upd_same⟩ ?_ ?_
  · rintro i H' hi ⟨s5, h5⟩
    rw [Int.zero_add]
    refine ⟨rfl, _, rfl, spa, rfl, ⟨_, SqL.of (s5 _ _ hs4)⟩, fun isa his => ?_⟩
    refine lc_list (K := K) (a := spa) (xs := sps.map V.ref) (fun j H'' => ∃ acc : List V, Same H' H'' ∧ H'' isa = some (.lst acc) ∧ acc.length = (spl.take j).countP (inF i))
      ⟨[], same_new his _, upd_same, rfl⟩ (fun j H'' _ ⟨_, s, _⟩ => SqL.of (s _ _ (s5 _ _ hs4))) ?_ ?_
    · rintro j x H'' hx ⟨acc, s6, h6, hacc⟩
      have hjl := (List.getElem?_eq_some_iff.mp hx).1
      rw [List.length_map] at hjl
      rw [List.getElem?_map, List.getElem?_eq_getElem hjl] at hx
      have ex := (Option.some.inj hx).symm
      subst ex
      obtain ⟨ab, hab, hpp⟩ := paired_getL hp4 (List.getElem?_eq_getElem hjl)
      have htk : spl.take (j + 1) = spl.take j ++ [ab] := by rw [List.take_succ, hab]; rfl
      have hp7 := s6 _ _ (s5 _ _ hpp)
      have hal : acc.length ≤ 40 := by
        have h1 := List.countP_le_length (p := inF i) (l := spl.take j)
        rw [List.length_take] at h1
        omega
      have hjs := (List.getElem?_eq_some_iff.mp hab).1
      have stay : inF i ab = false → ∃ acc : List V, Same H' H'' ∧ H'' isa = some (.lst acc) ∧ acc.length = (spl.take (j + 1)).countP (inF i) := fun e => by
        refine ⟨acc, s6, h6, ?_⟩
        rw [htk, List.countP_append, List.countP_cons_of_neg (by rw [e]; decide), List.countP_nil, Nat.add_zero]
        exact hacc
      refine ⟨rfl, _, rfl, sps[j], _, 0, natV ab.1, rfl, rfl, SqT.of hp7, rfl, _, rfl, _, _, rfl, rfl, _, rfl, ite2 (fun c1 => ?_) (fun c1 => ⟨_, rfl, iteF (stay ?_)⟩)⟩
      case refine_2 =>
        unfold inF
        have : ¬ (ab.1 : Int) ≤ (i : Int) := fun z => c1 (decide_eq_true z)
        rw [decide_eq_false (by omega)]; rfl
      have c1 : (ab.1 : Int) ≤ (i : Int) := of_decide_eq_true c1
      refine ⟨_, rfl, sps[j], _, 1, natV ab.2, rfl, rfl, SqT.of hp7, rfl, _, _, rfl, rfl, _, rfl, ite2 (fun c2 => ?_) (fun c2 => stay ?_)⟩
      case refine_2 =>
        unfold inF
        have : ¬ (i : Int) < (ab.2 : Int) := fun z => c2 (decide_eq_true z)
        rw [decide_eq_false (p := i < ab.2) (by omega), Bool.and_false]
      have c2 : (i : Int) < (ab.2 : Int) := of_decide_eq_true c2
      refine ⟨_, rfl, acc, h6, by rw [sizeLine_eq]; omega, acc ++ [V.ref sps[j]], same_upd his s6, upd_same, ?_⟩
      rw [htk, List.countP_append, List.countP_cons_of_pos (by unfold inF; rw [decide_eq_true (by omega), decide_eq_true (by omega)]; rfl), List.countP_nil, List.length_append, hacc]
      rfl
    · rintro H'' ⟨acc, s6, h6, hacc⟩
      have hfl : spl.take (sps.map V.ref).length = spl := by rw [List.length_map, hp4.length, List.take_length]
      rw [hfl, hsc i] at hacc
      refine ⟨isa, acc, rfl, .inl (SqL.of h6), _, s6 _ _ h5, by rw [List.length_map, List.length_range, sizeLine_eq]; omega, same_upd hrs (s5.trans s6), ?_⟩
      rw [upd_same, List.range_succ, List.map_append, hacc]
      rfl
  rintro H4 ⟨s5, h5⟩
  refine ⟨rsa, _, rfl, SqL.of h5, fun l o hl ho => q l o _ ((s4.trans s5).trans (same_new hl _)) ho ?_⟩
  rw [upd_same, List.map_map]
  rfl
end
end SW

/-! One limit put right. -/
namespace SW
open PySem PySem.Spec PyProof.Rows L2 WR SF
/-- small data that a repr shows -/
def Sml : V → Prop
  | .int n => n.natAbs ≤ 1000
  | .non => True
  | _ => False
def datV : V → PyData
  | .int n => .int n
  | _ => .none
theorem sml_dp {K : PySem.W.Frag} {H : Hp} : ∀ {vs : List V}, (∀ v, v ∈ vs → Sml v) → DpAll K H vs (vs.map datV)
  | [], _ => .nil
  | v :: r, h => by
    have t := sml_dp (K := K) (H := H) (vs := r) fun x hx => h x (List.mem_cons_of_mem _ hx)
    have hv := h v List.mem_cons_self
    cases v <;> first | exact .cons (.int _) t | exact .cons .non t | exact False.elim hv
theorem sml_facts : ∀ {vs : List V}, (∀ v, v ∈ vs → Sml v) → PyData.showableAll (vs.map datV) = true ∧ PyData.hasDictAll (vs.map datV) = false ∧ PyData.depthAll (vs.map datV) = 0 ∧ PyData.leavesShortAll 13 (vs.map datV) = true ∧ PyData.weightAll (vs.map datV) ≤ 2000 * vs.length
  | [], _ => ⟨rfl, rfl, by simp [PyData.depthAll], rfl, by simp [PyData.weightAll]⟩
  | v :: r, h => by
    obtain ⟨a1, a2, a3, a4, a5⟩ := sml_facts (vs := r) fun x hx => h x (List.mem_cons_of_mem _ hx)
    have hv := h v List.mem_cons_self
    cases v with
    | int n =>
      have hv : n.natAbs ≤ 1000 := hv
      have hlog := Nat.log2_le_self n.natAbs
      refine ⟨?_, ?_, ?_, ?_, ?_⟩
      · simp only [List.map_cons, datV, PyData.showableAll, PyData.showable, a1, Bool.and_true, decide_eq_true_eq]
        omega
      · simp only [List.map_cons, datV, PyData.hasDictAll, PyData.hasDict, a2, Bool.or_false]
      · simp only [List.map_cons, datV, PyData.depthAll, PyData.depth, a3, Nat.max_self]
      · simp only [List.map_cons, datV, PyData.leavesShortAll, PyData.leavesShort, a4, Bool.and_true, decide_eq_true_eq]
        exact PyData.shown_int_le (by omega)
      · simp only [List.map_cons, datV, PyData.weightAll, PyData.weight, List.length_cons]
        split <;> omega
    | non =>
      refine ⟨?_, ?_, ?_, ?_, ?_⟩
      · simp only [List.map_cons, datV, PyData.showableAll, PyData.showable, a1, Bool.and_true]
      · simp only [List.map_cons, datV, PyData.hasDictAll, PyData.hasDict, a2, Bool.or_false]
      · simp only [List.map_cons, datV, PyData.depthAll, PyData.depth, a3, Nat.max_self]
      · simp only [List.map_cons, datV, PyData.leavesShortAll, PyData.leavesShort, a4, Bool.and_true]
      · simp only [List.map_cons, datV, PyData.weightAll, PyData.weight, List.length_cons]
        omega
    | _ => exact False.elim hv
/-- repr of a tuple of small data -/
theorem repr_sml {K : PySem.W.Frag} {H : Hp} {p : Addr} {vs : List V} (hs : SqT K H p vs) (h : ∀ v, v ∈ vs → Sml v) (hl : vs.length ≤ 100) :
    Dp K H (.ref p) (.tuple (vs.map datV)) ∧ (PyData.tuple (vs.map datV)).showable = true ∧ (PyData.tuple (vs.map datV)).hasDict = false ∧ (PyData.tuple (vs.map datV)).depth ≤ 8 ∧ (PyData.tuple (vs.map datV)).shown.length ≤ sizeLine := by
  obtain ⟨a1, a2, a3, a4, a5⟩ := sml_facts h
  refine ⟨.tup hs (sml_dp h), by simpa only [PyData.showable] using a1, by simpa only [PyData.hasDict] using a2, by simp only [PyData.depth]; omega, ?_⟩
  refine PyData.shown_fits (B := 13) (by decide) (by decide) (by simpa only [PyData.leavesShort] using a4) ?_
  simp only [PyData.weight]
  have e : (2 : Nat) ^ 20 = 1048576 := by decide
  omega
theorem eqvAll_refl : ∀ ns : List Int, PyData.eqvAll (ns.map PyData.int) (ns.map PyData.int) = true
  | [] => rfl
  | n :: r => by
    simp only [List.map_cons, PyData.eqvAll, PyData.eqv, eqvAll_refl r, Bool.and_true, beq_self_eq_true]
/-- the items of a tree that were reached -/
def got (tr : Trr) (i : Nat) : Bool := match tr[i]? with
  | some (some _) => true
  | _ => false
theorem got_iff {tr : Trr} {i : Nat} : got tr i = true ↔ ∃ hs, tr[i]? = some (some hs) := by
  unfold got
  constructor
  · intro h
    cases e : tr[i]? with
    | none => rw [e] at h; cases h
    | some o =>
      cases o with
      | none => rw [e] at h; cases h
      | some hs => exact ⟨hs, rfl⟩
  · rintro ⟨hs, e⟩
    rw [e]
theorem sorted_log {tr : Trr} {log : List Nat} {ns : List Int} (hnd : log.Nodup) (ht : ∀ v : Nat, v ∈ log ↔ ∃ hs, tr[v]? = some (some hs)) (hp : ns.Perm (log.map fun v : Nat => (v : Int))) (hs : ns.Pairwise (· ≤ ·)) :
    ns = ((List.range tr.length).filter (got tr)).map fun v : Nat => (v : Int) := by
  have hperm : log.Perm ((List.range tr.length).filter (got tr)) := by
    refine (List.perm_ext_iff_of_nodup hnd (List.nodup_range.filter _)).mpr fun v => ?_
    rw [List.mem_filter, List.mem_range, ht v, got_iff]
    constructor
    · rintro ⟨hs, e⟩
      exact ⟨(List.getElem?_eq_some_iff.mp e).1, hs, e⟩
    · exact fun z => z.2
  refine List.Perm.eq_of_pairwise (le := fun a b : Int => a ≤ b) (fun a b _ _ h1 h2 => by omega) hs ?_ (hp.trans (hperm.map _))
  rw [List.pairwise_map]
  refine (List.pairwise_le_range.filter _).imp fun {a b} h => ?_
  omega
def spRight : Sp := fun vs H Q _ => ∃ (ha lg : Addr) (rows : List (Option Rw)) (out : List Nat) (u L : Nat) (s : UW), vs = [.ref ha, natV u, .ref lg, natV L] ∧ Ask H ha rows out u ∧ 0 < L ∧ L ≤ 100 ∧ runF L 41 41 (initS rows out) u = some s ∧ H lg = some (.tup (s.log.map natV)) ∧
  ∀ H', Same H H' → Q (.bl true) H'
/-- a def whose promise is asked where nothing guards -/
def GCal (P : Program) (w : World) (K : PySem.W.Frag) (mg : Str → Option Value) (base : Heap) (k : Nat) (x : Str) (ps : List Str) (sp : Sp) : Prop := ∃ f fd, mg x = some (.ref f) ∧ PySem.W.keepIn K (.ref f) = true ∧ Binds K fd ps [] ∧ FnG P w K mg base k f fd ps sp
theorem pe_gcal {X : Cx} {k : Nat} {ps : List Str} {sp : Sp} {x : Str} {p pos : Pos} {t : TA} {e : Expr} {es : List Expr} (hgd : X.A.guards = some []) (G : GCal X.prog X.w X.K X.mg X.base k x ps sp) (hr : Room k X.A) (hg : Gl X x) (ha : PA X (e :: es) t) (hdb : (x == ("__debug__" : Str)) = false := by decide)
    (he : starEach (e :: es) X.env = (false, eval e X.env) :: starEach es X.env := by rfl) (hpl : (backTo pos (starEach es X.env)).any (·.1) = false := by rfl) : PE X (.Call (.Name x p) (e :: es) [] pos) (tCall sp [] E0 t) := by
  obtain ⟨f, fd, h1, h2, h3, h4⟩ := G
  exact pe_callG hgd h4 hr hg h1 h2 h3 ha hdb he hpl
section
variable {P : Program} {w : World} {K : PySem.W.Frag} {mg : Str → Option Value} {base : Heap}
abbrev nRight : List Str := ["_law_pile_here", "_law_start", "_law_log", "_law_cap", "_law_tree", "_law_due", "_law_peak", "_law_item"]
theorem scRight : FnScope nRight ["_law_pile_here", "_law_start", "_law_log", "_law_cap"] (defScope sRight) := ⟨rfl, rfl, rfl, by decide +kernel, rfl, by decide +kernel, by decide +kernel⟩
set_option maxHeartbeats 4000000 in
theorem ok_right (B : Blt mg) (GT : KCal P w K mg base 87 "release_tree" ["heap", "node", "limit"] 2 ["limit"] spTree) (GL : Cal P w K mg base 2 "_law_lengths" ["_law_tree", "_law_log", "_law_cap"] spLens)
    (GH : KCal P w K mg base 87 "shelf_history" ["heap", "node", "limit"] 2 ["limit"] spHist) (GP : KCal P w K mg base 88 "shelf_peak" ["heap", "node", "limit"] 2 ["limit"] spPeak) (GD : KCal P w K mg base 86 "drop" ["heap", "node", "limit"] 2 ["limit"] spDrop)
    (D : DefIn K mg "_law_right" sRight ["_law_pile_here", "_law_start", "_law_log", "_law_cap"]) : GCal P w K mg base 89 "_law_right" ["_law_pile_here", "_law_start", "_law_log", "_law_cap"] spRight := by
  obtain ⟨f, fd, hm, F, hb⟩ := D
  refine ⟨f, fd, hm, F.kp, hb, WR.Fun.okG F scRight (fun vs H Q E h => ?_) (fun cdv A outer st H vs Q E hgd hr h => ?_)⟩
  · obtain ⟨_, _, _, _, _, _, _, rfl, _⟩ := h; rfl
  obtain ⟨ha, lg, rows, out, u, L, s, rfl, ask, hL, hL100, hrun, hlg, q⟩ := h
  have nd := scRight.nd
  have hr87 := hr.mono (show 87 ≤ 88 by decide)
  have hr86 := hr.mono (show 86 ≤ 88 by decide)
  have hr2 := hr.mono (show 2 ≤ 88 by decide)
  refine ⟨_, pss_cons (ps_set (i := 4) nd rfl (.inr rfl) (pe_kcal GT hr87 rfl (pa_cons (pv 0) (pa_cons (pv 1) pa_nil)) (pk_cons (pv 3) pk_nil)))
    (pss_cons (ps_if (pt_cmpR (op_neD hr.units) (pe_callB cr_sortedTu (by rfl) B.sorted (by decide +kernel) (pa_cons (pv 2) pa_nil))
        (pe_lc (own := [("_law_item", 7)]) (g := gName 7) (tt := tB (tNotN (tOp (rIxT K) (tVar 4) (tVar 7)))) (te := tVar 7) rfl nd (pi_range1 rfl B.range (pa_cons (pe_callB cr_lenS (by rfl) B.len (by decide +kernel) (pa_cons (pv 4) pa_nil)) pa_nil))
          (blkOk_by (N := nRight) (sc := defScope sRight) (by decide +kernel)) (fun _ _ _ _ _ => pg_name (i := 7) nd rfl (Or.inl rfl)) (fun _ _ _ _ _ => pts_one (pt_cmp (pc_notN (pe_ix ix_tup (pv 4) (pv 7) (fun _ _ => rfl))))) (fun _ _ _ _ _ => pv 7)) (nomark _))
      (pss_one (ps_ret pe_bl)) pss_nil)
    (pss_cons (ps_set (i := 5) nd rfl (.inl rfl) (pe_cal GL hr2 rfl (pa_cons (pv 4) (pa_cons (pv 2) (pa_cons (pv 3) pa_nil)))))
    (pss_cons (ps_set (i := 6) nd rfl (.inl rfl) (pe_tup (pa_cons pe_int (pa_cons pe_non pa_nil))))
    (C8.pss_cut (ps_if (pt_cmpR (op_neD hr.units) (pv 5) (pe_tup pa_nil) (nomark _))
      (pss_one (ps_set (i := 6) nd rfl (.inl rfl) (pe_tup (pa_cons (pe_callB (cr_maxT rfl (hu_of hr)) (by rfl) B.max (by decide +kernel) (pa_cons (pv 5) pa_nil)) (pa_cons (pe_tupM PySem.F.plainAttrs_tuple PySem.F.slot_tuple_index PySem.F.type_tuple_index mt_tindex (pv 5) (pa_cons (pe_callB (cr_maxT rfl (hu_of hr)) (by rfl) B.max (by decide +kernel) (pa_cons (pv 5) pa_nil)) pa_nil)) pa_nil))))) pss_nil)
    (pss_cons (ps_if (pt_cmpR op_ne (pe_callB (cr_repr hgd hr.units) (by rfl) B.repr (by decide +kernel) (pa_cons (pe_kcal GH hr87 rfl (pa_cons (pv 0) (pa_cons (pv 1) pa_nil)) (pk_cons (pv 3) pk_nil)) pa_nil)) (pe_callB (cr_repr hgd hr.units) (by rfl) B.repr (by decide +kernel) (pa_cons (pv 5) pa_nil)) (nomark _))
      (pss_one (ps_ret pe_bl)) pss_nil)
    (pss_one (ps_ret (pe_and (pe_cmpR op_eq (pe_callB (cr_repr hgd hr.units) (by rfl) B.repr (by decide +kernel) (pa_cons (pe_kcal GP hr rfl (pa_cons (pv 0) (pa_cons (pv 1) pa_nil)) (pk_cons (pv 3) pk_nil)) pa_nil)) (pe_callB (cr_repr hgd hr.units) (by rfl) B.repr (by decide +kernel) (pa_cons (pv 6) pa_nil)) (nomark _))
      (pe_one (pe_cmpR op_eq (pe_ix ix_tup (pe_kcal GD hr86 rfl (pa_cons (pv 0) (pa_cons (pv 1) pa_nil)) (pk_cons (pv 3) pk_nil)) pe_int (fun _ _ => rfl)) (pe_ix ix_tup (pv 6) pe_int (fun _ _ => rfl)) (nomark _))))))))))), ?_⟩
  -- the run
  obtain ⟨s', hrun', fin⟩ := run_fin (start := u) hL ask.ok ask.st
  rw [hrun] at hrun'
  have es := Option.some.inj hrun'
  subst es
  have hn40 := ask.ok.n40
  have hrl := ask.ok.rl
  have hlog : s.log.length ≤ 40 := Nat.le_trans (nodup_len fin.nd fin.lt) hn40
  have htree : ∀ v : Nat, v ∈ s.log ↔ ∃ hs, (treeOf rows.length s.ev)[v]? = some (some hs) := by rw [hrl]; exact fin.tree
  obtain ⟨dep, par, hdep, hhist⟩ := fin.hist
  have hdep : DepOk (treeOf rows.length s.ev) s.log dep par := by rw [hrl]; exact hdep
  have hevu : EvU rows.length s.ev := by rw [hrl]; exact fin.evu
  have htl := treeOf_len rows.length s.ev
  have hhl : (histOf s.ev).1.length = s.log.length := by rw [hhist, List.length_map, List.length_range]
  have hsm : ∀ x, x ∈ (histOf s.ev).1 → 0 ≤ x ∧ x ≤ 40 := fun x hx => by
    rw [hhist] at hx
    obtain ⟨k, _, rfl⟩ := List.mem_map.mp hx
    have := List.countP_le_length (p := condF L dep par s.log k) (l := s.log)
    omega
  have hpk1 := fin.pk1
  have hpk2 := fin.pk2
  -- release_tree
  refine ⟨_, rfl, _, rfl, _, rfl, rfl, rfl, ha, rows, out, u, L, s, rfl, ask, hrun, hevu, fun t xs H1 s1 ht htr => ?_⟩
  generalize treeOf rows.length s.ev = tr at htree hdep htl htr
  have hxl : xs.length = tr.length := htr.length
  have hlg1 := s1 _ _ hlg
  -- sorted(log) against the items of the tree
  have elog : s.log.map natV = (s.log.map fun v : Nat => (v : Int)).map V.int := by rw [List.map_map]; rfl
  refine ⟨_, rfl, lg, s.log.map (fun v : Nat => (v : Int)), rfl, by rw [← elog]; exact SqT.of hlg1, by rw [List.length_map]; omega, fun ns p1 hperm hsrt hp1 => ?_⟩
  have n1 := same_new hp1 (.lst (ns.map V.int))
  have ens := sorted_log fin.nd htree hperm hsrt
  refine ⟨_, rfl, t, _, rfl, .inr (SqT.of (n1 _ _ ht)), _, rfl, by omega, by omega, fun ia hia => ?_⟩
  rw [Int.toNat_natCast]
  refine lc_range (lo := 0) (n := xs.length) (fun i H' => Same (upd H1 p1 (.lst (ns.map V.int))) H' ∧ H' ia = some (.lst (((List.range i).filter (got tr)).map natV)))
    ⟨same_new hia _, upd_same⟩ ?_ ?_
  · rintro i H' hi ⟨z1, z2⟩
    rw [Int.zero_add]
    obtain ⟨o, ho, htx⟩ := paired_getL (paired_same (n1.trans z1) htr) (List.getElem?_eq_getElem hi)
    have hal : (((List.range i).filter (got tr)).map natV).length < sizeLine := by
      have := List.length_filter_le (got tr) (List.range i)
      rw [List.length_range] at this
      rw [List.length_map, sizeLine_eq]; omega
    have hx : xs[i]? = some xs[i] := List.getElem?_eq_getElem hi
    generalize xs[i] = x at hx htx
    refine ⟨rfl, _, rfl, _, rfl, t, xs, (i : Int), x, rfl, rfl, SqT.of (z1 _ _ (n1 _ _ ht)), atI_nat hx, ?_⟩
    cases o with
    | none =>
      have e : got tr i = false := by unfold got; rw [ho]
      have ex : x = .non := htx
      subst ex
      refine ⟨_, rfl, iteF ⟨z1, ?_⟩⟩
      rw [List.range_succ, List.filter_append, List.filter_cons_of_neg (by rw [e]; decide), List.filter_nil, List.append_nil]
      exact z2
    | some hs =>
      have e : got tr i = true := got_iff.mpr ⟨hs, ho⟩
      have ex : ∃ q, x = .ref q := by
        cases hs with
        | none => exact ⟨_, htx.choose_spec.1⟩
        | some pr => exact ⟨_, htx.choose_spec.1⟩
      obtain ⟨q1, rfl⟩ := ex
      refine ⟨_, rfl, iteT ⟨_, rfl, _, z2, hal, same_upd hia z1, ?_⟩⟩
      rw [upd_same, List.range_succ, List.filter_append, List.filter_cons_of_pos e, List.filter_nil, List.map_append]
      rfl
  rintro H2 ⟨z1, z2⟩
  have s2 := s1.trans (n1.trans z1)
  rw [hxl] at z2
  have ez : (((List.range tr.length).filter (got tr)).map natV) = ns.map V.int := by rw [ens, List.map_map]; rfl
  rw [ez] at z2
  refine ⟨.list (ns.map PyData.int), .list (ns.map PyData.int), .lst (SqL.of (z1 _ _ upd_same)) (dpAll_ints ns), .lst (SqL.of z2) (dpAll_ints ns), shaped_ints_list _, shaped_ints_list _, false, by simp only [PyData.eqv, eqvAll_refl, Bool.not_true], iteF ?_⟩
  -- due
  have htr2 := paired_same (n1.trans z1) htr
  have ht2 := (n1.trans z1) _ _ ht
  refine ⟨_, rfl, _, rfl, _, rfl, t, lg, xs, tr, s.log, L, dep, par, rfl, ht2, htr2, s2 _ _ hlg, fin.nd, hlog, hL, hL100, hdep, fun da o H3 s3 ho hda => ?_⟩
  have s4 := s2.trans s3
  rw [← hhist] at hda
  -- peak
  refine ⟨(by show 2 ≤ sizeLine; decide), fun pk hpk => ?_⟩
  have n5 := same_new hpk (.tup [V.int 0, V.non])
  have s5 := s4.trans n5
  have hda5 := n5 _ _ hda
  have hpk5 : (upd H3 pk (.tup [V.int 0, V.non])) pk = some (.tup [V.int 0, V.non]) := upd_same
  change C8.tCut _ _ _ _ (upd H3 pk (.tup [V.int 0, V.non]))
  generalize upd H3 pk (.tup [V.int 0, V.non]) = H4 at s5 hda5 hpk5
  have hst : ∀ {H' : Hp}, Same H4 H' → SqT K H' da ((histOf s.ev).1.map V.int) := fun z => .inl (.inr ⟨o, z _ _ hda5⟩)
  have rfl4 : Same H4 H4 := fun _ _ e => e
  refine ⟨fun σ' H' => ∃ pk, σ' = [some (.ref ha), some (natV u), some (.ref lg), some (natV L), some (.ref t), some (.ref da), some (.ref pk), none] ∧ Same H4 H' ∧ H' pk = some (.tup (pkV (histOf s.ev).1)), ?_, ?_⟩
  · refine ⟨_, rfl, Nat.zero_le _, fun ep hep => ?_⟩
    have n6 := same_new hep (.tup [])
    refine ⟨.tuple ((histOf s.ev).1.map PyData.int), .tuple [], .tup (hst n6) (dpAll_ints _), .tup (SqT.of upd_same) .nil, shaped_ints_tuple _, rfl, !(histOf s.ev).1.isEmpty, by rw [eqv_nil_tuple], ?_⟩
    cases hq : (histOf s.ev).1 with
    | nil => exact iteF ⟨pk, rfl, n6, n6 _ _ hpk5⟩
    | cons n r =>
      rw [hq] at hst
      refine iteT ⟨_, rfl, da, n :: r, rfl, hst n6, by simp, fun m hm1 hm2 => ?_⟩
      refine ⟨_, rfl, ⟨da, o, _, rfl, n6 _ _ hda5, ho⟩, _, rfl, da, n :: r, rfl, hst n6, by simp, fun m' hm1' hm2' => ?_⟩
      have em := maxI_eq hm1 hm2
      have em' := maxI_eq hm1' hm2'
      refine ⟨da, n :: r, m', rfl, rfl, hst n6, hm1', (by show 2 ≤ sizeLine; decide), fun t2 ht2' => ⟨t2, rfl, n6.trans (same_new ht2' _), ?_⟩⟩
      rw [upd_same, em, em']
      rfl
  rintro σ' H5 ⟨pk', rfl, s6, hpk6⟩
  have s7 := s5.trans s6
  -- what is shown
  have sml1 : ∀ v, v ∈ (histOf s.ev).1.map V.int → Sml v := fun v hv => by
    obtain ⟨x, hx, rfl⟩ := List.mem_map.mp hv
    have := hsm x hx
    show x.natAbs ≤ 1000
    omega
  have hl1 : ((histOf s.ev).1.map V.int).length ≤ 100 := by rw [List.length_map, hhl]; omega
  have sml2 : (∀ v, v ∈ pkV (histOf s.ev).1 → Sml v) ∧ (pkV (histOf s.ev).1).length ≤ 100 := by
    unfold pkV
    by_cases e : (histOf s.ev).1 = []
    · rw [if_pos e]
      refine ⟨fun v hv => ?_, by decide⟩
      simp only [List.mem_cons, List.not_mem_nil, or_false] at hv
      rcases hv with rfl | rfl
      · show (0 : Int).natAbs ≤ 1000; decide
      · trivial
    · rw [if_neg e]
      refine ⟨fun v hv => ?_, by show 2 ≤ 100; decide⟩
      simp only [List.mem_cons, List.not_mem_nil, or_false] at hv
      have hpos : 0 < (histOf s.ev).1.length := by
        cases h : (histOf s.ev).1 with
        | nil => exact absurd h e
        | cons _ _ => simp
      obtain ⟨h1, _⟩ := maxI_mem hpos
      rcases hv with rfl | rfl
      · have := hsm _ h1
        show (maxI (histOf s.ev).1).natAbs ≤ 1000
        omega
      · have h2 := List.idxOf_lt_length_of_mem h1
        show (((histOf s.ev).1.idxOf (maxI (histOf s.ev).1) : Nat) : Int).natAbs ≤ 1000
        omega
  have hend : (s.peak : Int) = if (histOf s.ev).1 = [] then 0 else maxI (histOf s.ev).1 := by
    by_cases e : (histOf s.ev).1 = []
    · rw [if_pos e]
      rcases hpk2 with h | h
      · rw [h]; rfl
      · rw [e] at h; cases h
    · rw [if_neg e]
      have hpos : 0 < (histOf s.ev).1.length := by
        cases h : (histOf s.ev).1 with
        | nil => exact absurd h e
        | cons _ _ => simp
      obtain ⟨h1, h2⟩ := maxI_mem hpos
      have h3 := hpk1 _ h1
      have h4 := hsm _ h1
      rcases hpk2 with h | h
      · omega
      · have := h2 _ h
        omega
  -- the histories
  have ask7 := ask.same s7
  refine ⟨_, rfl, _, rfl, _, rfl, rfl, rfl, ha, rows, out, u, L, s, rfl, ask7, hrun, fin.hok, fun th o8 H8 s8 ho8 hth => ?_⟩
  obtain ⟨r1, r2, r3, r4, r5⟩ := repr_sml (K := K) (.inl (.inr ⟨o8, hth⟩)) sml1 hl1
  obtain ⟨r1', _⟩ := repr_sml (hst (s6.trans s8)) sml1 hl1
  refine ⟨th, _, rfl, r1, r2, r3, r4, r5, _, rfl, da, _, rfl, r1', r2, r3, r4, r5, ?_⟩
  refine ⟨rfl, false, by rw [decide_eq_true rfl]; rfl, iteF ?_⟩
  -- the peaks
  refine ⟨_, rfl, _, rfl, _, rfl, rfl, rfl, ha, rows, out, u, L, s, rfl, ask7.same s8, hrun, fin.hok, fun tp H9 s9 htp => ?_⟩
  obtain ⟨q1, q2, q3, q4, q5⟩ := repr_sml (K := K) (SqT.of htp) sml2.1 sml2.2
  obtain ⟨q1', _⟩ := repr_sml (K := K) (SqT.of ((s8.trans s9) _ _ hpk6)) sml2.1 sml2.2
  refine ⟨tp, _, rfl, q1, q2, q3, q4, q5, _, rfl, pk', _, rfl, q1', q2, q3, q4, q5, ?_⟩
  refine ⟨rfl, true, by rw [decide_eq_true rfl], iteT ?_⟩
  refine ⟨_, rfl, _, rfl, _, rfl, rfl, rfl, ha, rows, out, u, L, s, rfl, (ask7.same s8).same s9, hrun, fun td lt ht' H10 s10 h10 _ => ?_⟩
  refine ⟨td, _, 1, _, rfl, rfl, SqT.of h10, rfl, ?_⟩
  obtain ⟨y, ey⟩ := pkV_head (histOf s.ev).1
  have hpk10 := ((s8.trans s9).trans s10) _ _ hpk6
  rw [ey] at hpk10
  refine ⟨_, rfl, pk', _, 0, _, rfl, rfl, SqT.of hpk10, rfl, rfl, ?_⟩
  have efin : decide (natV s.peak = V.int (if (histOf s.ev).1 = [] then 0 else maxI (histOf s.ev).1)) = true := decide_eq_true (by rw [← hend]; rfl)
  rw [efin]
  exact q H10 (((s7.trans s8).trans s9).trans s10)
end
end SW

/-! The law's def. -/
namespace SW
open PySem PySem.Spec PyProof.Rows L2 WR SF
/-- the tuples are kept -/
def TK (H H' : Hp) : Prop := ∀ b xs, H b = some (.tup xs) → H' b = some (.tup xs)
theorem TK.same {H H' : Hp} (s : Same H H') : TK H H' := fun b xs e => s _ _ e
theorem TK.trans {H H1 H2 : Hp} (a : TK H H1) (b : TK H1 H2) : TK H H2 := fun x xs e => b _ _ (a _ _ e)
theorem TK.but {H H' : Hp} {p a : Addr} {c : Nat} (pen : Pen H p a c) (b : But p H H') : TK H H' := fun x xs e => b _ _ e (by
  obtain ⟨_, _, _, h, _⟩ := pen
  exact ne_of e h (fun z => by cases z))
theorem RowAt.tk {H H' : Hp} (s : TK H H') {x : V} : ∀ {r : Option Rw}, RowAt H x r → RowAt H' x r
  | none, h => h
  | some _, ⟨p, e, h⟩ => ⟨p, e, s _ _ h⟩
theorem Ask.tk {H H' : Hp} {ha : Addr} {rows : List (Option Rw)} {out : List Nat} {u : Nat} (h : Ask H ha rows out u) (s : TK H H') : Ask H' ha rows out u := by
  obtain ⟨sa, oa, xs, h1, h2, h3, h4⟩ := h.at_
  exact ⟨⟨sa, oa, xs, s _ _ h1, s _ _ h2, s _ _ h3, L2.Paired.mapP h4 fun _ _ q => RowAt.tk s q⟩, h.ok, h.st⟩
theorem LogAt.tk {rows : List (Option Rw)} {out : List Nat} {u : Nat} {H H' : Hp} (s : TK H H') {x : V} {L : Nat} (h : LogAt rows out u H x L) : LogAt rows out u H' x L := by
  obtain ⟨t, st, e, h1, h2⟩ := h
  exact ⟨t, st, e, h1, s _ _ h2⟩
/-- the pen is not the list of the logs -/
theorem Pen.nelogs {H : Hp} {p a la : Addr} {c : Nat} {xs : List V} {Ls : List Nat} {rows : List (Option Rw)} {out : List Nat} {u : Nat} (pen : Pen H p a c) (h : H la = some (.lst xs)) (hp : Paired (LogAt rows out u H) xs Ls) : la ≠ p := by
  intro e
  obtain ⟨_, t, _, h1, _⟩ := pen
  rw [← e, h] at h1
  injection h1 with h1
  injection h1 with h1
  rw [h1] at hp
  cases hp with
  | cons _ t =>
    cases t with
    | cons z _ =>
      obtain ⟨_, _, e, _⟩ := z
      cases e
theorem first_of (p : Nat → Bool) : ∀ n L : Nat, 0 < L → L ≤ n → p L = true → (∀ L', 0 < L' → L' < L → p L' = false) → (((List.range n).map (· + 1)).filter p)[0]? = some L
  | 0, L, h0, h1, _, _ => by omega
  | n + 1, L, h0, h1, h2, h3 => by
    rw [List.range_succ, List.map_append, List.filter_append]
    by_cases e : L ≤ n
    · have ih := first_of p n L h0 e h2 h3
      have hl := (List.getElem?_eq_some_iff.mp ih).1
      rw [List.getElem?_append_left hl]
      exact ih
    · have eL : L = n + 1 := by omega
      have hn : ((List.range n).map (· + 1)).filter p = [] := by
        rw [List.filter_eq_nil_iff]
        intro x hx
        obtain ⟨k, hk, rfl⟩ := List.mem_map.mp hx
        rw [h3 (k + 1) (by omega) (by have := List.mem_range.mp hk; omega)]
        decide
      rw [hn, List.nil_append, List.map_cons, List.map_nil, List.filter_cons_of_pos (by rw [← eL]; exact h2), eL]
      rfl
/-- a peak is small -/
theorem pkOf_le {H : Hp} {ha : Addr} {rows : List (Option Rw)} {out : List Nat} {u L : Nat} (ask : Ask H ha rows out u) (hL : 0 < L) : 0 ≤ pkOf rows out u L ∧ pkOf rows out u L ≤ 40 := by
  obtain ⟨s, hrun, fin⟩ := run_fin (start := u) hL ask.ok ask.st
  have hlog : s.log.length ≤ 40 := Nat.le_trans (nodup_len fin.nd fin.lt) ask.ok.n40
  obtain ⟨dep, par, _, hhist⟩ := fin.hist
  unfold pkOf
  rw [hrun]
  simp only
  by_cases e : (histOf s.ev).1 = []
  · rw [if_pos e]; omega
  · rw [if_neg e]
    have hpos : 0 < (histOf s.ev).1.length := by
      cases h : (histOf s.ev).1 with
      | nil => exact absurd h e
      | cons _ _ => simp
    have h1 := (maxI_mem hpos).1
    generalize maxI (histOf s.ev).1 = z at h1
    rw [hhist] at h1
    obtain ⟨k, _, rfl⟩ := List.mem_map.mp h1
    have := List.countP_le_length (p := condF L dep par s.log k) (l := s.log)
    omega
theorem pkOf_flat {H : Hp} {ha : Addr} {rows : List (Option Rw)} {out : List Nat} {u : Nat} (ask : Ask H ha rows out u) (h0 : 0 < rows.length) : pkOf rows out u rows.length = 0 := by
  obtain ⟨s, hrun, fin⟩ := run_fin (start := u) h0 ask.ok ask.st
  have hz := run_flat h0 ask.ok ask.st (by rw [ask.ok.rl]; exact Nat.le_refl _) hrun
  obtain ⟨h1, _⟩ := pkOf_le ask h0
  have h2 := fin.pk1
  rw [hz] at h2
  unfold pkOf at h1 ⊢
  rw [hrun] at h1 ⊢
  simp only at h1 ⊢
  by_cases e : (histOf s.ev).1 = []
  · rw [if_pos e]
  · rw [if_neg e] at h1 ⊢
    have hpos : 0 < (histOf s.ev).1.length := by
      cases h : (histOf s.ev).1 with
      | nil => exact absurd h e
      | cons _ _ => simp
    have h3 := h2 _ (maxI_mem hpos).1
    omega
theorem cut_mem {xs : List V} {lo hi : Option Int} {x : V} (h : x ∈ cutV xs lo hi) : x ∈ xs := by
  unfold cutV at h
  exact List.mem_of_mem_drop (List.mem_of_mem_take h)
def spLaw : PySem.W.Frag → Sp := fun K vs H Q _ => ∃ (a : Addr) (ns : List Int), vs = [.ref a] ∧ SqL K H a (ns.map V.int) ∧ ∀ H', Q (.bl true) H'
section
variable {P : Program} {w : World} {K : PySem.W.Frag} {mg : Str → Option Value} {base : Heap}
abbrev nLaw : List Str := ["_law_script", "_law_pen_here", "_law_pile_here", "_law_start", "_law_many", "_law_logs", "_law_caps", "_law_k", "_law_cap", "_law_peaks", "_law_bound", "_law_due"]
theorem scLaw : FnScope nLaw ["_law_script"] (defScope sLaw) := ⟨rfl, rfl, rfl, by decide +kernel, rfl, by decide +kernel, by decide +kernel⟩
set_option maxHeartbeats 4000000 in
theorem ok_law (B : Blt mg) (GN : Cal P w K mg base 1 "_law_pen" ["_law_script"] (spPen K)) (GW : Cal P w K mg base 1 "_law_draw" ["_law_pen_here", "_law_many"] spDraw) (GI : Cal P w K mg base 5 "_law_pile" ["_law_pen_here", "_law_top"] spPile)
    (GL : Cal P w K mg base 87 "all_logs" ["heap", "node"] spLogs) (GR : GCal P w K mg base 89 "_law_right" ["_law_pile_here", "_law_start", "_law_log", "_law_cap"] spRight)
    (GP : KCal P w K mg base 88 "shelf_peak" ["heap", "node", "limit"] 2 ["limit"] spPeak) (GS : KCal P w K mg base 89 "least_limit" ["heap", "node", "most"] 2 ["most"] spLeast)
    {f : Addr} {fd : FuncData} (F : Fun K "law" "law" sLaw f fd) : FnG P w K mg base 90 f fd ["_law_script"] (spLaw K) := by
  refine WR.Fun.okG F scLaw (fun vs H Q E h => ?_) (fun cdv A outer st H vs Q E hgd hr h => ?_)
  · obtain ⟨_, _, rfl, _⟩ := h; rfl
  obtain ⟨sa, ns, rfl, hsa, q⟩ := h
  have nd := scLaw.nd
  have hr1 := hr.mono (show 1 ≤ 89 by decide)
  have hr5 := hr.mono (show 5 ≤ 89 by decide)
  have hr87 := hr.mono (show 87 ≤ 89 by decide)
  have hr88 := hr.mono (show 88 ≤ 89 by decide)
  refine ⟨_, pss_cons (ps_set (i := 1) nd rfl (.inr rfl) (pe_cal GN hr1 rfl (pa_cons (pv 0) pa_nil)))
    (pss_cons (ps_asg (pe_cal GI hr5 rfl (pa_cons (pv 1) (pa_cons pe_int pa_nil))) (pg_tup rfl (pgs_cons (pg_name (i := 2) nd rfl (.inr rfl)) (pgs_cons (pg_name (i := 3) nd rfl (.inr rfl)) pgs_nil))))
    (pss_cons (ps_set (i := 4) nd rfl (.inr rfl) (pe_callB cr_lenS (by rfl) B.len (by decide +kernel) (pa_cons (pe_ix ix_tup (pv 2) pe_int (fun _ _ => rfl)) pa_nil)))
    (pss_cons (ps_set (i := 5) nd rfl (.inl rfl) (pe_cal GL hr87 rfl (pa_cons (pv 2) (pa_cons (pv 3) pa_nil))))
    (pss_cons (ps_set (i := 6) nd rfl (.inl rfl) (pe_listRg rfl (by rfl) B.list (prg_2 (by rfl) B.range pe_int (pe_op op_add (pv 4) pe_int))))
    (C8.pss_cut (ps_if (pt_cmpR op_gt (pv 4) pe_int (nomark _))
      (pss_one (ps_set (i := 6) nd rfl (.inl rfl) (pe_op op_cat (pe_lst (pa_cons pe_int (pa_cons (pv 4) (pa_cons (pe_op op_add (pv 4) pe_int) pa_nil))))
        (pe_lc (own := [("_law_k", 7)]) (g := gName 7) (tt := tYes) (te := tOp (rI0 fun i j => .int (i + j)) (tC (.int 1)) (tCall spDraw [] E0 (tCons (tVar 1) (tCons (tVar 4) tNil)))) rfl nd (pi_range1 rfl B.range (pa_cons pe_int pa_nil))
          (blkOk_by (N := nLaw) (sc := defScope sLaw) (by decide +kernel)) (fun _ _ _ _ _ => pg_name (i := 7) nd rfl (Or.inl rfl)) (fun _ _ _ _ _ => pts_nil) (fun _ _ _ _ _ => pe_op op_add pe_int (pe_cal GW hr1 rfl (pa_cons (pv 1) (pa_cons (pv 4) pa_nil)))))))) pss_nil)
    (C8.pss_cut (ps_for PassesOwn.never rfl (pi_list (pv 6)) (pg_name (i := 8) nd rfl (.inl rfl))
      (pss_one (ps_if (pt_not (pt_val (pe_gcal hgd GR hr rfl (pa_cons (pv 2) (pa_cons (pv 3) (pa_cons (pe_ix ix_list (pv 5) (pe_op op_sub (pe_callB (call_min2 rfl) (by rfl) B.min (by decide +kernel) (pa_cons (pv 8) (pa_cons (pv 4) pa_nil))) pe_int) (fun _ _ => rfl)) (pa_cons (pv 8) pa_nil)))))))
        (pss_one (ps_ret pe_bl)) pss_nil)))
    (pss_cons (ps_set (i := 9) nd rfl (.inr rfl) (pe_lc (own := [("_law_cap", 8)]) (g := gName 8) (tt := tYes) (te := tOp (rIxT K) (tCallN 2 1 spPeak (fun vs zs => vs ++ zs) E0 (tCons (tVar 2) (tCons (tVar 3) tNil)) (tCons (tVar 8) tNil)) (tC (.int 0))) rfl nd
        (pi_range2 rfl B.range (pa_cons pe_int (pa_cons (pe_op op_add (pv 4) pe_int) pa_nil))) (blkOk_by (N := nLaw) (sc := defScope sLaw) (by decide +kernel)) (fun _ _ _ _ _ => pg_name (i := 8) nd rfl (Or.inl rfl)) (fun _ _ _ _ _ => pts_nil)
        (fun _ _ _ _ _ => pe_ix ix_tup (pe_kcal (ks := ["limit"]) GP hr88 rfl (pa_cons (pv 2) (pa_cons (pv 3) pa_nil)) (pk_cons (pv 8) pk_nil)) pe_int (fun _ _ => rfl))))
    (pss_cons (ps_if (pt_cmpR op_ne (pe_ix ix_list (pv 9) (pe_un un_neg pe_int) (fun _ _ => rfl)) pe_int (nomark _)) (pss_one (ps_ret pe_bl)) pss_nil)
    (pss_cons (ps_for PassesOwn.never rfl (pi_list (pe_slice sl_list (pe_listRg rfl (by rfl) B.list (prg_1 (by rfl) B.range (pe_op op_add (pe_callB (cr_max rfl) (by rfl) B.max (by decide +kernel) (pa_cons (pv 9) pa_nil)) pe_int))) po_none (po_some pe_int))) (pg_name (i := 10) nd rfl (.inr rfl))
      (pss_cons (ps_setLc (i := 11) (own := [("_law_cap", 8)]) (g := gName 8) (tt := tTest (tOp (rI0 fun i j => .bl (decide (i ≤ j))) (tOp (rIxL K) (tVar 9) (tOp (rI0 fun i j => .int (i - j)) (tVar 8) (tC (.int 1)))) (tVar 10))) (te := tVar 8) (by rfl) nd rfl rfl (sw_true rfl rfl rfl (by decide +kernel))
        (pi_range2 rfl B.range (pa_cons pe_int (pa_cons (pe_op op_add (pv 4) pe_int) pa_nil))) (blkOk_by (N := nLaw) (sc := defScope sLaw) (by decide +kernel)) (fun _ _ _ _ _ => pg_name (i := 8) nd rfl (Or.inl rfl))
        (fun _ _ _ _ _ => pts_one (pt_cmpR op_le (pe_ix ix_list (pv 9) (pe_op op_sub (pv 8) pe_int) (fun _ _ => rfl)) (pv 10) (nomark _))) (fun _ _ _ _ _ => pv 8))
      (pss_one (ps_if (pt_cmpR op_ne (pe_callB SkE.call_repr_int (by rfl) B.repr (by decide +kernel) (pa_cons (pe_kcal GS hr rfl (pa_cons (pv 2) (pa_cons (pv 3) pa_nil)) (pk_cons (pv 10) pk_nil)) pa_nil)) (pe_callB SkE.call_repr_int (by rfl) B.repr (by decide +kernel) (pa_cons (pe_ix ix_list (pv 11) pe_int (fun _ _ => rfl)) pa_nil)) (nomark _))
        (pss_one (ps_ret pe_bl)) pss_nil))))
    (pss_one (ps_ret pe_bl))))))))))), ?_⟩
  -- the pile
  refine ⟨_, rfl, sa, ns, rfl, hsa, fun p a H1 hp1 s1 pen1 => ?_⟩
  refine ⟨_, rfl, p, a, 40, 808, rfl, by decide, by decide, pen1, fun pt ha u rows out H2 pen2 ask2 hrow hpt => ?_⟩
  refine ⟨pt, _, rfl, SqT.of hpt, rfl, _, _, rfl, _, _, rfl, rfl, ?_⟩
  obtain ⟨sa', oa, xs', h1, h2, h3, h4⟩ := id ask2.at_
  have hl4 := h4.length
  refine ⟨_, rfl, ha, _, 0, _, rfl, rfl, SqT.of h1, rfl, sa', _, rfl, .inr (SqT.of h2), ?_⟩
  rw [hl4]
  clear h1 h2 h3 h4 hl4
  have hn40 : rows.length ≤ 40 := by rw [ask2.ok.rl]; exact ask2.ok.n40
  -- the logs
  refine ⟨_, rfl, _, rfl, ha, rows, out, u, rfl, ask2, fun la lxs H3 s3 hla hlogs => ?_⟩
  have ask3 := ask2.same s3
  have pen3 : Pen H3 p a 808 := pen2.keep (fun _ e => s3 _ _ e) (fun _ e => s3 _ _ e)
  -- the caps
  refine ⟨_, rfl, _, _, rfl, rfl, _, _, rfl, rfl, RgOk.of_le (by decide) (by omega) (by decide) (by omega), fun ca hca => ?_⟩
  have erg : rgV 1 ((rows.length : Int) + 2) = ((List.range (rows.length + 1)).map (· + 1)).map natV := by
    have e : (rows.length : Int) + 2 = ((rows.length + 1 : Nat) : Int) + 1 := by omega
    rw [e, rgV_eq, List.map_map]
    rfl
  rw [erg]
  have n4 := same_new hca (.lst (((List.range (rows.length + 1)).map (· + 1)).map natV))
  have hca4 : (upd H3 ca (.lst (((List.range (rows.length + 1)).map (· + 1)).map natV))) ca = some (.lst (((List.range (rows.length + 1)).map (· + 1)).map natV)) := upd_same
  have ask4 := ask3.same n4
  have hla4 := n4 _ _ hla
  have hlogs4 : Paired (LogAt rows out u (upd H3 ca (.lst (((List.range (rows.length + 1)).map (· + 1)).map natV)))) lxs ((List.range rows.length).map (· + 1)) := L2.Paired.mapP hlogs fun _ _ z => LogAt.same n4 z
  have pen4 := pen3.keep (fun _ e => n4 _ _ e) (fun _ e => n4 _ _ e)
  change C8.tCut _ _ _ _ (upd H3 ca (.lst (((List.range (rows.length + 1)).map (· + 1)).map natV)))
  generalize upd H3 ca (.lst (((List.range (rows.length + 1)).map (· + 1)).map natV)) = H4 at n4 hca4 ask4 hla4 hlogs4 pen4
  refine ⟨fun σ' H' => ∃ (ca : Addr) (cs : List Nat), σ' = [some (.ref sa), some (.ref p), some (.ref ha), some (natV u), some (natV rows.length), some (.ref la), some (.ref ca), none, none, none, none, none] ∧ Ask H' ha rows out u ∧ H' la = some (.lst lxs) ∧ Paired (LogAt rows out u H') lxs ((List.range rows.length).map (· + 1)) ∧ H' ca = some (.lst (cs.map natV)) ∧ (∀ c, c ∈ cs → 0 < c ∧ c ≤ rows.length + 1), ?_, ?_⟩
  · refine ⟨_, rfl, _, _, rfl, rfl, _, rfl, ite2 (fun _ => ?_) (fun _ => ⟨ca, _, rfl, ask4, hla4, hlogs4, hca4, fun c hc => ?_⟩)⟩
    case refine_2 =>
      obtain ⟨k, hk, rfl⟩ := List.mem_map.mp hc
      have := List.mem_range.mp hk
      omega
    refine ⟨_, rfl, _, rfl, _, _, rfl, rfl, (by show 3 ≤ sizeLine; decide), fun l1 hl1 => ?_⟩
    have n5 := same_new hl1 (.lst [V.int 1, natV rows.length, natV (rows.length + 1)])
    have pen5 := pen4.keep (fun _ e => n5 _ _ e) (fun _ e => n5 _ _ e)
    have hl15 : (upd H4 l1 (.lst [V.int 1, natV rows.length, natV (rows.length + 1)])) l1 = some (.lst [V.int 1, natV rows.length, natV (rows.length + 1)]) := upd_same
    have hl1p := (pen4.fresh hl1).1
    have hlap : la ≠ p := pen4.nelogs hla4 hlogs4
    refine ⟨_, rfl, by decide, by decide, fun D hD => ?_⟩
    have hDp := (pen5.fresh hD).1
    have hDa := (pen5.fresh hD).2
    refine lc_range (lo := 0) (n := 3) (fun i H' => ∃ acc : List Nat, Pen H' p a (805 + (3 - i)) ∧ TK H4 H' ∧ H' la = some (.lst lxs) ∧ H' l1 = some (.lst [V.int 1, natV rows.length, natV (rows.length + 1)]) ∧ H' D = some (.lst (acc.map natV)) ∧ acc.length = i ∧ (∀ c, c ∈ acc → 0 < c ∧ c ≤ rows.length + 1))
      ⟨[], (pen5.upd hDp hDa).mono (by omega), (TK.same n5).trans (TK.same (same_new hD _)), (same_new hD _) _ _ (n5 _ _ hla4), (same_new hD _) _ _ hl15, upd_same, rfl, fun c hc => by cases hc⟩ ?_ ?_
    · rintro i H' hi ⟨acc, penI, tk, z1, z2, z3, z4, z5⟩
      refine ⟨rfl, _, rfl, _, rfl, p, a, rows.length, 805 + (3 - (i + 1)), rfl, hrow, by omega, penI.mono (by omega), fun r H6 hr' pen6 b6 => ?_⟩
      have e3 := b6 _ _ z3 hDp
      refine ⟨_, _, rfl, rfl, acc.map natV, e3, by rw [List.length_map, sizeLine_eq]; omega, acc ++ [1 + r], pen6.upd hDp hDa, ?_, (upd_ne ?_).trans (b6 _ _ z1 hlap), (upd_ne ?_).trans (b6 _ _ z2 hl1p), by rw [upd_same, List.map_append]; rfl, by rw [List.length_append, z4]; rfl, ?_⟩
      · intro b xs e
        have e6 := TK.but penI b6 _ _ (tk _ _ e)
        exact (upd_ne (ne_of e6 e3 (fun z => by cases z))).trans e6
      · exact ne_of_none (n5 _ _ hla4) hD
      · exact ne_of_none hl15 hD
      · intro c hc
        rcases List.mem_append.mp hc with hc | hc
        · exact z5 c hc
        · rw [List.mem_singleton.mp hc]; omega
    · rintro H6 ⟨acc, pen6, tk, z1, z2, z3, z4, z5⟩
      refine ⟨l1, D, _, _, rfl, rfl, z2, z3, by rw [List.length_map, z4, sizeLine_eq]; show 3 + 3 ≤ 16777216; decide, fun cc hcc => ?_⟩
      have n7 := same_new hcc (.lst ([V.int 1, natV rows.length, natV (rows.length + 1)] ++ acc.map natV))
      have tk7 := tk.trans (TK.same n7)
      refine ⟨cc, [1, rows.length, rows.length + 1] ++ acc, rfl, ask4.tk tk7, n7 _ _ z1, L2.Paired.mapP hlogs4 fun _ _ z => LogAt.tk tk7 z, by rw [upd_same, List.map_append]; rfl, fun c hc => ?_⟩
      rcases List.mem_append.mp hc with hc | hc
      · simp only [List.mem_cons, List.not_mem_nil, or_false] at hc
        rcases hc with rfl | rfl | rfl <;> omega
      · exact z5 c hc
  clear hca4 ask4 hla4 hlogs4 pen4 n4 ask3 pen3 hla hlogs s3 pen2 ask2 hpt pen1 s1
  rintro σ' H4 ⟨ca, cs, rfl, ask, hla, hlogs, hca, hcs⟩
  -- every cap is right
  refine ⟨fun σ' H' => ∃ x8 : Option V, σ' = [some (.ref sa), some (.ref p), some (.ref ha), some (natV u), some (natV rows.length), some (.ref la), some (.ref ca), none, x8, none, none, none] ∧ Same H4 H', ?_, ?_⟩
  · refine ⟨_, rfl, ca, rfl, ⟨_, SqL.of hca⟩, for_list (K := K) (a := ca) (xs := cs.map natV) (fun i σ' H' => ∃ x8 : Option V, σ' = [some (.ref sa), some (.ref p), some (.ref ha), some (natV u), some (natV rows.length), some (.ref la), some (.ref ca), none, x8, none, none, none] ∧ Same H4 H')
      ⟨none, rfl, Same.refl H4⟩ (fun i σ H' _ ⟨_, _, s⟩ => SqL.of (s _ _ hca)) ?_ (fun σ H' z => z)⟩
    rintro i x σ H' hx ⟨x8, rfl, s⟩
    obtain ⟨c, hc, rfl⟩ : ∃ c, c ∈ cs ∧ x = natV c := by
      obtain ⟨c, hc, e⟩ := List.mem_map.mp (List.mem_of_getElem? hx)
      exact ⟨c, hc, e.symm⟩
    obtain ⟨hc0, hc1⟩ := hcs c hc
    have eix : (if (rows.length : Int) < (c : Int) then (rows.length : Int) else (c : Int)) - 1 = ((min c rows.length - 1 : Nat) : Int) := by split <;> omega
    have hget : ((List.range rows.length).map (· + 1))[min c rows.length - 1]? = some (min c rows.length) := by
      rw [List.getElem?_map, List.getElem?_range (by omega)]
      show some (min c rows.length - 1 + 1) = some (min c rows.length)
      congr 1
      omega
    obtain ⟨y, hy, lg, s0, rfl, hrun, hlg⟩ := paired_get hlogs hget
    have hrun' : runF c 41 41 (initS rows out) u = some s0 := by
      by_cases e : c ≤ rows.length
      · rw [Nat.min_eq_left e] at hrun; exact hrun
      · rw [Nat.min_eq_right (by omega)] at hrun
        rw [← run_big (L := rows.length) (L' := c) hrow hc0 ask.ok ask.st (by rw [ask.ok.rl]; exact Nat.le_refl _) (by rw [← ask.ok.rl]; omega)]
        exact hrun
    refine ⟨_, rfl, _, rfl, _, rfl, _, rfl, _, rfl, _, _, rfl, _, _, rfl, rfl, la, lxs, _, .ref lg, rfl, rfl, SqL.of (s _ _ hla), by rw [eix]; exact atI_nat hy, _, rfl, ?_⟩
    exact ⟨ha, lg, rows, out, u, c, s0, rfl, ask.same s, hc0, by omega, hrun', s _ _ hlg, fun H5 s5 => ⟨_, rfl, iteF ⟨_, rfl, s.trans s5⟩⟩⟩
  rintro σ' H5 ⟨x8, rfl, s5⟩
  have ask5 := ask.same s5
  -- the peaks
  have enp : ((rows.length : Int) + 1 - 1).toNat = rows.length := by omega
  refine ⟨_, rfl, _, _, rfl, rfl, 1, _, rfl, ⟨by decide, by decide, by omega, by omega⟩, fun pka hpka => ?_⟩
  rw [enp]
  refine lc_range (lo := 1) (n := rows.length) (fun i H' => Same H5 H' ∧ H' pka = some (.lst ((List.range i).map fun k => V.int (pkOf rows out u (k + 1)))))
    ⟨same_new hpka _, upd_same⟩ ?_ ?_
  · rintro i H' hi ⟨s, hp⟩
    have ei : (1 : Int) + (i : Int) = ((i + 1 : Nat) : Int) := by omega
    rw [ei]
    obtain ⟨s0, hrun, fin⟩ := run_fin (start := u) (Nat.succ_pos i) ask5.ok ask5.st
    refine ⟨rfl, _, rfl, _, rfl, _, rfl, rfl, rfl, ha, rows, out, u, i + 1, s0, rfl, ask5.same s, hrun, fin.hok, fun t H6 s6 ht => ?_⟩
    obtain ⟨y, hy⟩ := pkV_head (histOf s0.ev).1
    have epk : pkOf rows out u (i + 1) = if (histOf s0.ev).1 = [] then 0 else maxI (histOf s0.ev).1 := by unfold pkOf; rw [hrun]
    rw [hy, ← epk] at ht
    refine ⟨t, _, 0, _, rfl, rfl, SqT.of ht, rfl, _, s6 _ _ hp, by rw [List.length_map, List.length_range, sizeLine_eq]; omega, same_upd hpka (s.trans s6), ?_⟩
    rw [upd_same, List.range_succ, List.map_append]
    rfl
  rintro H6 ⟨s6, hpk⟩
  have ask6 := ask5.same s6
  have hflat := pkOf_flat ask6 hrow
  -- the last of them
  refine ⟨_, rfl, _, rfl, pka, _, -1, V.int 0, rfl, rfl, SqL.of hpk, at_last ?_, rfl, false, by rw [decide_eq_true rfl]; rfl, iteF ?_⟩
  · rw [List.length_map, List.length_range, List.getElem?_map, List.getElem?_range (by omega)]
    show some (V.int (pkOf rows out u (rows.length - 1 + 1))) = _
    rw [Nat.sub_add_cancel hrow, hflat]
  -- the bounds
  refine ⟨_, rfl, pka, (List.range rows.length).map fun k => pkOf rows out u (k + 1), rfl, by rw [List.map_map]; exact SqL.of hpk, by rw [List.length_map, List.length_range]; exact hrow, fun mx hm1 _ => ?_⟩
  have hmx : 0 ≤ mx ∧ mx ≤ 40 := by
    obtain ⟨k, _, rfl⟩ := List.mem_map.mp hm1
    exact pkOf_le ask6 (Nat.succ_pos k)
  refine ⟨_, _, rfl, rfl, _, rfl, RgOk.of_le (by decide) (by omega) (by decide) (by omega), fun rg hrg => ?_⟩
  have n7 := same_new hrg (.lst (rgV 0 (mx + 2)))
  refine ⟨_, rfl, rg, _, rfl, SqL.of upd_same, fun sl hsl => ?_⟩
  have n8 := same_new hsl (.lst (cutV (rgV 0 (mx + 2)) none (some 9)))
  have hsl8 : (upd (upd H6 rg (.lst (rgV 0 (mx + 2)))) sl (.lst (cutV (rgV 0 (mx + 2)) none (some 9)))) sl = some (.lst (cutV (rgV 0 (mx + 2)) none (some 9))) := upd_same
  refine ⟨sl, rfl, ⟨_, SqL.of hsl8⟩, for_list (K := K) (a := sl) (xs := cutV (rgV 0 (mx + 2)) none (some 9)) (fun i σ' H' => ∃ x10 x11 : Option V, σ' = [some (.ref sa), some (.ref p), some (.ref ha), some (natV u), some (natV rows.length), some (.ref la), some (.ref ca), none, x8, some (.ref pka), x10, x11] ∧ Same H6 H' ∧ H' sl = some (.lst (cutV (rgV 0 (mx + 2)) none (some 9))))
    ⟨none, none, rfl, n7.trans n8, hsl8⟩ (fun i σ H' _ ⟨_, _, _, _, z⟩ => SqL.of z) ?_ (fun σ H' _ => q H')⟩
  rintro i x σ H' hx ⟨x10, x11, rfl, s, hs⟩
  obtain ⟨b, rfl, hb0⟩ : ∃ b : Int, x = V.int b ∧ 0 ≤ b := by
    have hm := cut_mem (List.mem_of_getElem? hx)
    unfold rgV at hm
    obtain ⟨k, _, rfl⟩ := List.mem_map.mp hm
    exact ⟨_, rfl, by omega⟩
  refine ⟨_, rfl, _, _, rfl, rfl, 1, _, rfl, ⟨by decide, by decide, by omega, by omega⟩, fun D hD => ?_⟩
  rw [enp]
  refine lc_range (lo := 1) (n := rows.length) (fun j H'' => Same H' H'' ∧ H'' D = some (.lst ((((List.range j).map (· + 1)).filter fun c => decide (pkOf rows out u c ≤ b)).map natV)))
    ⟨same_new hD _, upd_same⟩ ?_ ?_
  · rintro j H'' hj ⟨t, ht⟩
    have ej : (1 : Int) + (j : Int) = ((j + 1 : Nat) : Int) := by omega
    rw [ej]
    have hat : atI ((List.range rows.length).map fun k => V.int (pkOf rows out u (k + 1))) (((j + 1 : Nat) : Int) - 1) = some (V.int (pkOf rows out u (j + 1))) := by
      rw [show ((j + 1 : Nat) : Int) - 1 = (j : Int) by omega]
      exact atI_nat (by rw [List.getElem?_map, List.getElem?_range hj]; rfl)
    refine ⟨rfl, _, rfl, _, rfl, _, _, rfl, rfl, pka, _, _, _, rfl, rfl, SqL.of (t _ _ (s _ _ hpk)), hat, _, rfl, _, _, rfl, rfl, _, rfl, ite2 (fun c => ?_) (fun c => ?_)⟩
    · refine ⟨_, rfl, _, ht, ?_, same_upd hD t, ?_⟩
      · have := List.length_filter_le (fun c => decide (pkOf rows out u c ≤ b)) ((List.range j).map (· + 1))
        rw [List.length_map, List.length_range] at this
        rw [List.length_map, sizeLine_eq]; omega
      · rw [upd_same, List.range_succ, List.map_append, List.filter_append, List.map_cons, List.map_nil, List.filter_cons_of_pos (p := fun c => decide (pkOf rows out u c ≤ b)) c, List.filter_nil, List.map_append]
        rfl
    · refine ⟨t, ?_⟩
      rw [List.range_succ, List.map_append, List.filter_append, List.map_cons, List.map_nil, List.filter_cons_of_neg (p := fun c => decide (pkOf rows out u c ≤ b)) c, List.filter_nil, List.append_nil]
      exact ht
  rintro H7 ⟨s7, hD7⟩
  have ask7 := (ask6.same s).same s7
  refine ⟨_, rfl, _, rfl, _, rfl, rfl, rfl, ha, rows, out, u, b, rows.length, rfl, ask7, hrow, by rw [hflat]; exact hb0, fun L H8 s8 hL hpL hlow => ?_⟩
  have hLn : L ≤ rows.length := by
    refine Nat.not_lt.mp fun h => ?_
    have := hlow rows.length hrow h
    rw [hflat] at this
    omega
  have hlog : ((L : Nat) : Int).natAbs.log2 < 1920 := by
    have := Nat.log2_le_self ((L : Nat) : Int).natAbs
    omega
  have hfirst := first_of (fun c => decide (pkOf rows out u c ≤ b)) rows.length L hL hLn (decide_eq_true hpL) (fun L' h1 h2 => decide_eq_false (by have := hlow L' h1 h2; omega))
  refine ⟨_, rfl, hlog, _, rfl, D, _, 0, natV L, rfl, rfl, SqL.of (s8 _ _ hD7), atI_nat (j := 0) (by rw [List.getElem?_map, hfirst]; rfl), _, rfl, hlog, ?_⟩
  exact ⟨rfl, false, by rw [decide_eq_true rfl]; rfl, iteF ⟨_, _, rfl, (s.trans s7).trans s8, s8 _ _ (s7 _ _ hs)⟩⟩
end
end SW

/-! What the top has written, joined. -/
namespace SW
open PySem PySem.Spec PyProof.Rows L2 WR SF
set_option maxHeartbeats 4000000 in
theorem all_mk {l : PySem.W.OpenLaw} {w : World} {K : PySem.W.Frag} {h : Heap} {mg : Str → Option Value} {fa C : Addr}
    {f_isint : Addr} {od_isint an_isint : Option Addr} {sl_isint : Array (Option Value)} {oc_isint kV_isint dc_isint pm_isint cd_isint ct_isint : Value}
    {f_betw : Addr} {od_betw an_betw : Option Addr} {sl_betw : Array (Option Value)} {oc_betw kV_betw dc_betw pm_betw cd_betw ct_betw : Value}
    {f_counts : Addr} {od_counts an_counts : Option Addr} {sl_counts : Array (Option Value)} {oc_counts kV_counts dc_counts pm_counts cd_counts ct_counts : Value}
    {f_live : Addr} {od_live an_live : Option Addr} {sl_live : Array (Option Value)} {oc_live kV_live dc_live pm_live cd_live ct_live : Value}
    {f_reqN : Addr} {od_reqN an_reqN : Option Addr} {sl_reqN : Array (Option Value)} {oc_reqN kV_reqN dc_reqN pm_reqN cd_reqN ct_reqN : Value}
    {f_reqR : Addr} {od_reqR an_reqR : Option Addr} {sl_reqR : Array (Option Value)} {oc_reqR kV_reqR dc_reqR pm_reqR cd_reqR ct_reqR : Value}
    {f_lims : Addr} {od_lims an_lims : Option Addr} {sl_lims : Array (Option Value)} {oc_lims kV_lims dc_lims pm_lims cd_lims ct_lims : Value}
    {f_logs : Addr} {od_logs an_logs : Option Addr} {sl_logs : Array (Option Value)} {oc_logs kV_logs dc_logs pm_logs cd_logs ct_logs : Value}
    {f_pen : Addr} {od_pen an_pen : Option Addr} {sl_pen : Array (Option Value)} {oc_pen kV_pen dc_pen pm_pen cd_pen ct_pen : Value}
    {f_draw : Addr} {od_draw an_draw : Option Addr} {sl_draw : Array (Option Value)} {oc_draw kV_draw dc_draw pm_draw cd_draw ct_draw : Value}
    {f_put : Addr} {od_put an_put : Option Addr} {sl_put : Array (Option Value)} {oc_put kV_put dc_put pm_put cd_put ct_put : Value}
    {f_join : Addr} {od_join an_join : Option Addr} {sl_join : Array (Option Value)} {oc_join kV_join dc_join pm_join cd_join ct_join : Value}
    {f_pileof : Addr} {od_pileof an_pileof : Option Addr} {sl_pileof : Array (Option Value)} {oc_pileof kV_pileof dc_pileof pm_pileof cd_pileof ct_pileof : Value}
    {f_pile : Addr} {od_pile an_pile : Option Addr} {sl_pile : Array (Option Value)} {oc_pile kV_pile dc_pile pm_pile cd_pile ct_pile : Value}
    {f_depth : Addr} {od_depth an_depth : Option Addr} {sl_depth : Array (Option Value)} {oc_depth kV_depth dc_depth pm_depth cd_depth ct_depth : Value}
    {f_lens : Addr} {od_lens an_lens : Option Addr} {sl_lens : Array (Option Value)} {oc_lens kV_lens dc_lens pm_lens cd_lens ct_lens : Value}
    {f_right : Addr} {od_right an_right : Option Addr} {sl_right : Array (Option Value)} {oc_right kV_right dc_right pm_right cd_right ct_right : Value}
    {f_law : Addr} {od_law an_law : Option Addr} {sl_law : Array (Option Value)} {oc_law kV_law dc_law pm_law cd_law ct_law : Value}
    {f_drop : Addr} {od_drop an_drop : Option Addr} {sl_drop : Array (Option Value)} {oc_drop kV_drop dc_drop pm_drop cd_drop ct_drop : Value}
    {f_trace : Addr} {od_trace an_trace : Option Addr} {sl_trace : Array (Option Value)} {oc_trace kV_trace dc_trace pm_trace cd_trace ct_trace : Value}
    {f_hist : Addr} {od_hist an_hist : Option Addr} {sl_hist : Array (Option Value)} {oc_hist kV_hist dc_hist pm_hist cd_hist ct_hist : Value}
    {f_peak : Addr} {od_peak an_peak : Option Addr} {sl_peak : Array (Option Value)} {oc_peak kV_peak dc_peak pm_peak cd_peak ct_peak : Value}
    {f_least : Addr} {od_least an_least : Option Addr} {sl_least : Array (Option Value)} {oc_least kV_least dc_least pm_least cd_least ct_least : Value}
    {f_tree : Addr} {od_tree an_tree : Option Addr} {sl_tree : Array (Option Value)} {oc_tree kV_tree dc_tree pm_tree cd_tree ct_tree : Value}
    {f_ini : Addr} {od_ini an_ini : Option Addr} {sl_ini : Array (Option Value)} {oc_ini kV_ini dc_ini pm_ini cd_ini ct_ini : Value}
    {f_rel : Addr} {od_rel an_rel : Option Addr} {sl_rel : Array (Option Value)} {oc_rel kV_rel dc_rel pm_rel cd_rel ct_rel : Value}
    {f_des : Addr} {od_des an_des : Option Addr} {sl_des : Array (Option Value)} {oc_des kV_des dc_des pm_des cd_des ct_des : Value}
    {f_unw : Addr} {od_unw an_unw : Option Addr} {sl_unw : Array (Option Value)} {oc_unw kV_unw dc_unw pm_unw cd_unw ct_unw : Value}
    {f_out : Addr} {od_out an_out : Option Addr} {sl_out : Array (Option Value)} {oc_out kV_out dc_out pm_out cd_out ct_out : Value}
    {f_heap : Addr} {od_heap an_heap : Option Addr} {sl_heap : Array (Option Value)} {oc_heap kV_heap dc_heap pm_heap cd_heap ct_heap : Value}
    {f_res : Addr} {od_res an_res : Option Addr} {sl_res : Array (Option Value)} {oc_res kV_res dc_res pm_res cd_res ct_res : Value}
    (X : K.In h) (G : h.Ns mainGlobals mg) (hfa : mg "law" = some (.ref fa))
    (aC : PySem.W.nsIn K mainGlobals "Unwinding" = some (some (.ref C)))
    (a_isint : PySem.W.nsIn K mainGlobals "is_integer" = some (some (.ref f_isint)))
    (l_isint : K.lookup f_isint = some ⟨oc_isint, od_isint, .func (PySem.W.fnOf "is_integer" "is_integer" (defArgs sIsInt) (defBody sIsInt) (defScope sIsInt) .none kV_isint dc_isint pm_isint an_isint cd_isint ct_isint), sl_isint⟩)
    (c_isint : PySem.W.codeIn K cd_isint "is_integer" = true)
    (k_isint : PySem.W.keepIn K (.ref f_isint) = true)
    (a_betw : PySem.W.nsIn K mainGlobals "is_between" = some (some (.ref f_betw)))
    (l_betw : K.lookup f_betw = some ⟨oc_betw, od_betw, .func (PySem.W.fnOf "is_between" "is_between" (defArgs sBetw) (defBody sBetw) (defScope sBetw) .none kV_betw dc_betw pm_betw an_betw cd_betw ct_betw), sl_betw⟩)
    (c_betw : PySem.W.codeIn K cd_betw "is_between" = true)
    (k_betw : PySem.W.keepIn K (.ref f_betw) = true)
    (a_counts : PySem.W.nsIn K mainGlobals "reference_counts" = some (some (.ref f_counts)))
    (l_counts : K.lookup f_counts = some ⟨oc_counts, od_counts, .func (PySem.W.fnOf "reference_counts" "reference_counts" (defArgs sCounts) (defBody sCounts) (defScope sCounts) .none kV_counts dc_counts pm_counts an_counts cd_counts ct_counts), sl_counts⟩)
    (c_counts : PySem.W.codeIn K cd_counts "reference_counts" = true)
    (k_counts : PySem.W.keepIn K (.ref f_counts) = true)
    (a_live : PySem.W.nsIn K mainGlobals "is_live" = some (some (.ref f_live)))
    (l_live : K.lookup f_live = some ⟨oc_live, od_live, .func (PySem.W.fnOf "is_live" "is_live" (defArgs sLive) (defBody sLive) (defScope sLive) .none kV_live dc_live pm_live an_live cd_live ct_live), sl_live⟩)
    (c_live : PySem.W.codeIn K cd_live "is_live" = true)
    (k_live : PySem.W.keepIn K (.ref f_live) = true)
    (a_reqN : PySem.W.nsIn K mainGlobals "require_node" = some (some (.ref f_reqN)))
    (l_reqN : K.lookup f_reqN = some ⟨oc_reqN, od_reqN, .func (PySem.W.fnOf "require_node" "require_node" (defArgs sReqN) (defBody sReqN) (defScope sReqN) .none kV_reqN dc_reqN pm_reqN an_reqN cd_reqN ct_reqN), sl_reqN⟩)
    (c_reqN : PySem.W.codeIn K cd_reqN "require_node" = true)
    (k_reqN : PySem.W.keepIn K (.ref f_reqN) = true)
    (a_reqR : PySem.W.nsIn K mainGlobals "require_reference" = some (some (.ref f_reqR)))
    (l_reqR : K.lookup f_reqR = some ⟨oc_reqR, od_reqR, .func (PySem.W.fnOf "require_reference" "require_reference" (defArgs sReqR) (defBody sReqR) (defScope sReqR) .none kV_reqR dc_reqR pm_reqR an_reqR cd_reqR ct_reqR), sl_reqR⟩)
    (c_reqR : PySem.W.codeIn K cd_reqR "require_reference" = true)
    (k_reqR : PySem.W.keepIn K (.ref f_reqR) = true)
    (a_lims : PySem.W.nsIn K mainGlobals "limits_of" = some (some (.ref f_lims)))
    (l_lims : K.lookup f_lims = some ⟨oc_lims, od_lims, .func (PySem.W.fnOf "limits_of" "limits_of" (defArgs sLims) (defBody sLims) (defScope sLims) .none kV_lims dc_lims pm_lims an_lims cd_lims ct_lims), sl_lims⟩)
    (c_lims : PySem.W.codeIn K cd_lims "limits_of" = true)
    (k_lims : PySem.W.keepIn K (.ref f_lims) = true)
    (a_logs : PySem.W.nsIn K mainGlobals "all_logs" = some (some (.ref f_logs)))
    (l_logs : K.lookup f_logs = some ⟨oc_logs, od_logs, .func (PySem.W.fnOf "all_logs" "all_logs" (defArgs sLogs) (defBody sLogs) (defScope sLogs) .none kV_logs dc_logs pm_logs an_logs cd_logs ct_logs), sl_logs⟩)
    (c_logs : PySem.W.codeIn K cd_logs "all_logs" = true)
    (k_logs : PySem.W.keepIn K (.ref f_logs) = true)
    (a_pen : PySem.W.nsIn K mainGlobals "_law_pen" = some (some (.ref f_pen)))
    (l_pen : K.lookup f_pen = some ⟨oc_pen, od_pen, .func (PySem.W.fnOf "_law_pen" "_law_pen" (defArgs sPen) (defBody sPen) (defScope sPen) .none kV_pen dc_pen pm_pen an_pen cd_pen ct_pen), sl_pen⟩)
    (c_pen : PySem.W.codeIn K cd_pen "_law_pen" = true)
    (k_pen : PySem.W.keepIn K (.ref f_pen) = true)
    (a_draw : PySem.W.nsIn K mainGlobals "_law_draw" = some (some (.ref f_draw)))
    (l_draw : K.lookup f_draw = some ⟨oc_draw, od_draw, .func (PySem.W.fnOf "_law_draw" "_law_draw" (defArgs sDraw) (defBody sDraw) (defScope sDraw) .none kV_draw dc_draw pm_draw an_draw cd_draw ct_draw), sl_draw⟩)
    (c_draw : PySem.W.codeIn K cd_draw "_law_draw" = true)
    (k_draw : PySem.W.keepIn K (.ref f_draw) = true)
    (a_put : PySem.W.nsIn K mainGlobals "_law_put_in" = some (some (.ref f_put)))
    (l_put : K.lookup f_put = some ⟨oc_put, od_put, .func (PySem.W.fnOf "_law_put_in" "_law_put_in" (defArgs sPut) (defBody sPut) (defScope sPut) .none kV_put dc_put pm_put an_put cd_put ct_put), sl_put⟩)
    (c_put : PySem.W.codeIn K cd_put "_law_put_in" = true)
    (k_put : PySem.W.keepIn K (.ref f_put) = true)
    (a_join : PySem.W.nsIn K mainGlobals "_law_joined" = some (some (.ref f_join)))
    (l_join : K.lookup f_join = some ⟨oc_join, od_join, .func (PySem.W.fnOf "_law_joined" "_law_joined" (defArgs sJoin) (defBody sJoin) (defScope sJoin) .none kV_join dc_join pm_join an_join cd_join ct_join), sl_join⟩)
    (c_join : PySem.W.codeIn K cd_join "_law_joined" = true)
    (k_join : PySem.W.keepIn K (.ref f_join) = true)
    (a_pileof : PySem.W.nsIn K mainGlobals "_law_pile_of" = some (some (.ref f_pileof)))
    (l_pileof : K.lookup f_pileof = some ⟨oc_pileof, od_pileof, .func (PySem.W.fnOf "_law_pile_of" "_law_pile_of" (defArgs sPileOf) (defBody sPileOf) (defScope sPileOf) .none kV_pileof dc_pileof pm_pileof an_pileof cd_pileof ct_pileof), sl_pileof⟩)
    (c_pileof : PySem.W.codeIn K cd_pileof "_law_pile_of" = true)
    (k_pileof : PySem.W.keepIn K (.ref f_pileof) = true)
    (a_pile : PySem.W.nsIn K mainGlobals "_law_pile" = some (some (.ref f_pile)))
    (l_pile : K.lookup f_pile = some ⟨oc_pile, od_pile, .func (PySem.W.fnOf "_law_pile" "_law_pile" (defArgs sPile) (defBody sPile) (defScope sPile) .none kV_pile dc_pile pm_pile an_pile cd_pile ct_pile), sl_pile⟩)
    (c_pile : PySem.W.codeIn K cd_pile "_law_pile" = true)
    (k_pile : PySem.W.keepIn K (.ref f_pile) = true)
    (a_depth : PySem.W.nsIn K mainGlobals "_law_depth" = some (some (.ref f_depth)))
    (l_depth : K.lookup f_depth = some ⟨oc_depth, od_depth, .func (PySem.W.fnOf "_law_depth" "_law_depth" (defArgs sDepth) (defBody sDepth) (defScope sDepth) .none kV_depth dc_depth pm_depth an_depth cd_depth ct_depth), sl_depth⟩)
    (c_depth : PySem.W.codeIn K cd_depth "_law_depth" = true)
    (k_depth : PySem.W.keepIn K (.ref f_depth) = true)
    (a_lens : PySem.W.nsIn K mainGlobals "_law_lengths" = some (some (.ref f_lens)))
    (l_lens : K.lookup f_lens = some ⟨oc_lens, od_lens, .func (PySem.W.fnOf "_law_lengths" "_law_lengths" (defArgs sLens) (defBody sLens) (defScope sLens) .none kV_lens dc_lens pm_lens an_lens cd_lens ct_lens), sl_lens⟩)
    (c_lens : PySem.W.codeIn K cd_lens "_law_lengths" = true)
    (k_lens : PySem.W.keepIn K (.ref f_lens) = true)
    (a_right : PySem.W.nsIn K mainGlobals "_law_right" = some (some (.ref f_right)))
    (l_right : K.lookup f_right = some ⟨oc_right, od_right, .func (PySem.W.fnOf "_law_right" "_law_right" (defArgs sRight) (defBody sRight) (defScope sRight) .none kV_right dc_right pm_right an_right cd_right ct_right), sl_right⟩)
    (c_right : PySem.W.codeIn K cd_right "_law_right" = true)
    (k_right : PySem.W.keepIn K (.ref f_right) = true)
    (a_law : PySem.W.nsIn K mainGlobals "law" = some (some (.ref f_law)))
    (l_law : K.lookup f_law = some ⟨oc_law, od_law, .func (PySem.W.fnOf "law" "law" (defArgs sLaw) (defBody sLaw) (defScope sLaw) .none kV_law dc_law pm_law an_law cd_law ct_law), sl_law⟩)
    (c_law : PySem.W.codeIn K cd_law "law" = true)
    (k_law : PySem.W.keepIn K (.ref f_law) = true)
    (a_drop : PySem.W.nsIn K mainGlobals "drop" = some (some (.ref f_drop)))
    (l_drop : K.lookup f_drop = some ⟨oc_drop, od_drop, .func (PySem.W.fnOf "drop" "drop" (defArgs sDrop) (defBody sDrop) (defScope sDrop) .none kV_drop dc_drop pm_drop an_drop cd_drop ct_drop), sl_drop⟩)
    (c_drop : PySem.W.codeIn K cd_drop "drop" = true)
    (k_drop : PySem.W.keepIn K (.ref f_drop) = true)
    (a_trace : PySem.W.nsIn K mainGlobals "trace" = some (some (.ref f_trace)))
    (l_trace : K.lookup f_trace = some ⟨oc_trace, od_trace, .func (PySem.W.fnOf "trace" "trace" (defArgs sTrace) (defBody sTrace) (defScope sTrace) .none kV_trace dc_trace pm_trace an_trace cd_trace ct_trace), sl_trace⟩)
    (c_trace : PySem.W.codeIn K cd_trace "trace" = true)
    (k_trace : PySem.W.keepIn K (.ref f_trace) = true)
    (a_hist : PySem.W.nsIn K mainGlobals "shelf_history" = some (some (.ref f_hist)))
    (l_hist : K.lookup f_hist = some ⟨oc_hist, od_hist, .func (PySem.W.fnOf "shelf_history" "shelf_history" (defArgs sHist) (defBody sHist) (defScope sHist) .none kV_hist dc_hist pm_hist an_hist cd_hist ct_hist), sl_hist⟩)
    (c_hist : PySem.W.codeIn K cd_hist "shelf_history" = true)
    (k_hist : PySem.W.keepIn K (.ref f_hist) = true)
    (a_peak : PySem.W.nsIn K mainGlobals "shelf_peak" = some (some (.ref f_peak)))
    (l_peak : K.lookup f_peak = some ⟨oc_peak, od_peak, .func (PySem.W.fnOf "shelf_peak" "shelf_peak" (defArgs sPeak) (defBody sPeak) (defScope sPeak) .none kV_peak dc_peak pm_peak an_peak cd_peak ct_peak), sl_peak⟩)
    (c_peak : PySem.W.codeIn K cd_peak "shelf_peak" = true)
    (k_peak : PySem.W.keepIn K (.ref f_peak) = true)
    (a_least : PySem.W.nsIn K mainGlobals "least_limit" = some (some (.ref f_least)))
    (l_least : K.lookup f_least = some ⟨oc_least, od_least, .func (PySem.W.fnOf "least_limit" "least_limit" (defArgs sLeast) (defBody sLeast) (defScope sLeast) .none kV_least dc_least pm_least an_least cd_least ct_least), sl_least⟩)
    (c_least : PySem.W.codeIn K cd_least "least_limit" = true)
    (k_least : PySem.W.keepIn K (.ref f_least) = true)
    (a_tree : PySem.W.nsIn K mainGlobals "release_tree" = some (some (.ref f_tree)))
    (l_tree : K.lookup f_tree = some ⟨oc_tree, od_tree, .func (PySem.W.fnOf "release_tree" "release_tree" (defArgs sTree) (defBody sTree) (defScope sTree) .none kV_tree dc_tree pm_tree an_tree cd_tree ct_tree), sl_tree⟩)
    (c_tree : PySem.W.codeIn K cd_tree "release_tree" = true)
    (k_tree : PySem.W.keepIn K (.ref f_tree) = true)
    (a_ini : PySem.W.findIn K (.ref C) "__init__" = some (some (.ref f_ini)))
    (i_ini : PySem.W.isFn K (.ref f_ini) = true)
    (l_ini : K.lookup f_ini = some ⟨oc_ini, od_ini, .func (PySem.W.fnOf "__init__" "Unwinding.__init__" (defArgs sInit) (defBody sInit) (defScope sInit) .none kV_ini dc_ini pm_ini an_ini cd_ini ct_ini), sl_ini⟩)
    (c_ini : PySem.W.codeIn K cd_ini "Unwinding.__init__" = true)
    (k_ini : PySem.W.keepIn K (.ref f_ini) = true)
    (a_rel : PySem.W.findIn K (.ref C) "release" = some (some (.ref f_rel)))
    (i_rel : PySem.W.isFn K (.ref f_rel) = true)
    (l_rel : K.lookup f_rel = some ⟨oc_rel, od_rel, .func (PySem.W.fnOf "release" "Unwinding.release" (defArgs sRel) (defBody sRel) (defScope sRel) .none kV_rel dc_rel pm_rel an_rel cd_rel ct_rel), sl_rel⟩)
    (c_rel : PySem.W.codeIn K cd_rel "Unwinding.release" = true)
    (k_rel : PySem.W.keepIn K (.ref f_rel) = true)
    (a_des : PySem.W.findIn K (.ref C) "destroy" = some (some (.ref f_des)))
    (i_des : PySem.W.isFn K (.ref f_des) = true)
    (l_des : K.lookup f_des = some ⟨oc_des, od_des, .func (PySem.W.fnOf "destroy" "Unwinding.destroy" (defArgs sDes) (defBody sDes) (defScope sDes) .none kV_des dc_des pm_des an_des cd_des ct_des), sl_des⟩)
    (c_des : PySem.W.codeIn K cd_des "Unwinding.destroy" = true)
    (k_des : PySem.W.keepIn K (.ref f_des) = true)
    (a_unw : PySem.W.findIn K (.ref C) "unwind" = some (some (.ref f_unw)))
    (i_unw : PySem.W.isFn K (.ref f_unw) = true)
    (l_unw : K.lookup f_unw = some ⟨oc_unw, od_unw, .func (PySem.W.fnOf "unwind" "Unwinding.unwind" (defArgs sUnw) (defBody sUnw) (defScope sUnw) .none kV_unw dc_unw pm_unw an_unw cd_unw ct_unw), sl_unw⟩)
    (c_unw : PySem.W.codeIn K cd_unw "Unwinding.unwind" = true)
    (k_unw : PySem.W.keepIn K (.ref f_unw) = true)
    (a_out : PySem.W.findIn K (.ref C) "drop_outside" = some (some (.ref f_out)))
    (i_out : PySem.W.isFn K (.ref f_out) = true)
    (l_out : K.lookup f_out = some ⟨oc_out, od_out, .func (PySem.W.fnOf "drop_outside" "Unwinding.drop_outside" (defArgs sOut) (defBody sOut) (defScope sOut) .none kV_out dc_out pm_out an_out cd_out ct_out), sl_out⟩)
    (c_out : PySem.W.codeIn K cd_out "Unwinding.drop_outside" = true)
    (k_out : PySem.W.keepIn K (.ref f_out) = true)
    (a_heap : PySem.W.findIn K (.ref C) "heap" = some (some (.ref f_heap)))
    (i_heap : PySem.W.isFn K (.ref f_heap) = true)
    (l_heap : K.lookup f_heap = some ⟨oc_heap, od_heap, .func (PySem.W.fnOf "heap" "Unwinding.heap" (defArgs sHeap) (defBody sHeap) (defScope sHeap) .none kV_heap dc_heap pm_heap an_heap cd_heap ct_heap), sl_heap⟩)
    (c_heap : PySem.W.codeIn K cd_heap "Unwinding.heap" = true)
    (k_heap : PySem.W.keepIn K (.ref f_heap) = true)
    (a_res : PySem.W.findIn K (.ref C) "result" = some (some (.ref f_res)))
    (i_res : PySem.W.isFn K (.ref f_res) = true)
    (l_res : K.lookup f_res = some ⟨oc_res, od_res, .func (PySem.W.fnOf "result" "Unwinding.result" (defArgs sRes) (defBody sRes) (defScope sRes) .none kV_res dc_res pm_res an_res cd_res ct_res), sl_res⟩)
    (c_res : PySem.W.codeIn K cd_res "Unwinding.result" = true)
    (k_res : PySem.W.keepIn K (.ref f_res) = true)
    (pg : PySem.W.plainGet K C Str.empty = true)
    (hd : PySem.W.hasDictIn K C = true)
    (po : PySem.W.plainOver K C = true)
    (sa : PySem.W.findIn K (.ref C) "__setattr__" = some (some (.builtin "object.__setattr__")))
    (mk : PySem.W.makesIn K C = true)
    (kc : PySem.W.keepIn K (.ref C) = true)
    (n_rows : PySem.W.findIn K (.ref C) "rows" = some none)
    (n_references : PySem.W.findIn K (.ref C) "references" = some none)
    (n_tallies : PySem.W.findIn K (.ref C) "tallies" = some none)
    (n_bound : PySem.W.findIn K (.ref C) "bound" = some none)
    (n_log : PySem.W.findIn K (.ref C) "log" = some none)
    (n_shelf : PySem.W.findIn K (.ref C) "shelf" = some none)
    (n_peak : PySem.W.findIn K (.ref C) "peak" = some none)
    (n_events : PySem.W.findIn K (.ref C) "events" = some none)
    (z_isinstance : PySem.W.nsIn K mainGlobals "isinstance" = some none)
    (z_int : PySem.W.nsIn K mainGlobals "int" = some none)
    (z_bool : PySem.W.nsIn K mainGlobals "bool" = some none)
    (z_len : PySem.W.nsIn K mainGlobals "len" = some none)
    (z_list : PySem.W.nsIn K mainGlobals "list" = some none)
    (z_tuple : PySem.W.nsIn K mainGlobals "tuple" = some none)
    (z_range : PySem.W.nsIn K mainGlobals "range" = some none)
    (z_max : PySem.W.nsIn K mainGlobals "max" = some none)
    (z_min : PySem.W.nsIn K mainGlobals "min" = some none)
    (z_sorted : PySem.W.nsIn K mainGlobals "sorted" = some none)
    (z_dict : PySem.W.nsIn K mainGlobals "dict" = some none)
    (z_abs : PySem.W.nsIn K mainGlobals "abs" = some none)
    (z_repr : PySem.W.nsIn K mainGlobals "repr" = some none)
    : ∃ fd : FuncData, (∀ (s : Shared) (v : Value), BindsTo s fd ⟨[v], []⟩ [("_law_script", v)]) ∧ ∀ base : Heap, K.In base → base.Ns mainGlobals mg → FnG l.prog w K mg base 90 fa fd ["_law_script"] (spLaw K) := by
  have e := hfa.symm.trans (PySem.W.mg_of X G a_law)
  cases e
  have B : Blt mg := ⟨PySem.W.mg_none_of X G z_isinstance, PySem.W.mg_none_of X G z_int, PySem.W.mg_none_of X G z_bool, PySem.W.mg_none_of X G z_len, PySem.W.mg_none_of X G z_list, PySem.W.mg_none_of X G z_tuple, PySem.W.mg_none_of X G z_range, PySem.W.mg_none_of X G z_max, PySem.W.mg_none_of X G z_min, PySem.W.mg_none_of X G z_sorted, PySem.W.mg_none_of X G z_dict, PySem.W.mg_none_of X G z_abs, PySem.W.mg_none_of X G z_repr⟩
  have T : Uni K mg C := ⟨⟨pg, hd, po, sa⟩, n_rows, n_references, n_tallies, n_bound, n_log, n_shelf, n_peak, n_events, PySem.W.mg_of X G aC⟩
  have F_isint := fun_mk (st := sIsInt) l_isint c_isint k_isint
  have D_isint : DefIn K mg "is_integer" sIsInt ["value"] := ⟨_, _, PySem.W.mg_of X G a_isint, F_isint, F_isint.binds (ps := ["value"]) fun _ _ _ _ _ _ us hl => match us, hl with | [_], _ => rfl⟩
  have F_betw := fun_mk (st := sBetw) l_betw c_betw k_betw
  have D_betw : DefIn K mg "is_between" sBetw ["value", "least", "most"] := ⟨_, _, PySem.W.mg_of X G a_betw, F_betw, F_betw.binds (ps := ["value", "least", "most"]) fun _ _ _ _ _ _ us hl => match us, hl with | [_, _, _], _ => rfl⟩
  have F_counts := fun_mk (st := sCounts) l_counts c_counts k_counts
  have D_counts : DefIn K mg "reference_counts" sCounts ["slots", "outside"] := ⟨_, _, PySem.W.mg_of X G a_counts, F_counts, F_counts.binds (ps := ["slots", "outside"]) fun _ _ _ _ _ _ us hl => match us, hl with | [_, _], _ => rfl⟩
  have F_live := fun_mk (st := sLive) l_live c_live k_live
  have D_live : DefIn K mg "is_live" sLive ["heap", "value"] := ⟨_, _, PySem.W.mg_of X G a_live, F_live, F_live.binds (ps := ["heap", "value"]) fun _ _ _ _ _ _ us hl => match us, hl with | [_, _], _ => rfl⟩
  have F_reqN := fun_mk (st := sReqN) l_reqN c_reqN k_reqN
  have D_reqN : DefIn K mg "require_node" sReqN ["heap", "value"] := ⟨_, _, PySem.W.mg_of X G a_reqN, F_reqN, F_reqN.binds (ps := ["heap", "value"]) fun _ _ _ _ _ _ us hl => match us, hl with | [_, _], _ => rfl⟩
  have F_reqR := fun_mk (st := sReqR) l_reqR c_reqR k_reqR
  have D_reqR : DefIn K mg "require_reference" sReqR ["heap", "value"] := ⟨_, _, PySem.W.mg_of X G a_reqR, F_reqR, F_reqR.binds (ps := ["heap", "value"]) fun _ _ _ _ _ _ us hl => match us, hl with | [_, _], _ => rfl⟩
  have F_lims := fun_mk (st := sLims) l_lims c_lims k_lims
  have D_lims : DefIn K mg "limits_of" sLims ["heap"] := ⟨_, _, PySem.W.mg_of X G a_lims, F_lims, F_lims.binds (ps := ["heap"]) fun _ _ _ _ _ _ us hl => match us, hl with | [_], _ => rfl⟩
  have F_logs := fun_mk (st := sLogs) l_logs c_logs k_logs
  have D_logs : DefIn K mg "all_logs" sLogs ["heap", "node"] := ⟨_, _, PySem.W.mg_of X G a_logs, F_logs, F_logs.binds (ps := ["heap", "node"]) fun _ _ _ _ _ _ us hl => match us, hl with | [_, _], _ => rfl⟩
  have F_pen := fun_mk (st := sPen) l_pen c_pen k_pen
  have D_pen : DefIn K mg "_law_pen" sPen ["_law_script"] := ⟨_, _, PySem.W.mg_of X G a_pen, F_pen, F_pen.binds (ps := ["_law_script"]) fun _ _ _ _ _ _ us hl => match us, hl with | [_], _ => rfl⟩
  have F_draw := fun_mk (st := sDraw) l_draw c_draw k_draw
  have D_draw : DefIn K mg "_law_draw" sDraw ["_law_pen_here", "_law_many"] := ⟨_, _, PySem.W.mg_of X G a_draw, F_draw, F_draw.binds (ps := ["_law_pen_here", "_law_many"]) fun _ _ _ _ _ _ us hl => match us, hl with | [_, _], _ => rfl⟩
  have F_put := fun_mk (st := sPut) l_put c_put k_put
  have D_put : DefIn K mg "_law_put_in" sPut ["_law_pen_here", "_law_row", "_law_held"] := ⟨_, _, PySem.W.mg_of X G a_put, F_put, F_put.binds (ps := ["_law_pen_here", "_law_row", "_law_held"]) fun _ _ _ _ _ _ us hl => match us, hl with | [_, _, _], _ => rfl⟩
  have F_join := fun_mk (st := sJoin) l_join c_join k_join
  have D_join : DefIn K mg "_law_joined" sJoin ["_law_pen_here", "_law_rows", "_law_live", "_law_references"] := ⟨_, _, PySem.W.mg_of X G a_join, F_join, F_join.binds (ps := ["_law_pen_here", "_law_rows", "_law_live", "_law_references"]) fun _ _ _ _ _ _ us hl => match us, hl with | [_, _, _, _], _ => rfl⟩
  have F_pileof := fun_mk (st := sPileOf) l_pileof c_pileof k_pileof
  have D_pileof : DefIn K mg "_law_pile_of" sPileOf ["_law_pen_here", "_law_many"] := ⟨_, _, PySem.W.mg_of X G a_pileof, F_pileof, F_pileof.binds (ps := ["_law_pen_here", "_law_many"]) fun _ _ _ _ _ _ us hl => match us, hl with | [_, _], _ => rfl⟩
  have F_pile := fun_mk (st := sPile) l_pile c_pile k_pile
  have D_pile : DefIn K mg "_law_pile" sPile ["_law_pen_here", "_law_top"] := ⟨_, _, PySem.W.mg_of X G a_pile, F_pile, F_pile.binds (ps := ["_law_pen_here", "_law_top"]) fun _ _ _ _ _ _ us hl => match us, hl with | [_, _], _ => rfl⟩
  have F_depth := fun_mk (st := sDepth) l_depth c_depth k_depth
  have D_depth : DefIn K mg "_law_depth" sDepth ["_law_tree", "_law_item"] := ⟨_, _, PySem.W.mg_of X G a_depth, F_depth, F_depth.binds (ps := ["_law_tree", "_law_item"]) fun _ _ _ _ _ _ us hl => match us, hl with | [_, _], _ => rfl⟩
  have F_lens := fun_mk (st := sLens) l_lens c_lens k_lens
  have D_lens : DefIn K mg "_law_lengths" sLens ["_law_tree", "_law_log", "_law_cap"] := ⟨_, _, PySem.W.mg_of X G a_lens, F_lens, F_lens.binds (ps := ["_law_tree", "_law_log", "_law_cap"]) fun _ _ _ _ _ _ us hl => match us, hl with | [_, _, _], _ => rfl⟩
  have F_right := fun_mk (st := sRight) l_right c_right k_right
  have D_right : DefIn K mg "_law_right" sRight ["_law_pile_here", "_law_start", "_law_log", "_law_cap"] := ⟨_, _, PySem.W.mg_of X G a_right, F_right, F_right.binds (ps := ["_law_pile_here", "_law_start", "_law_log", "_law_cap"]) fun _ _ _ _ _ _ us hl => match us, hl with | [_, _, _, _], _ => rfl⟩
  have F_law := fun_mk (st := sLaw) l_law c_law k_law
  have F_drop := fun_mk (st := sDrop) l_drop c_drop k_drop
  have D_drop : KDefIn K mg "drop" sDrop ["heap", "node", "limit"] 2 ["limit"] := ⟨_, _, PySem.W.mg_of X G a_drop, F_drop, WR.Fun.kbn F_drop (ps := ["heap", "node", "limit"]) 2 ["limit"] fun _ _ _ _ _ _ us ws h1 h2 => match us, ws, h1, h2 with | [_, _], [_], _, _ => rfl⟩
  have F_trace := fun_mk (st := sTrace) l_trace c_trace k_trace
  have D_trace : KDefIn K mg "trace" sTrace ["heap", "node", "limit"] 2 ["limit"] := ⟨_, _, PySem.W.mg_of X G a_trace, F_trace, WR.Fun.kbn F_trace (ps := ["heap", "node", "limit"]) 2 ["limit"] fun _ _ _ _ _ _ us ws h1 h2 => match us, ws, h1, h2 with | [_, _], [_], _, _ => rfl⟩
  have F_hist := fun_mk (st := sHist) l_hist c_hist k_hist
  have D_hist : KDefIn K mg "shelf_history" sHist ["heap", "node", "limit"] 2 ["limit"] := ⟨_, _, PySem.W.mg_of X G a_hist, F_hist, WR.Fun.kbn F_hist (ps := ["heap", "node", "limit"]) 2 ["limit"] fun _ _ _ _ _ _ us ws h1 h2 => match us, ws, h1, h2 with | [_, _], [_], _, _ => rfl⟩
  have F_peak := fun_mk (st := sPeak) l_peak c_peak k_peak
  have D_peak : KDefIn K mg "shelf_peak" sPeak ["heap", "node", "limit"] 2 ["limit"] := ⟨_, _, PySem.W.mg_of X G a_peak, F_peak, WR.Fun.kbn F_peak (ps := ["heap", "node", "limit"]) 2 ["limit"] fun _ _ _ _ _ _ us ws h1 h2 => match us, ws, h1, h2 with | [_, _], [_], _, _ => rfl⟩
  have F_least := fun_mk (st := sLeast) l_least c_least k_least
  have D_least : KDefIn K mg "least_limit" sLeast ["heap", "node", "most"] 2 ["most"] := ⟨_, _, PySem.W.mg_of X G a_least, F_least, WR.Fun.kbn F_least (ps := ["heap", "node", "most"]) 2 ["most"] fun _ _ _ _ _ _ us ws h1 h2 => match us, ws, h1, h2 with | [_, _], [_], _, _ => rfl⟩
  have F_tree := fun_mk (st := sTree) l_tree c_tree k_tree
  have D_tree : KDefIn K mg "release_tree" sTree ["heap", "node", "limit"] 2 ["limit"] := ⟨_, _, PySem.W.mg_of X G a_tree, F_tree, WR.Fun.kbn F_tree (ps := ["heap", "node", "limit"]) 2 ["limit"] fun _ _ _ _ _ _ us ws h1 h2 => match us, ws, h1, h2 with | [_, _], [_], _, _ => rfl⟩
  have F_ini := fun_mk (st := sInit) l_ini c_ini k_ini
  have b_ini := F_ini.binds (ps := ["self", "heap", "limit"]) fun _ _ _ _ _ _ us hl => match us, hl with | [_, _, _], _ => rfl
  have F_rel := fun_mk (st := sRel) l_rel c_rel k_rel
  have b_rel := F_rel.binds (ps := ["self", "holder", "slot", "node", "depth"]) fun _ _ _ _ _ _ us hl => match us, hl with | [_, _, _, _, _], _ => rfl
  have D_rel : MDefIn K C "release" "Unwinding.release" sRel ["self", "holder", "slot", "node", "depth"] := ⟨_, _, ⟨a_rel, i_rel, k_rel⟩, F_rel, b_rel⟩
  have F_des := fun_mk (st := sDes) l_des c_des k_des
  have b_des := F_des.binds (ps := ["self", "node", "depth"]) fun _ _ _ _ _ _ us hl => match us, hl with | [_, _, _], _ => rfl
  have D_des : MDefIn K C "destroy" "Unwinding.destroy" sDes ["self", "node", "depth"] := ⟨_, _, ⟨a_des, i_des, k_des⟩, F_des, b_des⟩
  have F_unw := fun_mk (st := sUnw) l_unw c_unw k_unw
  have b_unw := F_unw.binds (ps := ["self", "holder", "slot", "node"]) fun _ _ _ _ _ _ us hl => match us, hl with | [_, _, _, _], _ => rfl
  have D_unw : MDefIn K C "unwind" "Unwinding.unwind" sUnw ["self", "holder", "slot", "node"] := ⟨_, _, ⟨a_unw, i_unw, k_unw⟩, F_unw, b_unw⟩
  have F_out := fun_mk (st := sOut) l_out c_out k_out
  have b_out := F_out.binds (ps := ["self", "node"]) fun _ _ _ _ _ _ us hl => match us, hl with | [_, _], _ => rfl
  have D_out : MDefIn K C "drop_outside" "Unwinding.drop_outside" sOut ["self", "node"] := ⟨_, _, ⟨a_out, i_out, k_out⟩, F_out, b_out⟩
  have F_heap := fun_mk (st := sHeap) l_heap c_heap k_heap
  have b_heap := F_heap.binds (ps := ["self"]) fun _ _ _ _ _ _ us hl => match us, hl with | [_], _ => rfl
  have D_heap : MDefIn K C "heap" "Unwinding.heap" sHeap ["self"] := ⟨_, _, ⟨a_heap, i_heap, k_heap⟩, F_heap, b_heap⟩
  have F_res := fun_mk (st := sRes) l_res c_res k_res
  have b_res := F_res.binds (ps := ["self"]) fun _ _ _ _ _ _ us hl => match us, hl with | [_], _ => rfl
  have D_res : MDefIn K C "result" "Unwinding.result" sRes ["self"] := ⟨_, _, ⟨a_res, i_res, k_res⟩, F_res, b_res⟩
  refine ⟨PySem.W.fnOf "law" "law" (defArgs sLaw) (defBody sLaw) (defScope sLaw) .none kV_law dc_law pm_law an_law cd_law ct_law, fun s v => .of_eq rfl, fun base _ _ => ?_⟩
  have G_isint := ok_isint (P := l.prog) (w := w) (base := base) B D_isint
  have G_betw := ok_betw G_isint D_betw
  have G_live := ok_live B G_betw D_live
  have G_reqN := ok_reqN G_live D_reqN
  have G_reqR := ok_reqR G_reqN D_reqR
  have G_counts := ok_counts (P := l.prog) (w := w) (base := base) B D_counts
  have G_both := both (P := l.prog) (w := w) (base := base) B T D_rel D_des 41
  have G_unw := ok_unw (g := 41) B T G_both.2 G_both.1 D_unw
  have G_out := ok_out T G_unw D_out
  have G_heap := ok_heap (P := l.prog) (w := w) (base := base) B T D_heap
  have G_res := ok_res B T G_heap D_res
  have G_ini : ICal l.prog w K mg base C 2 ["self", "heap", "limit"] (spInit C) := ⟨_, _, ⟨mk, a_ini, i_ini, kc⟩, b_ini, ok_init B T G_counts F_ini⟩
  have G_drop := ok_drop T G_reqR G_ini G_out G_res D_drop
  have G_trace := ok_trace B T G_reqR G_ini G_out D_trace
  have G_hist := ok_hist B G_trace D_hist
  have G_peak := ok_peak B G_hist D_peak
  have G_least := ok_least G_reqR G_peak D_least
  have G_lims := ok_lims (P := l.prog) (w := w) (base := base) B D_lims
  have G_logs := ok_logs B G_reqR G_drop G_lims D_logs
  have G_tree := ok_tree B G_trace D_tree
  have G_pen := ok_pen (P := l.prog) (w := w) (base := base) B D_pen
  have G_draw := ok_draw (P := l.prog) (w := w) (base := base) B D_draw
  have G_put := ok_put B G_draw D_put
  have G_join := ok_join B G_draw G_put D_join
  have G_pileof := ok_pileof B G_draw G_put G_join D_pileof
  have G_pile := ok_pile B G_draw G_pileof D_pile
  have G_depth := ok_depth (P := l.prog) (w := w) (base := base) D_depth
  have G_lens := ok_lens B G_depth D_lens
  have G_right := ok_right B G_tree G_lens G_hist G_peak G_drop D_right
  exact ok_law B G_pen G_draw G_pile G_logs G_right G_peak G_least F_law
theorem walk {l : PySem.W.OpenLaw} {q : Program} {loose : List Str} {XP : (Str → Option Value) → Heap → Prop} {YP : World → Heap → Prop} {d : DefRec} {K : Params → PySem.W.Frag} (hn : l.most = some 63) (hdf : d.params.defaults = [])
    (hY : ∀ (w : World) (h : Heap), YP w h → (K w.params).In h)
    (F : ∀ (w : World) (mg : Str → Option Value) (fa : Addr) (h : Heap), (K w.params).In h → h.Ns mainGlobals mg → mg d.name = some (.ref fa) →
      ∃ fd : FuncData, (∀ (s : Shared) (u : Value), BindsTo s fd ⟨[u], []⟩ [("_law_script", u)]) ∧ ∀ base : Heap, (K w.params).In base → base.Ns mainGlobals mg → FnG l.prog w (K w.params) mg base 90 fa fd ["_law_script"] (spLaw (K w.params))) :
    PySem.W.WalkO q loose XP YP l.row.toRowW d [] (fun f vs => PySem.call f vs) :=
  WR.walk_ofG (n := 63) (k := 90) (x := "_law_script") (sp := spLaw) hn (by decide) hdf ⟨rfl, by decide, by decide⟩ hY F (fun K H a ns _ hS => ⟨a, ns, rfl, hS, fun _ => rfl⟩)
end SW

open PySem PySem.W PyProof.Rows in
set_option maxRecDepth 100000 in
set_option maxHeartbeats 0 in
theorem PySem.Challenge.cw_slotfall_k41_whole_shelves_by_depths_holds : PySem.Challenge.rw_slotfall_k41_whole_shelves_by_depths.Holds := by
  w_on; o_law; k_head; (case hw => w_witness2)
  k_fill
  refine SW.walk (l := PySem.Challenge.rw_slotfall_k41_whole_shelves_by_depths) rfl rfl (fun w h Y => PySem.W.kIn_of Y) ?F
  case F =>
    intro w mg fa h KX G hmg
    refine' SW.all_mk KX G hmg ?aC ?a_isint ?l_isint ?c_isint ?k_isint ?a_betw ?l_betw ?c_betw ?k_betw ?a_counts ?l_counts ?c_counts ?k_counts ?a_live ?l_live ?c_live ?k_live ?a_reqN ?l_reqN ?c_reqN ?k_reqN ?a_reqR ?l_reqR ?c_reqR ?k_reqR ?a_lims ?l_lims ?c_lims ?k_lims ?a_logs ?l_logs ?c_logs ?k_logs ?a_pen ?l_pen ?c_pen ?k_pen ?a_draw ?l_draw ?c_draw ?k_draw ?a_put ?l_put ?c_put ?k_put ?a_join ?l_join ?c_join ?k_join ?a_pileof ?l_pileof ?c_pileof ?k_pileof ?a_pile ?l_pile ?c_pile ?k_pile ?a_depth ?l_depth ?c_depth ?k_depth ?a_lens ?l_lens ?c_lens ?k_lens ?a_right ?l_right ?c_right ?k_right ?a_law ?l_law ?c_law ?k_law ?a_drop ?l_drop ?c_drop ?k_drop ?a_trace ?l_trace ?c_trace ?k_trace ?a_hist ?l_hist ?c_hist ?k_hist ?a_peak ?l_peak ?c_peak ?k_peak ?a_least ?l_least ?c_least ?k_least ?a_tree ?l_tree ?c_tree ?k_tree ?a_ini ?i_ini ?l_ini ?c_ini ?k_ini ?a_rel ?i_rel ?l_rel ?c_rel ?k_rel ?a_des ?i_des ?l_des ?c_des ?k_des ?a_unw ?i_unw ?l_unw ?c_unw ?k_unw ?a_out ?i_out ?l_out ?c_out ?k_out ?a_heap ?i_heap ?l_heap ?c_heap ?k_heap ?a_res ?i_res ?l_res ?c_res ?k_res ?pg ?hd ?po ?sa ?mk ?kc ?n_rows ?n_references ?n_tallies ?n_bound ?n_log ?n_shelf ?n_peak ?n_events ?z_isinstance ?z_int ?z_bool ?z_len ?z_list ?z_tuple ?z_range ?z_max ?z_min ?z_sorted ?z_dict ?z_abs ?z_repr
    (case aC => k_is)
    (case a_isint => k_is)
    (case l_isint => k_is)
    (case c_isint => k_is)
    (case k_isint => k_is)
    (case a_betw => k_is)
    (case l_betw => k_is)
    (case c_betw => k_is)
    (case k_betw => k_is)
    (case a_counts => k_is)
    (case l_counts => k_is)
    (case c_counts => k_is)
    (case k_counts => k_is)
    (case a_live => k_is)
    (case l_live => k_is)
    (case c_live => k_is)
    (case k_live => k_is)
    (case a_reqN => k_is)
    (case l_reqN => k_is)
    (case c_reqN => k_is)
    (case k_reqN => k_is)
    (case a_reqR => k_is)
    (case l_reqR => k_is)
    (case c_reqR => k_is)
    (case k_reqR => k_is)
    (case a_lims => k_is)
    (case l_lims => k_is)
    (case c_lims => k_is)
    (case k_lims => k_is)
    (case a_logs => k_is)
    (case l_logs => k_is)
    (case c_logs => k_is)
    (case k_logs => k_is)
    (case a_pen => k_is)
    (case l_pen => k_is)
    (case c_pen => k_is)
    (case k_pen => k_is)
    (case a_draw => k_is)
    (case l_draw => k_is)
    (case c_draw => k_is)
    (case k_draw => k_is)
    (case a_put => k_is)
    (case l_put => k_is)
    (case c_put => k_is)
    (case k_put => k_is)
    (case a_join => k_is)
    (case l_join => k_is)
    (case c_join => k_is)
    (case k_join => k_is)
    (case a_pileof => k_is)
    (case l_pileof => k_is)
    (case c_pileof => k_is)
    (case k_pileof => k_is)
    (case a_pile => k_is)
    (case l_pile => k_is)
    (case c_pile => k_is)
    (case k_pile => k_is)
    (case a_depth => k_is)
    (case l_depth => k_is)
    (case c_depth => k_is)
    (case k_depth => k_is)
    (case a_lens => k_is)
    (case l_lens => k_is)
    (case c_lens => k_is)
    (case k_lens => k_is)
    (case a_right => k_is)
    (case l_right => k_is)
    (case c_right => k_is)
    (case k_right => k_is)
    (case a_law => k_is)
    (case l_law => k_is)
    (case c_law => k_is)
    (case k_law => k_is)
    (case a_drop => k_is)
    (case l_drop => k_is)
    (case c_drop => k_is)
    (case k_drop => k_is)
    (case a_trace => k_is)
    (case l_trace => k_is)
    (case c_trace => k_is)
    (case k_trace => k_is)
    (case a_hist => k_is)
    (case l_hist => k_is)
    (case c_hist => k_is)
    (case k_hist => k_is)
    (case a_peak => k_is)
    (case l_peak => k_is)
    (case c_peak => k_is)
    (case k_peak => k_is)
    (case a_least => k_is)
    (case l_least => k_is)
    (case c_least => k_is)
    (case k_least => k_is)
    (case a_tree => k_is)
    (case l_tree => k_is)
    (case c_tree => k_is)
    (case k_tree => k_is)
    (case a_ini => k_is)
    (case i_ini => k_is)
    (case l_ini => k_is)
    (case c_ini => k_is)
    (case k_ini => k_is)
    (case a_rel => k_is)
    (case i_rel => k_is)
    (case l_rel => k_is)
    (case c_rel => k_is)
    (case k_rel => k_is)
    (case a_des => k_is)
    (case i_des => k_is)
    (case l_des => k_is)
    (case c_des => k_is)
    (case k_des => k_is)
    (case a_unw => k_is)
    (case i_unw => k_is)
    (case l_unw => k_is)
    (case c_unw => k_is)
    (case k_unw => k_is)
    (case a_out => k_is)
    (case i_out => k_is)
    (case l_out => k_is)
    (case c_out => k_is)
    (case k_out => k_is)
    (case a_heap => k_is)
    (case i_heap => k_is)
    (case l_heap => k_is)
    (case c_heap => k_is)
    (case k_heap => k_is)
    (case a_res => k_is)
    (case i_res => k_is)
    (case l_res => k_is)
    (case c_res => k_is)
    (case k_res => k_is)
    (case pg => k_is)
    (case hd => k_is)
    (case po => k_is)
    (case sa => k_is)
    (case mk => k_is)
    (case kc => k_is)
    (case n_rows => k_is)
    (case n_references => k_is)
    (case n_tallies => k_is)
    (case n_bound => k_is)
    (case n_log => k_is)
    (case n_shelf => k_is)
    (case n_peak => k_is)
    (case n_events => k_is)
    (case z_isinstance => k_is)
    (case z_int => k_is)
    (case z_bool => k_is)
    (case z_len => k_is)
    (case z_list => k_is)
    (case z_tuple => k_is)
    (case z_range => k_is)
    (case z_max => k_is)
    (case z_min => k_is)
    (case z_sorted => k_is)
    (case z_dict => k_is)
    (case z_abs => k_is)
    (case z_repr => k_is)

