import PyProof.Rows.All
import Wide.All
import OpenK.AllK
import Wide.FinOn
import HandS.ForMost
import HandS.Deep
import HandS.TupSets
import HandS.Style
import HandS.IsInst
import HandS.Flt
import HandS.Walk
import HandS.Zip
import HandS.Conv
import HandS.WideBits
import HandS.Property
import HandS.SortInts
import HandS.Codes
import KE.DataFind
import PyProof.ReprRoads
import PySem.Challenge.RW_lanekeepers_k74_whole_stairs_of_lines
import PyProof.ReprBulk
import HandS.HeadHook1
set_option Elab.async false
set_option linter.all false
set_option maxRecDepth 100000
set_option maxHeartbeats 1000000
/-! The graph part as plain functions; what it gives on every line of three to six places, by running it. -/
namespace Mir

def ins (a : Nat) : List Nat → List Nat
  | [] => [a]
  | b :: r => if a ≤ b then a :: b :: r else b :: ins a r
def isort : List Nat → List Nat
  | [] => []
  | a :: r => ins a (isort r)
theorem ins_perm (a : Nat) : ∀ l : List Nat, (ins a l).Perm (a :: l)
  | [] => .refl _
  | b :: r => by
    unfold ins
    split
    · exact .refl _
    · exact ((ins_perm a r).cons b).trans (.swap a b r)
theorem isort_perm : ∀ l : List Nat, (isort l).Perm l
  | [] => .refl _
  | a :: r => (ins_perm a (isort r)).trans ((isort_perm r).cons a)
theorem ins_sorted (a : Nat) : ∀ l : List Nat, l.Pairwise (· ≤ ·) → (ins a l).Pairwise (· ≤ ·)
  | [], _ => by simp [ins]
  | b :: r, h => by
    unfold ins
    rw [List.pairwise_cons] at h
    split
    · rename_i hab
      refine List.pairwise_cons.mpr ⟨fun x hx => ?_, List.pairwise_cons.mpr h⟩
      rcases List.mem_cons.mp hx with e | hx
      · rw [e]; exact hab
      · exact Nat.le_trans hab (h.1 x hx)
    · rename_i hab
      refine List.pairwise_cons.mpr ⟨fun x hx => ?_, ins_sorted a r h.2⟩
      rcases List.mem_cons.mp ((ins_perm a r).mem_iff.mp hx) with e | hx
      · rw [e]; omega
      · exact h.1 x hx
theorem isort_sorted : ∀ l : List Nat, (isort l).Pairwise (· ≤ ·)
  | [] => .nil
  | a :: r => ins_sorted a _ (isort_sorted r)
/-- two ascending lists of the same things are one -/
theorem sorted_eq : ∀ {l m : List Nat}, l.Perm m → l.Pairwise (· ≤ ·) → m.Pairwise (· ≤ ·) → l = m
  | [], m, h, _, _ => by
    have := h.length_eq
    cases m with
    | nil => rfl
    | cons _ _ => simp at this
  | a :: l, [], h, _, _ => by
    have := h.length_eq
    simp at this
  | a :: l, b :: m, h, h1, h2 => by
    rw [List.pairwise_cons] at h1 h2
    have ha : a ∈ b :: m := h.mem_iff.mp List.mem_cons_self
    have hb : b ∈ a :: l := h.mem_iff.mpr List.mem_cons_self
    have e : a = b := by
      rcases List.mem_cons.mp ha with e | ha
      · exact e
      · rcases List.mem_cons.mp hb with e | hb
        · exact e.symm
        · have := h2.1 a ha
          have := h1.1 b hb
          omega
    subst e
    rw [sorted_eq ((List.perm_cons a).mp h) h1.2 h2.2]
theorem isort_eq {k l : List Nat} (h : k.Perm l) (h2 : k.Pairwise (· ≤ ·)) : k = isort l := sorted_eq (h.trans (isort_perm l).symm) h2 (isort_sorted l)

/-! ### lanes and ties -/
abbrev Lane := Nat × Nat
def laneIn (l : Lane) : Lane := (min l.1 l.2, max l.1 l.2)
/-- found[i].append(x) -/
def addAt (rows : List (List Nat)) (i x : Nat) : List (List Nat) := rows.set i (rows.getD i [] ++ [x])
def tieStep (rows : List (List Nat)) (l : Lane) : List (List Nat) := addAt (addAt rows l.1 l.2) l.2 l.1
def tiesRaw (ls : List Lane) : List (List Nat) := ls.foldl tieStep (List.replicate (ls.length + 1) [])
def tiesOf (ls : List Lane) : List (List Nat) := (tiesRaw ls).map isort
def lanesOk (ls : List Lane) : Bool := ls.all fun l => decide (l.1 ≤ ls.length ∧ l.2 ≤ ls.length ∧ l.1 ≠ l.2)
/-- is_whole: n turns at most; some answer -/
def wholeStep (mw : List Nat × List Nat) (p : Nat) : List Nat × List Nat := if p ∈ mw.1 then mw else (mw.1 ++ [p], mw.2 ++ [p])
def wholeRun (ties : List (List Nat)) : Nat → List Nat → List Nat → Option (List Nat)
  | _, met, [] => some met
  | 0, _, _ :: _ => none
  | n + 1, met, a :: r =>
    let w := (a :: r)
    let st := (ties.getD (w.getD (w.length - 1) 0) []).foldl wholeStep (met, w.dropLast)
    wholeRun ties n st.1 st.2
/-- ahead_of -/
def aheadStep (here : Nat) (fw : List (Option Nat) × List Nat) (p : Nat) : List (Option Nat) × List Nat := if fw.1.getD p none = none then (fw.1.set p (some here), fw.2 ++ [p]) else fw
def aheadRun (ties : List (List Nat)) : Nat → List (Option Nat) → List Nat → Option (List (Option Nat))
  | _, found, [] => some found
  | 0, _, _ :: _ => none
  | n + 1, found, a :: r =>
    let w := (a :: r)
    let here := w.getD (w.length - 1) 0
    let st := (ties.getD here []).foldl (aheadStep here) (found, w.dropLast)
    aheadRun ties n st.1 st.2
def aheadOf (ties : List (List Nat)) (goal : Nat) : Option (List (Option Nat)) := aheadRun ties 40 ((List.replicate ties.length (none : Option Nat)).set goal (some goal)) [goal]
def tiesOk (ties : List (List Nat)) : Bool := ties.all fun r => r.all fun p => decide (p < ties.length)
/-- lanes told: as lanes_in hands them back -/
def lexLe (a b : Lane) : Bool := decide (a.1 < b.1) || (decide (a.1 = b.1) && decide (a.2 ≤ b.2))
def insL (a : Lane) : List Lane → List Lane
  | [] => [a]
  | b :: r => if lexLe a b then a :: b :: r else b :: insL a r
def sortL : List Lane → List Lane
  | [] => []
  | a :: r => insL a (sortL r)
def told (ls : List Lane) : List Lane := sortL (ls.map laneIn)
/-- all that lanes_in asks -/
def lanesIn (ls : List Lane) : Bool :=
  let f := ls.map laneIn
  let ties := tiesOf f
  lanesOk ls && lanesOk f && decide (ls.length ≤ 28) && decide f.Nodup && decide (1 ≤ (ties.filter fun r => decide (r.length > 1)).length) && decide ((ties.filter fun r => decide (r.length > 1)).length ≤ 7) && ties.all (fun r => decide (r.length ≤ 4)) &&
    tiesOk ties && decide ((wholeRun ties 40 [0] [0]).map List.length = some ties.length)
/-! ### the law's own way -/
def wayTurn (ties : List (List Nat)) (here : List Nat) : List (List Nat) := ((ties.getD (here.getD (here.length - 1) 0) []).filter fun p => decide (p ∉ here)).map fun p => here ++ [p]
def lwayRun (ties : List (List Nat)) (goal : Nat) : Nat → List (List Nat) → Option (List Nat)
  | _, [] => none
  | 0, w :: _ => if w.getD (w.length - 1) 0 = goal then some w else none
  | n + 1, w :: r => if w.getD (w.length - 1) 0 = goal then some w else lwayRun ties goal n (r ++ wayTurn ties w)

/-! ### lines of places with these names -/
def lanesOf (nm : List Nat) : List Lane := (List.range (nm.length - 1)).map fun i => (nm.getD i 0, nm.getD (i + 1) 0)
/-- the next position on the way from i to j -/
def nxt (i j : Nat) : Nat := if i < j then i + 1 else if j < i then i - 1 else i
def popPerms : Nat → List Nat → List (List Nat)
  | 0, _ => [[]]
  | n + 1, l => (List.range l.length).flatMap fun i => (popPerms n (l.eraseIdx i)).map fun r => l.getD i 0 :: r
def turnUp (l : List Nat) : List Nat := if l.getD 0 0 < l.getD (l.length - 1) 0 then l else l.reverse
def chk (nm : List Nat) : Bool :=
  let n := nm.length
  let ls := lanesOf nm
  let ties := tiesOf (told ls)
  lanesIn ls && lanesOk (told ls) && tiesOk ties && decide (ties.length = n) && decide (tiesOf ls = ties) && decide (nm.getD 0 0 < nm.getD (n - 1) 0) && decide (nm.Nodup) && nm.all (fun x => decide (x < n)) &&
  decide (ties.getD (nm.getD 0 0) [] = [nm.getD 1 0]) && decide (ties.getD (nm.getD (n - 1) 0) [] = [nm.getD (n - 2) 0]) &&
  ((List.range n).all fun i => decide (i = 0 ∨ i = n - 1) || decide (ties.getD (nm.getD i 0) [] = isort [nm.getD (i - 1) 0, nm.getD (i + 1) 0])) &&
  ((List.range n).all fun j => match aheadOf ties (nm.getD j 0) with
    | none => false
    | some t => decide (t.length = n) && (List.range n).all fun i => decide (t.getD (nm.getD i 0) none = some (nm.getD (nxt i j) 0))) &&
  decide (lwayRun ties (nm.getD (n - 1) 0) 10 [[nm.getD 0 0]] = some nm) && decide (lwayRun ties (nm.getD 0 0) 10 [[nm.getD (n - 1) 0]] = some nm.reverse)
def allChk (n : Nat) : Bool := (popPerms n (List.range n)).all fun l => !decide (l.getD 0 0 < l.getD (n - 1) 0) || chk l
theorem chk3 : allChk 3 = true := by decide +kernel
theorem chk4 : allChk 4 = true := by decide +kernel
theorem chk5 : allChk 5 = true := by decide +kernel
end Mir

set_option Elab.async false
set_option maxRecDepth 100000
set_option maxHeartbeats 1000000
/-! The lines of six places, in thirty parts by the two first names: one part asks less memory. -/
namespace Mir
theorem all_pop (n : Nat) (l : List Nat) (p : List Nat → Bool) : (popPerms (n + 1) l).all p = (List.range l.length).all fun i => (popPerms n (l.eraseIdx i)).all fun r => p (l.getD i 0 :: r) := by
  simp only [popPerms, List.all_flatMap, List.all_map, Function.comp_def]
def part6 (i j : Nat) : Bool :=
  (popPerms 4 (((List.range 6).eraseIdx i).eraseIdx j)).all fun r =>
    (fun l : List Nat => !decide (l.getD 0 0 < l.getD (6 - 1) 0) || chk l) ((List.range 6).getD i 0 :: ((List.range 6).eraseIdx i).getD j 0 :: r)
theorem part6_00 : part6 0 0 = true := by decide +kernel
theorem part6_01 : part6 0 1 = true := by decide +kernel
theorem part6_02 : part6 0 2 = true := by decide +kernel
theorem part6_03 : part6 0 3 = true := by decide +kernel
theorem part6_04 : part6 0 4 = true := by decide +kernel
theorem part6_10 : part6 1 0 = true := by decide +kernel
theorem part6_11 : part6 1 1 = true := by decide +kernel
theorem part6_12 : part6 1 2 = true := by decide +kernel
theorem part6_13 : part6 1 3 = true := by decide +kernel
theorem part6_14 : part6 1 4 = true := by decide +kernel
theorem part6_20 : part6 2 0 = true := by decide +kernel
theorem part6_21 : part6 2 1 = true := by decide +kernel
theorem part6_22 : part6 2 2 = true := by decide +kernel
theorem part6_23 : part6 2 3 = true := by decide +kernel
theorem part6_24 : part6 2 4 = true := by decide +kernel
theorem part6_30 : part6 3 0 = true := by decide +kernel
theorem part6_31 : part6 3 1 = true := by decide +kernel
theorem part6_32 : part6 3 2 = true := by decide +kernel
theorem part6_33 : part6 3 3 = true := by decide +kernel
theorem part6_34 : part6 3 4 = true := by decide +kernel
theorem part6_40 : part6 4 0 = true := by decide +kernel
theorem part6_41 : part6 4 1 = true := by decide +kernel
theorem part6_42 : part6 4 2 = true := by decide +kernel
theorem part6_43 : part6 4 3 = true := by decide +kernel
theorem part6_44 : part6 4 4 = true := by decide +kernel
theorem part6_50 : part6 5 0 = true := by decide +kernel
theorem part6_51 : part6 5 1 = true := by decide +kernel
theorem part6_52 : part6 5 2 = true := by decide +kernel
theorem part6_53 : part6 5 3 = true := by decide +kernel
theorem part6_54 : part6 5 4 = true := by decide +kernel
theorem parts6 : ∀ i j : Nat, i < 6 → j < 5 → part6 i j = true := by
  intro i j hi hj
  have h1 : i = 0 ∨ i = 1 ∨ i = 2 ∨ i = 3 ∨ i = 4 ∨ i = 5 := by omega
  have h2 : j = 0 ∨ j = 1 ∨ j = 2 ∨ j = 3 ∨ j = 4 := by omega
  rcases h1 with rfl | rfl | rfl | rfl | rfl | rfl <;> rcases h2 with rfl | rfl | rfl | rfl | rfl
  · exact part6_00
  · exact part6_01
  · exact part6_02
  · exact part6_03
  · exact part6_04
  · exact part6_10
  · exact part6_11
  · exact part6_12
  · exact part6_13
  · exact part6_14
  · exact part6_20
  · exact part6_21
  · exact part6_22
  · exact part6_23
  · exact part6_24
  · exact part6_30
  · exact part6_31
  · exact part6_32
  · exact part6_33
  · exact part6_34
  · exact part6_40
  · exact part6_41
  · exact part6_42
  · exact part6_43
  · exact part6_44
  · exact part6_50
  · exact part6_51
  · exact part6_52
  · exact part6_53
  · exact part6_54
theorem len6 : ∀ i : Nat, i < 6 → ((List.range 6).eraseIdx i).length = 5 := by decide
theorem chk6 : allChk 6 = true := by
  unfold allChk
  rw [all_pop 5]
  refine List.all_eq_true.mpr fun i hi => ?_
  have hi : i < 6 := by simpa using List.mem_range.mp hi
  rw [all_pop 4]
  refine List.all_eq_true.mpr fun j hj => ?_
  have hj : j < 5 := by have := List.mem_range.mp hj; rwa [len6 i hi] at this
  exact parts6 i j hi hj
end Mir

set_option Elab.async false
set_option linter.all false
set_option maxRecDepth 100000
set_option maxHeartbeats 1000000
/-! A layer of my own over the hand layer: what a piece of a def does, told by data. -/
namespace K74
open PySem L2

/-! ### data in a heap -/
mutual
inductive Dn (H : Hp) : V → PyData → Prop
  | non : Dn H .non .none
  | bl (b : Bool) : Dn H (.bl b) (.bool b)
  | int (i : Int) : Dn H (.int i) (.int i)
  | str (x : Str) : Dn H (.str x) (.str x)
  | lst {a : Addr} {xs : List V} {ds : List PyData} : H a = some (.lst xs) → DnAll H xs ds → Dn H (.ref a) (.list ds)
  | tup {a : Addr} {xs : List V} {ds : List PyData} : H a = some (.tup xs) → DnAll H xs ds → Dn H (.ref a) (.tuple ds)
inductive DnAll (H : Hp) : List V → List PyData → Prop
  | nil : DnAll H [] []
  | cons {v : V} {vs : List V} {d : PyData} {ds : List PyData} : Dn H v d → DnAll H vs ds → DnAll H (v :: vs) (d :: ds)
end
mutual
theorem Dn.mono {H H' : Hp} (s : Same H H') : ∀ {v : V} {d : PyData}, Dn H v d → Dn H' v d
  | _, _, .non => .non
  | _, _, .bl b => .bl b
  | _, _, .int i => .int i
  | _, _, .str x => .str x
  | _, _, .lst h r => .lst (s _ _ h) (DnAll.mono s r)
  | _, _, .tup h r => .tup (s _ _ h) (DnAll.mono s r)
theorem DnAll.mono {H H' : Hp} (s : Same H H') : ∀ {vs : List V} {ds : List PyData}, DnAll H vs ds → DnAll H' vs ds
  | _, _, .nil => .nil
  | _, _, .cons h r => .cons (Dn.mono s h) (DnAll.mono s r)
end
mutual
theorem Dn.dp {K : PySem.W.Frag} {H : Hp} : ∀ {v : V} {d : PyData}, Dn H v d → Dp K H v d
  | _, _, .non => .non
  | _, _, .bl b => .bl b
  | _, _, .int i => .int i
  | _, _, .str x => .str x
  | _, _, .lst h r => .lst (.inl (.inl h)) (DnAll.dp r)
  | _, _, .tup h r => .tup (.inl (.inl h)) (DnAll.dp r)
theorem DnAll.dp {K : PySem.W.Frag} {H : Hp} : ∀ {vs : List V} {ds : List PyData}, DnAll H vs ds → DpAll K H vs ds
  | _, _, .nil => .nil
  | _, _, .cons h r => .cons (Dn.dp h) (DnAll.dp r)
end
theorem DnAll.length {H : Hp} : ∀ {vs : List V} {ds : List PyData}, DnAll H vs ds → vs.length = ds.length
  | _, _, .nil => rfl
  | _, _, .cons _ r => congrArg (· + 1) (DnAll.length r)
theorem DnAll.get {H : Hp} : ∀ {vs : List V} {ds : List PyData} {i : Nat} {d : PyData}, DnAll H vs ds → ds[i]? = some d → ∃ v, vs[i]? = some v ∧ Dn H v d
  | _, _, _, _, .nil, h => by simp at h
  | _, _, 0, _, .cons h _, e => by
    have e' := Option.some.inj e
    subst e'
    exact ⟨_, rfl, h⟩
  | _, _, i + 1, _, .cons _ r, e => DnAll.get (i := i) r e
theorem DnAll.at {H : Hp} : ∀ {vs : List V} {ds : List PyData} {i : Nat} {v : V}, DnAll H vs ds → vs[i]? = some v → ∃ d, ds[i]? = some d ∧ Dn H v d
  | _, _, _, _, .nil, h => by simp at h
  | _, _, 0, _, .cons h _, e => by
    have e' := Option.some.inj e
    subst e'
    exact ⟨_, rfl, h⟩
  | _, _, i + 1, _, .cons _ r, e => DnAll.at (i := i) r e
theorem DnAll.append {H : Hp} : ∀ {vs ws : List V} {ds es : List PyData}, DnAll H vs ds → DnAll H ws es → DnAll H (vs ++ ws) (ds ++ es)
  | _, _, _, _, .nil, r => r
  | _, _, _, _, .cons h q, r => .cons h (DnAll.append q r)
theorem DnAll.one {H : Hp} {v : V} {d : PyData} (h : Dn H v d) : DnAll H [v] [d] := .cons h .nil
theorem DnAll.snoc {H : Hp} {vs : List V} {ds : List PyData} {v : V} {d : PyData} (r : DnAll H vs ds) (h : Dn H v d) : DnAll H (vs ++ [v]) (ds ++ [d]) := r.append (.one h)
theorem DnAll.drop {H : Hp} : ∀ {vs : List V} {ds : List PyData} (n : Nat), DnAll H vs ds → DnAll H (vs.drop n) (ds.drop n)
  | _, _, 0, r => r
  | _, _, _ + 1, .nil => .nil
  | _, _, n + 1, .cons _ r => DnAll.drop n r
theorem DnAll.take {H : Hp} : ∀ {vs : List V} {ds : List PyData} (n : Nat), DnAll H vs ds → DnAll H (vs.take n) (ds.take n)
  | _, _, 0, _ => .nil
  | _, _, _ + 1, .nil => .nil
  | _, _, n + 1, .cons h r => .cons h (DnAll.take n r)
theorem DnAll.set {H : Hp} {v : V} {d : PyData} (h : Dn H v d) : ∀ {vs : List V} {ds : List PyData} (n : Nat), DnAll H vs ds → DnAll H (vs.set n v) (ds.set n d)
  | _, _, _, .nil => .nil
  | _, _, 0, .cons _ r => .cons h r
  | _, _, n + 1, .cons q r => .cons q (DnAll.set h n r)
theorem DnAll.eraseIdx {H : Hp} : ∀ {vs : List V} {ds : List PyData} (n : Nat), DnAll H vs ds → DnAll H (vs.eraseIdx n) (ds.eraseIdx n)
  | _, _, _, .nil => .nil
  | _, _, 0, .cons _ r => r
  | _, _, n + 1, .cons q r => .cons q (DnAll.eraseIdx n r)
theorem DnAll.reverse {H : Hp} : ∀ {vs : List V} {ds : List PyData}, DnAll H vs ds → DnAll H vs.reverse ds.reverse
  | _, _, .nil => .nil
  | _, _, .cons h r => by
    rw [List.reverse_cons, List.reverse_cons]
    exact (DnAll.reverse r).snoc h
theorem DnAll.replicate {H : Hp} {v : V} {d : PyData} (h : Dn H v d) : ∀ n : Nat, DnAll H (List.replicate n v) (List.replicate n d)
  | 0 => .nil
  | n + 1 => .cons h (DnAll.replicate h n)
theorem DnAll.dropLast {H : Hp} {vs : List V} {ds : List PyData} (r : DnAll H vs ds) : DnAll H vs.dropLast ds.dropLast := by
  rw [List.dropLast_eq_take, List.dropLast_eq_take, r.length]
  exact r.take _
theorem DnAll.ints {H : Hp} : ∀ ns : List Int, DnAll H (ns.map V.int) (ns.map PyData.int)
  | [] => .nil
  | n :: r => .cons (.int n) (DnAll.ints r)
theorem Dn.int_inv {H : Hp} {v : V} {i : Int} (h : Dn H v (.int i)) : v = .int i := by cases h; rfl
theorem Dn.bl_inv {H : Hp} {v : V} {b : Bool} (h : Dn H v (.bool b)) : v = .bl b := by cases h; rfl
theorem Dn.non_inv {H : Hp} {v : V} (h : Dn H v .none) : v = .non := by cases h; rfl
theorem Dn.str_inv {H : Hp} {v : V} {x : Str} (h : Dn H v (.str x)) : v = .str x := by cases h; rfl
theorem Dn.tup_inv {H : Hp} {v : V} {ds : List PyData} (h : Dn H v (.tuple ds)) : ∃ a xs, v = .ref a ∧ H a = some (.tup xs) ∧ DnAll H xs ds := by
  cases h with
  | tup h r => exact ⟨_, _, rfl, h, r⟩
theorem Dn.lst_inv {H : Hp} {v : V} {ds : List PyData} (h : Dn H v (.list ds)) : ∃ a xs, v = .ref a ∧ H a = some (.lst xs) ∧ DnAll H xs ds := by
  cases h with
  | lst h r => exact ⟨_, _, rfl, h, r⟩
theorem DnAll.ints_inv {H : Hp} : ∀ {vs : List V} {ns : List Int}, DnAll H vs (ns.map PyData.int) → vs = ns.map V.int
  | _, [], .nil => rfl
  | _, n :: r, .cons h q => by rw [h.int_inv, DnAll.ints_inv q]; rfl
theorem DnAll.bls_inv {H : Hp} : ∀ {vs : List V} {bs : List Bool}, DnAll H vs (bs.map PyData.bool) → vs = bs.map V.bl
  | _, [], .nil => rfl
  | _, n :: r, .cons h q => by rw [h.bl_inv, DnAll.bls_inv q]; rfl

theorem map_eraseIdxG {α β : Type} (f : α → β) : ∀ (l : List α) (j : Nat), (l.eraseIdx j).map f = (l.map f).eraseIdx j
  | [], _ => rfl
  | _ :: _, 0 => rfl
  | n :: r, j + 1 => by
    show f n :: (r.eraseIdx j).map f = f n :: (r.map f).eraseIdx j
    rw [map_eraseIdxG f r j]
/-! ### hidden addresses -/
def hid (M : List Addr) (H : Hp) : Hp := fun a => if a ∈ M then none else H a
theorem hid_in {M : List Addr} {H : Hp} {a : Addr} (h : a ∈ M) : hid M H a = none := by unfold hid; rw [if_pos h]
theorem hid_out {M : List Addr} {H : Hp} {a : Addr} (h : a ∉ M) : hid M H a = H a := by unfold hid; rw [if_neg h]
theorem hid_same {M : List Addr} {H : Hp} : Same (hid M H) H := fun a o e => by
  unfold hid at e
  split at e
  · cases e
  · exact e
theorem hid_mono {M : List Addr} {H H' : Hp} (s : Same H H') : Same (hid M H) (hid M H') := fun a o e => by
  unfold hid at e ⊢
  split at e
  · cases e
  · rename_i h
    rw [if_neg h]
    exact s _ _ e
theorem hid_sub {M M' : List Addr} {H : Hp} (s : ∀ a ∈ M', a ∈ M) : Same (hid M H) (hid M' H) := fun a o e => by
  unfold hid at e ⊢
  split at e
  · cases e
  · rename_i h
    rw [if_neg fun z => h (s a z)]
    exact e
theorem hid_upd {M : List Addr} {H : Hp} {l : Addr} {o : HO} (h : l ∈ M) : hid M (upd H l o) = hid M H := by
  funext a
  unfold hid
  split
  · rfl
  · rename_i q
    rw [upd_ne]
    intro z
    exact q (by rw [z]; exact h)
theorem hid_cons {M : List Addr} {H : Hp} {l : Addr} {o : HO} (h : H l = none) : hid (l :: M) (upd H l o) = hid M H := by
  funext a
  unfold hid
  by_cases q : a = l
  · subst q
    rw [if_pos List.mem_cons_self, h]
    split <;> rfl
  · by_cases z : a ∈ M
    · rw [if_pos z, if_pos (List.mem_cons_of_mem _ z)]
    · rw [if_neg z, if_neg, upd_ne q]
      intro y
      rcases List.mem_cons.mp y with y | y
      · exact q y
      · exact z y
theorem hid_nil {H : Hp} : hid [] H = H := by
  funext a
  unfold hid
  rw [if_neg (by simp)]
theorem same_upd {H : Hp} {p : Addr} {o : HO} (h : H p = none) : Same H (upd H p o) := fun b x e => by
  rw [upd_ne (ne_of_none e h)]
  exact e
theorem hid_cons_same {M : List Addr} {H H' : Hp} {l : Addr} (s : Same H H') (h : H l = none) : Same (hid M H) (hid (l :: M) H') := fun a o e => by
  have hm : a ∉ M := fun z => by rw [hid_in z] at e; cases e
  rw [hid_out hm] at e
  rw [hid_out]
  · exact s _ _ e
  · intro z
    rcases List.mem_cons.mp z with z | z
    · rw [z, h] at e; cases e
    · exact hm z

/-! ### predicates of a value, of an object -/
structure PP where
  P : Hp → V → Prop
  mono : ∀ {H H' : Hp} {v : V}, Same H H' → P H v → P H' v
structure FF where
  P : Hp → HO → Prop
  mono : ∀ {H H' : Hp} {o : HO}, Same H H' → P H o → P H' o
def D (d : PyData) : PP := ⟨fun H v => Dn H v d, fun s h => h.mono s⟩
def Rf (l : Addr) : PP := ⟨fun _ v => v = .ref l, fun _ h => h⟩
def Any : PP := ⟨fun _ _ => True, fun _ h => h⟩
abbrev DI (i : Int) : PP := D (.int i)
abbrev DB (b : Bool) : PP := D (.bool b)
abbrev DL (ds : List PyData) : PP := D (.list ds)
abbrev DT (ds : List PyData) : PP := D (.tuple ds)
def LF (ds : List PyData) : FF := ⟨fun H o => ∃ xs, o = .lst xs ∧ DnAll H xs ds, fun s ⟨xs, e, r⟩ => ⟨xs, e, r.mono s⟩⟩
def TF (ds : List PyData) : FF := ⟨fun H o => ∃ xs, o = .tup xs ∧ DnAll H xs ds, fun s ⟨xs, e, r⟩ => ⟨xs, e, r.mono s⟩⟩
/-- an object of that content, told as a value -/
def Fz (F : FF) : PP := ⟨fun H v => ∃ l o, v = .ref l ∧ H l = some o ∧ F.P H o, fun s ⟨l, o, e, h, f⟩ => ⟨l, o, e, s _ _ h, F.mono s f⟩⟩
theorem Fz.lst {ds : List PyData} {H : Hp} {v : V} (h : (Fz (LF ds)).P H v) : (DL ds).P H v := by
  obtain ⟨l, o, rfl, h, xs, rfl, r⟩ := h
  exact .lst h r
theorem Fz.tup {ds : List PyData} {H : Hp} {v : V} (h : (Fz (TF ds)).P H v) : (DT ds).P H v := by
  obtain ⟨l, o, rfl, h, xs, rfl, r⟩ := h
  exact .tup h r

/-! ### the shape of a state: entry heap, the caller's hidden ones, own mutable objects, slots, further values -/
structure Ct where
  B : Hp
  M0 : List Addr
  mm : List (Addr × FF)
  ds : List (Option PP)
  gs : List (V × PP)
abbrev Ct.M (C : Ct) : List Addr := C.mm.map (·.1) ++ C.M0
structure En (C : Ct) (σ : St) (H : Hp) : Prop where
  len : σ.length = C.ds.length
  sl : ∀ (i : Nat) (P : PP), C.ds[i]? = some (some P) → ∃ v, σ[i]? = some (some v) ∧ P.P (hid C.M H) v
  gh : ∀ p ∈ C.gs, p.2.P (hid C.M H) p.1
  mu : ∀ p ∈ C.mm, ∃ o, H p.1 = some o ∧ p.2.P (hid C.M H) o
  nd : (C.mm.map (·.1)).Nodup
  own : ∀ l ∈ C.mm.map (·.1), C.B l = none ∧ l ∉ C.M0
  out : ∀ l ∈ C.M0, ∃ o, C.B l = some o
  base : Same C.B H
theorem En.live {C : Ct} {σ : St} {H : Hp} (e : En C σ H) : ∀ l ∈ C.M, ∃ o, H l = some o := fun l hl => by
  rcases List.mem_append.mp hl with h | h
  · obtain ⟨p, hp, rfl⟩ := List.mem_map.mp h
    obtain ⟨o, h, _⟩ := e.mu p hp
    exact ⟨o, h⟩
  · obtain ⟨o, h⟩ := e.out l h
    exact ⟨o, e.base _ _ h⟩
theorem En.mono {C : Ct} {σ : St} {H H' : Hp} (e : En C σ H) (s : Same H H') : En C σ H' :=
  ⟨e.len, fun i P h => let ⟨v, a, b⟩ := e.sl i P h; ⟨v, a, P.mono (hid_mono s) b⟩, fun p hp => p.2.mono (hid_mono s) (e.gh p hp), fun p hp => let ⟨o, a, b⟩ := e.mu p hp; ⟨o, s _ _ a, p.2.mono (hid_mono s) b⟩,
   e.nd, e.own, e.out, e.base.trans s⟩
theorem En.fresh {C : Ct} {σ : St} {H : Hp} (e : En C σ H) {l : Addr} (h : H l = none) : l ∉ C.M := fun z => by
  obtain ⟨o, q⟩ := e.live l z
  rw [h] at q
  cases q
/-- a new own mutable object -/
theorem En.push {C : Ct} {σ : St} {H H' : Hp} {l : Addr} {o : HO} {F : FF} (e : En C σ H) (s : Same H H') (hn : H l = none) (ho : H' l = some o) (hF : F.P (hid (l :: C.M) H') o) : En { C with mm := (l, F) :: C.mm } σ H' := by
  have sm : Same (hid C.M H) (hid (l :: C.M) H') := hid_cons_same s hn
  have nl := e.fresh hn
  refine ⟨e.len, fun i P h => ?_, fun p hp => ?_, fun p hp => ?_, ?_, fun a ha => ?_, e.out, e.base.trans s⟩
  · obtain ⟨v, a, b⟩ := e.sl i P h
    exact ⟨v, a, P.mono sm b⟩
  · exact p.2.mono sm (e.gh p hp)
  · rcases List.mem_cons.mp hp with hp | hp
    · subst hp
      exact ⟨o, ho, hF⟩
    · obtain ⟨u, a, b⟩ := e.mu p hp
      exact ⟨u, s _ _ a, p.2.mono sm b⟩
  · exact List.nodup_cons.mpr ⟨fun z => nl (List.mem_append_left _ z), e.nd⟩
  · rcases List.mem_cons.mp ha with ha | ha
    · subst ha
      refine ⟨?_, fun z => nl (List.mem_append_right _ z)⟩
      exact e.base.free hn
    · exact e.own a ha
theorem En.set {C : Ct} {σ : St} {H : Hp} {i : Nat} {v : V} {P : PP} (e : En C σ H) (h : P.P (hid C.M H) v) : En { C with ds := C.ds.set i (some P) } (σ.set i (some v)) H := by
  refine ⟨by simp [e.len], fun j P' hj => ?_, e.gh, e.mu, e.nd, e.own, e.out, e.base⟩
  by_cases hij : i = j
  · subst hij
    have hlt : i < C.ds.length := by
      have := (List.getElem?_eq_some_iff.mp hj).1
      simpa using this
    have hlt2 : i < σ.length := by rw [e.len]; exact hlt
    rw [List.getElem?_set_self hlt] at hj
    have hP : P = P' := Option.some.inj (Option.some.inj hj)
    subst hP
    exact ⟨v, by rw [List.getElem?_set_self hlt2], h⟩
  · rw [List.getElem?_set_ne hij] at hj
    obtain ⟨u, a, b⟩ := e.sl j P' hj
    exact ⟨u, by rw [List.getElem?_set_ne hij]; exact a, b⟩
theorem En.ghost {C : Ct} {σ : St} {H : Hp} {v : V} {P : PP} (e : En C σ H) (h : P.P (hid C.M H) v) : En { C with gs := (v, P) :: C.gs } σ H :=
  ⟨e.len, e.sl, fun p hp => by
    rcases List.mem_cons.mp hp with hp | hp
    · subst hp; exact h
    · exact e.gh p hp, e.mu, e.nd, e.own, e.out, e.base⟩
/-- an own mutable object changes -/
theorem En.write {C : Ct} {σ : St} {H : Hp} {k : Nat} {l : Addr} {F F' : FF} {o : HO} (e : En C σ H) (hk : C.mm[k]? = some (l, F)) (h : F'.P (hid C.M H) o) : En { C with mm := C.mm.set k (l, F') } σ (upd H l o) := by
  have hl : l ∈ C.mm.map (·.1) := List.mem_map.mpr ⟨(l, F), List.mem_of_getElem? hk, rfl⟩
  have hlM : l ∈ C.M := List.mem_append_left _ hl
  have hmm : (C.mm.set k (l, F')).map (·.1) = C.mm.map (·.1) := by
    rw [List.map_set]
    apply List.ext_getElem?
    intro j
    by_cases hj : k = j
    · subst hj
      have hlt := (List.getElem?_eq_some_iff.mp hk).1
      rw [List.getElem?_set_self (by simpa using hlt), List.getElem?_map, hk]
      rfl
    · rw [List.getElem?_set_ne hj]
  have hM : Ct.M { C with mm := C.mm.set k (l, F') } = C.M := by
    show (C.mm.set k (l, F')).map (·.1) ++ C.M0 = _
    rw [hmm]
  have hh : hid (Ct.M { C with mm := C.mm.set k (l, F') }) (upd H l o) = hid C.M H := by
    rw [hM, hid_upd hlM]
  refine ⟨e.len, fun i P hi => ?_, fun p hp => ?_, fun p hp => ?_, ?_, fun a ha => ?_, e.out, fun a u ha => ?_⟩
  · rw [hh]; exact e.sl i P hi
  · rw [hh]; exact e.gh p hp
  · rw [hh]
    obtain ⟨j, hj⟩ := List.mem_iff_getElem?.mp hp
    by_cases hkj : k = j
    · subst hkj
      have hlt := (List.getElem?_eq_some_iff.mp hk).1
      rw [List.getElem?_set_self hlt] at hj
      have hj' := Option.some.inj hj
      subst hj'
      exact ⟨o, upd_same, h⟩
    · rw [List.getElem?_set_ne hkj] at hj
      obtain ⟨u, a, b⟩ := e.mu p (List.mem_of_getElem? hj)
      refine ⟨u, ?_, b⟩
      have hne : p.1 ≠ l := by
        intro z
        have h1 : (C.mm.map (·.1))[k]? = some l := by rw [List.getElem?_map, hk]; rfl
        have h2 : (C.mm.map (·.1))[j]? = some l := by rw [List.getElem?_map, hj, ← z]; rfl
        obtain ⟨l1, e1⟩ := List.getElem?_eq_some_iff.mp h1
        obtain ⟨l2, e2⟩ := List.getElem?_eq_some_iff.mp h2
        exact hkj ((List.getElem_inj e.nd).mp (e1.trans e2.symm))
      rw [upd_ne hne]
      exact a
  · show ((C.mm.set k (l, F')).map (·.1)).Nodup
    rw [hmm]
    exact e.nd
  · have ha' : a ∈ C.mm.map (·.1) := by
      rw [← hmm]; exact ha
    exact e.own a ha'
  · have hal : a ≠ l := fun z => by
      rw [z, (e.own l hl).1] at ha
      cases ha
    rw [upd_ne hal]
    exact e.base a u ha
/-- an own object is given up: it changes no more -/
theorem En.freeze {C : Ct} {σ : St} {H : Hp} {k : Nat} {l : Addr} {F : FF} (e : En C σ H) (hk : C.mm[k]? = some (l, F)) : En { C with mm := C.mm.eraseIdx k, gs := (.ref l, Fz F) :: C.gs } σ H := by
  have sub : ∀ a ∈ (C.mm.eraseIdx k).map (·.1) ++ C.M0, a ∈ C.M := fun a ha => by
    rcases List.mem_append.mp ha with h | h
    · obtain ⟨p, hp, rfl⟩ := List.mem_map.mp h
      exact List.mem_append_left _ (List.mem_map.mpr ⟨p, List.mem_of_mem_eraseIdx hp, rfl⟩)
    · exact List.mem_append_right _ h
  have sm : Same (hid C.M H) (hid ((C.mm.eraseIdx k).map (·.1) ++ C.M0) H) := hid_sub sub
  have hl : l ∈ C.mm.map (·.1) := List.mem_map.mpr ⟨(l, F), List.mem_of_getElem? hk, rfl⟩
  have hnl : l ∉ (C.mm.eraseIdx k).map (·.1) ++ C.M0 := fun z => by
    rcases List.mem_append.mp z with z | z
    · rw [map_eraseIdxG] at z
      have hlt := (List.getElem?_eq_some_iff.mp hk).1
      have hat : (C.mm.map (·.1))[k]? = some l := by rw [List.getElem?_map, hk]; rfl
      obtain ⟨j, hj⟩ := List.mem_iff_getElem?.mp z
      rw [List.getElem?_eraseIdx] at hj
      obtain ⟨l1, e1⟩ := List.getElem?_eq_some_iff.mp hat
      split at hj
      · rename_i hjk
        obtain ⟨l2, e2⟩ := List.getElem?_eq_some_iff.mp hj
        have := (List.getElem_inj e.nd).mp (e1.trans e2.symm)
        omega
      · rename_i hjk
        obtain ⟨l2, e2⟩ := List.getElem?_eq_some_iff.mp hj
        have := (List.getElem_inj e.nd).mp (e1.trans e2.symm)
        omega
    · exact (e.own l hl).2 z
  refine ⟨e.len, fun i P h => ?_, fun p hp => ?_, fun p hp => ?_, ?_, fun a ha => ?_, e.out, e.base⟩
  · obtain ⟨v, a, b⟩ := e.sl i P h
    exact ⟨v, a, P.mono sm b⟩
  · rcases List.mem_cons.mp hp with hp | hp
    · subst hp
      obtain ⟨o, a, b⟩ := e.mu (l, F) (List.mem_of_getElem? hk)
      exact ⟨l, o, rfl, by rw [hid_out hnl]; exact a, F.mono sm b⟩
    · exact p.2.mono sm (e.gh p hp)
  · obtain ⟨o, a, b⟩ := e.mu p (List.mem_of_mem_eraseIdx hp)
    exact ⟨o, a, p.2.mono sm b⟩
  · show ((C.mm.eraseIdx k).map (·.1)).Nodup
    rw [map_eraseIdxG]
    exact e.nd.sublist (List.eraseIdx_sublist _ _)
  · obtain ⟨p, hp, rfl⟩ := List.mem_map.mp ha
    exact e.own _ (List.mem_map.mpr ⟨p, List.mem_of_mem_eraseIdx hp, rfl⟩)
end K74

set_option Elab.async false
set_option linter.all false
set_option maxRecDepth 100000
set_option maxHeartbeats 1000000
namespace K74
open PySem L2

/-! ### what an expression does: from the shape C to the shape C', with a value of which P holds -/
def Xv (C : Ct) (te : TE) (P : PP) (C' : Ct) : Prop := C'.M = C.M ∧ ∀ σ H, En C σ H → ∀ Q : VK, (∀ v H', Same (hid C.M H) (hid C.M H') → En C' σ H' → P.P (hid C.M H') v → Q v H') → te σ H Q
/-- .. with a new object of that content -/
def Xf (C : Ct) (te : TE) (F : FF) (C' : Ct) : Prop := C'.M = C.M ∧ ∀ σ H, En C σ H → ∀ Q : VK, (∀ l H', Same (hid C.M H) (hid (l :: C.M) H') → En { C' with mm := (l, F) :: C'.mm } σ H' → Q (.ref l) H') → te σ H Q
inductive Fa (H : Hp) : List PP → List V → Prop
  | nil : Fa H [] []
  | cons {P : PP} {v : V} {Ps : List PP} {vs : List V} : P.P H v → Fa H Ps vs → Fa H (P :: Ps) (v :: vs)
theorem Fa.mono {H H' : Hp} (s : Same H H') : ∀ {Ps : List PP} {vs : List V}, Fa H Ps vs → Fa H' Ps vs
  | _, _, .nil => .nil
  | P :: _, _, .cons h r => .cons (P.mono s h) (Fa.mono s r)
theorem Fa.dn {H : Hp} : ∀ {ds : List PyData} {vs : List V}, Fa H (ds.map D) vs → DnAll H vs ds
  | [], _, .nil => .nil
  | _ :: _, _, .cons h r => .cons h (Fa.dn r)
def XA (C : Ct) (ta : TA) (Ps : List PP) (C' : Ct) : Prop := C'.M = C.M ∧ ∀ σ H, En C σ H → ∀ Q : List V → Hp → Prop, (∀ vs H', Same (hid C.M H) (hid C.M H') → En C' σ H' → Fa (hid C.M H') Ps vs → Q vs H') → ta σ H Q
def XT (C : Ct) (tt : TT) (b : Bool) (C' : Ct) : Prop := C'.M = C.M ∧ ∀ σ H, En C σ H → ∀ Q : Bool → Hp → Prop, (∀ H', Same (hid C.M H) (hid C.M H') → En C' σ H' → Q b H') → tt σ H Q

section
variable {C C1 C2 C' : Ct} {ta tb te : TE} {P P' R T : PP} {F : FF} {K : PySem.W.Frag}
theorem En.unghost {v : V} {P : PP} {σ : St} {H : Hp} {B : Hp} {M0 : List Addr} {mm : List (Addr × FF)} {ds : List (Option PP)} {gs : List (V × PP)} (e : En ⟨B, M0, mm, ds, (v, P) :: gs⟩ σ H) : En ⟨B, M0, mm, ds, gs⟩ σ H :=
  ⟨e.len, e.sl, fun p hp => e.gh p (List.mem_cons_of_mem _ hp), e.mu, e.nd, e.own, e.out, e.base⟩
theorem Xv.of (h : Xf C te F C') : Xv C te (Fz F) C' := by
  refine ⟨h.1, fun σ H e Q q => h.2 σ H e Q fun l H' s e' => ?_⟩
  have e2 := e'.freeze (k := 0) (l := l) (F := F) rfl
  refine q _ _ (s.trans (hid_sub fun a ha => List.mem_cons_of_mem _ ha)) e2.unghost ?_
  have g := e2.gh _ List.mem_cons_self
  rw [← h.1]
  exact g
theorem Xv.conv (h : Xv C te P C') (k : ∀ H v, P.P H v → P'.P H v) : Xv C te P' C' := ⟨h.1, fun σ H e Q q => h.2 σ H e Q fun v H' s e' p => q v H' s e' (k _ _ p)⟩
theorem Xf.conv {F' : FF} (h : Xf C te F C') (k : ∀ H v, F.P H v → F'.P H v) : Xf C te F' C' := ⟨h.1, fun σ H e Q q => h.2 σ H e Q fun l H' s e' => q l H' s
  ⟨e'.len, e'.sl, e'.gh, fun p hp => by
    rcases List.mem_cons.mp hp with z | z
    · subst z
      obtain ⟨o, a, b⟩ := e'.mu (l, F) List.mem_cons_self
      exact ⟨o, a, k _ _ b⟩
    · exact e'.mu p (List.mem_cons_of_mem _ z), e'.nd, e'.own, e'.out, e'.base⟩⟩
theorem Xv.lst {ds : List PyData} (h : Xf C te (LF ds) C') : Xv C te (DL ds) C' := (Xv.of h).conv fun _ _ p => Fz.lst p
theorem Xv.tup {ds : List PyData} (h : Xf C te (TF ds) C') : Xv C te (DT ds) C' := (Xv.of h).conv fun _ _ p => Fz.tup p
theorem Xv.eq (h : Xv C te P C') (k : P = P') : Xv C te P' C' := k ▸ h
theorem Xv.dat {d d' : PyData} (h : Xv C te (D d) C') (k : d = d') : Xv C te (D d') C' := k ▸ h
theorem XT.eq {tt : TT} {a b : Bool} (h : XT C tt a C') (k : a = b) : XT C tt b C' := k ▸ h
/-- a tracked new object -/
theorem Xf.mk {σ : St} {H : Hp} {o : HO} {Q : VK} (e : En C σ H) (hF : F.P (hid C.M H) o) (q : ∀ l H', Same (hid C.M H) (hid (l :: C.M) H') → En { C with mm := (l, F) :: C.mm } σ H' → Q (.ref l) H') {p : Addr} (hp : H p = none) : Q (.ref p) (upd H p o) := by
  have hh : hid (p :: C.M) (upd H p o) = hid C.M H := hid_cons hp
  refine q p _ (by rw [hh]; exact Same.refl _) (e.push (same_upd hp) hp upd_same ?_)
  rw [hh]
  exact hF

theorem xv_var {i : Nat} (h : C.ds[i]? = some (some P)) : Xv C (tVar i) P C := ⟨rfl, fun σ H e Q q => let ⟨v, a, b⟩ := e.sl i P h; ⟨v, a, q v H (Same.refl _) e b⟩⟩
theorem xv_c {v : V} (h : ∀ H, P.P H v) : Xv C (tC v) P C := ⟨rfl, fun σ H e Q q => q v H (Same.refl _) e (h _)⟩
theorem xv_int {i : Int} : Xv C (tC (.int i)) (DI i) C := xv_c fun _ => .int i
theorem xv_bl {b : Bool} : Xv C (tC (.bl b)) (DB b) C := xv_c fun _ => .bl b
theorem xv_str {x : Str} : Xv C (tC (.str x)) (D (.str x)) C := xv_c fun _ => .str x
theorem xv_non : Xv C (tC .non) (D .none) C := xv_c fun _ => .non

/-! ### two-place operations -/
def RO (C : Ct) (r : R2) (P R T : PP) : Prop := ∀ σ H x y, En C σ H → P.P (hid C.M H) x → R.P (hid C.M H) y → ∀ Q : VK, (∀ v H', Same H H' → T.P (hid C.M H') v → Q v H') → r x y H Q
def RF (C : Ct) (r : R2) (P R : PP) (F : FF) : Prop := ∀ σ H x y, En C σ H → P.P (hid C.M H) x → R.P (hid C.M H) y → ∀ Q : VK, (∀ o p, H p = none → F.P (hid C.M H) o → Q (.ref p) (upd H p o)) → r x y H Q
theorem xv_op {r : R2} (ha : Xv C ta P C1) (hb : Xv C1 tb R C2) (hr : RO C2 r P R T) : Xv C (tOp r ta tb) T C2 := by
  have m1 := ha.1
  have m2 := hb.1
  refine ⟨m2.trans m1, fun σ H e Q q => ha.2 σ H e _ fun x H1 s1 e1 p1 => hb.2 σ H1 e1 _ fun y H2 s2 e2 p2 => ?_⟩
  rw [m1] at s2 p2
  refine hr σ H2 x y e2 ?_ ?_ Q fun v H3 s3 t => ?_
  · rw [m2, m1]; exact P.mono s2 p1
  · rw [m2, m1]; exact p2
  · rw [m2, m1] at t
    exact q v H3 ((s1.trans s2).trans (hid_mono s3)) (e2.mono s3) t
theorem xf_op {r : R2} (ha : Xv C ta P C1) (hb : Xv C1 tb R C2) (hr : RF C2 r P R F) : Xf C (tOp r ta tb) F C2 := by
  have m1 := ha.1
  have m2 := hb.1
  refine ⟨m2.trans m1, fun σ H e Q q => ha.2 σ H e _ fun x H1 s1 e1 p1 => hb.2 σ H1 e1 _ fun y H2 s2 e2 p2 => ?_⟩
  rw [m1] at s2 p2
  refine hr σ H2 x y e2 ?_ ?_ Q fun o p hp hF => ?_
  · rw [m2, m1]; exact P.mono s2 p1
  · rw [m2, m1]; exact p2
  · refine Xf.mk (C := C2) (F := F) e2 hF (fun l H' s e' => q l H' ?_ e') hp
    rw [m2, m1] at s
    exact (s1.trans s2).trans s
theorem ro_i0 {f : Int → Int → Int} {i j : Int} : RO C (rI0 fun i j => .int (f i j)) (DI i) (DI j) (DI (f i j)) := fun σ H x y e hx hy Q q => ⟨i, j, hx.int_inv, hy.int_inv, q _ _ (Same.refl _) (.int _)⟩
theorem ro_b0 {f : Int → Int → Bool} {i j : Int} : RO C (rI0 fun i j => .bl (f i j)) (DI i) (DI j) (DB (f i j)) := fun σ H x y e hx hy Q q => ⟨i, j, hx.int_inv, hy.int_inv, q _ _ (Same.refl _) (.bl _)⟩
theorem ro_i {c : Int → Int → Prop} {f : Int → Int → Int} {i j : Int} (h : c i j) : RO C (rI c fun i j => .int (f i j)) (DI i) (DI j) (DI (f i j)) := fun σ H x y e hx hy Q q => ⟨i, j, hx.int_inv, hy.int_inv, h, q _ _ (Same.refl _) (.int _)⟩
/-! views: what a value, mutable or not, holds now -/
def Vd (C : Ct) (P : PP) (d : PyData) : Prop := ∀ σ H v, En C σ H → P.P (hid C.M H) v → Dn H v d
def Vl (C : Ct) (P : PP) (ds : List PyData) : Prop := ∀ σ H v, En C σ H → P.P (hid C.M H) v → ∃ a xs, v = .ref a ∧ H a = some (.lst xs) ∧ DnAll (hid C.M H) xs ds
def Vt (C : Ct) (P : PP) (ds : List PyData) : Prop := ∀ σ H v, En C σ H → P.P (hid C.M H) v → ∃ a xs, v = .ref a ∧ H a = some (.tup xs) ∧ DnAll (hid C.M H) xs ds
theorem vd_d {d : PyData} : Vd C (D d) d := fun σ H v e p => p.mono hid_same
theorem vd_l {ds : List PyData} (h : Vl C P ds) : Vd C P (.list ds) := fun σ H v e p => by
  obtain ⟨a, xs, rfl, h1, h2⟩ := h σ H v e p
  exact .lst h1 (h2.mono hid_same)
theorem vl_d {ds : List PyData} : Vl C (DL ds) ds := fun σ H v e p => by
  obtain ⟨a, xs, rfl, h1, h2⟩ := Dn.lst_inv p
  exact ⟨a, xs, rfl, hid_same _ _ h1, h2⟩
theorem vt_d {ds : List PyData} : Vt C (DT ds) ds := fun σ H v e p => by
  obtain ⟨a, xs, rfl, h1, h2⟩ := Dn.tup_inv p
  exact ⟨a, xs, rfl, hid_same _ _ h1, h2⟩
theorem vl_r {l : Addr} {ds : List PyData} {k : Nat} (hk : C.mm[k]? = some (l, LF ds)) : Vl C (Rf l) ds := fun σ H v e p => by
  obtain ⟨o, h1, xs, rfl, h2⟩ := e.mu (l, LF ds) (List.mem_of_getElem? hk)
  exact ⟨l, xs, p, h1, h2⟩
theorem vd_r {l : Addr} {ds : List PyData} {k : Nat} (hk : C.mm[k]? = some (l, LF ds)) : Vd C (Rf l) (.list ds) := vd_l (vl_r hk)

theorem ro_eqD {d e : PyData} (h1 : Vd C P d) (h2 : Vd C R e) (s1 : SeqAt.shaped d = true) (s2 : SeqAt.shaped e = true) : RO C (rEqD K) P R (DB (PyData.eqv d e)) := fun σ H x y en hx hy Q q =>
  ⟨d, e, (h1 σ H x en hx).dp, (h2 σ H y en hy).dp, s1, s2, q _ _ (Same.refl _) (.bl _)⟩
theorem ro_neD {d e : PyData} (h1 : Vd C P d) (h2 : Vd C R e) (s1 : SeqAt.shaped d = true) (s2 : SeqAt.shaped e = true) : RO C (rNeD K) P R (DB (!PyData.eqv d e)) := fun σ H x y en hx hy Q q =>
  ⟨d, e, (h1 σ H x en hx).dp, (h2 σ H y en hy).dp, s1, s2, q _ _ (Same.refl _) (.bl _)⟩
theorem ro_inD {d : PyData} {ds : List PyData} (h1 : Vd C P d) (h2 : Vd C R (.list ds)) (s1 : SeqAt.shaped d = true) (s2 : SeqAt.shaped (.list ds) = true) : RO C (rInD K) P R (DB (ds.any fun z => PyData.eqv z d)) := fun σ H x y en hx hy Q q =>
  ⟨d, ds, (h1 σ H x en hx).dp, (h2 σ H y en hy).dp, s1, s2, q _ _ (Same.refl _) (.bl _)⟩
theorem ro_notInD {d : PyData} {ds : List PyData} (h1 : Vd C P d) (h2 : Vd C R (.list ds)) (s1 : SeqAt.shaped d = true) (s2 : SeqAt.shaped (.list ds) = true) : RO C (rNotInD K) P R (DB (!ds.any fun z => PyData.eqv z d)) := fun σ H x y en hx hy Q q =>
  ⟨d, ds, (h1 σ H x en hx).dp, (h2 σ H y en hy).dp, s1, s2, q _ _ (Same.refl _) (.bl _)⟩
/-- flat data as values -/
def fv : PyData → V
  | .none => .non
  | .bool b => .bl b
  | .int i => .int i
  | .str x => .str x
  | _ => .ty "?"
theorem Dn.flat {H : Hp} {v : V} {d : PyData} (h : Dn H v d) (f : flatV (fv d) = true) : v = fv d := by
  cases h with
  | lst _ _ => cases f
  | tup _ _ => cases f
  | _ => rfl
theorem DnAll.flat {H : Hp} : ∀ {vs : List V} {ds : List PyData}, DnAll H vs ds → (ds.map fv).all flatV = true → vs = ds.map fv
  | _, _, .nil, _ => rfl
  | _, d :: ds, .cons h r, f => by
    rw [List.map_cons, List.all_cons, Bool.and_eq_true] at f
    rw [h.flat f.1, DnAll.flat r f.2]
    rfl
theorem ro_inT {neg : Bool} {d : PyData} {ds : List PyData} (h2 : Vt C R ds) (f1 : flatV (fv d) = true) (f2 : (ds.map fv).all flatV = true) : RO C (rIn K neg) (D d) R (DB (if neg then !inV (fv d) (ds.map fv) else inV (fv d) (ds.map fv))) := fun σ H x y en hx hy Q q => by
  obtain ⟨a, xs, rfl, h3, h4⟩ := h2 σ H y en hy
  have e1 := Dn.flat hx f1
  have e2 := h4.flat f2
  subst e1 e2
  exact ⟨a, _, rfl, .inr (.inl (.inl h3)), f1, f2, q _ _ (Same.refl _) (.bl _)⟩
def isNon : PyData → Bool
  | .none => true
  | _ => false
theorem ro_isN {d : PyData} : RO C (fun x y H Q => y = .non ∧ Q (.bl (decide (x = .non))) H) (D d) (D .none) (DB (isNon d)) := fun σ H x y en hx hy Q q => by
  refine ⟨Dn.non_inv hy, ?_⟩
  have : decide (x = V.non) = isNon d := by
    cases hx <;> rfl
  rw [this]
  exact q _ _ (Same.refl _) (.bl _)
theorem ro_notN {d : PyData} : RO C (fun x y H Q => y = .non ∧ Q (.bl (!decide (x = .non))) H) (D d) (D .none) (DB (!isNon d)) := fun σ H x y en hx hy Q q => by
  refine ⟨Dn.non_inv hy, ?_⟩
  have : (!decide (x = V.non)) = !isNon d := by
    cases hx <;> rfl
  rw [this]
  exact q _ _ (Same.refl _) (.bl _)
theorem ro_notBl {a b : Bool} : RO C rNotB (DB a) (DB b) (DB (!decide (a = b))) := fun σ H x y en hx hy Q q => ⟨a, b, Dn.bl_inv hx, Dn.bl_inv hy, q _ _ (Same.refl _) (.bl _)⟩
theorem DnAll.atI {H : Hp} {vs : List V} {ds : List PyData} {i : Int} {d : PyData} (r : DnAll H vs ds) (h : L2.atI ds i = some d) : ∃ v, L2.atI vs i = some v ∧ Dn H v d := by
  unfold L2.atI at h ⊢
  rw [r.length]
  cases e : ixN ds.length i with
  | none => rw [e] at h; cases h
  | some j =>
    rw [e] at h
    exact r.get h
theorem ro_ixL {ds : List PyData} {i : Int} {d : PyData} (h : Vl C P ds) (hi : L2.atI ds i = some d) : RO C (rIx K) P (DI i) (D d) := fun σ H x y en hx hy Q q => by
  obtain ⟨a, xs, rfl, h1, h2⟩ := h σ H x en hx
  obtain ⟨v, h3, h4⟩ := h2.atI hi
  exact .inl ⟨a, xs, i, v, rfl, hy.int_inv, .inl (.inl h1), h3, q _ _ (Same.refl _) h4⟩
theorem ro_ixT {ds : List PyData} {i : Int} {d : PyData} (h : Vt C P ds) (hi : L2.atI ds i = some d) : RO C (rIx K) P (DI i) (D d) := fun σ H x y en hx hy Q q => by
  obtain ⟨a, xs, rfl, h1, h2⟩ := h σ H x en hx
  obtain ⟨v, h3, h4⟩ := h2.atI hi
  exact .inr (.inl ⟨a, xs, i, v, rfl, hy.int_inv, .inl (.inl h1), h3, q _ _ (Same.refl _) h4⟩)
theorem rf_cat {ds es : List PyData} (h1 : Vl C P ds) (h2 : Vl C R es) (hl : ds.length + es.length ≤ 100000) : RF C rCat P R (LF (ds ++ es)) := fun σ H x y en hx hy Q q => by
  obtain ⟨a, xs, rfl, a1, a2⟩ := h1 σ H x en hx
  obtain ⟨b, zs, rfl, b1, b2⟩ := h2 σ H y en hy
  refine ⟨a, b, xs, zs, rfl, rfl, a1, b1, ?_, fun p hp => q _ p hp ⟨_, rfl, a2.append b2⟩⟩
  rw [a2.length, b2.length]
  exact Nat.le_trans hl (by decide)
theorem rf_catT {ds es : List PyData} (h1 : Vt C P ds) (h2 : Vt C R es) (hn : ds ≠ []) (hm : es ≠ []) (hl : ds.length + es.length ≤ 100000) : RF C (rCatT K) P R (TF (ds ++ es)) := fun σ H x y en hx hy Q q => by
  obtain ⟨a, xs, rfl, a1, a2⟩ := h1 σ H x en hx
  obtain ⟨b, zs, rfl, b1, b2⟩ := h2 σ H y en hy
  have n1 : xs ≠ [] := fun z => by
    subst z
    cases a2
    exact hn rfl
  have n2 : zs ≠ [] := fun z => by
    subst z
    cases b2
    exact hm rfl
  refine ⟨a, b, xs, zs, rfl, rfl, .inl (.inl a1), .inl (.inl b1), n1, ?_, fun z => absurd z n2, fun _ p hp => q _ p hp ⟨_, rfl, a2.append b2⟩⟩
  rw [a2.length, b2.length]
  exact Nat.le_trans hl (by decide)
theorem DnAll.flatRep {H : Hp} {vs : List V} {ds : List PyData} (r : DnAll H vs ds) : ∀ n : Nat, DnAll H (List.replicate n vs).flatten (List.replicate n ds).flatten
  | 0 => .nil
  | n + 1 => by
    rw [List.replicate_succ, List.replicate_succ, List.flatten_cons, List.flatten_cons]
    exact r.append (DnAll.flatRep r n)
theorem rf_rep {ds : List PyData} {k : Int} (h1 : Vl C P ds) (hk : 0 ≤ k ∧ k ≤ 1000) (hl : ds.length ≤ 10) : RF C rRep P (DI k) (LF (List.replicate k.toNat ds).flatten) := fun σ H x y en hx hy Q q => by
  obtain ⟨a, xs, rfl, a1, a2⟩ := h1 σ H x en hx
  refine ⟨a, k, xs, rfl, hy.int_inv, a1, by omega, by omega, ?_, fun p hp => q _ p hp ⟨_, rfl, a2.flatRep _⟩⟩
  rw [a2.length]
  have : ds.length * k.toNat ≤ 10 * 1000 := Nat.mul_le_mul hl (by omega)
  exact Nat.le_trans this (by decide)
/-! ### arguments, displays -/
theorem xa_nil : XA C tNil [] C := ⟨rfl, fun σ H e Q q => q [] H (Same.refl _) e .nil⟩
theorem xa_cons {tr : TA} {Ps : List PP} (h : Xv C te P C1) (hr : XA C1 tr Ps C2) : XA C (tCons te tr) (P :: Ps) C2 := by
  have m1 := h.1
  have m2 := hr.1
  refine ⟨m2.trans m1, fun σ H e Q q => h.2 σ H e _ fun x H1 s1 e1 p1 => hr.2 σ H1 e1 _ fun vs H2 s2 e2 p2 => ?_⟩
  rw [m1] at s2 p2
  exact q _ _ (s1.trans s2) e2 (.cons (P.mono s2 p1) p2)
theorem XA.eq {ta : TA} {Ps Ps' : List PP} (h : XA C ta Ps C') (k : Ps = Ps') : XA C ta Ps' C' := k ▸ h
theorem xf_tup {ta : TA} (ds : List PyData) (h : XA C ta (ds.map D) C1) (hl : ds.length ≤ 100000) : Xf C (tTup ta) (TF ds) C1 := by
  refine ⟨h.1, fun σ H e Q q => h.2 σ H e _ fun vs H1 s1 e1 p1 => ?_⟩
  have r := p1.dn
  refine ⟨by rw [r.length]; exact Nat.le_trans hl (by decide), fun p hp => ?_⟩
  refine Xf.mk (C := C1) (F := TF ds) e1 ⟨_, rfl, by rw [h.1]; exact r⟩ (fun l H' s e' => q l H' ?_ e') hp
  rw [h.1] at s
  exact s1.trans s
theorem xf_lst {ta : TA} (ds : List PyData) (h : XA C ta (ds.map D) C1) (hl : ds.length ≤ 100000) : Xf C (tLst ta) (LF ds) C1 := by
  refine ⟨h.1, fun σ H e Q q => h.2 σ H e _ fun vs H1 s1 e1 p1 => ?_⟩
  have r := p1.dn
  refine ⟨by rw [r.length]; exact Nat.le_trans hl (by decide), fun p hp => ?_⟩
  refine Xf.mk (C := C1) (F := LF ds) e1 ⟨_, rfl, by rw [h.1]; exact r⟩ (fun l H' s e' => q l H' ?_ e') hp
  rw [h.1] at s
  exact s1.trans s
/-! ### tests -/
theorem xt_test {b : Bool} (h : Xv C te (DB b) C1) : XT C (tTest te) b C1 := ⟨h.1, fun σ H e Q q => h.2 σ H e _ fun v H1 s1 e1 p1 => ⟨b, Dn.bl_inv p1, q H1 s1 e1⟩⟩
theorem xt_b {b : Bool} (h : Xv C te (DB b) C1) : XT C (tB te) b C1 := ⟨h.1, fun σ H e Q q => h.2 σ H e _ fun v H1 s1 e1 p1 => ⟨b, Dn.bl_inv p1, q H1 s1 e1⟩⟩
theorem xt_not {t : TT} {b : Bool} (h : XT C t b C1) : XT C (tNot t) (!b) C1 := ⟨h.1, fun σ H e Q q => h.2 σ H e _ fun H1 s1 e1 => q H1 s1 e1⟩
theorem xt_and {t u : TT} {a b : Bool} (h : XT C t a C1) (k : a = true → XT C1 u b C1) : XT C (tAnd t u) (a && b) C1 := by
  refine ⟨h.1, fun σ H e Q q => h.2 σ H e _ fun H1 s1 e1 => ?_⟩
  cases a with
  | false => exact q H1 s1 e1
  | true =>
    have m := h.1
    refine (k rfl).2 σ H1 e1 Q fun H2 s2 e2 => ?_
    rw [m] at s2
    exact q H2 (s1.trans s2) e2
theorem xt_or {t u : TT} {a b : Bool} (h : XT C t a C1) (k : a = false → XT C1 u b C1) : XT C (tOr t u) (a || b) C1 := by
  refine ⟨h.1, fun σ H e Q q => h.2 σ H e _ fun H1 s1 e1 => ?_⟩
  cases a with
  | true => exact q H1 s1 e1
  | false =>
    have m := h.1
    refine (k rfl).2 σ H1 e1 Q fun H2 s2 e2 => ?_
    rw [m] at s2
    exact q H2 (s1.trans s2) e2
theorem xv_and {a b : Bool} (h : Xv C ta (DB a) C1) (k : a = true → Xv C1 tb (DB b) C1) : Xv C (tAndV ta tb) (DB (a && b)) C1 := by
  refine ⟨h.1, fun σ H e Q q => h.2 σ H e _ fun v H1 s1 e1 p1 => ⟨a, Dn.bl_inv p1, ?_⟩⟩
  cases a with
  | false => exact q _ H1 s1 e1 (.bl _)
  | true =>
    have m := h.1
    refine (k rfl).2 σ H1 e1 Q fun v2 H2 s2 e2 p2 => ?_
    rw [m] at s2 p2
    exact q _ H2 (s1.trans s2) e2 p2
theorem xv_or {a b : Bool} (h : Xv C ta (DB a) C1) (k : a = false → Xv C1 tb (DB b) C1) : Xv C (tOrV ta tb) (DB (a || b)) C1 := by
  refine ⟨h.1, fun σ H e Q q => h.2 σ H e _ fun v H1 s1 e1 p1 => ⟨a, Dn.bl_inv p1, ?_⟩⟩
  cases a with
  | true => exact q _ H1 s1 e1 (.bl _)
  | false =>
    have m := h.1
    refine (k rfl).2 σ H1 e1 Q fun v2 H2 s2 e2 p2 => ?_
    rw [m] at s2 p2
    exact q _ H2 (s1.trans s2) e2 p2
theorem xv_not {a : Bool} (h : Xv C ta (DB a) C1) : Xv C (tNotV ta) (DB (!a)) C1 := ⟨h.1, fun σ H e Q q => h.2 σ H e _ fun v H1 s1 e1 p1 => ⟨a, Dn.bl_inv p1, q _ H1 s1 e1 (.bl _)⟩⟩
theorem xv_if {t : TT} {b : Bool} (h : XT C t b C1) (h1 : b = true → Xv C1 ta P C2) (h2 : b = false → Xv C1 tb P C2) : Xv C (tIf t ta tb) P C2 := by
  have m := h.1
  have m2 : C2.M = C1.M := by
    cases b with
    | true => exact (h1 rfl).1
    | false => exact (h2 rfl).1
  refine ⟨m2.trans m, fun σ H e Q q => h.2 σ H e _ fun H1 s1 e1 => ?_⟩
  cases b with
  | true =>
    refine (h1 rfl).2 σ H1 e1 Q fun v H2 s2 e2 p2 => ?_
    rw [m] at s2 p2
    exact q v H2 (s1.trans s2) e2 p2
  | false =>
    refine (h2 rfl).2 σ H1 e1 Q fun v H2 s2 e2 p2 => ?_
    rw [m] at s2 p2
    exact q v H2 (s1.trans s2) e2 p2
theorem xv_chain {r r' : R2} {tc : TE} {S : PP} {C3 : Ct} {a b : Bool} (ha : Xv C ta P C1) (hb : Xv C1 tb R C2) (hr : RO C2 r P R (DB a)) (hc : a = true → Xv C2 tc S C2) (hr' : a = true → RO C2 r' R S (DB b)) : Xv C (tChain r r' ta tb tc) (DB (a && b)) C2 := by
  have m1 := ha.1
  have m2 := hb.1
  refine ⟨m2.trans m1, fun σ H e Q q => ha.2 σ H e _ fun x H1 s1 e1 p1 => hb.2 σ H1 e1 _ fun y H2 s2 e2 p2 => ?_⟩
  have p2' := p2
  rw [m1] at s2 p2
  refine hr σ H2 x y e2 ?_ ?_ _ fun v H3 s3 t => ⟨a, Dn.bl_inv t, ?_⟩
  · rw [m2, m1]; exact P.mono s2 p1
  · rw [m2, m1]; exact p2
  · cases a with
    | false => exact q _ H3 ((s1.trans s2).trans (hid_mono s3)) (e2.mono s3) (.bl _)
    | true =>
      refine (hc rfl).2 σ H3 (e2.mono s3) _ fun w H4 s4 e4 p4 => ?_
      refine hr' rfl σ H4 y w e4 ?_ p4 Q fun v5 H5 s5 t5 => ?_
      · refine R.mono s4 (R.mono (hid_mono s3) ?_)
        rw [m2, m1]; exact p2
      · rw [m2, m1] at s4 t5
        exact q v5 H5 (((s1.trans s2).trans (hid_mono s3)).trans (s4.trans (hid_mono s5))) (e4.mono s5) t5
/-! ### built-ins called -/
def RC (C : Ct) (r : List V → Hp → VK → Prop) (Ps : List PP) (T : PP) : Prop := ∀ σ H vs, En C σ H → Fa (hid C.M H) Ps vs → ∀ Q : VK, (∀ v H', Same H H' → T.P (hid C.M H') v → Q v H') → r vs H Q
def RCF (C : Ct) (r : List V → Hp → VK → Prop) (Ps : List PP) (F : FF) : Prop := ∀ σ H vs, En C σ H → Fa (hid C.M H) Ps vs → ∀ Q : VK, (∀ o p, H p = none → F.P (hid C.M H) o → Q (.ref p) (upd H p o)) → r vs H Q
theorem xv_cb {r : List V → Hp → VK → Prop} {t : TA} {Ps : List PP} (h : XA C t Ps C1) (k : RC C1 r Ps T) : Xv C (tCB r t) T C1 := by
  refine ⟨h.1, fun σ H e Q q => h.2 σ H e _ fun vs H1 s1 e1 p1 => k σ H1 vs e1 (by rw [h.1]; exact p1) Q fun v H2 s2 t => ?_⟩
  rw [h.1] at t
  exact q v H2 (s1.trans (hid_mono s2)) (e1.mono s2) t
theorem xf_cb {r : List V → Hp → VK → Prop} {t : TA} {Ps : List PP} (h : XA C t Ps C1) (k : RCF C1 r Ps F) : Xf C (tCB r t) F C1 := by
  refine ⟨h.1, fun σ H e Q q => h.2 σ H e _ fun vs H1 s1 e1 p1 => k σ H1 vs e1 (by rw [h.1]; exact p1) Q fun o p hp hF => ?_⟩
  refine Xf.mk (C := C1) (F := F) e1 hF (fun l H' s e' => q l H' ?_ e') hp
  rw [h.1] at s
  exact s1.trans s
theorem Fa.one_inv {H : Hp} {P : PP} {vs : List V} (h : Fa H [P] vs) : ∃ v, vs = [v] ∧ P.P H v := by
  cases h with
  | cons p r => cases r; exact ⟨_, rfl, p⟩
theorem Fa.two_inv {H : Hp} {P R : PP} {vs : List V} (h : Fa H [P, R] vs) : ∃ v w, vs = [v, w] ∧ P.P H v ∧ R.P H w := by
  cases h with
  | cons p r =>
    obtain ⟨w, rfl, k⟩ := r.one_inv
    exact ⟨_, _, rfl, p, k⟩
theorem Fa.three_inv {H : Hp} {P R S : PP} {vs : List V} (h : Fa H [P, R, S] vs) : ∃ v w u, vs = [v, w, u] ∧ P.P H v ∧ R.P H w ∧ S.P H u := by
  cases h with
  | cons p r =>
    obtain ⟨w, u, rfl, k, z⟩ := r.two_inv
    exact ⟨_, _, _, rfl, p, k, z⟩
theorem rc_lenL {ds : List PyData} (h : Vl C P ds) : RC C (fun xs H Q => ∃ x n, xs = [x] ∧ LenV K x H n ∧ Q (.int n) H) [P] (DI (ds.length : Nat)) := fun σ H vs e p Q q => by
  obtain ⟨v, rfl, k⟩ := p.one_inv
  obtain ⟨a, xs, rfl, h1, h2⟩ := h σ H v e k
  exact ⟨_, ds.length, rfl, .inl ⟨xs, .inl (.inl h1), h2.length.symm⟩, q _ _ (Same.refl _) (.int _)⟩
theorem rc_lenT {ds : List PyData} (h : Vt C P ds) : RC C (fun xs H Q => ∃ x n, xs = [x] ∧ LenV K x H n ∧ Q (.int n) H) [P] (DI (ds.length : Nat)) := fun σ H vs e p Q q => by
  obtain ⟨v, rfl, k⟩ := p.one_inv
  obtain ⟨a, xs, rfl, h1, h2⟩ := h σ H v e k
  exact ⟨_, ds.length, rfl, .inr ⟨xs, .inl (.inl h1), h2.length.symm⟩, q _ _ (Same.refl _) (.int _)⟩
theorem rc_abs {i : Int} : RC C (fun xs H Q => ∃ i, xs = [.int i] ∧ Q (.int (if i < 0 then -i else i)) H) [DI i] (DI (if i < 0 then -i else i)) := fun σ H vs e p Q q => by
  obtain ⟨v, rfl, k⟩ := p.one_inv
  exact ⟨i, by rw [k.int_inv], q _ _ (Same.refl _) (.int _)⟩
theorem rc_max2 {i j : Int} : RC C (fun xs H Q => ∃ i j, xs = [.int i, .int j] ∧ Q (.int (if j > i then j else i)) H) [DI i, DI j] (DI (max i j)) := fun σ H vs e p Q q => by
  obtain ⟨v, w, rfl, k, z⟩ := p.two_inv
  refine ⟨i, j, by rw [k.int_inv, z.int_inv], ?_⟩
  have : (if j > i then j else i) = max i j := by omega
  rw [this]
  exact q _ _ (Same.refl _) (.int _)
theorem rc_min2 {i j : Int} : RC C (fun xs H Q => ∃ i j, xs = [.int i, .int j] ∧ Q (.int (if j < i then j else i)) H) [DI i, DI j] (DI (min i j)) := fun σ H vs e p Q q => by
  obtain ⟨v, w, rfl, k, z⟩ := p.two_inv
  refine ⟨i, j, by rw [k.int_inv, z.int_inv], ?_⟩
  have : (if j < i then j else i) = min i j := by omega
  rw [this]
  exact q _ _ (Same.refl _) (.int _)
theorem rc_int1 {i : Int} : RC C (fun xs H Q => (∃ i, xs = [.int i] ∧ Q (.int i) H) ∨ ∃ k, xs = [.bl k] ∧ Q (.int (if k then 1 else 0)) H) [DI i] (DI i) := fun σ H vs e p Q q => by
  obtain ⟨v, rfl, k⟩ := p.one_inv
  exact .inl ⟨i, by rw [k.int_inv], q _ _ (Same.refl _) (.int _)⟩
theorem rc_sum {ns : List Int} (h : Vl C P (ns.map PyData.int)) : RC C (rSum K) [P] (DI ns.sum) := fun σ H vs e p Q q => by
  obtain ⟨v, rfl, k⟩ := p.one_inv
  obtain ⟨a, xs, rfl, h1, h2⟩ := h σ H v e k
  have := h2.ints_inv
  subst this
  exact ⟨a, ns, rfl, .inl (.inl h1), q _ _ (Same.refl _) (.int _)⟩
theorem rc_all {bs : List Bool} (h : Vl C P (bs.map PyData.bool)) : RC C (rAll K) [P] (DB (bs.all id)) := fun σ H vs e p Q q => by
  obtain ⟨v, rfl, k⟩ := p.one_inv
  obtain ⟨a, xs, rfl, h1, h2⟩ := h σ H v e k
  have := h2.bls_inv
  subst this
  exact ⟨a, bs, rfl, .inl (.inl h1), q _ _ (Same.refl _) (.bl _)⟩
theorem rc_any {bs : List Bool} (h : Vl C P (bs.map PyData.bool)) : RC C (rAny K) [P] (DB (bs.any id)) := fun σ H vs e p Q q => by
  obtain ⟨v, rfl, k⟩ := p.one_inv
  obtain ⟨a, xs, rfl, h1, h2⟩ := h σ H v e k
  have := h2.bls_inv
  subst this
  exact ⟨a, bs, rfl, .inl (.inl h1), q _ _ (Same.refl _) (.bl _)⟩
theorem rc_minL {ns : List Int} {m : Int} (h : Vl C P (ns.map PyData.int)) (hm : ∀ k, k ∈ ns → (∀ j ∈ ns, k ≤ j) → k = m) (h0 : 0 < ns.length) : RC C (rMin K) [P] (DI m) := fun σ H vs e p Q q => by
  obtain ⟨v, rfl, k⟩ := p.one_inv
  obtain ⟨a, xs, rfl, h1, h2⟩ := h σ H v e k
  have := h2.ints_inv
  subst this
  refine ⟨a, ns, rfl, .inl (.inl h1), h0, fun k hk hl => ?_⟩
  rw [hm k hk hl]
  exact q _ _ (Same.refl _) (.int _)
theorem rcf_list {ds : List PyData} (h : Vl C P ds) : RCF C (fun xs H Q => ∃ p ys, xs = [.ref p] ∧ (SqL K H p ys ∨ SqT K H p ys) ∧ ∀ l, H l = none → Q (.ref l) (upd H l (.lst ys))) [P] (LF ds) := fun σ H vs e p Q q => by
  obtain ⟨v, rfl, k⟩ := p.one_inv
  obtain ⟨a, xs, rfl, h1, h2⟩ := h σ H v e k
  exact ⟨a, xs, rfl, .inl (.inl (.inl h1)), fun l hl => q _ l hl ⟨_, rfl, h2⟩⟩
theorem rcf_sortedI {ns ms : List Int} (h : Vl C P (ns.map PyData.int)) (hm : ∀ k : List Int, k.Perm ns → k.Pairwise (· ≤ ·) → k = ms) : RCF C (rSortedI K) [P] (LF (ms.map PyData.int)) := fun σ H vs e p Q q => by
  obtain ⟨v, rfl, k⟩ := p.one_inv
  obtain ⟨a, xs, rfl, h1, h2⟩ := h σ H v e k
  have := h2.ints_inv
  subst this
  refine ⟨a, ns, rfl, .inl (.inl h1), fun ns' p hp hs hn => ?_⟩
  have := hm ns' hp hs
  subst this
  exact q _ p hn ⟨_, rfl, DnAll.ints _⟩
end
end K74

set_option Elab.async false
set_option linter.all false
set_option maxRecDepth 100000
set_option maxHeartbeats 1000000
namespace K74
open PySem L2
open PyProof.Rows (envOfC)

/-! ### statements -/
def Xs (C : Ct) (t : TS) (D : Ends) : Prop := ∀ σ H, En C σ H → t D σ H
def Nx (C : Ct) (D : Ends) : Prop := ∀ σ H, En C σ H → D.nx σ H
/-- targets: what is stored; only the slots js -/
def XG (C : Ct) (g : TG) (P : PP) (C' : Ct) (js : List Nat) : Prop := C'.M = C.M ∧ ∀ σ H v, En C σ H → P.P (hid C.M H) v → ∀ Q : St → Hp → Prop,
  (∀ σ' H', Same (hid C.M H) (hid C.M H') → En C' σ' H' → σ'.length = σ.length → (∀ i, i ∉ js → σ'[i]? = σ[i]?) → Q σ' H') → g v σ H Q
def XGs (C : Ct) (g : TGs) (Ps : List PP) (C' : Ct) (js : List Nat) : Prop := C'.M = C.M ∧ ∀ σ H vs, En C σ H → Fa (hid C.M H) Ps vs → ∀ Q : St → Hp → Prop,
  (∀ σ' H', Same (hid C.M H) (hid C.M H') → En C' σ' H' → σ'.length = σ.length → (∀ i, i ∉ js → σ'[i]? = σ[i]?) → Q σ' H') → g vs σ H Q
abbrev Ct.put (C : Ct) (i : Nat) (P : PP) : Ct := { C with ds := C.ds.set i (some P) }
abbrev Ct.new (C : Ct) (l : Addr) (F : FF) : Ct := { C with mm := (l, F) :: C.mm }
abbrev Ct.mut (C : Ct) (k : Nat) (l : Addr) (F : FF) : Ct := { C with mm := C.mm.set k (l, F) }
abbrev Ct.gho (C : Ct) (v : V) (P : PP) : Ct := { C with gs := (v, P) :: C.gs }

section
variable {C C1 C2 C3 C' : Ct} {ta tb te : TE} {P P' R T : PP} {F : FF} {K : PySem.W.Frag} {D' : Ends} {tu tw tz : TS} {g : TG}
theorem Ct.mut_M {k : Nat} {l : Addr} {F : FF} (hk : C.mm[k]? = some (l, F)) {F' : FF} : (C.mut k l F').M = C.M := by
  show (C.mm.set k (l, F')).map (·.1) ++ C.M0 = _
  congr 1
  rw [List.map_set]
  apply List.ext_getElem?
  intro j
  by_cases hj : k = j
  · subst hj
    have hlt := (List.getElem?_eq_some_iff.mp hk).1
    rw [List.getElem?_set_self (by simpa using hlt), List.getElem?_map, hk]
    rfl
  · rw [List.getElem?_set_ne hj]
theorem xg_name {i : Nat} : XG C (gName i) P (C.put i P) [i] := ⟨rfl, fun σ H v e p Q q => q _ H (Same.refl _) (e.set p) (by simp) fun j hj => List.getElem?_set_ne fun z => hj (by simp [z])⟩
theorem xgs_nil : XGs C gNil [] C [] := ⟨rfl, fun σ H vs e p Q q => by
  cases p
  exact ⟨rfl, q σ H (Same.refl _) e rfl fun _ _ => rfl⟩⟩
theorem xgs_cons {gs : TGs} {Ps : List PP} {js ks : List Nat} (h : XG C g P C1 js) (hr : XGs C1 gs Ps C2 ks) : XGs C (gCons g gs) (P :: Ps) C2 (js ++ ks) := by
  have m1 := h.1
  have m2 := hr.1
  refine ⟨m2.trans m1, fun σ H vs e p Q q => ?_⟩
  cases p with
  | cons p r =>
    refine ⟨_, _, rfl, h.2 σ H _ e p _ fun σ1 H1 s1 e1 l1 k1 => hr.2 σ1 H1 _ e1 (by rw [m1]; exact r.mono s1) Q fun σ2 H2 s2 e2 l2 k2 => ?_⟩
    rw [m1] at s2
    refine q σ2 H2 (s1.trans s2) e2 (l2.trans l1) fun i hi => ?_
    rw [List.mem_append, not_or] at hi
    rw [k2 i hi.2, k1 i hi.1]
theorem Fa.of_dn {H : Hp} : ∀ {ds : List PyData} {vs : List V}, DnAll H vs ds → Fa H (ds.map D) vs
  | [], _, .nil => .nil
  | _ :: _, _, .cons h r => .cons h (Fa.of_dn r)
theorem xg_tup {gs : TGs} {ds : List PyData} {n : Nat} {js : List Nat} (h : XGs C gs (ds.map D) C1 js) (hn : ds.length = n) : XG C (gTup K n gs) (DT ds) C1 js := by
  refine ⟨h.1, fun σ H v e p Q q => ?_⟩
  obtain ⟨a, xs, rfl, h1, h2⟩ := Dn.tup_inv p
  exact ⟨a, xs, rfl, .inl (.inl (hid_same _ _ h1)), h2.length.trans hn, h.2 σ H xs e (Fa.of_dn h2) Q q⟩
theorem xg_sub {to ti : TE} {k : Nat} {l : Addr} {ds : List PyData} {i : Int} {j : Nat} {d : PyData} (ho : Xv C to (Rf l) C) (hi : Xv C ti (DI i) C) (hk : C.mm[k]? = some (l, LF ds)) (hj : ixN ds.length i = some j) : XG C (gSub to ti rSetL) (D d) (C.mut k l (LF (ds.set j d))) [] := by
  refine ⟨Ct.mut_M hk, fun σ H v e p Q q => ho.2 σ H e _ fun x H1 s1 e1 p1 => hi.2 σ H1 e1 _ fun y H2 s2 e2 p2 => ?_⟩
  obtain ⟨o, h1, xs, rfl, h2⟩ := e2.mu (l, LF ds) (List.mem_of_getElem? hk)
  refine ⟨l, xs, i, j, p1, Dn.int_inv p2, h1, by rw [h2.length]; exact hj, ?_⟩
  have e3 := e2.write (F' := LF (ds.set j d)) (o := .lst (xs.set j v)) hk ⟨_, rfl, DnAll.set ((D d).mono (s1.trans s2) p) j h2⟩
  refine q σ _ ?_ e3 rfl fun _ _ => rfl
  rw [hid_upd (M := C.M) (List.mem_append_left _ (List.mem_map.mpr ⟨_, List.mem_of_getElem? hk, rfl⟩))]
  exact s1.trans s2

theorem xs_seq (h : Xs C tu { D' with nx := tz D' }) : Xs C (tSeq tu tz) D' := h
theorem xs_next (h : Nx C D') : Xs C tNext D' := h
theorem xs_brk (h : ∀ σ H, En C σ H → D'.bk σ H) : Xs C tBreak D' := h
theorem xs_cont (h : ∀ σ H, En C σ H → D'.ct σ H) : Xs C tCont D' := h
theorem xs_g {js : List Nat} (h : Xv C te P C1) (hg : XG C1 g P C2 js) (k : Nx C2 D') : Xs C (tAsg te g) D' := fun σ H e => h.2 σ H e _ fun v H1 s1 e1 p1 => hg.2 σ H1 v e1 (by rw [h.1]; exact p1) _ fun σ2 H2 _ e2 _ _ => k σ2 H2 e2
theorem xs_set {i : Nat} (h : Xv C te P C1) (k : Nx (C1.put i P) D') : Xs C (tAsg te (gName i)) D' := xs_g h xg_name k
theorem xs_setF {i : Nat} (h : Xf C te F C1) (k : ∀ l, Nx ((C1.new l F).put i (Rf l)) D') : Xs C (tAsg te (gName i)) D' := fun σ H e => h.2 σ H e _ fun l H1 s1 e1 => k l _ H1 (e1.set (P := Rf l) rfl)
theorem xs_drop (h : Xv C te P C1) (k : Nx C1 D') : Xs C (tDrop te) D' := fun σ H e => h.2 σ H e _ fun v H1 s1 e1 p1 => k σ H1 e1
theorem xs_if {t : TT} {b : Bool} (h : XT C t b C1) (h1 : b = true → Xs C1 tu D') (h2 : b = false → Xs C1 tw D') : Xs C (tIfS t tu tw) D' := fun σ H e => h.2 σ H e _ fun H1 s1 e1 => by
  cases b with
  | true => exact h1 rfl σ H1 e1
  | false => exact h2 rfl σ H1 e1
theorem xs_no {t : TT} (h : XT C t false C1) (k : Xs C1 tw D') : Xs C (tIfS t tu tw) D' := xs_if h (fun z => by cases z) fun _ => k
theorem xs_yes {t : TT} (h : XT C t true C1) (k : Xs C1 tu D') : Xs C (tIfS t tu tw) D' := xs_if h (fun _ => k) fun z => by cases z
theorem xs_par {i j : Nat} {t : TA} (h : XA C t [P, R] C1) (k : Nx ((C1.put i P).put j R) D') : Xs C (tPar i j t) D' := fun σ H e => h.2 σ H e _ fun vs H1 s1 e1 p1 => by
  obtain ⟨v, w, rfl, p, r⟩ := p1.two_inv
  exact ⟨v, w, rfl, k _ H1 ((e1.set (by rw [h.1]; exact p)).set (by show R.P (hid C1.M H1) w; rw [h.1]; exact r))⟩
theorem xs_parPF {i j : Nat} (h1 : Xv C ta P C1) (h2 : Xf C1 tb F C2) (k : ∀ l, Nx (((C2.new l F).put i P).put j (Rf l)) D') : Xs C (tPar i j (tCons ta (tCons tb tNil))) D' := fun σ H e => h1.2 σ H e _ fun v H1 s1 e1 p1 => h2.2 σ H1 e1 _ fun l H2 s2 e2 => by
  refine ⟨v, .ref l, rfl, k l _ H2 ((e2.set (P := P) ?_).set (P := Rf l) rfl)⟩
  show P.P (hid (l :: C2.M) H2) v
  rw [h2.1]
  refine P.mono s2 ?_
  rw [h1.1]
  exact p1
theorem xs_parFP {i j : Nat} (h1 : Xf C ta F C1) (h2 : ∀ l, Xv (C1.new l F) tb P (C1.new l F)) (k : ∀ l, Nx (((C1.new l F).put i (Rf l)).put j P) D') : Xs C (tPar i j (tCons ta (tCons tb tNil))) D' := fun σ H e => h1.2 σ H e _ fun l H1 s1 e1 => (h2 l).2 σ H1 e1 _ fun v H2 s2 e2 p2 =>
  ⟨.ref l, v, rfl, k l _ H2 ((e2.set (P := Rf l) rfl).set (P := P) p2)⟩
theorem xs_parFF {i j : Nat} {F2 : FF} (h1 : Xf C ta F C1) (h2 : ∀ l, Xf (C1.new l F) tb F2 (C1.new l F)) (k : ∀ l m, Nx ((((C1.new l F).new m F2).put i (Rf l)).put j (Rf m)) D') : Xs C (tPar i j (tCons ta (tCons tb tNil))) D' := fun σ H e => h1.2 σ H e _ fun l H1 s1 e1 => (h2 l).2 σ H1 e1 _ fun m H2 s2 e2 =>
  ⟨.ref l, .ref m, rfl, k l m _ H2 ((e2.set (P := Rf l) rfl).set (P := Rf m) rfl)⟩
theorem xs_par3PFF {i j n : Nat} {tc : TE} {F2 : FF} (h0 : Xv C ta P C1) (h1 : Xf C1 tb F C2) (h2 : ∀ l, Xf (C2.new l F) tc F2 (C2.new l F)) (k : ∀ l m, Nx (((((C2.new l F).new m F2).put i P).put j (Rf l)).put n (Rf m)) D') : Xs C (tPar3 i j n (tCons ta (tCons tb (tCons tc tNil)))) D' :=
  fun σ H e => h0.2 σ H e _ fun v H1 s1 e1 p1 => h1.2 σ H1 e1 _ fun l H2 s2 e2 => (h2 l).2 σ H2 e2 _ fun m H3 s3 e3 => by
  refine ⟨v, .ref l, .ref m, rfl, k l m _ H3 (((e3.set (P := P) ?_).set (P := Rf l) rfl).set (P := Rf m) rfl)⟩
  show P.P (hid (m :: l :: C2.M) H3) v
  refine P.mono s3 ?_
  show P.P (hid (l :: C2.M) H2) v
  rw [h1.1]
  refine P.mono s2 ?_
  rw [h0.1]
  exact p1
/-! ### ends of a def -/
/-- what a return is to give -/
def Rt (C : Ct) (T : PP) (D' : Ends) : Prop := ∀ v H', Same C.B H' → T.P (hid C.M0 H') v → D'.rt v H'
theorem xs_ret (h : Xv C te P C1) (hB : C1.B = C.B) (hM : C1.M0 = C.M0) (hP : ∀ H v, P.P H v → T.P H v) (hr : Rt C T D') : Xs C (tRet te) D' := fun σ H e => h.2 σ H e _ fun v H1 s1 e1 p1 => by
  refine hr v H1 (hB ▸ e1.base) (hP _ _ (P.mono (hid_sub fun a ha => ?_) p1))
  exact List.mem_append_right _ ha
/-- an own mutable object is given out -/
theorem xs_retM {l : Addr} {k : Nat} (h : Xv C te (Rf l) C1) (hk : C1.mm[k]? = some (l, F)) (hB : C1.B = C.B) (hM : C1.M0 = C.M0) (hP : ∀ H v, (Fz F).P H v → T.P H v) (hr : Rt C T D') : Xs C (tRet te) D' := fun σ H e => h.2 σ H e _ fun v H1 s1 e1 p1 => by
  have e2 := e1.freeze hk
  have g := e2.gh _ List.mem_cons_self
  have pv : v = .ref l := p1
  subst pv
  refine hr _ H1 (hB ▸ e1.base) (hP _ _ ((Fz F).mono (hid_sub fun a ha => ?_) g))
  rw [← hM] at ha
  exact List.mem_append_right _ ha
theorem xs_retF (h : Xf C te F C1) (hB : C1.B = C.B) (hM : C1.M0 = C.M0) (hP : ∀ H v, (Fz F).P H v → T.P H v) (hr : Rt C T D') : Xs C (tRet te) D' := xs_ret (Xv.of h) hB hM hP hr
/-- an own object changes no more -/
theorem xs_freeze {l : Addr} {k i : Nat} (hk : C.mm[k]? = some (l, F)) (hi : C.ds[i]? = some (some (Rf l))) (hP : ∀ H v, (Fz F).P H v → P.P H v) (h : Xs { C with mm := C.mm.eraseIdx k, ds := C.ds.set i (some P) } tu D') : Xs C tu D' := fun σ H e => by
  have e2 := e.freeze hk
  have g := e2.gh _ List.mem_cons_self
  obtain ⟨v, h1, h2⟩ := e.sl i _ hi
  have h2' : v = .ref l := h2
  subst h2'
  have e3 := (e2.unghost).set (i := i) (P := P) (hP _ _ g)
  have hs : σ.set i (some (.ref l)) = σ := by
    apply List.ext_getElem?
    intro j
    by_cases hj : i = j
    · subst hj
      rw [List.getElem?_set_self (List.getElem?_eq_some_iff.mp h1).1, h1]
    · rw [List.getElem?_set_ne hj]
  rw [hs] at e3
  exact h σ H e3
/-! ### the shape weakened -/
inductive Wk : List (Option PP) → List (Option PP) → Prop
  | nil : Wk [] []
  | keep {P : Option PP} {ds es : List (Option PP)} : Wk ds es → Wk (P :: ds) (P :: es)
  | drop {P : Option PP} {ds es : List (Option PP)} : Wk ds es → Wk (P :: ds) (none :: es)
  | conv {P R : PP} {ds es : List (Option PP)} : (∀ H v, P.P H v → R.P H v) → Wk ds es → Wk (some P :: ds) (some R :: es)
theorem Wk.length : ∀ {ds es : List (Option PP)}, Wk ds es → ds.length = es.length
  | _, _, .nil => rfl
  | _, _, .keep h => congrArg (· + 1) h.length
  | _, _, .drop h => congrArg (· + 1) h.length
  | _, _, .conv _ h => congrArg (· + 1) h.length
theorem Wk.get : ∀ {ds es : List (Option PP)} {i : Nat} {R : PP}, Wk ds es → es[i]? = some (some R) → ∃ P : PP, ds[i]? = some (some P) ∧ ∀ H v, P.P H v → R.P H v
  | _, _, _, _, .nil, h => by simp at h
  | _, _, 0, R, .keep _, h => ⟨R, by simpa using h, fun _ _ z => z⟩
  | _, _, 0, _, .drop _, h => by simp at h
  | _, _, 0, R, .conv k _, h => by
    have e : _ = R := Option.some.inj (Option.some.inj h)
    subst e
    exact ⟨_, rfl, k⟩
  | _, _, i + 1, _, .keep q, h => Wk.get (i := i) q h
  | _, _, i + 1, _, .drop q, h => Wk.get (i := i) q h
  | _, _, i + 1, _, .conv _ q, h => Wk.get (i := i) q h
theorem En.weak {B : Hp} {M0 : List Addr} {mm : List (Addr × FF)} {ds es : List (Option PP)} {gs gs' : List (V × PP)} {σ : St} {H : Hp} (w : Wk ds es) (hg : ∀ p ∈ gs', p ∈ gs) (e : En ⟨B, M0, mm, ds, gs⟩ σ H) : En ⟨B, M0, mm, es, gs'⟩ σ H := by
  refine ⟨e.len.trans w.length, fun i R h => ?_, fun p hp => e.gh p (hg p hp), e.mu, e.nd, e.own, e.out, e.base⟩
  obtain ⟨P, h1, h2⟩ := w.get h
  obtain ⟨v, h3, h4⟩ := e.sl i P h1
  exact ⟨v, h3, h2 _ _ h4⟩
theorem xs_weak {B : Hp} {M0 : List Addr} {mm : List (Addr × FF)} {ds es : List (Option PP)} {gs : List (V × PP)} (w : Wk ds es) (h : Xs ⟨B, M0, mm, es, gs⟩ tu D') : Xs ⟨B, M0, mm, ds, gs⟩ tu D' := fun σ H e => h σ H (e.weak w fun _ z => z)
theorem wk_refl : ∀ ds : List (Option PP), Wk ds ds
  | [] => .nil
  | _ :: r => .keep (wk_refl r)
/-! ### methods on own lists -/
theorem tyl {l : Addr} {xs : List V} {H : Hp} (h : H l = some (.lst xs)) : tyV K "list" (.ref l) H := .inl ⟨rfl, _, .inl (.inl h)⟩
theorem xv_app {l : Addr} {ds : List PyData} {k : Nat} {d : PyData} (ho : Xv C ta (Rf l) C) (he : Xv C te (D d) C1) (h0 : C.mm[k]? = some (l, LF ds)) (hk : C1.mm[k]? = some (l, LF ds)) (hz : ds.length < 100000) :
    Xv C (tBM K "list" rAppend ta (tCons te tNil)) (D .none) (C1.mut k l (LF (ds ++ [d]))) := by
  refine ⟨(Ct.mut_M hk).trans he.1, fun σ H e Q q => ho.2 σ H e _ fun x H1 s1 e1 p1 => ?_⟩
  have hx : x = .ref l := p1
  subst hx
  obtain ⟨o, h1, xs, rfl, h2⟩ := e1.mu (l, LF ds) (List.mem_of_getElem? h0)
  refine ⟨tyl h1, he.2 σ H1 e1 _ fun y H2 s2 e2 p2 => ?_⟩
  obtain ⟨o, h3, xs, rfl, h4⟩ := e2.mu (l, LF ds) (List.mem_of_getElem? hk)
  refine ⟨l, xs, y, rfl, rfl, h3, by rw [h4.length]; exact Nat.lt_of_lt_of_le hz (by decide), ?_⟩
  have p2' : Dn (hid C1.M H2) y d := by rw [he.1]; exact p2
  have e3 := e2.write (F' := LF (ds ++ [d])) (o := .lst (xs ++ [y])) hk ⟨_, rfl, h4.snoc p2'⟩
  refine q _ _ ?_ e3 .non
  rw [hid_upd (M := C.M)]
  · exact s1.trans s2
  · rw [← he.1]
    exact List.mem_append_left _ (List.mem_map.mpr ⟨_, List.mem_of_getElem? hk, rfl⟩)
theorem xv_ext {l : Addr} {ds es : List PyData} {k : Nat} (ho : Xv C ta (Rf l) C) (he : Xv C te (DL es) C1) (h0 : C.mm[k]? = some (l, LF ds)) (hk : C1.mm[k]? = some (l, LF ds)) (hz : ds.length + es.length ≤ 100000) :
    Xv C (tBM K "list" rExtend ta (tCons te tNil)) (D .none) (C1.mut k l (LF (ds ++ es))) := by
  refine ⟨(Ct.mut_M hk).trans he.1, fun σ H e Q q => ho.2 σ H e _ fun x H1 s1 e1 p1 => ?_⟩
  have hx : x = .ref l := p1
  subst hx
  obtain ⟨o, h1, xs, rfl, h2⟩ := e1.mu (l, LF ds) (List.mem_of_getElem? h0)
  refine ⟨tyl h1, he.2 σ H1 e1 _ fun y H2 s2 e2 p2 => ?_⟩
  obtain ⟨o, h3, xs, rfl, h4⟩ := e2.mu (l, LF ds) (List.mem_of_getElem? hk)
  have p2' : Dn (hid C1.M H2) y (.list es) := by rw [he.1]; exact p2
  obtain ⟨b, zs, rfl, h5, h6⟩ := Dn.lst_inv p2'
  refine ⟨l, b, xs, zs, rfl, rfl, h3, hid_same _ _ h5, by rw [h4.length, h6.length]; exact Nat.le_trans hz (by decide), ?_⟩
  have e3 := e2.write (F' := LF (ds ++ es)) (o := .lst (xs ++ zs)) hk ⟨_, rfl, h4.append h6⟩
  refine q _ _ ?_ e3 .non
  rw [hid_upd (M := C.M)]
  · exact s1.trans s2
  · rw [← he.1]
    exact List.mem_append_left _ (List.mem_map.mpr ⟨_, List.mem_of_getElem? hk, rfl⟩)
theorem xv_pop {l : Addr} {ds : List PyData} {k : Nat} {d : PyData} (ho : Xv C ta (Rf l) C) (hk : C.mm[k]? = some (l, LF ds)) (hd : ds[ds.length - 1]? = some d) :
    Xv C (tBM0 K "list" rPop ta) (D d) (C.mut k l (LF ds.dropLast)) := by
  refine ⟨Ct.mut_M hk, fun σ H e Q q => ho.2 σ H e _ fun x H1 s1 e1 p1 => ?_⟩
  have hx : x = .ref l := p1
  subst hx
  obtain ⟨o, h1, xs, rfl, h2⟩ := e1.mu (l, LF ds) (List.mem_of_getElem? hk)
  obtain ⟨y, h3, h4⟩ := h2.get hd
  refine ⟨tyl h1, l, xs, y, rfl, rfl, h1, by rw [h2.length]; exact h3, ?_⟩
  have e3 := e1.write (F' := LF ds.dropLast) (o := .lst xs.dropLast) hk ⟨_, rfl, h2.dropLast⟩
  have hm : l ∈ C.M := List.mem_append_left _ (List.mem_map.mpr ⟨_, List.mem_of_getElem? hk, rfl⟩)
  refine q _ _ ?_ e3 ?_
  · rw [hid_upd hm]; exact s1
  · rw [hid_upd hm]; exact h4
theorem xv_popAt {l : Addr} {ds : List PyData} {k : Nat} {i : Int} {j : Nat} {d : PyData} (ho : Xv C ta (Rf l) C) (he : Xv C te (DI i) C1) (h0 : C.mm[k]? = some (l, LF ds)) (hk : C1.mm[k]? = some (l, LF ds)) (hi : 0 ≤ i ∧ i < 100000) (hj : i.toNat = j) (hd : ds[j]? = some d) :
    Xv C (tBM K "list" rPopAt ta (tCons te tNil)) (D d) (C1.mut k l (LF (ds.eraseIdx j))) := by
  refine ⟨(Ct.mut_M hk).trans he.1, fun σ H e Q q => ho.2 σ H e _ fun x H1 s1 e1 p1 => ?_⟩
  have hx : x = .ref l := p1
  subst hx
  obtain ⟨o, h1, xs, rfl, h2⟩ := e1.mu (l, LF ds) (List.mem_of_getElem? h0)
  refine ⟨tyl h1, he.2 σ H1 e1 _ fun y H2 s2 e2 p2 => ?_⟩
  obtain ⟨o, h3, xs, rfl, h4⟩ := e2.mu (l, LF ds) (List.mem_of_getElem? hk)
  obtain ⟨u, h5, h6⟩ := h4.get hd
  have hlt := (List.getElem?_eq_some_iff.mp hd).1
  have hlen : xs.length = ds.length := h4.length
  refine ⟨l, xs, i, j, u, rfl, by rw [Dn.int_inv p2], h3, by omega, by omega, ?_, h5, ?_⟩
  · refine (ixN_seq ?_).1
    unfold ixN
    rw [if_pos hi.1, if_pos (by omega), hj]
  have hm : l ∈ C1.M := List.mem_append_left _ (List.mem_map.mpr ⟨_, List.mem_of_getElem? hk, rfl⟩)
  have e3 := e2.write (F' := LF (ds.eraseIdx j)) (o := .lst (xs.eraseIdx j)) hk ⟨_, rfl, h4.eraseIdx j⟩
  refine q _ _ ?_ e3 ?_
  · rw [hid_upd (M := C.M) (by rw [← he.1]; exact hm)]; exact s1.trans s2
  · rw [hid_upd (M := C.M) (by rw [← he.1]; exact hm), ← he.1]; exact h6
theorem xv_index {ds : List PyData} {d : PyData} {j : Nat} (ho : Xv C ta P C1) (he : Xv C1 te (D d) C2) (hv : Vl C1 P ds) (hv2 : Vl C2 P ds) (f1 : flatV (fv d) = true) (f2 : (ds.map fv).all flatV = true)
    (hj : ∃ z, ds[j]? = some z ∧ eqV (fv z) (fv d) = true) (hno : ∀ (m : Nat) (z : PyData), m < j → ds[m]? = some z → eqV (fv z) (fv d) = false) : Xv C (tBM K "list" (rIndex K) ta (tCons te tNil)) (DI (j : Nat)) C2 := by
  have m1 := ho.1
  have m2 := he.1
  refine ⟨m2.trans m1, fun σ H e Q q => ho.2 σ H e _ fun x H1 s1 e1 p1 => ?_⟩
  obtain ⟨a, xs, rfl, h1, h2⟩ := hv σ H1 x e1 (by rw [m1]; exact p1)
  refine ⟨.inl ⟨rfl, _, .inl (.inl h1)⟩, he.2 σ H1 e1 _ fun y H2 s2 e2 p2 => ?_⟩
  have p1' : P.P (hid C2.M H2) (.ref a) := by
    rw [m2]
    refine P.mono s2 ?_
    rw [m1]; exact p1
  obtain ⟨b, zs, eb, h3, h4⟩ := hv2 σ H2 _ e2 p1'
  have hb := V.ref.inj eb
  subst hb
  have ey : y = fv d := Dn.flat p2 f1
  have ez : zs = ds.map fv := h4.flat f2
  subst ey ez
  obtain ⟨z, z1, z2⟩ := hj
  refine ⟨a, _, _, j, fv z, rfl, rfl, .inl (.inl h3), f1, f2, ?_, z2, fun m z' hm hz' => ?_, ?_⟩
  · rw [List.getElem?_map, z1]; rfl
  · rw [List.getElem?_map] at hz'
    cases h : ds[m]? with
    | none => rw [h] at hz'; cases hz'
    | some u =>
      rw [h] at hz'
      have := Option.some.inj hz'
      subst this
      exact hno m u hm h
  · refine q _ _ ?_ e2 (.int _)
    rw [m1] at s2
    exact s1.trans s2
/-! ### calls of defs -/
/-- the promise of a def that leaves all as it was: R tells of its arguments what it gives -/
def spF (R : List PP → PP → Prop) : Sp := fun vs H Q _ => ∃ (M0 : List Addr) (Ps : List PP) (T : PP), R Ps T ∧ (∀ l ∈ M0, ∃ o, H l = some o) ∧ Fa (hid M0 H) Ps vs ∧ ∀ v H', Same H H' → T.P (hid M0 H') v → Q v H'
theorem xv_call {R : List PP → PP → Prop} {Ps : List PP} {t : TA} {E : XK} (h : XA C t Ps C1) (hR : R Ps T) : Xv C (tCall (spF R) [] E t) T C1 := by
  refine ⟨h.1, fun σ H e Q q => h.2 σ H e _ fun vs H1 s1 e1 p1 => ?_⟩
  refine ⟨C1.M, Ps, T, hR, e1.live, by rw [List.append_nil, h.1]; exact p1, fun v H2 s2 t2 => q v H2 (s1.trans (hid_mono s2)) (e1.mono s2) (by rw [← h.1]; exact t2)⟩
theorem Fa.length {H : Hp} : ∀ {Ps : List PP} {vs : List V}, Fa H Ps vs → vs.length = Ps.length
  | _, _, .nil => rfl
  | _, _, .cons _ r => congrArg (· + 1) (Fa.length r)
theorem Fa.get {H : Hp} : ∀ {Ps : List PP} {vs : List V} {i : Nat} {P : PP}, Fa H Ps vs → Ps[i]? = some P → ∃ v, vs[i]? = some v ∧ P.P H v
  | _, _, _, _, .nil, h => by simp at h
  | _, _, 0, _, .cons h _, e => by
    have e' := Option.some.inj e
    subst e'
    exact ⟨_, rfl, h⟩
  | _, _, i + 1, _, .cons _ r, e => Fa.get (i := i) r e
theorem en_start {M0 : List Addr} {Ps : List PP} {H : Hp} {vs : List V} {N : List Str} (hM : ∀ l ∈ M0, ∃ o, H l = some o) (h : Fa (hid M0 H) Ps vs) : En ⟨H, M0, [], Ps.map some ++ List.replicate (N.length - Ps.length) none, []⟩ (L2.start N vs) H := by
  refine ⟨by unfold L2.start; rw [List.length_append, List.length_append, List.length_map, List.length_map, List.length_replicate, List.length_replicate, h.length], fun i P hi => ?_, (fun p hp => nomatch hp), (fun p hp => nomatch hp), List.nodup_nil, (fun l hl => nomatch hl), hM, Same.refl _⟩
  by_cases hlt : i < Ps.length
  · rw [List.getElem?_append_left (by simpa using hlt), List.getElem?_map] at hi
    cases e : Ps[i]? with
    | none => rw [e] at hi; cases hi
    | some P' =>
      rw [e] at hi
      have := Option.some.inj (Option.some.inj hi)
      subst this
      obtain ⟨v, h1, h2⟩ := h.get e
      refine ⟨v, ?_, h2⟩
      unfold L2.start
      rw [List.getElem?_append_left (by rw [List.length_map, h.length]; exact hlt), List.getElem?_map, h1]
      rfl
  · rw [List.getElem?_append_right (by simpa using hlt)] at hi
    exfalso
    rw [List.getElem?_replicate] at hi
    split at hi
    · cases hi
    · cases hi
/-- THE RULE of a def that leaves all as it was -/
theorem ok_of {P : Program} {w : World} {K : PySem.W.Frag} {mg : Str → Option Value} {base : Heap} {x qual : Str} {st : Stmt} {f : Addr} {fd : FuncData} {N ps : List Str} {k : Nat} {R : List PP → PP → Prop} (F : Fun K x qual st f fd) (S : FnScope N ps (defScope st))
    (hlen : ∀ Ps T, R Ps T → Ps.length = ps.length)
    (hbody : ∀ (cdv : Value) (A : Around) (outer : List PySem.Env) (s : Shared) (H : Hp) (E : XK), Room k (A.deeper (envOfC qual (defScope st) s.heap.objs.size f cdv)) → ∃ t, PSs (cxOf CX0 P w K mg base N qual (defScope st) f cdv A outer s H E).nox (defBody st) t ∧
      ∀ (M0 : List Addr) (Ps : List PP) (T : PP) (D' : Ends), R Ps T → Rt ⟨H, M0, [], Ps.map some ++ List.replicate (N.length - ps.length) none, []⟩ T D' → (∀ σ H', D'.nx σ H' = D'.rt .non H') → Xs ⟨H, M0, [], Ps.map some ++ List.replicate (N.length - ps.length) none, []⟩ t D') : FnOk P w K mg base CX0 (k + 1) f fd ps (spF R) := by
  refine F.ok S (fun vs H Q E h => ?_) (fun cdv A outer s H vs Q E hr h => ?_)
  · obtain ⟨M0, Ps, T, hR, _, hF, _⟩ := h
    rw [hF.length, hlen Ps T hR]
  · obtain ⟨M0, Ps, T, hR, hM, hF, hq⟩ := h
    obtain ⟨t, ht, hx⟩ := hbody cdv A outer s H E hr
    refine ⟨t, ht, ?_⟩
    have e := en_start (N := N) hM hF
    have hl : Ps.length = ps.length := hlen Ps T hR
    rw [hl] at e
    exact hx M0 Ps T { nx := fun _ H' => Q .non H', rt := Q } hR (fun v H' s t => hq v H' s t) (fun _ _ => rfl) _ H e
end
end K74

set_option Elab.async false
set_option linter.all false
set_option maxRecDepth 100000
set_option maxHeartbeats 1000000
namespace K74
open PySem L2
open PyProof.Rows (envOfC)

/-! ### what is walked -/
abbrev Ct.ghs (C : Ct) (gl : List (V × PP)) : Ct := { C with gs := gl ++ C.gs }
/-- an iterator of n turns: it goes while the values gl and the own objects ml stand; turn i gives a Ys i -/
structure JOk (J : It) (n : Nat) (gl : List (V × PP)) (ml : List (Addr × FF)) (Ys : Nat → PP) : Prop where
  go : ∀ i (C : Ct) σ H, i < n → En C σ H → (∀ p ∈ gl, p ∈ C.gs) → (∀ q ∈ ml, q ∈ C.mm) → J.go i H
  stop : ∀ (C : Ct) σ H, En C σ H → (∀ p ∈ gl, p ∈ C.gs) → (∀ q ∈ ml, q ∈ C.mm) → J.stop n H
  yld : ∀ i (C : Ct) σ H x H', i < n → En C σ H → (∀ p ∈ gl, p ∈ C.gs) → (∀ q ∈ ml, q ∈ C.mm) → J.yld i H x H' → En C σ H' ∧ Same (hid C.M H) (hid C.M H') ∧ (Ys i).P (hid C.M H') x
def XI (C : Ct) (wi : TI) (n : Nat) (Ys : Nat → PP) (C1 : Ct) (ml : List (Addr × FF)) : Prop := C1.M = C.M ∧ ∀ σ H, En C σ H → ∀ R : It → Hp → Prop,
  (∀ J H1 gl, Same (hid C.M H) (hid C.M H1) → En (C1.ghs gl) σ H1 → JOk J n gl ml Ys → R J H1) → wi σ H R
/-- a target, then a body -/
def Xb (C : Ct) (g : TG) (P : PP) (tb : TS) (D' : Ends) : Prop := ∀ σ H v, En C σ H → P.P (hid C.M H) v → g v σ H fun σ2 H2 => tb D' σ2 H2
section
variable {C C1 C2 C3 C' : Ct} {ta tb' te tl : TE} {P P' R T : PP} {F : FF} {K : PySem.W.Frag} {D' : Ends} {tu tw tz tb : TS} {g : TG} {wi : TI} {n : Nat} {Ys : Nat → PP} {ml : List (Addr × FF)}
theorem xb_mk {js : List Nat} (h : XG C g P C2 js) (k : Xs C2 tb D') : Xb C g P tb D' := fun σ H v e p => h.2 σ H v e p _ fun σ2 H2 _ e2 _ _ => k σ2 H2 e2
theorem xs_for (h : XI C wi n Ys C1 ml) (I : Nat → Ct) (hm : ∀ i, i ≤ n → ∀ q ∈ ml, q ∈ (I i).mm) (h0 : ∀ gl σ H, En (C1.ghs gl) σ H → En ((I 0).ghs gl) σ H)
    (hs : ∀ i gl, i < n → Xb ((I i).ghs gl) g (Ys i) tb { D' with nx := En ((I (i + 1)).ghs gl), ct := En ((I (i + 1)).ghs gl), bk := D'.nx }) (hd : Nx (I n) D') : Xs C (tFor wi g tb) D' := fun σ H e => by
  refine h.2 σ H e _ fun J H1 gl s1 e1 j => ?_
  have sub : ∀ i, ∀ p ∈ gl, p ∈ ((I i).ghs gl).gs := fun i p hp => List.mem_append_left _ hp
  refine ⟨fun i m σ' H' => m = n - i ∧ i ≤ n ∧ En ((I i).ghs gl) σ' H', ⟨n, by simp, Nat.zero_le _, h0 gl σ H1 e1⟩, ?_⟩
  rintro i m σ' H' ⟨rfl, hi, e'⟩
  by_cases hlt : i < n
  · refine .inr ⟨j.go i _ σ' H' hlt e' (sub i) (hm i hi), En ((I (i + 1)).ghs gl), fun σ2 H2 e2 => ⟨n - (i + 1), by omega, rfl, hlt, e2⟩, fun x H2 y => ?_⟩
    obtain ⟨e2, s2, p2⟩ := j.yld i _ σ' H' x H2 hlt e' (sub i) (hm i hi) y
    exact hs i gl hlt σ' H2 x e2 p2
  · have en : i = n := by omega
    subst en
    exact .inl ⟨j.stop _ σ' H' e' (sub i) (hm i hi), hd σ' H' ⟨e'.len, e'.sl, fun p hp => e'.gh p (List.mem_append_right _ hp), e'.mu, e'.nd, e'.own, e'.out, e'.base⟩⟩
theorem ghs_weak {B : Hp} {M0 : List Addr} {mm : List (Addr × FF)} {ds es : List (Option PP)} {gs : List (V × PP)} (w : Wk ds es) : ∀ gl σ H, En (Ct.ghs ⟨B, M0, mm, ds, gs⟩ gl) σ H → En (Ct.ghs ⟨B, M0, mm, es, gs⟩ gl) σ H := fun gl σ H e => e.weak w fun _ z => z
theorem xi_list {items : List PyData} (h : Xv C tl (DL items) C1) : XI C (iList K tl) items.length (fun i => D (items.getD i .none)) C1 [] := by
  refine ⟨h.1, fun σ H e R r => h.2 σ H e _ fun v H1 s1 e1 p1 => ?_⟩
  have p1' : (DL items).P (hid C1.M H1) v := by rw [h.1]; exact p1
  obtain ⟨a, xs, rfl, h1, h2⟩ := Dn.lst_inv p1'
  have at_ : ∀ {C2 : Ct} {σ2 : St} {H2 : Hp}, En C2 σ2 H2 → (∀ p ∈ [(V.ref a, DL items)], p ∈ C2.gs) → ∃ zs, H2 a = some (.lst zs) ∧ DnAll (hid C2.M H2) zs items := fun e2 k => by
    have g := e2.gh _ (k _ List.mem_cons_self)
    obtain ⟨b, zs, eb, q1, q2⟩ := Dn.lst_inv g
    cases eb
    exact ⟨zs, hid_same _ _ q1, q2⟩
  refine ⟨a, rfl, ⟨xs, .inl (.inl (hid_same _ _ h1))⟩, r (Itl K a) H1 [(.ref a, DL items)] s1 (e1.ghost p1') ⟨fun i C2 σ2 H2 hi e2 k _ => ?_, fun C2 σ2 H2 e2 k _ => ?_, fun i C2 σ2 H2 x H3 hi e2 k _ y => ?_⟩⟩
  · obtain ⟨zs, q1, q2⟩ := at_ e2 k
    exact ⟨zs, zs[i]'(by rw [q2.length]; exact hi), .inl (.inl q1), by simp [q2.length, hi]⟩
  · obtain ⟨zs, q1, q2⟩ := at_ e2 k
    exact ⟨zs, .inl (.inl q1), by rw [q2.length]; exact Nat.le_refl _⟩
  · obtain ⟨zs, q1, q2⟩ := at_ e2 k
    obtain ⟨y1, y2⟩ := y
    subst y1
    refine ⟨e2, Same.refl _, ?_⟩
    have y3 := y2 zs (.inl (.inl q1))
    obtain ⟨d, d1, d2⟩ := q2.at y3
    show Dn _ x (items.getD i .none)
    rw [List.getD_eq_getElem?_getD, d1]
    exact d2
theorem xi_tup {items : List PyData} (h : Xv C tl (DT items) C1) : XI C (iTup K tl) items.length (fun i => D (items.getD i .none)) C1 [] := by
  refine ⟨h.1, fun σ H e R r => h.2 σ H e _ fun v H1 s1 e1 p1 => ?_⟩
  have p1' : (DT items).P (hid C1.M H1) v := by rw [h.1]; exact p1
  obtain ⟨a, xs, rfl, h1, h2⟩ := Dn.tup_inv p1'
  have at_ : ∀ {C2 : Ct} {σ2 : St} {H2 : Hp}, En C2 σ2 H2 → (∀ p ∈ [(V.ref a, DT items)], p ∈ C2.gs) → ∃ zs, H2 a = some (.tup zs) ∧ DnAll (hid C2.M H2) zs items := fun e2 k => by
    have g := e2.gh _ (k _ List.mem_cons_self)
    obtain ⟨b, zs, eb, q1, q2⟩ := Dn.tup_inv g
    cases eb
    exact ⟨zs, hid_same _ _ q1, q2⟩
  refine ⟨a, rfl, ⟨xs, .inl (.inl (hid_same _ _ h1))⟩, r (Itt K a) H1 [(.ref a, DT items)] s1 (e1.ghost p1') ⟨fun i C2 σ2 H2 hi e2 k _ => ?_, fun C2 σ2 H2 e2 k _ => ?_, fun i C2 σ2 H2 x H3 hi e2 k _ y => ?_⟩⟩
  · obtain ⟨zs, q1, q2⟩ := at_ e2 k
    exact ⟨zs, zs[i]'(by rw [q2.length]; exact hi), .inl (.inl q1), by simp [q2.length, hi]⟩
  · obtain ⟨zs, q1, q2⟩ := at_ e2 k
    exact ⟨zs, .inl (.inl q1), by rw [q2.length]; exact Nat.le_refl _⟩
  · obtain ⟨zs, q1, q2⟩ := at_ e2 k
    obtain ⟨y1, y2⟩ := y
    subst y1
    refine ⟨e2, Same.refl _, ?_⟩
    have y3 := y2 zs (.inl (.inl q1))
    obtain ⟨d, d1, d2⟩ := q2.at y3
    show Dn _ x (items.getD i .none)
    rw [List.getD_eq_getElem?_getD, d1]
    exact d2
/-- over an own list that stays as it is meanwhile -/
theorem xi_listR {items : List PyData} {l : Addr} {k : Nat} (h : Xv C tl (Rf l) C1) (hk : C1.mm[k]? = some (l, LF items)) : XI C (iList K tl) items.length (fun i => D (items.getD i .none)) C1 [(l, LF items)] := by
  refine ⟨h.1, fun σ H e R r => h.2 σ H e _ fun v H1 s1 e1 p1 => ?_⟩
  have hv : v = .ref l := p1
  subst hv
  obtain ⟨o, h1, xs, rfl, h2⟩ := e1.mu (l, LF items) (List.mem_of_getElem? hk)
  have at_ : ∀ {C2 : Ct} {σ2 : St} {H2 : Hp}, En C2 σ2 H2 → (∀ p ∈ [(l, LF items)], p ∈ C2.mm) → ∃ zs, H2 l = some (.lst zs) ∧ DnAll (hid C2.M H2) zs items := fun e2 k => by
    obtain ⟨o, q1, zs, rfl, q2⟩ := e2.mu _ (k _ List.mem_cons_self)
    exact ⟨zs, q1, q2⟩
  refine ⟨l, rfl, ⟨xs, .inl (.inl h1)⟩, r (Itl K l) H1 [] s1 e1 ⟨fun i C2 σ2 H2 hi e2 _ k => ?_, fun C2 σ2 H2 e2 _ k => ?_, fun i C2 σ2 H2 x H3 hi e2 _ k y => ?_⟩⟩
  · obtain ⟨zs, q1, q2⟩ := at_ e2 k
    exact ⟨zs, zs[i]'(by rw [q2.length]; exact hi), .inl (.inl q1), by simp [q2.length, hi]⟩
  · obtain ⟨zs, q1, q2⟩ := at_ e2 k
    exact ⟨zs, .inl (.inl q1), by rw [q2.length]; exact Nat.le_refl _⟩
  · obtain ⟨zs, q1, q2⟩ := at_ e2 k
    obtain ⟨y1, y2⟩ := y
    subst y1
    refine ⟨e2, Same.refl _, ?_⟩
    have y3 := y2 zs (.inl (.inl q1))
    obtain ⟨d, d1, d2⟩ := q2.at y3
    show Dn _ x (items.getD i .none)
    rw [List.getD_eq_getElem?_getD, d1]
    exact d2
theorem xi_rng1 {t : TA} {j : Int} (h : XA C t [DI j] C1) (hj : 0 ≤ j ∧ j ≤ 100000) : XI C (iRng1 t) j.toNat (fun i => DI (i : Nat)) C1 [] := by
  refine ⟨h.1, fun σ H e R r => h.2 σ H e _ fun vs H1 s1 e1 p1 => ?_⟩
  obtain ⟨v, rfl, p⟩ := p1.one_inv
  refine ⟨j, by rw [Dn.int_inv p], by omega, by omega, r (Itr 0 j.toNat) H1 [] s1 e1 ⟨fun i C2 σ2 H2 hi _ _ _ => hi, fun C2 σ2 H2 _ _ _ => Nat.le_refl _, fun i C2 σ2 H2 x H3 hi e2 _ _ y => ?_⟩⟩
  obtain ⟨y1, y2⟩ := y
  subst y1 y2
  refine ⟨e2, Same.refl _, ?_⟩
  have : (0 : Int) + (i : Int) = (i : Int) := Int.zero_add _
  rw [this]
  exact .int _
theorem xi_rng2 {t : TA} {i j : Int} (h : XA C t [DI i, DI j] C1) (hi : -100000 ≤ i ∧ i ≤ 100000) (hj : -100000 ≤ j ∧ j ≤ 100000) : XI C (iRng2 t) (j - i).toNat (fun m => DI (i + (m : Nat))) C1 [] := by
  refine ⟨h.1, fun σ H e R r => h.2 σ H e _ fun vs H1 s1 e1 p1 => ?_⟩
  obtain ⟨v, w, rfl, p, q⟩ := p1.two_inv
  refine ⟨i, j, by rw [Dn.int_inv p, Dn.int_inv q], ⟨by omega, by omega, by omega, by omega⟩, r (Itr i (j - i).toNat) H1 [] s1 e1 ⟨fun i C2 σ2 H2 hi _ _ _ => hi, fun C2 σ2 H2 _ _ _ => Nat.le_refl _, fun m C2 σ2 H2 x H3 hi e2 _ _ y => ?_⟩⟩
  obtain ⟨y1, y2⟩ := y
  subst y1 y2
  exact ⟨e2, Same.refl _, .int _⟩
theorem xi_rngDown {t : TA} {i j : Int} (h : XA C t [DI i, DI j, DI (-1)] C1) (hi : -100000 ≤ i ∧ i ≤ 100000) (hj : -100000 ≤ j ∧ j ≤ 100000) : XI C (iRng3 t) (i - j).toNat (fun m => DI (i - (m : Nat))) C1 [] := by
  refine ⟨h.1, fun σ H e R r => h.2 σ H e _ fun vs H1 s1 e1 p1 => ?_⟩
  obtain ⟨v, w, u, rfl, p, q, z⟩ := p1.three_inv
  refine ⟨i, j, -1, (i - j).toNat, by rw [Dn.int_inv p, Dn.int_inv q, Dn.int_inv z], RgC.neg (by omega) (by omega) (by omega) (by omega), r (Itc i (-1) (i - j).toNat) H1 [] s1 e1 ⟨fun i C2 σ2 H2 hi _ _ _ => hi, fun C2 σ2 H2 _ _ _ => Nat.le_refl _, fun m C2 σ2 H2 x H3 hi e2 _ _ y => ?_⟩⟩
  obtain ⟨y1, y2⟩ := y
  subst y1 y2
  refine ⟨e2, Same.refl _, ?_⟩
  have : i + (m : Int) * (-1) = i - (m : Int) := by omega
  rw [this]
  exact .int _
theorem En.mk2 {σ : St} {H : Hp} {p : Addr} {o : HO} (e : En C σ H) (hp : H p = none) : En C σ (upd H p o) := e.mono (same_upd hp)
theorem pair_new {σ : St} {H : Hp} {p : Addr} {x y : V} {d d' : PyData} (e : En C σ H) (hp : H p = none) (h1 : Dn (hid C.M H) x d) (h2 : Dn (hid C.M H) y d') : Dn (hid C.M (upd H p (.tup [x, y]))) (.ref p) (.tuple [d, d']) := by
  have s : Same (hid C.M H) (hid C.M (upd H p (.tup [x, y]))) := hid_mono (same_upd hp)
  refine .tup (by rw [hid_out (e.fresh hp)]; exact upd_same) (.cons (h1.mono s) (.cons (h2.mono s) .nil))
theorem xi_enum {t : TA} {items : List PyData} (h : XA C t [DL items] C1) : XI C (iEnum K t) items.length (fun i => DT [.int (i : Nat), items.getD i .none]) C1 [] := by
  refine ⟨h.1, fun σ H e R r => h.2 σ H e _ fun vs H1 s1 e1 p1 => ?_⟩
  obtain ⟨v, rfl, p⟩ := p1.one_inv
  have p1' : (DL items).P (hid C1.M H1) v := by rw [h.1]; exact p
  obtain ⟨a, xs, rfl, h1, h2⟩ := Dn.lst_inv p1'
  have at_ : ∀ {C2 : Ct} {σ2 : St} {H2 : Hp}, En C2 σ2 H2 → (∀ p ∈ [(V.ref a, DL items)], p ∈ C2.gs) → ∃ zs, H2 a = some (.lst zs) ∧ DnAll (hid C2.M H2) zs items := fun e2 k => by
    have g := e2.gh _ (k _ List.mem_cons_self)
    obtain ⟨b, zs, eb, q1, q2⟩ := Dn.lst_inv g
    cases eb
    exact ⟨zs, hid_same _ _ q1, q2⟩
  refine ⟨a, xs, rfl, .inl (.inl (hid_same _ _ h1)), r (Ite K a) H1 [(.ref a, DL items)] s1 (e1.ghost p1') ⟨fun i C2 σ2 H2 hi e2 k _ => ?_, fun C2 σ2 H2 e2 k _ => ?_, fun i C2 σ2 H2 x H3 hi e2 k _ y => ?_⟩⟩
  · obtain ⟨zs, q1, q2⟩ := at_ e2 k
    exact ⟨zs, zs[i]'(by rw [q2.length]; exact hi), .inl (.inl q1), by simp [q2.length, hi]⟩
  · obtain ⟨zs, q1, q2⟩ := at_ e2 k
    exact ⟨zs, .inl (.inl q1), by rw [q2.length]; exact Nat.le_refl _⟩
  · obtain ⟨zs, q1, q2⟩ := at_ e2 k
    obtain ⟨T', u, y1, y2, y3, y4⟩ := y
    subst y1 y3
    have y5 := y4 zs (.inl (.inl q1))
    obtain ⟨d, d1, d2⟩ := q2.at y5
    refine ⟨e2.mono (same_upd y2), hid_mono (same_upd y2), ?_⟩
    have hd : items.getD i .none = d := by rw [List.getD_eq_getElem?_getD, d1]; rfl
    rw [hd]
    exact pair_new e2 y2 (.int _) d2
theorem xi_zip {t : TA} {xs ys : List PyData} (h : XA C t [DL xs, DL ys] C1) (hl : xs.length = ys.length) : XI C (iZip K t) xs.length (fun i => DT [xs.getD i .none, ys.getD i .none]) C1 [] := by
  refine ⟨h.1, fun σ H e R r => h.2 σ H e _ fun vs H1 s1 e1 p1 => ?_⟩
  obtain ⟨v, w, rfl, p, q⟩ := p1.two_inv
  have p1' : (DL xs).P (hid C1.M H1) v := by rw [h.1]; exact p
  have p2' : (DL ys).P (hid C1.M H1) w := by rw [h.1]; exact q
  obtain ⟨a, us, rfl, h1, h2⟩ := Dn.lst_inv p1'
  obtain ⟨b, ws, rfl, h3, h4⟩ := Dn.lst_inv p2'
  have at_ : ∀ {C2 : Ct} {σ2 : St} {H2 : Hp}, En C2 σ2 H2 → (∀ p ∈ [(V.ref a, DL xs), (V.ref b, DL ys)], p ∈ C2.gs) → ∃ zs qs, H2 a = some (.lst zs) ∧ DnAll (hid C2.M H2) zs xs ∧ H2 b = some (.lst qs) ∧ DnAll (hid C2.M H2) qs ys := fun e2 k => by
    have g := e2.gh _ (k _ List.mem_cons_self)
    have g2 := e2.gh _ (k _ (List.mem_cons_of_mem _ List.mem_cons_self))
    obtain ⟨_, zs, eb, q1, q2⟩ := Dn.lst_inv g
    obtain ⟨_, qs, ec, q3, q4⟩ := Dn.lst_inv g2
    cases eb
    cases ec
    exact ⟨zs, qs, hid_same _ _ q1, q2, hid_same _ _ q3, q4⟩
  refine ⟨a, b, us, ws, rfl, .inl (.inl (hid_same _ _ h1)), .inl (.inl (hid_same _ _ h3)), r (Itz K a b) H1 [(.ref a, DL xs), (.ref b, DL ys)] s1 ((e1.ghost p2').ghost p1') ⟨fun i C2 σ2 H2 hi e2 k _ => ?_, fun C2 σ2 H2 e2 k _ => ?_, fun i C2 σ2 H2 x H3 hi e2 k _ y => ?_⟩⟩
  · obtain ⟨zs, qs, q1, q2, q3, q4⟩ := at_ e2 k
    exact ⟨zs, qs, zs[i]'(by rw [q2.length]; exact hi), qs[i]'(by rw [q4.length]; omega), .inl (.inl q1), .inl (.inl q3), by simp [q2.length, hi], by simp [q4.length, ← hl, hi]⟩
  · obtain ⟨zs, qs, q1, q2, q3, q4⟩ := at_ e2 k
    refine ⟨zs, qs, .inl (.inl q1), .inl (.inl q3), ?_⟩
    rw [q2.length, q4.length]
    omega
  · obtain ⟨zs, qs, q1, q2, q3, q4⟩ := at_ e2 k
    obtain ⟨T', u, z, y1, y2, y3, y4, y5⟩ := y
    subst y1 y3
    obtain ⟨d, d1, d2⟩ := q2.at (y4 zs (.inl (.inl q1)))
    obtain ⟨d', d3, d4⟩ := q4.at (y5 qs (.inl (.inl q3)))
    refine ⟨e2.mono (same_upd y2), hid_mono (same_upd y2), ?_⟩
    have hd : xs.getD i .none = d := by rw [List.getD_eq_getElem?_getD, d1]; rfl
    have hd' : ys.getD i .none = d' := by rw [List.getD_eq_getElem?_getD, d3]; rfl
    rw [hd, hd']
    exact pair_new e2 y2 d2 d4

/-! ### while -/
theorem xs_while {X : Type} {t : TT} (I : X → Ct) (μ : X → Nat) (G : X → Prop) (x0 : X) (g0 : G x0) (h0 : ∀ σ H, En C σ H → En (I x0) σ H)
    (hs : ∀ x, G x → ∃ b C1, XT (I x) t b C1 ∧ (b = true → Xs C1 tb { D' with nx := fun σ H => ∃ x', μ x' < μ x ∧ G x' ∧ En (I x') σ H, ct := fun σ H => ∃ x', μ x' < μ x ∧ G x' ∧ En (I x') σ H, bk := D'.nx }) ∧ (b = false → Nx C1 D')) : Xs C (tWhile t tb) D' := fun σ H e => by
  refine ⟨fun m σ' H' => ∃ x, μ x = m ∧ G x ∧ En (I x) σ' H', ⟨_, x0, rfl, g0, h0 σ H e⟩, ?_⟩
  rintro m σ' H' ⟨x, rfl, gx, e'⟩
  obtain ⟨b, C1, h1, h2, h3⟩ := hs x gx
  refine h1.2 σ' H' e' _ fun H2 s2 e2 => ?_
  cases b with
  | true =>
    show ∃ N : St → Hp → Prop, _
    exact ⟨_, fun σ3 H3 ⟨x', l, g', e3⟩ => ⟨_, l, x', rfl, g', e3⟩, h2 rfl σ' H2 e2⟩
  | false => exact h3 rfl σ' H2 e2
end
end K74

set_option Elab.async false
set_option linter.all false
set_option maxRecDepth 100000
set_option maxHeartbeats 1000000
namespace K74
open PySem L2
open PyProof.Rows (envOfC)
/-! ### comprehensions -/
def wipeD (ds : List (Option PP)) : List Nat → List (Option PP)
  | [] => ds
  | v :: vs => (wipeD ds vs).set v none
theorem wipeD_length (ds : List (Option PP)) : ∀ vs, (wipeD ds vs).length = ds.length
  | [] => rfl
  | v :: vs => by unfold wipeD; rw [List.length_set, wipeD_length ds vs]
theorem wipe_get (σ : St) (j : Nat) : ∀ vs, (wipe σ vs)[j]? = if j ∈ vs then (σ[j]?).map (fun _ => none) else σ[j]?
  | [] => by simp [wipe]
  | v :: vs => by
    unfold wipe
    have ih := wipe_get σ j vs
    by_cases hj : v = j
    · subst hj
      rw [if_pos List.mem_cons_self]
      by_cases hl : v < σ.length
      · rw [List.getElem?_set_self (by rw [wipe_length]; exact hl), List.getElem?_eq_getElem hl]
        rfl
      · rw [List.getElem?_eq_none (by rw [List.length_set, wipe_length]; omega), List.getElem?_eq_none (by omega)]
        rfl
    · rw [List.getElem?_set_ne hj, ih]
      by_cases hm : j ∈ vs
      · rw [if_pos hm, if_pos (List.mem_cons_of_mem _ hm)]
      · rw [if_neg hm, if_neg]
        intro z
        rcases List.mem_cons.mp z with z | z
        · exact hj z.symm
        · exact hm z
theorem wipeD_get (ds : List (Option PP)) (j : Nat) (P : PP) : ∀ vs, (wipeD ds vs)[j]? = some (some P) → ds[j]? = some (some P) ∧ j ∉ vs
  | [], h => ⟨h, by simp⟩
  | v :: vs, h => by
    unfold wipeD at h
    by_cases hj : v = j
    · subst hj
      by_cases hl : v < (wipeD ds vs).length
      · rw [List.getElem?_set_self hl] at h; cases h
      · rw [List.getElem?_eq_none (by rw [List.length_set]; omega)] at h; cases h
    · rw [List.getElem?_set_ne hj] at h
      obtain ⟨a, b⟩ := wipeD_get ds j P vs h
      exact ⟨a, fun z => by
        rcases List.mem_cons.mp z with z | z
        · exact hj z.symm
        · exact b z⟩
theorem wipe_ext {σ σ' : St} {vs : List Nat} (hl : σ'.length = σ.length) (h : ∀ j, j ∉ vs → σ'[j]? = σ[j]?) : wipe σ' vs = wipe σ vs := by
  apply List.ext_getElem?
  intro j
  rw [wipe_get, wipe_get]
  by_cases hj : j ∈ vs
  · rw [if_pos hj, if_pos hj]
    by_cases hlt : j < σ.length
    · rw [List.getElem?_eq_getElem hlt, List.getElem?_eq_getElem (by omega)]
      rfl
    · rw [List.getElem?_eq_none (by omega), List.getElem?_eq_none (by omega)]
  · rw [if_neg hj, if_neg hj, h j hj]
theorem wipe_wipe (σ : St) (vs : List Nat) : wipe (wipe σ vs) vs = wipe σ vs := wipe_ext (wipe_length σ vs) fun j hj => by rw [wipe_get, if_neg hj]
theorem En.wipe {B : Hp} {M0 : List Addr} {mm : List (Addr × FF)} {ds : List (Option PP)} {gs : List (V × PP)} {σ : St} {H : Hp} (e : En ⟨B, M0, mm, ds, gs⟩ σ H) (vs : List Nat) : En ⟨B, M0, mm, wipeD ds vs, gs⟩ (L2.wipe σ vs) H := by
  refine ⟨by rw [wipe_length, wipeD_length]; exact e.len, fun i P hi => ?_, e.gh, e.mu, e.nd, e.own, e.out, e.base⟩
  obtain ⟨a, b⟩ := wipeD_get ds i P vs hi
  obtain ⟨v, h1, h2⟩ := e.sl i P a
  exact ⟨v, by rw [wipe_get, if_neg b]; exact h1, h2⟩
theorem En.hop {B : Hp} {M0 : List Addr} {mm : List (Addr × FF)} {ds es : List (Option PP)} {gs : List (V × PP)} {σ σ2 : St} {H H' : Hp} (e : En ⟨B, M0, mm, ds, gs⟩ σ H) (e2 : En ⟨B, M0, mm, es, gs⟩ σ2 H') (s : Same (hid (Ct.M ⟨B, M0, mm, ds, gs⟩) H) (hid (Ct.M ⟨B, M0, mm, ds, gs⟩) H')) : En ⟨B, M0, mm, ds, gs⟩ σ H' :=
  ⟨e.len, fun i P hi => let ⟨v, a, b⟩ := e.sl i P hi; ⟨v, a, P.mono s b⟩, e2.gh, e2.mu, e2.nd, e2.own, e2.out, e2.base⟩
section
variable {C C1 C2 C3 C' : Ct} {ta tb' te tl : TE} {P P' R T : PP} {F : FF} {K : PySem.W.Frag} {D' : Ends} {tu tw tz tb : TS} {g : TG} {wi : TI} {n : Nat} {Ys : Nat → PP} {ml : List (Addr × FF)} {tt : TT}
/-- the shape within a comprehension: the slots vs forgotten, the new list at l -/
abbrev Ct.lc (C : Ct) (vs : List Nat) (l : Addr) (acc : List PyData) (gl : List (V × PP)) : Ct := ⟨C.B, C.M0, (l, LF acc) :: C.mm, wipeD C.ds vs, gl ++ C.gs⟩
theorem xf_lc {vs : List Nat} (f : Nat → Option PyData) (h : XI C wi n Ys C1 ml) (hm : ∀ q ∈ ml, q ∈ C1.mm) (hn : n ≤ 100000)
    (hs : ∀ i gl l acc, i < n → ∃ es js, XG (C1.lc vs l acc gl) g (Ys i) { C1.lc vs l acc gl with ds := es } js ∧ (∀ j ∈ js, j ∈ vs) ∧ XT { C1.lc vs l acc gl with ds := es } tt (f i).isSome { C1.lc vs l acc gl with ds := es } ∧
      ∀ d, f i = some d → Xv { C1.lc vs l acc gl with ds := es } te (D d) { C1.lc vs l acc gl with ds := es }) :
    Xf C (tLc wi g tt te vs) (LF ((List.range n).filterMap f)) C1 := by
  refine ⟨h.1, fun σ H e Q q => h.2 σ H e _ fun J H1 gl s1 e1 j L hL => ?_⟩
  have hh : hid (L :: C1.M) (upd H1 L (.lst [])) = hid C1.M H1 := hid_cons hL
  have e2 : En ((C1.ghs gl).new L (LF [])) σ (upd H1 L (.lst [])) := e1.push (F := LF []) (same_upd hL) hL upd_same ⟨[], rfl, .nil⟩
  have sub : ∀ p ∈ gl, p ∈ gl ++ C1.gs := fun p hp => List.mem_append_left _ hp
  have accl : ∀ i, ((List.range i).filterMap f).length ≤ i := fun i => by
    have := List.length_filterMap_le f (List.range i)
    rw [List.length_range] at this
    exact this
  have step : ∀ i, (List.range (i + 1)).filterMap f = (List.range i).filterMap f ++ (f i).toList := fun i => by
    rw [List.range_succ, List.filterMap_append]
    cases hf : f i <;> simp [List.filterMap_cons, hf]
  refine ⟨fun i m H' => m = n - i ∧ i ≤ n ∧ Same (hid (L :: C1.M) (upd H1 L (.lst []))) (hid (L :: C1.M) H') ∧ En ((C1.ghs gl).new L (LF ((List.range i).filterMap f))) σ H', ⟨n, by simp, Nat.zero_le _, Same.refl _, e2⟩, ?_⟩
  rintro i m H' ⟨rfl, hi, sm, e'⟩
  have hml : ∀ acc, ∀ q ∈ ml, q ∈ ((C1.ghs gl).new L (LF acc)).mm := fun acc q hq => List.mem_cons_of_mem _ (hm q hq)
  by_cases hlt : i < n
  · refine .inr ⟨j.go i _ σ H' hlt e' sub (hml _), fun H2 => i + 1 ≤ n ∧ Same (hid (L :: C1.M) (upd H1 L (.lst []))) (hid (L :: C1.M) H2) ∧ En ((C1.ghs gl).new L (LF ((List.range (i + 1)).filterMap f))) σ H2, fun H2 e2 => ⟨n - (i + 1), by omega, rfl, e2⟩, fun x H2 y => ?_⟩
    obtain ⟨e3, s3, p3⟩ := j.yld i _ σ H' x H2 hlt e' sub (hml _) y
    have ew : En (C1.lc vs L ((List.range i).filterMap f) gl) (L2.wipe σ vs) H2 := e3.wipe vs
    obtain ⟨es, js, hg, hj, ht, he⟩ := hs i gl L ((List.range i).filterMap f) hlt
    refine hg.2 _ H2 x ew p3 _ fun σ4 H4 s4 e4 l4 k4 => ⟨?_, ?_⟩
    · have h1 : L2.wipe σ4 vs = L2.wipe (L2.wipe σ vs) vs := wipe_ext l4 fun m hm => k4 m fun z => hm (hj m z)
      rw [h1, wipe_wipe]
    · refine ht.2 σ4 H4 e4 _ fun H5 s5 e5 => ?_
      have s35 : Same (hid (L :: C1.M) H') (hid (L :: C1.M) H5) := (s3.trans s4).trans s5
      cases hf : f i with
      | none =>
        show (if (none : Option PyData).isSome = true then _ else _)
        rw [if_neg (by simp)]
        refine ⟨hlt, sm.trans s35, ?_⟩
        rw [step, hf, Option.toList_none, List.append_nil]
        exact En.hop e' e5 s35
      | some d =>
        show (if (some d).isSome = true then _ else _)
        rw [if_pos (by simp)]
        refine (he d hf).2 σ4 H5 e5 _ fun y H6 s6 e6 p6 => ?_
        have s36 : Same (hid (L :: C1.M) H') (hid (L :: C1.M) H6) := s35.trans s6
        have e7 : En ((C1.ghs gl).new L (LF ((List.range i).filterMap f))) σ H6 := En.hop e' e6 s36
        obtain ⟨o, o1, xs, o2, o3⟩ := e7.mu (L, LF ((List.range i).filterMap f)) List.mem_cons_self
        subst o2
        refine ⟨xs, o1, ?_, hlt, ?_, ?_⟩
        · rw [o3.length]
          exact Nat.lt_of_le_of_lt (accl i) (Nat.lt_of_lt_of_le hlt (Nat.le_trans hn (by decide)))
        · have hk : hid (L :: C1.M) (upd H6 L (.lst (xs ++ [y]))) = hid (L :: C1.M) H6 := hid_upd List.mem_cons_self
          rw [hk]
          exact sm.trans s36
        · have e8 := e7.write (k := 0) (l := L) (F := LF ((List.range i).filterMap f)) (F' := LF ((List.range i).filterMap f ++ [d])) (o := .lst (xs ++ [y])) rfl ⟨_, rfl, o3.snoc p6⟩
          rw [step, hf, Option.toList_some]
          exact e8
  · have en : i = n := by omega
    subst en
    refine .inl ⟨j.stop _ σ H' e' sub (hml _), q L H' ?_ ⟨e'.len, e'.sl, fun p hp => e'.gh p (List.mem_append_right _ hp), e'.mu, e'.nd, e'.own, e'.out, e'.base⟩⟩
    rw [hh, h.1] at sm
    exact s1.trans sm
theorem range_fm2 {α : Type} (a : α) (p : α → Bool) (g : α → PyData) : ∀ (items : List α) (f : Nat → Option PyData), (∀ i, i < items.length → f i = if p (items.getD i a) then some (g (items.getD i a)) else none) → (List.range items.length).filterMap f = (items.filter p).map g
  | [], _, _ => rfl
  | x :: r, f, h => by
    have h0 := h 0 (Nat.succ_pos _)
    have ih := range_fm2 a p g r (fun i => f (i + 1)) fun i hi => h (i + 1) (Nat.succ_lt_succ hi)
    rw [List.length_cons, List.range_succ_eq_map, List.filterMap_cons, List.filterMap_map]
    have e : (List.range r.length).filterMap (f ∘ Nat.succ) = (r.filter p).map g := ih
    have ex : (x :: r).getD 0 a = x := rfl
    rw [e, h0, ex]
    cases hp : p x with
    | true => rw [List.filter_cons_of_pos hp]; rfl
    | false => rw [List.filter_cons_of_neg (by rw [hp]; decide)]; rfl
theorem range_fm {α : Type} (items : List α) (a : α) (f : Nat → Option PyData) (g : α → PyData) (h : ∀ i, i < items.length → f i = some (g (items.getD i a))) : (List.range items.length).filterMap f = items.map g := by
  rw [range_fm2 a (fun _ => true) g items f fun i hi => by rw [h i hi]; rfl]
  rw [List.filter_eq_self.mpr fun _ _ => rfl]
theorem xt_yes : XT C tYes true C := ⟨rfl, fun σ H e Q q => q H (Same.refl _) e⟩
/-- the usual comprehension: every item, no test -/
theorem xf_map {α : Type} {vs : List Nat} {items : List α} (a : α) (gd : α → PyData) (h : XI C wi items.length Ys C1 ml) (hm : ∀ q ∈ ml, q ∈ C1.mm) (hn : items.length ≤ 100000)
    (hs : ∀ i gl l acc, i < items.length → ∃ es js, XG (C1.lc vs l acc gl) g (Ys i) { C1.lc vs l acc gl with ds := es } js ∧ (∀ j ∈ js, j ∈ vs) ∧
      Xv { C1.lc vs l acc gl with ds := es } te (D (gd (items.getD i a))) { C1.lc vs l acc gl with ds := es }) :
    Xf C (tLc wi g tYes te vs) (LF (items.map gd)) C1 := by
  have h1 := xf_lc (vs := vs) (g := g) (tt := tYes) (te := te) (fun i => some (gd (items.getD i a))) h hm hn fun i gl l acc hi => by
    obtain ⟨es, js, h1, h2, h3⟩ := hs i gl l acc hi
    exact ⟨es, js, h1, h2, xt_yes, fun d hd => by
      cases hd
      exact h3⟩
  rw [range_fm items a _ gd fun i _ => rfl] at h1
  exact h1
/-- .. with a test -/
theorem xf_filter {α : Type} {vs : List Nat} {items : List α} (a : α) (pd : α → Bool) (gd : α → PyData) (h : XI C wi items.length Ys C1 ml) (hm : ∀ q ∈ ml, q ∈ C1.mm) (hn : items.length ≤ 100000)
    (hs : ∀ i gl l acc, i < items.length → ∃ es js, XG (C1.lc vs l acc gl) g (Ys i) { C1.lc vs l acc gl with ds := es } js ∧ (∀ j ∈ js, j ∈ vs) ∧
      XT { C1.lc vs l acc gl with ds := es } tt (pd (items.getD i a)) { C1.lc vs l acc gl with ds := es } ∧
      (pd (items.getD i a) = true → Xv { C1.lc vs l acc gl with ds := es } te (D (gd (items.getD i a))) { C1.lc vs l acc gl with ds := es })) :
    Xf C (tLc wi g tt te vs) (LF ((items.filter pd).map gd)) C1 := by
  have h1 := xf_lc (vs := vs) (g := g) (tt := tt) (te := te) (fun i => if pd (items.getD i a) then some (gd (items.getD i a)) else none) h hm hn fun i gl l acc hi => by
    obtain ⟨es, js, h1, h2, h3, h4⟩ := hs i gl l acc hi
    refine ⟨es, js, h1, h2, ?_, fun d hd => ?_⟩
    · have e : (if pd (items.getD i a) then some (gd (items.getD i a)) else none).isSome = pd (items.getD i a) := by
        cases pd (items.getD i a) <;> rfl
      rw [e]
      exact h3
    · cases hp : pd (items.getD i a) with
      | false => rw [hp] at hd; cases hd
      | true =>
        rw [hp] at hd
        cases hd
        exact h4 hp
  rw [range_fm2 a pd gd items _ fun i _ => rfl] at h1
  exact h1
end
end K74

set_option Elab.async false
set_option linter.all false
set_option maxRecDepth 100000
set_option maxHeartbeats 1000000
namespace K74
open PySem L2
open PyProof.Rows (envOfC)
section
variable {C C1 C2 C3 C' : Ct} {ta tb' te tl : TE} {P P' R T : PP} {F : FF} {K : PySem.W.Frag} {D' : Ends} {tu tw tz tb : TS} {g : TG}
/-! ### slices -/
def cutP {α : Type} (xs : List α) (lo hi : Option Int) : List α := (xs.drop (HT.sIx xs.length 0 lo)).take (HT.sIx xs.length xs.length hi - HT.sIx xs.length 0 lo)
theorem DnAll.cut {H : Hp} {vs : List V} {ds : List PyData} (r : DnAll H vs ds) (lo hi : Option Int) : DnAll H (cutV vs lo hi) (cutP ds lo hi) := by
  unfold cutV cutP
  rw [r.length]
  exact (r.drop _).take _
theorem cutP_map {α β : Type} (f : α → β) (xs : List α) (lo hi : Option Int) : cutP (xs.map f) lo hi = (cutP xs lo hi).map f := by
  unfold cutP
  rw [List.length_map, List.map_take, List.map_drop]
def XO (C : Ct) (t : TO) (o : Option Int) : Prop := ∀ σ H, En C σ H → ∀ Q : Option Int → Hp → Prop, (∀ H', Same H H' → Q o H') → t σ H Q
theorem xo_no : XO C tNoPart none := fun σ H e Q q => q H (Same.refl _)
theorem xo_int {i : Int} (h : Xv C te (DI i) C) (hs : ∀ σ H, En C σ H → ∀ Q : VK, (∀ v H', Same H H' → v = .int i → Q v H') → te σ H Q) : XO C (tPart te) (some i) := fun σ H e Q q => hs σ H e _ fun v H' s p => ⟨i, p, q H' s⟩
end
/-- an expression that changes nothing that stood (no own object either) -/
def Xp (C : Ct) (te : TE) (P : PP) : Prop := ∀ σ H, En C σ H → ∀ Q : VK, (∀ v H', Same H H' → P.P (hid C.M H') v → Q v H') → te σ H Q
section
variable {C C1 C2 C3 C' : Ct} {ta tb' te tl : TE} {P P' R T : PP} {F : FF} {K : PySem.W.Frag} {D' : Ends} {tu tw tz tb : TS} {g : TG}
theorem xp_var {i : Nat} (h : C.ds[i]? = some (some P)) : Xp C (tVar i) P := fun σ H e Q q => let ⟨v, a, b⟩ := e.sl i P h; ⟨v, a, q v H (Same.refl _) b⟩
theorem xp_int {i : Int} : Xp C (tC (.int i)) (DI i) := fun σ H e Q q => q _ H (Same.refl _) (.int i)
theorem xp_op {r : R2} (ha : Xp C ta P) (hb : Xp C tb' R) (hr : RO C r P R T) : Xp C (tOp r ta tb') T := fun σ H e Q q => ha σ H e _ fun x H1 s1 p1 => hb σ H1 (e.mono s1) _ fun y H2 s2 p2 =>
  hr σ H2 x y ((e.mono s1).mono s2) (P.mono (hid_mono s2) p1) p2 Q fun v H3 s3 t => q v H3 ((s1.trans s2).trans s3) t
theorem xp_un {i : Int} (ha : Xp C ta (DI i)) : Xp C (tUn (rU fun i => .int (-i)) ta) (DI (-i)) := fun σ H e Q q => ha σ H e _ fun x H1 s1 p1 => ⟨i, Dn.int_inv p1, q _ H1 s1 (.int _)⟩
theorem Xp.v (h : Xp C te P) : Xv C te P C := ⟨rfl, fun σ H e Q q => h σ H e Q fun v H' s p => q v H' (hid_mono s) (e.mono s) p⟩
theorem xv_un {i : Int} (ha : Xv C ta (DI i) C1) : Xv C (tUn (rU fun i => .int (-i)) ta) (DI (-i)) C1 := ⟨ha.1, fun σ H e Q q => ha.2 σ H e _ fun x H1 s1 e1 p1 => ⟨i, Dn.int_inv p1, q _ H1 s1 e1 (.int _)⟩⟩
theorem xo_p {i : Int} (h : Xp C te (DI i)) : XO C (tPart te) (some i) := fun σ H e Q q => h σ H e _ fun v H' s p => ⟨i, Dn.int_inv p, q H' s⟩
theorem xf_slice {ds : List PyData} {tlo thi : TO} {lo hi : Option Int} (h : Xv C te P C1) (hv : Vl C1 P ds) (h1 : XO C1 tlo lo) (h2 : XO C1 thi hi) : Xf C (tSl (rSlL K) te tlo thi) (LF (cutP ds lo hi)) C1 := by
  refine ⟨h.1, fun σ H e Q q => h.2 σ H e _ fun x H1 s1 e1 p1 => h1 σ H1 e1 _ fun H2 s2 => h2 σ H2 (e1.mono s2) _ fun H3 s3 => ?_⟩
  have e3 := (e1.mono s2).mono s3
  obtain ⟨a, xs, rfl, q1, q2⟩ := hv σ H3 x e3 (P.mono (hid_mono (s2.trans s3)) (by rw [h.1]; exact p1))
  refine ⟨a, xs, rfl, .inl (.inl q1), fun p hp => Xf.mk (C := C1) (F := LF (cutP ds lo hi)) e3 ⟨_, rfl, q2.cut lo hi⟩ (fun l H' s e' => q l H' ?_ e') hp⟩
  rw [h.1] at s
  exact (s1.trans (hid_mono (s2.trans s3))).trans s
theorem xf_rev {ds : List PyData} (h : Xv C te P C1) (hv : Vl C1 P ds) : Xf C (tRevL K te) (LF ds.reverse) C1 := by
  refine ⟨h.1, fun σ H e Q q => h.2 σ H e _ fun x H1 s1 e1 p1 => ?_⟩
  obtain ⟨a, xs, rfl, q1, q2⟩ := hv σ H1 x e1 (by rw [h.1]; exact p1)
  refine ⟨a, xs, rfl, .inl (.inl q1), fun p hp => Xf.mk (C := C1) (F := LF ds.reverse) e1 ⟨_, rfl, q2.reverse⟩ (fun l H' s e' => q l H' ?_ e') hp⟩
  rw [h.1] at s
  exact s1.trans s
theorem xf_listRg {n : Nat} (h : Xv C ta (DI (n : Int)) C1) (hn : n ≤ 1000) : Xf C (tLstRg (tRg1 ta)) (LF ((List.range n).map fun i => PyData.int (i : Nat))) C1 := by
  refine ⟨h.1, fun σ H e Q q => h.2 σ H e _ fun x H1 s1 e1 p1 => ⟨(n : Int), Dn.int_inv p1, RgOk.of_le (by omega) (by omega) (by omega) (by omega), fun p hp => ?_⟩⟩
  have e0 : rgV 0 (n : Int) = ((List.range n).map fun i => ((i : Nat) : Int)).map V.int := by
    unfold rgV
    have : ((n : Int) - 0).toNat = n := by omega
    rw [this, List.map_map]
    apply List.map_congr_left
    intro i _
    show V.int (0 + (i : Int)) = V.int (i : Int)
    rw [Int.zero_add]
  have e2 : ((List.range n).map fun i => ((i : Nat) : Int)).map PyData.int = (List.range n).map fun i => PyData.int (i : Nat) := by
    rw [List.map_map]
    rfl
  refine Xf.mk (C := C1) (F := LF _) e1 ⟨_, rfl, ?_⟩ (fun l H' s e' => q l H' ?_ e') hp
  · rw [e0, ← e2]
    exact DnAll.ints _
  · rw [h.1] at s
    exact s1.trans s
/-! ### dicts with int keys -/
inductive KvA (H : Hp) : List (Key × V) → List (Int × PyData) → Prop
  | nil : KvA H [] []
  | cons {k : Int} {v : V} {d : PyData} {kvs : List (Key × V)} {ds : List (Int × PyData)} : Dn H v d → KvA H kvs ds → KvA H ((Sum.inl k, v) :: kvs) ((k, d) :: ds)
theorem KvA.mono {H H' : Hp} (s : Same H H') : ∀ {kvs : List (Key × V)} {ds : List (Int × PyData)}, KvA H kvs ds → KvA H' kvs ds
  | _, _, .nil => .nil
  | _, _, .cons h r => .cons (h.mono s) (KvA.mono s r)
theorem KvA.length {H : Hp} : ∀ {kvs : List (Key × V)} {ds : List (Int × PyData)}, KvA H kvs ds → kvs.length = ds.length
  | _, _, .nil => rfl
  | _, _, .cons _ r => congrArg (· + 1) r.length
def lookD (ds : List (Int × PyData)) (k : Int) : Option PyData := (ds.find? fun p => decide (p.1 = k)).map (·.2)
theorem KvA.look {H : Hp} {k : Int} : ∀ {kvs : List (Key × V)} {ds : List (Int × PyData)}, KvA H kvs ds → (valV kvs (Sum.inl k) = none ∧ lookD ds k = none) ∨ ∃ v d, valV kvs (Sum.inl k) = some v ∧ lookD ds k = some d ∧ Dn H v d
  | _, _, .nil => .inl ⟨rfl, rfl⟩
  | _, _, .cons (k := j) (v := v) (d := d) (kvs := kvs) (ds := ds) h r => by
    by_cases e : j = k
    · subst e
      exact .inr ⟨v, d, valV_pos rfl, by simp [lookD], h⟩
    · have e2 : ¬ ((Sum.inl j : Key), v).1 = Sum.inl k := fun z => e (Sum.inl.inj z)
      rw [valV_neg e2]
      have e3 : lookD ((j, d) :: ds) k = lookD ds k := by simp [lookD, List.find?_cons, e]
      rw [e3]
      exact KvA.look r
def putD (ds : List (Int × PyData)) (k : Int) (d : PyData) : List (Int × PyData) :=
  if (ds.any fun p => decide (p.1 = k)) = true then ds.map (fun p => if p.1 = k then (p.1, d) else p) else ds ++ [(k, d)]
theorem KvA.append {H : Hp} : ∀ {kvs kvs' : List (Key × V)} {ds ds' : List (Int × PyData)}, KvA H kvs ds → KvA H kvs' ds' → KvA H (kvs ++ kvs') (ds ++ ds')
  | _, _, _, _, .nil, r => r
  | _, _, _, _, .cons h q, r => .cons h (KvA.append q r)
theorem KvA.any {H : Hp} {k : Int} : ∀ {kvs : List (Key × V)} {ds : List (Int × PyData)}, KvA H kvs ds → (kvs.any fun kv => decide (kv.1 = (Sum.inl k : Key))) = ds.any fun p => decide (p.1 = k)
  | _, _, .nil => rfl
  | _, _, .cons (k := j) h r => by
    rw [List.any_cons, List.any_cons, KvA.any r]
    congr 1
    by_cases e : j = k
    · subst e; simp
    · have : ¬ (Sum.inl j : Key) = Sum.inl k := fun z => e (Sum.inl.inj z)
      simp [e, this]
theorem KvA.repl {H : Hp} {k : Int} {v : V} {d : PyData} (hd : Dn H v d) : ∀ {kvs : List (Key × V)} {ds : List (Int × PyData)}, KvA H kvs ds → KvA H (kvs.map fun kv => if kv.1 = (Sum.inl k : Key) then (kv.1, v) else kv) (ds.map fun p => if p.1 = k then (p.1, d) else p)
  | _, _, .nil => .nil
  | _, _, .cons (k := j) h r => by
    rw [List.map_cons, List.map_cons]
    by_cases e : j = k
    · subst e
      rw [if_pos rfl, if_pos rfl]
      exact .cons hd (KvA.repl hd r)
    · have : ¬ (Sum.inl j : Key) = Sum.inl k := fun z => e (Sum.inl.inj z)
      rw [if_neg this, if_neg e]
      exact .cons h (KvA.repl hd r)
theorem KvA.put {H : Hp} {k : Int} {v : V} {d : PyData} {kvs : List (Key × V)} {ds : List (Int × PyData)} (r : KvA H kvs ds) (hd : Dn H v d) : KvA H (putK kvs (Sum.inl k) v) (putD ds k d) := by
  unfold putK putD
  rw [r.any]
  split
  · exact KvA.repl hd r
  · exact r.append (.cons hd .nil)
def KF (ds : List (Int × PyData)) : FF := ⟨fun H o => ∃ kvs, o = .dK kvs ∧ KvA H kvs ds, fun s ⟨xs, e, r⟩ => ⟨xs, e, r.mono s⟩⟩
def Vk (C : Ct) (P : PP) (ds : List (Int × PyData)) : Prop := ∀ σ H v, En C σ H → P.P (hid C.M H) v → ∃ a kvs, v = .ref a ∧ H a = some (.dK kvs) ∧ KvA (hid C.M H) kvs ds
theorem vk_f {ds : List (Int × PyData)} : Vk C (Fz (KF ds)) ds := fun σ H v e p => by
  obtain ⟨l, o, rfl, h, xs, rfl, r⟩ := p
  exact ⟨l, xs, rfl, hid_same _ _ h, r⟩
theorem vk_r {l : Addr} {ds : List (Int × PyData)} {k : Nat} (hk : C.mm[k]? = some (l, KF ds)) : Vk C (Rf l) ds := fun σ H v e p => by
  obtain ⟨o, h1, xs, rfl, h2⟩ := e.mu (l, KF ds) (List.mem_of_getElem? hk)
  exact ⟨l, xs, p, h1, h2⟩
theorem xf_dnew : Xf C tDNewK (KF []) C := ⟨rfl, fun σ H e Q q p hp => Xf.mk (F := KF []) e ⟨[], rfl, .nil⟩ (fun l H' s e' => q l H' s e') hp⟩
theorem xs_dput {td ty tv : TE} {i : Nat} {l : Addr} {ds : List (Int × PyData)} {k : Int} {d : PyData} (hv : Xv C tv (D d) C1) (hd : Xp C1 td (Rf l)) (hk : Xp C1 ty (DI k)) (hi : C1.mm[i]? = some (l, KF ds)) (hl : ds.length < 100000) (kn : Nx (C1.mut i l (KF (putD ds k d))) D') : Xs C (sDPut td ty tv) D' := fun σ H e =>
  hv.2 σ H e _ fun v H1 s1 e1 p1 => hd σ H1 e1 _ fun x H2 s2 p2 => hk σ H2 (e1.mono s2) _ fun y H3 s3 p3 => by
    have e3 := (e1.mono s2).mono s3
    obtain ⟨o, q1, kvs, rfl, q2⟩ := e3.mu (l, KF ds) (List.mem_of_getElem? hi)
    have hx : x = .ref l := p2
    have hy : y = .int k := Dn.int_inv p3
    subst hx hy
    have p1' : Dn (hid C1.M H3) v d := Dn.mono (hid_mono (s2.trans s3)) (by rw [hv.1]; exact p1)
    refine ⟨l, _, rfl, DPut.k (k := Sum.inl k) q1 (by rw [q2.length]; exact Nat.lt_of_lt_of_le hl (by decide)), ?_⟩
    exact kn _ _ (e3.write (F' := KF (putD ds k d)) hi ⟨_, rfl, q2.put p1'⟩)
theorem xv_dget {td ty : TE} {ds : List (Int × PyData)} {k : Int} {d : PyData} (hd : Xp C td P) (hk : Xp C ty (DI k)) (hv : Vk C P ds) (hl : lookD ds k = some d) : Xv C (tDGet td ty) (D d) C := ⟨rfl, fun σ H e Q q => hd σ H e _ fun x H1 s1 p1 => hk σ H1 (e.mono s1) _ fun y H2 s2 p2 => by
  have e2 := (e.mono s1).mono s2
  obtain ⟨a, kvs, rfl, q1, q2⟩ := hv σ H2 x e2 (P.mono (hid_mono s2) p1)
  have hy : y = .int k := Dn.int_inv p2
  subst hy
  rcases q2.look (k := k) with ⟨_, z⟩ | ⟨v, d', z1, z2, z3⟩
  · rw [hl] at z; cases z
  · rw [hl] at z2
    cases z2
    refine ⟨a, v, rfl, ?_, q v H2 (hid_mono (s1.trans s2)) e2 z3⟩
    rw [← z1]
    exact DGet.k (k := Sum.inl k) q1⟩
theorem xv_din {td ty : TE} {ds : List (Int × PyData)} {k : Int} (hk : Xp C ty (DI k)) (hd : Xp C td P) (hv : Vk C P ds) : Xv C (tDIn ty td) (DB (lookD ds k).isSome) C := ⟨rfl, fun σ H e Q q => hk σ H e _ fun y H1 s1 p1 => hd σ H1 (e.mono s1) _ fun x H2 s2 p2 => by
  have e2 := (e.mono s1).mono s2
  obtain ⟨a, kvs, rfl, q1, q2⟩ := hv σ H2 x e2 p2
  have hy : y = .int k := Dn.int_inv p1
  subst hy
  refine ⟨a, valV kvs (Sum.inl k), rfl, DGet.k (k := Sum.inl k) q1, ?_⟩
  rcases q2.look (k := k) with ⟨z1, z2⟩ | ⟨v, d', z1, z2, z3⟩
  · rw [z1]
    rw [z2] at q
    exact q _ H2 (hid_mono (s1.trans s2)) e2 (.bl _)
  · rw [z1]
    rw [z2] at q
    exact q _ H2 (hid_mono (s1.trans s2)) e2 (.bl _)⟩
theorem xv_dget2 {td ty tx : TE} {ds : List (Int × PyData)} {k : Int} {d : PyData} (hd : Xp C td P) (hk : Xp C ty (DI k)) (hx : Xp C tx (D d)) (hv : Vk C P ds) : Xv C (tDGet2 td ty tx) (D ((lookD ds k).getD d)) C := ⟨rfl, fun σ H e Q q => hd σ H e _ fun x H1 s1 p1 => by
  have e1 := e.mono s1
  obtain ⟨a, kvs, rfl, q1, q2⟩ := hv σ H1 x e1 p1
  refine ⟨a, rfl, .inl ⟨kvs, .inl q1⟩, hk σ H1 e1 _ fun y H2 s2 p2 => hx σ H2 (e1.mono s2) _ fun z H3 s3 p3 => ?_⟩
  have e3 := (e1.mono s2).mono s3
  have hy : y = .int k := Dn.int_inv p2
  subst hy
  have q3 := s3 _ _ (s2 _ _ q1)
  have q4 := q2.mono (hid_mono (M := C.M) (s2.trans s3))
  refine ⟨valV kvs (Sum.inl k), DGet.k (k := Sum.inl k) q3, ?_⟩
  rcases q4.look (k := k) with ⟨z1, z2⟩ | ⟨v, d', z1, z2, z3⟩
  · rw [z1]
    rw [z2] at q
    exact q _ H3 (hid_mono ((s1.trans s2).trans s3)) e3 p3
  · rw [z1]
    rw [z2] at q
    exact q _ H3 (hid_mono ((s1.trans s2).trans s3)) e3 z3⟩
theorem KvA.keys {H : Hp} : ∀ {kvs : List (Key × V)} {ds : List (Int × PyData)}, KvA H kvs ds → kvs.map (·.1) = (ds.map (·.1)).map Sum.inl
  | _, _, .nil => rfl
  | _, _, .cons h r => by rw [List.map_cons, List.map_cons, List.map_cons, KvA.keys r]
theorem rcf_sortedDI {ds : List (Int × PyData)} {ms : List Int} (h : Vk C P ds) (h64 : ds.length < 64) (hm : ∀ k : List Int, k.Perm (ds.map (·.1)) → k.Pairwise (· ≤ ·) → k = ms) :
    RCF C (fun xs H Q => ∃ (a : Addr) (kvs : List (Key × V)) (ks : List Int), xs = [.ref a] ∧ Rd H a (.dK kvs) ∧ kvs.map (·.1) = ks.map Sum.inl ∧ ks.length < 64 ∧ ∀ (ys : List Int) (p : Addr), ys.Perm ks → ys.Pairwise (· ≤ ·) → H p = none → Q (.ref p) (upd H p (.lst (ys.map V.int)))) [P] (LF (ms.map PyData.int)) := fun σ H vs e p Q q => by
  obtain ⟨v, rfl, k⟩ := p.one_inv
  obtain ⟨a, kvs, rfl, h1, h2⟩ := h σ H v e k
  refine ⟨a, kvs, ds.map (·.1), rfl, .inl h1, h2.keys, by rw [List.length_map]; exact h64, fun ys p hp hs hn => ?_⟩
  have := hm ys hp hs
  subst this
  exact q _ p hn ⟨_, rfl, DnAll.ints _⟩
/-! ### tuples of anything -/
def TFp (Ps : List PP) : FF := ⟨fun H o => ∃ xs, o = .tup xs ∧ Fa H Ps xs, fun s ⟨xs, e, r⟩ => ⟨xs, e, r.mono s⟩⟩
abbrev TP (Ps : List PP) : PP := Fz (TFp Ps)
theorem xf_tupP {t : TA} {Ps : List PP} (h : XA C t Ps C1) (hl : Ps.length ≤ 100000) : Xf C (tTup t) (TFp Ps) C1 := by
  refine ⟨h.1, fun σ H e Q q => h.2 σ H e _ fun vs H1 s1 e1 p1 => ?_⟩
  refine ⟨by rw [p1.length]; exact Nat.le_trans hl (by decide), fun p hp => ?_⟩
  refine Xf.mk (C := C1) (F := TFp Ps) e1 ⟨_, rfl, by rw [h.1]; exact p1⟩ (fun l H' s e' => q l H' ?_ e') hp
  rw [h.1] at s
  exact s1.trans s
theorem Fa.atI {H : Hp} {vs : List V} {Ps : List PP} {i : Int} {P : PP} (r : Fa H Ps vs) (h : L2.atI Ps i = some P) : ∃ v, L2.atI vs i = some v ∧ P.P H v := by
  unfold L2.atI at h ⊢
  rw [r.length]
  cases e : ixN Ps.length i with
  | none => rw [e] at h; cases h
  | some j =>
    rw [e] at h
    exact r.get h
theorem ro_ixTP {Ps : List PP} {i : Int} (hi : L2.atI Ps i = some P) : RO C (rIx K) (TP Ps) (DI i) P := fun σ H x y en hx hy Q q => by
  obtain ⟨a, o, rfl, h1, xs, rfl, h2⟩ := hx
  obtain ⟨v, h3, h4⟩ := h2.atI hi
  exact .inr (.inl ⟨a, xs, i, v, rfl, Dn.int_inv hy, .inl (.inl (hid_same _ _ h1)), h3, q _ _ (Same.refl _) h4⟩)
theorem xg_tupP {gs : TGs} {Ps : List PP} {n : Nat} {js : List Nat} (h : XGs C gs Ps C1 js) (hn : Ps.length = n) : XG C (gTup K n gs) (TP Ps) C1 js := by
  refine ⟨h.1, fun σ H v e p Q q => ?_⟩
  obtain ⟨a, o, rfl, h1, xs, rfl, h2⟩ := p
  exact ⟨a, xs, rfl, .inl (.inl (hid_same _ _ h1)), h2.length.trans hn, h.2 σ H xs e h2 Q q⟩
theorem ro_notNref (h : ∀ H v, P.P H v → ∃ a, v = .ref a) : RO C (fun x y H Q => y = .non ∧ Q (.bl (!decide (x = .non))) H) P (D .none) (DB true) := fun σ H x y en hx hy Q q => by
  obtain ⟨a, rfl⟩ := h _ _ hx
  exact ⟨Dn.non_inv hy, q _ _ (Same.refl _) (.bl _)⟩
theorem ro_isNref (h : ∀ H v, P.P H v → ∃ a, v = .ref a) : RO C (fun x y H Q => y = .non ∧ Q (.bl (decide (x = .non))) H) P (D .none) (DB false) := fun σ H x y en hx hy Q q => by
  obtain ⟨a, rfl⟩ := h _ _ hx
  exact ⟨Dn.non_inv hy, q _ _ (Same.refl _) (.bl _)⟩
/-! ### attributes -/
/-- the attribute f of such a value holds a thing of R -/
def Atr (Cc : Addr) (P : PP) (f : Str) (R : PP) : Prop := ∀ H v, P.P H v → ∃ a dx fs u, v = .ref a ∧ H a = some (.ins Cc dx fs) ∧ fs.lookup f = some u ∧ R.P H u
theorem xv_fld {Cc : Addr} {f : Str} (h : Xv C ta P C1) (u : Atr Cc P f R) (c : Cls K Cc) (n : NoAttr K Cc f) : Xv C (tFld K ta f) R C1 := ⟨h.1, fun σ H e Q q => h.2 σ H e _ fun x H1 s1 e1 p1 => by
  obtain ⟨a, dx, fs, w, rfl, h1, h2, h3⟩ := u _ _ p1
  exact ⟨a, Cc, dx, fs, w, rfl, hid_same _ _ h1, c, n, h2, q _ H1 s1 e1 h3⟩⟩
theorem xp_fld {Cc : Addr} {f : Str} (h : Xp C ta P) (u : Atr Cc P f R) (c : Cls K Cc) (n : NoAttr K Cc f) : Xp C (tFld K ta f) R := fun σ H e Q q => h σ H e _ fun x H1 s1 p1 => by
  obtain ⟨a, dx, fs, w, rfl, h1, h2, h3⟩ := u _ _ p1
  exact ⟨a, Cc, dx, fs, w, rfl, hid_same _ _ h1, c, n, h2, q _ H1 s1 h3⟩
/-- a property that reads an attribute -/
theorem xv_propG {Cc : Addr} {f f' : Str} {E : XK} (h : Xv C ta P C1) (u : Atr Cc P f' R) : Xv C (tProp Cc (getSp Cc f') [] E ta) R C1 := ⟨h.1, fun σ H e Q q => h.2 σ H e _ fun x H1 s1 e1 p1 => by
  obtain ⟨a, dx, fs, w, rfl, h1, h2, h3⟩ := u _ _ p1
  exact ⟨a, dx, fs, rfl, hid_same _ _ h1, a, dx, fs, w, rfl, hid_same _ _ h1, h2, q _ H1 s1 e1 h3⟩⟩
/-- a property by its promise -/
theorem xv_prop {Cc : Addr} {Rr : List PP → PP → Prop} {E : XK} (h : Xv C ta P C1) (hi : ∀ H v, P.P H v → ∃ a dx fs, v = .ref a ∧ H a = some (.ins Cc dx fs)) (hR : Rr [P] T) : Xv C (tProp Cc (spF Rr) [] E ta) T C1 := ⟨h.1, fun σ H e Q q => h.2 σ H e _ fun x H1 s1 e1 p1 => by
  have p1' : P.P (hid C1.M H1) x := by rw [h.1]; exact p1
  obtain ⟨a, dx, fs, rfl, h1⟩ := hi _ _ p1
  refine ⟨a, dx, fs, rfl, hid_same _ _ h1, C1.M, [P], T, hR, e1.live, .cons p1' .nil, fun v H2 s2 t2 => q v H2 (s1.trans (hid_mono s2)) (e1.mono s2) (by rw [← h.1]; exact t2)⟩⟩
/-! ### classes as values, isinstance -/
def Ty (n : String) : PP := ⟨fun _ v => v = .ty n, fun _ h => h⟩
theorem xv_ty {n : String} : Xv C (tC (.ty n)) (Ty n) C := xv_c fun _ => rfl
theorem xv_cls {a : Addr} : Xv C (tC (.ref a)) (Rf a) C := xv_c fun _ => rfl
def tyD : PyData → String
  | .none => "NoneType"
  | .bool _ => "bool"
  | .int _ => "int"
  | .str _ => "str"
  | .list _ => "list"
  | .tuple _ => "tuple"
  | .dict _ => "dict"
theorem Dn.ty {H : Hp} {v : V} {d : PyData} (h : Dn H v d) : TyOf K H v (.type (tyD d)) := by
  cases h with
  | non => exact .non
  | bl b => exact .bl b
  | int i => exact .int i
  | str x => exact .str x
  | lst h _ => exact .lst h
  | tup h _ => exact .tup h
theorem rc_isi {d : PyData} {n : String} {b : Bool} (h : kitB (tyD d) n = some b) : RC C (rIsi K) [D d, Ty n] (DB b) := fun σ H vs e p Q q => by
  obtain ⟨v, w, rfl, k, z⟩ := p.two_inv
  have hw : w = .ty n := z
  subst hw
  exact ⟨v, .ty n, _, _, b, rfl, .ty n, .base (Dn.ty (Dn.mono hid_same k)), kit_ty h, q _ _ (Same.refl _) (.bl _)⟩
theorem rc_isiT {d : PyData} {n m : String} {b c : Bool} (h1 : kitB (tyD d) n = some b) (h2 : kitB (tyD d) m = some c) : RC C (rIsiT K) [D d, TP [Ty n, Ty m]] (DB (b || c)) := fun σ H vs e p Q q => by
  obtain ⟨v, w, rfl, k, z⟩ := p.two_inv
  obtain ⟨a, o, rfl, a1, xs, rfl, a2⟩ := z
  obtain ⟨x, y, rfl, x1, x2⟩ := a2.two_inv
  have hx : x = .ty n := x1
  have hy : y = .ty m := x2
  subst hx hy
  refine ⟨v, a, _, _, [.type n, .type m], b || c, rfl, hid_same _ _ a1, .cons (.ty n) (.cons (.ty m) .nil), .base (Dn.ty (Dn.mono hid_same k)), ?_, q _ _ (Same.refl _) (.bl _)⟩
  refine kitAny_cons (kit_ty h1) (fun hb => ?_) fun hb => by rw [hb]; rfl
  subst hb
  refine kitAny_cons (kit_ty h2) (fun hc => ?_) fun hc => by rw [hc]; rfl
  subst hc
  exact kitAny_nil
/-- an instance of Cc asked for Cc -/
theorem rc_isiC {Cc : Addr} (hP : ∀ H v, P.P H v → ∃ a dx fs, v = .ref a ∧ H a = some (.ins Cc dx fs)) : RC C (fun xs H Q => ∃ a dx fs, xs = [.ref a, .ref Cc] ∧ H a = some (.ins Cc dx fs) ∧ Q (.bl true) H) [P, Rf Cc] (DB true) := fun σ H vs e p Q q => by
  obtain ⟨v, w, rfl, k, z⟩ := p.two_inv
  have hw : w = .ref Cc := z
  subst hw
  obtain ⟨a, dx, fs, rfl, h⟩ := hP _ _ k
  exact ⟨a, dx, fs, rfl, hid_same _ _ h, q _ _ (Same.refl _) (.bl _)⟩
/-! ### further built-ins -/
theorem rc_min3 {i j k : Int} : RC C (rNuC3 nuMin3) [DI i, DI j, DI k] (DI (min (min i j) k)) := fun σ H vs e p Q q => by
  obtain ⟨v, w, u, rfl, h1, h2, h3⟩ := p.three_inv
  refine ⟨v, w, u, .int (min (min i j) k), rfl, ?_, q _ _ (Same.refl _) (.int _)⟩
  rw [Dn.int_inv h1, Dn.int_inv h2, Dn.int_inv h3]
  have e1 : nuMin2 (.int i) (.int j) = some (.int (min i j)) := by
    show some (if decide (j < i) = true then V.int j else V.int i) = _
    congr 1
    by_cases hij : j < i
    · rw [if_pos (decide_eq_true hij)]; congr 1; omega
    · rw [if_neg (by simpa using hij)]; congr 1; omega
  have e2 : nuMin2 (.int (min i j)) (.int k) = some (.int (min (min i j) k)) := by
    show some (if decide (k < min i j) = true then V.int k else V.int (min i j)) = _
    congr 1
    by_cases hij : k < min i j
    · rw [if_pos (decide_eq_true hij)]; congr 1; omega
    · rw [if_neg (by simpa using hij)]; congr 1; omega
  unfold nuMin3
  rw [e1]
  exact e2
theorem rcf_divmod {i j : Int} (h : CDiv i j) : RCF C (fun xs H Q => ∃ i j, xs = [.int i, .int j] ∧ CDiv i j ∧ ∀ p, H p = none → Q (.ref p) (upd H p (.tup [.int (i / j), .int (i % j)]))) [DI i, DI j] (TF [.int (i / j), .int (i % j)]) := fun σ H vs e p Q q => by
  obtain ⟨v, w, rfl, h1, h2⟩ := p.two_inv
  exact ⟨i, j, by rw [Dn.int_inv h1, Dn.int_inv h2], h, fun p hp => q _ p hp ⟨_, rfl, .cons (.int _) (.cons (.int _) .nil)⟩⟩
/-- sorted of tuples of d ints below B -/
def eT (ns : List Int) : PyData := .tuple (ns.map PyData.int)
theorem dn_eT {H : Hp} {v : V} {ns : List Int} (h : Dn H v (eT ns)) : ∃ t, v = .ref t ∧ H t = some (.tup (ns.map V.int)) := by
  obtain ⟨a, xs, rfl, h1, h2⟩ := Dn.tup_inv h
  have := h2.ints_inv
  subst this
  exact ⟨a, rfl, h1⟩
theorem dn_eT_mk {H : Hp} {t : Addr} {ns : List Int} (h : H t = some (.tup (ns.map V.int))) : Dn H (.ref t) (eT ns) := .tup h (DnAll.ints ns)
theorem eT_inj {ns ms : List Int} (h : eT ns = eT ms) : ns = ms := by
  have h1 : ns.map PyData.int = ms.map PyData.int := PyData.tuple.inj h
  exact (List.map_inj_right fun a b e => PyData.int.inj e).mp h1
end
end K74

set_option Elab.async false
set_option linter.all false
set_option maxRecDepth 100000
set_option maxHeartbeats 2000000
/-! Rules of my own over the library: max of a tuple, repr of data, list.remove of data, len(set(tuples)). -/
namespace K74
open PySem PySem.Spec PyProof.Rows L2
section
variable {X : Cx}
/-- max(t), t a tuple of ints -/
def rMaxT (K : PySem.W.Frag) : List V → Hp → VK → Prop := fun vs H Q => ∃ (a : Addr) (ns : List Int), vs = [V.ref a] ∧ SqT K H a (ns.map V.int) ∧ 0 < ns.length ∧ ∀ m, m ∈ ns → (∀ y, y ∈ ns → y ≤ m) → Q (.int m) H
theorem cr_maxT (hc : X.calm = true) : CallR X (.builtin "max") (rMaxT X.K) := by
  intro pins s σ H vs us Q I r h
  obtain ⟨a, ns, rfl, hs, hne, q⟩ := h
  obtain ⟨its, rv, ht, _⟩ := I.tuple hs
  rw [Vals.ref1 r]
  have hi : IntsAre its ns := rv.ints
  obtain ⟨xs, e⟩ := hi.allInts.items
  have hn : numsOf (intItems xs).toList = ns := by rw [← e]; exact hi.numsOf
  rw [nums_intItems] at hn
  have ht2 : s.heap.IsTuple a (intItems xs) := by rw [← e]; exact ht
  have hlt : a < s.heap.objs.size := by
    obtain ⟨_, q1, _⟩ := ht2
    exact Heap.lt_size q1
  have hsz : 0 < xs.size := by
    have := congrArg List.length hn
    simp at this
    omega
  refine call_max_walk (wpAny_pyIter_tuple ht2 ⟨s.heap.objs.size, [s.heap.objs.size, a], [s.heap.objs.size], (intItems xs).size, _, _, _, rfl,
    Walks.tuple (A := X.A.in1) (I.ok.hd hc) s.heap.objs.size a (Nat.ne_of_lt hlt) (intItems xs), ⟨⟨_, Heap.get?_push_size _ rfl, rfl, rfl⟩, ?_⟩, ?_, by simpa [intItems] using hsz,
    CmpOf.ints_gt (numAt xs) (fun _ _ => intItems_at), fun v h' tk hP hk => ?_⟩)
  · obtain ⟨o, q1, q2⟩ := ht2
    exact ⟨o, Heap.get?_push_of_some _ q1, q2⟩
  · intro b hb
    show b < (s.heap.push _).objs.size
    rw [Heap.size_push]
    rcases List.mem_cons.mp hb with z | hb
    · rw [z]; exact Nat.lt_succ_self _
    · rw [List.mem_singleton.mp hb]; exact Nat.lt_succ_of_lt hlt
  · have hP' : (intItems xs)[argBest (fun i j => decide (numAt xs i > numAt xs j)) (xs.size - 1)]? = some v := by simpa [intItems] using hP
    obtain ⟨t, rfl⟩ := intItems_at hP'
    obtain ⟨h1, h2⟩ := argBest_gt (numAt xs) (xs.size - 1)
    have hnum : ∀ i, i < xs.size → ns[i]? = some (numAt xs i) := fun i hi => by
      rw [← hn, List.getElem?_map]
      simp [numAt, hi]
    refine ⟨.int _, H, I.kept (t' := tk) fun b u e => hk b u (fun hmem => ?_) (Heap.get?_push_of_some _ e), ⟨t, rfl⟩, q _ ?_ fun y hy => ?_⟩
    · have e1 : b = s.heap.objs.size := List.mem_singleton.mp hmem
      have e2 := Heap.lt_size e
      rw [e1] at e2
      exact absurd e2 (Nat.lt_irrefl _)
    · exact List.mem_of_getElem? (hnum _ (by omega))
    · obtain ⟨i, hi⟩ := List.mem_iff_getElem?.mp hy
      have hlt2 : i < xs.size := by
        have := (List.getElem?_eq_some_iff.mp hi).1
        rw [← hn] at this
        simpa using this
      rw [hnum i hlt2] at hi
      have := Option.some.inj hi
      subst this
      exact h2 i (by omega)
/-- repr of data -/
def rReprD (K : PySem.W.Frag) : List V → Hp → VK → Prop := fun vs H Q => ∃ (a : Addr) (d : PyData), vs = [V.ref a] ∧ Dp K H (.ref a) d ∧ d.showable = true ∧ d.hasDict = false ∧ d.depth ≤ 60 ∧ d.shown.length ≤ sizeLine ∧ Q (.str d.shown) H
theorem cr_reprD (hg : X.A.guards = some []) (hu : X.A.units + 64 < cLine) : CallR X (.builtin "repr") (rReprD X.K) := by
  intro pins s σ H vs us Q I r h
  obtain ⟨a, d, rfl, hd, hs, hdi, hdp, hsz, q⟩ := h
  rw [Vals.ref1 r]
  obtain ⟨as, rd⟩ := Dp.reads I d (.ref a) (.ref a) hd rfl
  exact PySem.repr_of_reads' (h₀ := s.heap) rd hs (fun z => by rw [hdi] at z; cases z) hg (by omega) (fun _ _ e => e) (fun h' u tk hk => ⟨.str d.shown, H, I.kept (t' := tk) hk, ⟨u, rfl⟩, q⟩) hsz
/-- l.remove(x), x in l -/
def rRemD (K : PySem.W.Frag) : V → List V → Hp → VK → Prop := fun x xs H Q => ∃ (l : Addr) (vs : List V) (y : V) (d : PyData) (ds : List PyData) (j : Nat), x = .ref l ∧ xs = [y] ∧ H l = some (.lst vs) ∧ DpAll K H vs ds ∧ Dp K H y d ∧
  SeqAt.shaped (.list ds) = true ∧ SeqAt.shaped d = true ∧ SeqAt.dataPlace ds d = some j ∧ Q .non (upd H l (.lst (vs.eraseIdx j)))
theorem mt_removeD (hu : X.A.units + 65 < cLine) : MtM X "list.remove" (rRemD X.K) := by
  intro pins s σ H x xs v us Q I rx rxs h
  obtain ⟨l, vs, y, d, ds, j, rfl, rfl, hH, hds, hy, sl, sd, hj, q⟩ := h
  cases rx
  obtain ⟨u, rfl, ru⟩ := rxs.one
  obtain ⟨z, its, n, r, hl, e⟩ := I.lstM hH
  obtain ⟨bs, r1⟩ := Dp.reads I d y u hy ru
  obtain ⟨as, r2⟩ := Dp.readsAll I ds _ its hds r
  have hroom : X.A.units + 1 + min (PyData.depthAll ds) d.depth < cLine := room_in_shaped sd hu
  have hlen : vs.length = its.length := r.length
  have hp1 : PyData.plainAll ds = true := by
    have := PyData.plain_of_canLay0 (.list ds) (SeqAt.canLay_of_shaped sl)
    exact this
  refine SeqAt.remove_list_data (vs := its.toArray) (j := j) ⟨_, e, rfl, n, rfl⟩ (by simpa using r2) r1 hp1 (PyData.plain_of_canLay0 d (SeqAt.canLay_of_shaped sd)) hroom hj (by rw [List.size_toArray, ← hlen]; exact z) ?_
  refine ⟨.non, _, I.lset (its' := its.eraseIdx j) (t' := s.toks) hH e ?_ (r.eraseIdx j) ?_, rfl, q⟩
  · show its.toArray.eraseIdxIfInBounds j = (its.eraseIdx j).toArray
    rw [List.eraseIdxIfInBounds_toArray]
  · exact Nat.le_trans (List.length_eraseIdx_le _ _) z
/-- len(set(xs)), xs a list of tuples of ints -/
def tLenSetT (K : PySem.W.Frag) (ta : TE) : TE := fun σ H Q => ta σ H fun x H1 => ∃ (l : Addr) (ks : List (Addr × List Int)), x = V.ref l ∧ SqL K H1 l (ks.map fun p => V.ref p.1) ∧ (∀ p ∈ ks, SqT K H1 p.1 (p.2.map V.int)) ∧ ks.length < 64 ∧ (ks.map (·.2)).Nodup ∧ Q (.int ks.length) H1
theorem pe_lenSetT {a : Expr} {ta : TE} {p p2 q pos : Pos} (hc : X.calm = true) (hu : X.A.units + 64 < cLine) (hg : Gl X "len") (hm : X.mg "len" = none) (hg2 : Gl X "set") (hm2 : X.mg "set" = none) (ha : PE X a ta)
    (na : starEach [a] X.env = (false, eval a X.env) :: starEach [] X.env := by rfl) : PE X (.Call (.Name "len" p) [.Call (.Name "set" p2) [a] [] q] [] pos) (tLenSetT X.K ta) := by
  refine ⟨fun pins s σ H Q I h => Call_ (ld_blt I hg hm PySem.boot_len ?_)⟩
  refine PyProof.Rows.callWith_builtin1 (PyProof.Rows.args_cons ?_ rfl) rfl rfl
  refine Call_ (ld_blt I hg2 hm2 PyProof.Rows.boot_set ?_)
  refine PyProof.Rows.callWith_type1 (PyProof.Rows.args_cons (thn (ha.run pins s σ H _ I h) fun v s1 hx => PyProof.Rows.args_nil ?_) na) na rfl
  obtain ⟨x, H1, I1, r1, l, ks, rfl, hl, hk, hf, hnd, q1⟩ := hx
  cases r1
  obtain ⟨its, rv, pl, hz⟩ := I1.list hl
  refine call_set_tups (P := X.prog) (w := X.w) ks (I1.ok.hd hc) pl.isList (by simpa using refs_of_vals rv) (fun p hp => I1.isT (hk p hp)) hf (by omega) fun h' tk L es ep t R g k => ?_
  refine PyProof.Rows.args_nil ?_
  have I2 : Inv X pins σ H1 { s1 with heap := h', toks := tk } := I1.kept k
  obtain ⟨o, ho, hex, hd⟩ := R.ob
  have hlen : L.length = ks.length := by
    have h1 : ∀ p ∈ L.map (·.2), p ∈ ks.map (·.2) := fun p hp => by
      obtain ⟨z, hz1, rfl⟩ := List.mem_map.mp hp
      exact List.mem_map.mpr ⟨z, List.mem_of_mem_take (g.sub z hz1), rfl⟩
    have h2 : ∀ p ∈ ks.map (·.2), p ∈ L.map (·.2) := fun p hp => by
      obtain ⟨z, hz1, rfl⟩ := List.mem_map.mp hp
      exact g.all z (by rw [List.take_length]; exact hz1)
    have p1 := (List.perm_ext_iff_of_nodup R.nd hnd).mpr fun a => ⟨h1 a, h2 a⟩
    have := p1.length_eq
    simpa using this
  have hsz : es.size = ks.length := by rw [SetTR.size (s := { s1 with heap := h', toks := tk }) R, hlen]
  exact call_len_set ho hex hd (SetTR.fits (s := { s1 with heap := h', toks := tk }) R) (by rw [hsz]; omega) ⟨.int ks.length, H1, I2.tok _, ⟨_, by rw [hsz]⟩, q1⟩
end
end K74

set_option Elab.async false
set_option linter.all false
set_option maxRecDepth 100000
set_option maxHeartbeats 2000000
/-! Defs that are run where no repr is under way (the guards are known to be none): for the two defs of the law that call repr. -/
namespace K74
open PySem PySem.Spec PyProof.Rows L2
/-- a def's promise, kept where no guard is held -/
structure FnG (P : Program) (w : World) (K : PySem.W.Frag) (mg : PySem.Str → Option Value) (base : Heap) (k : Nat) (f : Addr) (ps : List PySem.Str) (fd : FuncData) (sp : Sp) : Prop where
  sz : ∀ vs H Q E, sp vs H Q E → vs.length = ps.length
  go : ∀ (A : Around), A.guards = some [] → Room k A → ∀ (outer : List PySem.Env) (s : Shared) (H : Hp) (args : Args) (us : List Value) (vs : List V) (Q : VK) (E : XK), Env0 P w K mg base A outer s H →
    BindsTo s fd args (ps.zip us) → Vals vs us → sp vs H Q E → codeAny (model P w) A (.call (.ref f) args) (CR CX0 outer P w H s Q E) s
theorem FnG.of {P : Program} {w : World} {K : PySem.W.Frag} {mg : PySem.Str → Option Value} {base : Heap} {k : Nat} {f : Addr} {fd : FuncData} {x qual : PySem.Str} {st : Stmt} {N ps : List PySem.Str} {sp : Sp} (F : Fun K x qual st f fd) (S : FnScope N ps (defScope st))
    (hlen : ∀ vs H Q E, sp vs H Q E → vs.length = ps.length)
    (hbody : ∀ (cdv : Value) (A : Around) (outer : List PySem.Env) (s : Shared) (H : Hp) (E : XK), A.guards = some [] → Room k (A.deeper (envOfC qual (defScope st) s.heap.objs.size f cdv)) →
      ∃ t, PSs (cxOf CX0 P w K mg base N qual (defScope st) f cdv A outer s H E) (defBody st) t ∧ ∀ vs Q, sp vs H Q E → t { nx := fun _ H' => Q .non H', rt := Q } (L2.start N vs) H) : FnG P w K mg base (k + 1) f ps fd sp := by
  obtain ⟨oc, od, kV, doc, pm, an, cdv, ct, osl, rfl, lk, hcd⟩ := F.ex
  refine ⟨hlen, ?_⟩
  intro A hg hr outer s H args us vs Q E e0 hb rv hsp
  -- the written part stands
  have old : ∀ b o, base.get? b = some o → s.heap.get? b = some o := fun b o e => (e0.bs b o e).1
  have KX : K.In s.heap := e0.mod.kin.keeps old
  obtain ⟨t, ht, hq⟩ := hbody cdv A outer s H E hg (hr.deeper _)
  have hk : ∀ y ∈ ps.zip us, (defScope st).names.lookup y.1 = some .local ∨ ((defScope st).names.lookup y.1 = some .cell ∧ ((cellsFrom (s.heap.objs.size + 1) (defScope st).names []).lookup y.1).isSome = true) := by
    intro y hy
    have hm : y.1 ∈ ps := (List.of_mem_zip (a := y.1) (b := y.2) hy).1
    rcases S.par y.1 hm with z | z
    · exact Or.inl z
    · exact Or.inr ⟨z, PySem.W.cellsFrom_some _ _ _ (.inl z)⟩
  refine codeAny_call_function hr.depth (KX _ _ lk) rfl S.co S.gen rfl (PySem.W.codeRec_of KX hcd) (hb _ _ _ _ (wpAny_newFunctionEnv_cells S.kind hk ?_))
  intro env he s1 hx
  subst he
  refine ⟨(e0.mod.nolimit.keeps old).keeps hx.toInCall.keep, codeAny_func ?_⟩
  have I0 := inv_start (CX := CX0) (E := E) (cd := cdv) S hr.hd e0 (hlen _ _ _ _ hsp) rv hx
  refine wpAny_mono (ht.run [] s1 _ H _ I0 (hq vs Q hsp)) ?_ fun _ _ z => z
  intro fl s' hs
  cases fl with
  | next =>
    obtain ⟨_, H', J, q⟩ := hs
    exact ⟨V.non, H', J.os, J.bare, J.base, J.hok, rfl, q⟩
  | ret u =>
    obtain ⟨v, _, H', J, r', q⟩ := hs
    exact ⟨v, H', J.os, J.bare, J.base, J.hok, r', q⟩
  | brk => obtain ⟨_, _, _, q⟩ := hs; exact q.elim
  | cont => obtain ⟨_, _, _, q⟩ := hs; exact q.elim
section
variable {X : Cx} {k : Nat} {f : Addr} {fd : FuncData} {ps : List PySem.Str} {sp : Sp} {x : PySem.Str} {p pos : Pos} {e : Expr} {es : List Expr} {t : TA}
/-- a call of such a def, from a body that runs where no guard is held -/
theorem pe_callG (F : FnG X.prog X.w X.K X.mg X.base k f ps fd sp) (hgd : X.A.guards = some []) (hr : Room k X.A) (hg : Gl X x) (hm : X.mg x = some (.ref f)) (hk : PySem.W.keepIn X.K (.ref f) = true) (hb : Binds X.K fd ps [])
    (ha : PA X (e :: es) t) (hdb : (x == ("__debug__" : PySem.Str)) = false := by decide) (he : starEach (e :: es) X.env = (false, eval e X.env) :: starEach es X.env := by rfl) (hpl : (backTo pos (starEach es X.env)).any (·.1) = false := by rfl) :
    PE X (.Call (.Name x p) (e :: es) [] pos) (tCall sp [] E0 t) := by
  constructor
  intro pins s σ H Q I h
  refine wpAny_Call_Name_kw (ld_glob I hg hm ?_ hdb)
  refine PySem.W.callWith_K (h₀ := X.base) I.ok.mod.kin hk (thn (ha.run pos pins s σ H _ I h) ?_) he hpl
  rintro us s1 ⟨vs, H1, I1, rv, q⟩
  refine ⟨I1.kIn, ?_⟩
  rw [List.append_nil] at q
  have hl : us.length = ps.length := by rw [← rv.length]; exact F.sz _ _ _ _ q
  have hb' := hb s1 us I1.kIn (by rw [List.append_nil]; exact hl)
  rw [List.append_nil] at hb'
  refine wpAny_call (codeAny_mono (F.go X.A hgd hr X.stack s1 H1 ⟨us, []⟩ us vs Q E0 I1.env0 hb' rv q) ?_)
  intro r s2 hq
  cases r with
  | error ev => exact hq.elim
  | ok fl =>
    cases fl with
    | ret u => exact I1.after hq
    | next => exact hq.elim
    | brk => exact hq.elim
    | cont => exact hq.elim
end
/-- the law's own call, from such a promise of it: the script stands frozen, or in the written part -/
theorem law_go {P : Program} {w : World} {K : PySem.W.Frag} {mg mb : PySem.Str → Option Value} {k : Nat} {fa a : Addr} {fd : FuncData} {x : PySem.Str} {sp : Sp} {s : Shared} {its : List Value} {ns : List Int}
    (KX : K.In s.heap) (hns : s.heap.Ns mainGlobals mg) (hb : s.heap.Ns builtinsNs mb) (hbb : ∀ x : PySem.Str, x ≠ "__name__" → mb x = bootBuiltins x) (hlim : s.heap.NoLimit) (hgens : s.gens = #[])
    (ha : s.heap.get? a = some { cls := .type "list", data := .seq its.toArray }) (hi : IntsAre its ns) (hl : ns.length ≤ sizeLine) (hr : Room k callerA)
    (F : ∀ base : Heap, K.In base → base.Ns mainGlobals mg → FnG P w K mg base k fa [x] fd sp) (hbind : ∀ (s : Shared) (u : Value), BindsTo s fd ⟨[u], []⟩ [(x, u)])
    (hsp : ∀ H : Hp, SqL K H a (ns.map V.int) → sp [.ref a] H (fun v _ => v = .bl true) fun _ _ _ => False) :
    codeAny (model P w) callerA (.call (.ref fa) ⟨[.ref a], []⟩) (fun r s' => r = .ok (.ret (.bool true)) ∧ OldK s.heap s'.heap ∧ s'.os = s.os ∧ AllBare s'.gens) s := by
  have rv := vals_ints hi
  let O : Obj := { cls := .type "list", data := .seq its.toArray }
  -- H tracks the script alone, frozen, or nothing
  have main : ∀ H : Hp, (∀ b u, H b = some u → b = a ∧ u = .frz O (.lst (ns.map V.int)) ∧ K.lookup a = none) → SqL K H a (ns.map V.int) →
      codeAny (model P w) callerA (.call (.ref fa) ⟨[.ref a], []⟩) (fun r s' => r = .ok (.ret (.bool true)) ∧ OldK s.heap s'.heap ∧ s'.os = s.os ∧ AllBare s'.gens) s := by
    intro H hH hS
    have hok : HOk P w H s.heap := fun b u e => by
      obtain ⟨rfl, rfl, _⟩ := hH b u e
      exact ⟨ha, by rw [List.length_map]; exact hl, its, _, rv, ha⟩
    have stay : ∀ {b : Addr} {o : Obj}, s.heap.get? b = some o → b ≠ a → (hidT s.heap H).get? b = some o := fun {b o} e n => hidT_get e (by
      cases q : H b with
      | none => rfl
      | some u => exact absurd (hH b u q).1 n)
    have dictNe : ∀ {b : Addr} {o : Obj} {es : Array DictEntry} {ep : Nat}, s.heap.get? b = some o → o.data = .dict es ep → b ≠ a := fun {b o es ep} e d z => by
      subst z
      rw [ha] at e
      cases e
      cases d
    have nsT : ∀ {b : Addr} {m : PySem.Str → Option Value}, s.heap.Ns b m → (hidT s.heap H).Ns b m := fun {b m} z => by
      obtain ⟨o, es, ep, e, d, r⟩ := z
      exact ⟨o, es, ep, stay e (dictNe e d), d, r⟩
    have kT : K.In (hidT s.heap H) := fun b o e => hidT_get (KX b o e) (by
      cases q : H b with
      | none => rfl
      | some u =>
        obtain ⟨rfl, _, z⟩ := hH b u q
        rw [z] at e
        cases e)
    have md : Mod K mg (hidT s.heap H) := ⟨kT, nsT hns, ⟨mb, nsT hb, hbb⟩, by obtain ⟨mc, h1, h2⟩ := hlim; exact ⟨mc, nsT h1, h2⟩⟩
    have e0 : Env0 P w K mg (hidT s.heap H) callerA [] s H := by
      refine ⟨rfl, md, fun b o e => of_hidT e, by rw [hidT_size]; exact Nat.le_refl _, trivial, ?_, hok, .of_eq hgens⟩
      intro b hb
      cases hb
    refine codeAny_mono ((F _ kT (nsT hns)).go callerA rfl hr [] s H ⟨[.ref a], []⟩ [.ref a] [.ref a] _ _ e0 (hbind s (.ref a)) (.cons rfl .nil) (hsp H hS)) ?_
    intro r s' h
    cases r with
    | error ev => exact h.elim
    | ok fl =>
      cases fl with
      | next => exact h.elim
      | brk => exact h.elim
      | cont => exact h.elim
      | ret u =>
        obtain ⟨v, H', os, bare, un, hok', ru, q⟩ := h
        have q' : v = .bl true := q
        subst q'
        obtain rfl : u = Value.bool true := ru
        refine ⟨rfl, OldK.of_keep fun b o e => ?_, os, bare⟩
        cases qb : H b with
        | none => exact un.keep b o e qb (fun z => by cases z) (fun z => by cases z)
        | some u =>
          obtain ⟨rfl, rfl, _⟩ := hH b u qb
          have q1 := (hok' b _ (un.frzs b _ _ qb)).1
          rw [ha] at e
          cases e
          exact q1
  cases hk : K.lookup a with
  | none =>
    refine main (fun b => if b = a then some (.frz O (.lst (ns.map V.int))) else none) (fun b u e => ?_) (.inl (.inr ⟨O, if_pos rfl⟩))
    by_cases hb : b = a
    · rw [if_pos hb] at e
      cases e
      exact ⟨hb, rfl, hk⟩
    · rw [if_neg hb] at e
      cases e
  | some o =>
    have e := KX a o hk
    rw [ha] at e
    cases e
    exact main (fun _ => none) (fun b u e => by cases e) (.inr ⟨_, its.toArray, _, hk, rfl, rfl, rfl, by rw [List.size_toArray, hi.length]; exact hl, by simpa using rv⟩)
/-- the end of the row -/
theorem walk_go {l : PySem.W.OpenLaw} {n k : Nat} {q : Program} {loose : List PySem.Str} {XP : (PySem.Str → Option Value) → Heap → Prop} {YP : World → Heap → Prop} {d : DefRec} {K : Params → PySem.W.Frag} {sp : PySem.W.Frag → Sp} {x : PySem.Str}
    (hn : l.most = some n) (hn2 : n ≤ sizeLine) (hdf : d.params.defaults = []) (hr : Room k callerA) (hY : ∀ (w : World) (h : Heap), YP w h → (K w.params).In h)
    (F : ∀ (w : World) (mg : PySem.Str → Option Value) (fa : Addr) (h : Heap), (K w.params).In h → h.Ns mainGlobals mg → mg d.name = some (.ref fa) →
      ∃ fd : FuncData, (∀ (s : Shared) (u : Value), BindsTo s fd ⟨[u], []⟩ [(x, u)]) ∧ ∀ base : Heap, (K w.params).In base → base.Ns mainGlobals mg → FnG l.prog w (K w.params) mg base k fa [x] fd (sp (K w.params)))
    (hsp : ∀ (K : PySem.W.Frag) (H : Hp) (a : Addr) (ns : List Int), ns.length ≤ n → SqL K H a (ns.map V.int) → sp K [.ref a] H (fun v _ => v = .bl true) fun _ _ _ => False) :
    PySem.W.WalkO q loose XP YP l.row.toRowW d [] (fun f vs => PySem.call f vs) := by
  refine Att.attach_call hn hdf ?_
  intro w s₀ s₁ mg mb fa o pm cd doc a vs ns G Y ho hd hcd hmg hobj hints hlen hg
  have KX := hY w _ Y
  obtain ⟨fd, hb, hF⟩ := F w mg fa _ KX G.T.g hmg
  exact law_go KX G.T.g G.T.b G.T.builtins G.T.nolimit hg hobj hints (Nat.le_trans hlen hn2) hr hF hb fun H hS => hsp _ H a ns hlen hS
end K74

set_option Elab.async false
set_option linter.all false
set_option maxRecDepth 100000
set_option maxHeartbeats 1000000
namespace K74
open PySem L2
open PyProof.Rows (envOfC)
section
variable {C C1 C2 C3 C' : Ct} {ta tb' te tl : TE} {P P' R T : PP} {F : FF} {K : PySem.W.Frag} {D' : Ends} {tu tw tz tb : TS} {g : TG}
theorem xv_removeD {l : Addr} {ds : List PyData} {k j : Nat} {d : PyData} (ho : Xv C ta (Rf l) C) (he : Xv C te (D d) C1) (h0 : C.mm[k]? = some (l, LF ds)) (hk : C1.mm[k]? = some (l, LF ds)) (s1 : SeqAt.shaped (.list ds) = true) (s2 : SeqAt.shaped d = true) (hj : SeqAt.dataPlace ds d = some j) :
    Xv C (tBM K "list" (rRemD K) ta (tCons te tNil)) (D .none) (C1.mut k l (LF (ds.eraseIdx j))) := by
  refine ⟨(Ct.mut_M hk).trans he.1, fun σ H e Q q => ho.2 σ H e _ fun x H1 t1 e1 p1 => ?_⟩
  have hx : x = .ref l := p1
  subst hx
  obtain ⟨o, h1, xs, rfl, h2⟩ := e1.mu (l, LF ds) (List.mem_of_getElem? h0)
  refine ⟨tyl h1, he.2 σ H1 e1 _ fun y H2 t2 e2 p2 => ?_⟩
  obtain ⟨o, h3, xs, rfl, h4⟩ := e2.mu (l, LF ds) (List.mem_of_getElem? hk)
  have p2' : Dn (hid C1.M H2) y d := by rw [he.1]; exact p2
  have hm : l ∈ C1.M := List.mem_append_left _ (List.mem_map.mpr ⟨_, List.mem_of_getElem? hk, rfl⟩)
  have e3 := e2.write (F' := LF (ds.eraseIdx j)) (o := .lst (xs.eraseIdx j)) hk ⟨_, rfl, h4.eraseIdx j⟩
  refine ⟨l, xs, y, d, ds, j, rfl, rfl, h3, (h4.mono hid_same).dp, (p2'.mono hid_same).dp, s1, s2, hj, q _ _ ?_ e3 .non⟩
  rw [hid_upd (M := C.M) (by rw [← he.1]; exact hm)]
  exact t1.trans t2
theorem rc_reprD {ds : List PyData} (h : Vl C P ds) (hs : (PyData.list ds).showable = true) (hd : (PyData.list ds).hasDict = false) (hp : (PyData.list ds).depth ≤ 60) (hz : (PyData.list ds).shown.length ≤ sizeLine) : RC C (rReprD K) [P] (D (.str (PyData.list ds).shown)) := fun σ H vs e p Q q => by
  obtain ⟨v, rfl, k⟩ := p.one_inv
  obtain ⟨a, xs, rfl, h1, h2⟩ := h σ H v e k
  exact ⟨a, .list ds, rfl, (Dn.lst h1 (h2.mono hid_same)).dp, hs, hd, hp, hz, q _ _ (Same.refl _) (.str _)⟩
theorem rc_maxT {ns : List Int} {m : Int} (hm : ∀ k, k ∈ ns → (∀ j ∈ ns, j ≤ k) → k = m) (h0 : 0 < ns.length) : RC C (rMaxT K) [D (eT ns)] (DI m) := fun σ H vs e p Q q => by
  obtain ⟨v, rfl, k⟩ := p.one_inv
  obtain ⟨t, rfl, h⟩ := dn_eT (Dn.mono hid_same k)
  refine ⟨t, ns, rfl, .inl (.inl h), h0, fun k hk hl => ?_⟩
  rw [hm k hk hl]
  exact q _ _ (Same.refl _) (.int _)
/-- the tuples of a list of tuples of ints, with their places -/
theorem dn_eTs {H : Hp} : ∀ {vs : List V} {items : List (List Int)}, DnAll H vs (items.map eT) → ∃ ks : List (Addr × List Int), vs = ks.map (fun p => V.ref p.1) ∧ ks.map (·.2) = items ∧ ∀ p ∈ ks, H p.1 = some (.tup (p.2.map V.int))
  | _, [], .nil => ⟨[], rfl, rfl, fun p hp => nomatch hp⟩
  | _, ns :: r, .cons h q => by
    obtain ⟨t, rfl, ht⟩ := dn_eT h
    obtain ⟨ks, rfl, h2, h3⟩ := dn_eTs q
    refine ⟨(t, ns) :: ks, rfl, by rw [List.map_cons, h2], fun p hp => ?_⟩
    rcases List.mem_cons.mp hp with e | hp
    · subst e; exact ht
    · exact h3 p hp
theorem dn_of_eTs {H : Hp} : ∀ {ks : List (Addr × List Int)}, (∀ p ∈ ks, H p.1 = some (.tup (p.2.map V.int))) → DnAll H (ks.map fun p => V.ref p.1) (ks.map fun p => eT p.2)
  | [], _ => .nil
  | p :: r, h => .cons (dn_eT_mk (h p List.mem_cons_self)) (dn_of_eTs fun q hq => h q (List.mem_cons_of_mem _ hq))
theorem xv_lenSetT {items : List (List Int)} (h : Xv C ta P C1) (hv : Vl C1 P (items.map eT)) (hl : items.length < 64) (hn : items.Nodup) : Xv C (tLenSetT K ta) (DI (items.length : Nat)) C1 := ⟨h.1, fun σ H e Q q => h.2 σ H e _ fun x H1 s1 e1 p1 => by
  obtain ⟨a, xs, rfl, h1, h2⟩ := hv σ H1 x e1 (by rw [h.1]; exact p1)
  obtain ⟨ks, rfl, k2, k3⟩ := dn_eTs h2
  have hlen : ks.length = items.length := by rw [← k2, List.length_map]
  refine ⟨a, ks, rfl, .inl (.inl h1), fun p hp => .inl (.inl (hid_same _ _ (k3 p hp))), by omega, by rw [k2]; exact hn, ?_⟩
  rw [hlen]
  exact q _ H1 s1 e1 (.int _)⟩
theorem rcf_sortT {d : Nat} {B : Int} {items ms : List (List Int)} (h : Vl C P (items.map eT)) (hl : items.length < 64) (hb : ∀ ns ∈ items, ns.length = d ∧ TS.Bd B ns)
    (hm : ∀ ks : List (List Int), ks.Perm items → ks.Pairwise (fun x y => TS.code B x ≤ TS.code B y) → ks = ms) : RCF C (rSortU K d B) [P] (LF (ms.map eT)) := fun σ H vs e p Q q => by
  obtain ⟨v, rfl, k⟩ := p.one_inv
  obtain ⟨a, xs, rfl, h1, h2⟩ := h σ H v e k
  obtain ⟨ks, rfl, k2, k3⟩ := dn_eTs h2
  have k3' : ∀ p ∈ ks, H p.1 = some (.tup (p.2.map V.int)) := fun p hp => hid_same _ _ (k3 p hp)
  have hlen : ks.length = items.length := by rw [← k2, List.length_map]
  refine ⟨a, _, rfl, .inl (.inl h1), by rw [List.length_map]; omega, fun x hx => ?_, fun ys p hp hs hn => ?_⟩
  · obtain ⟨z, hz, rfl⟩ := List.mem_map.mp hx
    obtain ⟨b1, b2⟩ := hb z.2 (by rw [← k2]; exact List.mem_map.mpr ⟨z, hz, rfl⟩)
    exact ⟨z.2, ⟨z.1, rfl, .inl (.inl (k3' z hz))⟩, b1, b2⟩
  · -- the sorted list's own places
    have hex : ∀ ys : List V, (∀ y ∈ ys, y ∈ ks.map fun p => V.ref p.1) → ∃ ks' : List (Addr × List Int), ys = ks'.map (fun p => V.ref p.1) ∧ ∀ z ∈ ks', H z.1 = some (.tup (z.2.map V.int)) ∧ hid C.M H z.1 = some (.tup (z.2.map V.int)) := by
      intro ys
      induction ys with
      | nil => intro _; exact ⟨[], rfl, fun z hz => nomatch hz⟩
      | cons y r ih =>
        intro hy
        obtain ⟨z, hz, e1⟩ := List.mem_map.mp (hy y List.mem_cons_self)
        obtain ⟨ks', e2, h3⟩ := ih fun y hy' => hy y (List.mem_cons_of_mem _ hy')
        refine ⟨z :: ks', by rw [List.map_cons, ← e1, ← e2], fun w hw => ?_⟩
        rcases List.mem_cons.mp hw with e | hw
        · rw [e]; exact ⟨k3' z hz, k3 z hz⟩
        · exact h3 w hw
    obtain ⟨ks', rfl, k4⟩ := hex ys fun y hy => hp.mem_iff.mp hy
    have inj : ∀ z ∈ ks', ∀ w ∈ ks, z.1 = w.1 → z.2 = w.2 := fun z hz w hw e1 => by
      have q1 := (k4 z hz).1
      have q2 := k3' w hw
      rw [e1, q2] at q1
      have q3 : w.2.map V.int = z.2.map V.int := HO.tup.inj (Option.some.inj q1)
      exact ((List.map_inj_right fun a b e => V.int.inj e).mp q3).symm
    have look : ∀ ks'' : List (Addr × List Int), (∀ z ∈ ks'', H z.1 = some (.tup (z.2.map V.int))) → ks''.map (·.2) = (ks''.map fun p => V.ref p.1).map fun v => match v with | .ref a => (match H a with | some (.tup xs) => xs.map (fun x => match x with | .int i => i | _ => 0) | _ => []) | _ => [] := by
      intro ks''
      induction ks'' with
      | nil => intro _; rfl
      | cons z r ih =>
        intro hz
        rw [List.map_cons, List.map_cons, List.map_cons, ← ih fun w hw => hz w (List.mem_cons_of_mem _ hw)]
        congr 1
        show z.2 = match H z.1 with | some (.tup xs) => xs.map (fun x => match x with | .int i => i | _ => 0) | _ => []
        rw [hz z List.mem_cons_self]
        show z.2 = (z.2.map V.int).map _
        rw [List.map_map]
        exact (List.map_id _).symm
    have perm2 : (ks'.map (·.2)).Perm items := by
      rw [← k2, look ks' fun z hz => (k4 z hz).1, look ks k3']
      exact hp.map _
    have srt : (ks'.map (·.2)).Pairwise (fun x y => TS.code B x ≤ TS.code B y) := by
      rw [List.pairwise_map] at hs ⊢
      refine List.Pairwise.imp_of_mem (fun {z w} hz hw hzw => ?_) hs
      exact hzw z.2 w.2 ⟨z.1, rfl, .inl (.inl (k4 z hz).1)⟩ ⟨w.1, rfl, .inl (.inl (k4 w hw).1)⟩
    have hms := hm _ perm2 srt
    refine q _ p hn ⟨_, rfl, ?_⟩
    rw [← hms, List.map_map]
    exact dn_of_eTs fun z hz => (k4 z hz).2
/-- sorted(set(xs)) -/
theorem xf_sortedSet {Pg : Program} {w : World} {d : Nat} {B : Int} {items ms : List (List Int)} (h : Xv C ta P C1) (hv : Vl C1 P (items.map eT)) (hl : items.length < 64) (hd : 1 ≤ d) (hb : ∀ ns ∈ items, ns.length = d ∧ TS.Bd B ns)
    (hm : ∀ ks : List (List Int), (∀ k, k ∈ ks ↔ k ∈ items) → ks.Nodup → ks.Pairwise (fun x y => TS.code B x ≤ TS.code B y) → ks = ms) :
    Xf C (tCB (rSortedT K Pg w) (tCons (tCB (rSetOfT K Pg w) (tCons ta tNil)) tNil)) (LF (ms.map eT)) C1 := ⟨h.1, fun σ H e Q q => h.2 σ H e _ fun x H1 s1 e1 p1 => by
  obtain ⟨a, xs, rfl, h1, h2⟩ := hv σ H1 x e1 (by rw [h.1]; exact p1)
  obtain ⟨ks, rfl, k2, k3⟩ := dn_eTs h2
  have hlen : ks.length = items.length := by rw [← k2, List.length_map]
  refine ⟨a, ks, rfl, .inl (.inl h1), fun p hp => .inl (.inl (hid_same _ _ (k3 p hp))), by omega, fun b L hb0 g1 g2 => ?_⟩
  have s2 := same_upd (o := SetTO Pg w b L) hb0
  have k4 : ∀ p ∈ L, hid C1.M (upd H1 b (SetTO Pg w b L)) p.1 = some (.tup (p.2.map V.int)) := fun p hp => hid_mono s2 _ _ (k3 p (g1 p hp))
  refine ⟨b, L, d, B, rfl, upd_same, fun p hp => .inl (.inl (hid_same _ _ (k4 p hp))), hd, fun p hp => hb p.2 ?_, fun L' p pm nd _ srt hn => ?_⟩
  · rw [← k2]; exact List.mem_map.mpr ⟨p, g1 p hp, rfl⟩
  · have hms := hm (L'.map (·.2)) (fun k => ?_) nd (by rw [List.pairwise_map]; exact srt)
    · have e2 := e1.mono s2
      refine Xf.mk (C := C1) (F := LF (ms.map eT)) e2 ⟨_, rfl, ?_⟩ (fun l H' s e' => q l H' ?_ e') hn
      · rw [← hms, List.map_map]
        exact dn_of_eTs fun z hz => k4 z (pm.mem_iff.mp hz)
      · rw [h.1] at s
        exact (s1.trans (hid_mono s2)).trans s
    · rw [← k2]
      refine ⟨fun hk => ?_, fun hk => ?_⟩
      · obtain ⟨z, hz, rfl⟩ := List.mem_map.mp hk
        exact List.mem_map.mpr ⟨z, g1 z (pm.mem_iff.mp hz), rfl⟩
      · obtain ⟨z, hz, rfl⟩ := List.mem_map.mp hk
        obtain ⟨y, hy, ey⟩ := List.mem_map.mp (g2 z hz)
        exact List.mem_map.mpr ⟨y, pm.mem_iff.mpr hy, ey⟩⟩
/-! ### own classes: an instance while its __init__ runs, and behind -/
def InsP (Cc dx : Addr) (fs : List (PySem.Str × PP)) (H : Hp) (o : HO) : Prop := ∃ vs : List (PySem.Str × V), o = .ins Cc dx vs ∧ vs.map (·.1) = fs.map (·.1) ∧ Fa H (fs.map (·.2)) (vs.map (·.2))
theorem InsP.mono {Cc dx : Addr} {fs : List (PySem.Str × PP)} {H H' : Hp} {o : HO} (s : Same H H') (h : InsP Cc dx fs H o) : InsP Cc dx fs H' o := by
  obtain ⟨vs, e, k, r⟩ := h
  exact ⟨vs, e, k, r.mono s⟩
def InsF (Cc dx : Addr) (fs : List (PySem.Str × PP)) : FF := ⟨InsP Cc dx fs, InsP.mono⟩
/-- an instance of Cc with such attributes -/
def Ob (Cc : Addr) (fs : List (PySem.Str × PP)) : PP := ⟨fun H v => ∃ x dx o, v = .ref x ∧ H x = some o ∧ (InsF Cc dx fs).P H o, fun s ⟨x, dx, o, e, h, r⟩ => ⟨x, dx, o, e, s _ _ h, FF.mono _ s r⟩⟩
theorem ins_look {H : Hp} : ∀ {fs : List (PySem.Str × PP)} {vs : List (PySem.Str × V)} {f : PySem.Str} {R : PP}, vs.map (·.1) = fs.map (·.1) → Fa H (fs.map (·.2)) (vs.map (·.2)) → fs.lookup f = some R → ∃ u, vs.lookup f = some u ∧ R.P H u
  | [], _, f, R, _, _, h => by cases h
  | (g, P) :: fs, [], f, R, h, _, _ => by simp at h
  | (g, P) :: fs, (g', v) :: vs, f, R, h1, h2, h3 => by
    rw [List.map_cons, List.map_cons] at h1
    have hg : g' = g := (List.cons.inj h1).1
    subst hg
    cases h2 with
    | cons p r =>
      by_cases e : f = g'
      · subst e
        rw [List.lookup_cons_self] at h3
        cases h3
        exact ⟨v, by rw [List.lookup_cons_self], p⟩
      · have hb : (f == g') = false := beq_eq_false_iff_ne.mpr e
        rw [List.lookup_cons, hb] at h3
        rw [List.lookup_cons, hb]
        exact ins_look (List.cons.inj h1).2 r h3
theorem Ob.atr {Cc : Addr} {fs : List (PySem.Str × PP)} {f : PySem.Str} {R : PP} (h : fs.lookup f = some R) : Atr Cc (Ob Cc fs) f R := fun H v p => by
  obtain ⟨x, dx, o, rfl, h1, vs, rfl, h2, h3⟩ := p
  obtain ⟨u, q1, q2⟩ := ins_look h2 h3 h
  exact ⟨x, dx, vs, u, rfl, h1, q1, q2⟩
theorem Ob.ins {Cc : Addr} {fs : List (PySem.Str × PP)} : ∀ H v, (Ob Cc fs).P H v → ∃ a dx vs, v = .ref a ∧ H a = some (.ins Cc dx vs) := fun H v p => by
  obtain ⟨x, dx, o, rfl, h1, vs, rfl, h2, h3⟩ := p
  exact ⟨x, dx, vs, rfl, h1⟩
theorem Ob.rf {Cc : Addr} {fs : List (PySem.Str × PP)} : ∀ H v, (Ob Cc fs).P H v → ∃ a, v = .ref a := fun H v p => by
  obtain ⟨x, dx, o, rfl, _⟩ := p
  exact ⟨x, rfl⟩
/-- the promise of an __init__: from the arguments to what the instance is behind it -/
def spN (Cc : Addr) (R : List PP → PP → Prop) : Sp := fun vs H Q _ => ∃ (x dx : Addr) (us : List V) (M0 : List Addr) (Ps : List PP) (T : PP), vs = .ref x :: us ∧ R Ps T ∧ H x = some (.ins Cc dx []) ∧ H dx = some (.own x) ∧ dx ≠ x ∧ x ∉ M0 ∧ dx ∉ M0 ∧
  (∀ l ∈ M0, ∃ o, H l = some o) ∧ Fa (hid M0 (hid [x, dx] H)) Ps us ∧ ∀ H', Same (hid [x, dx] H) H' → T.P (hid M0 H') (.ref x) → Q .non H'
theorem xv_make {Cc : Addr} {Rr : List PP → PP → Prop} {Ps : List PP} {t : TA} {E : XK} (h : XA C t Ps C1) (hR : Rr Ps T) : Xv C (tMake Cc (spN Cc Rr) [] E t) T C1 := ⟨h.1, fun σ H e Q q => h.2 σ H e _ fun vs H1 s1 e1 p1 x dx hx hdx hne => by
  have nx := e1.fresh hx
  have ndx := e1.fresh hdx
  have hxd : x ≠ dx := fun z => hne z.symm
  have hback : hid [x, dx] (upd (upd H1 dx (.own x)) x (.ins Cc dx [])) = H1 := by
    funext a
    unfold hid
    by_cases z : a ∈ [x, dx]
    · rw [if_pos z]
      rcases List.mem_cons.mp z with z | z
      · rw [z, hx]
      · rw [List.mem_singleton.mp z, hdx]
    · rw [if_neg z]
      have z1 : a ≠ x := fun y => z (by simp [y])
      have z2 : a ≠ dx := fun y => z (by simp [y])
      rw [upd_ne z1, upd_ne z2]
  have up : ∀ b o, H1 b = some o → upd (upd H1 dx (.own x)) x (.ins Cc dx []) b = some o := fun b o e => by
    rw [upd_ne (ne_of_none e hx), upd_ne (ne_of_none e hdx)]
    exact e
  refine ⟨x, dx, vs, C1.M, Ps, T, by rw [List.append_nil], hR, upd_same, ?_, hne, nx, ndx, fun l hl => ?_, ?_, fun H' s' t' => ⟨rfl, ?_⟩⟩
  · rw [upd_ne hne, upd_same]
  · obtain ⟨o, ho⟩ := e1.live l hl
    exact ⟨o, up l o ho⟩
  · rw [hback, h.1]; exact p1
  · rw [hback] at s'
    exact q _ H' (s1.trans (hid_mono s')) (e1.mono s') (by rw [← h.1]; exact t')⟩
theorem xs_fld {Cc dx x : Addr} {fs : List (PySem.Str × PP)} {f : PySem.Str} {k : Nat} (hv : Xv C te P C1) (ho : Xp C1 ta (Rf x)) (hk : C1.mm[k]? = some (x, InsF Cc dx fs)) (hf : f ∉ fs.map (·.1)) (hl : fs.length < 1000) (c : Cls K Cc) (n : NoAttr K Cc f)
    (kn : Nx (C1.mut k x (InsF Cc dx (fs ++ [(f, P)]))) D') : Xs C (sFld K ta te f) D' := fun σ H e => hv.2 σ H e _ fun y H1 s1 e1 p1 => ho σ H1 e1 _ fun z H2 s2 p2 => by
  have hz : z = .ref x := p2
  subst hz
  have e2 := e1.mono s2
  obtain ⟨o, h1, vs, rfl, h2, h3⟩ := e2.mu (x, InsF Cc dx fs) (List.mem_of_getElem? hk)
  have hlen : vs.length = fs.length := by
    have := congrArg List.length h2
    simpa using this
  refine ⟨x, Cc, dx, vs, rfl, h1, c, n, by omega, ?_⟩
  have put : ∀ vs : List (PySem.Str × V), f ∉ vs.map (·.1) → putF f y vs = vs ++ [(f, y)] := by
    intro vs
    induction vs with
    | nil => intro _; rfl
    | cons a r ih =>
      intro hn
      obtain ⟨g, v⟩ := a
      rw [List.map_cons, List.mem_cons, not_or] at hn
      show (if g = f then (g, y) :: r else (g, v) :: putF f y r) = _
      rw [if_neg fun z => hn.1 z.symm, ih hn.2]
      rfl
  rw [put vs (by rw [h2]; exact hf)]
  have p1' : P.P (hid C1.M H2) y := P.mono (hid_mono s2) (by rw [hv.1]; exact p1)
  refine kn _ _ (e2.write (F' := InsF Cc dx (fs ++ [(f, P)])) hk ⟨_, rfl, by simp [h2], ?_⟩)
  rw [List.map_append, List.map_append]
  have app : ∀ {Ps : List PP} {us : List V}, Fa (hid C1.M H2) Ps us → Fa (hid C1.M H2) (Ps ++ [P]) (us ++ [y]) := by
    intro Ps us r
    induction r with
    | nil => exact .cons p1' .nil
    | cons h _ ih => exact .cons h ih
  exact app h3
theorem xv_fldM {Cc dx x : Addr} {fs : List (PySem.Str × PP)} {f : PySem.Str} {k : Nat} (ho : Xv C ta (Rf x) C1) (hk : C1.mm[k]? = some (x, InsF Cc dx fs)) (hf : fs.lookup f = some R) (c : Cls K Cc) (n : NoAttr K Cc f) : Xv C (tFld K ta f) R C1 := ⟨ho.1, fun σ H e Q q => ho.2 σ H e _ fun z H1 s1 e1 p1 => by
  have hz : z = .ref x := p1
  subst hz
  obtain ⟨o, h1, vs, rfl, h2, h3⟩ := e1.mu (x, InsF Cc dx fs) (List.mem_of_getElem? hk)
  obtain ⟨u, q1, q2⟩ := ins_look h2 h3 hf
  exact ⟨x, Cc, dx, vs, u, rfl, h1, c, n, q1, q _ H1 s1 e1 (by rw [← ho.1]; exact q2)⟩⟩
/-- a def's call by keywords alone -/
theorem xv_callK {Rr : List PP → PP → Prop} {Ps Ps' : List PP} {t : TA} {E : XK} {gV : List V → List V → List V} (h : XA C t Ps C1) (hp : ∀ H vs, Fa H Ps vs → Fa H Ps' (gV [] vs)) (hR : Rr Ps' T) : Xv C (tCallK (spF Rr) gV E tNil t) T C1 := by
  refine ⟨h.1, fun σ H e Q q => h.2 σ H e _ fun vs H1 s1 e1 p1 => ?_⟩
  refine ⟨C1.M, Ps', T, hR, e1.live, hp _ _ (by rw [h.1]; exact p1), fun v H2 s2 t2 => q v H2 (s1.trans (hid_mono s2)) (e1.mono s2) (by rw [← h.1]; exact t2)⟩
/-- THE RULE of an __init__ -/
theorem ok_new {P : Program} {w : World} {K : PySem.W.Frag} {mg : PySem.Str → Option Value} {base : Heap} {x qual : PySem.Str} {st : Stmt} {f : Addr} {fd : FuncData} {N ps : List PySem.Str} {k : Nat} {Cc : Addr} {R : List PP → PP → Prop} (F : Fun K x qual st f fd) (S : FnScope N ps (defScope st))
    (hlen : ∀ Ps T, R Ps T → Ps.length + 1 = ps.length)
    (hbody : ∀ (cdv : Value) (A : Around) (outer : List PySem.Env) (s : Shared) (H : Hp) (E : XK), Room k (A.deeper (envOfC qual (defScope st) s.heap.objs.size f cdv)) → ∃ t, PSs (cxOf CX0 P w K mg base N qual (defScope st) f cdv A outer s H E).nox (defBody st) t ∧
      ∀ (B : Hp) (M0 : List Addr) (Ps : List PP) (T : PP) (sx dx : Addr) (D' : Ends), R Ps T → (∀ σ H' gs mm ds, En ⟨B, M0, mm, ds, gs⟩ σ H' → (∀ fs, (sx, InsF Cc dx fs) ∈ mm → (∀ H v, (Ob Cc fs).P H v → T.P H v) → D'.nx σ H')) →
        Xs ⟨B, M0, [(sx, InsF Cc dx [])], some (Rf sx) :: Ps.map some ++ List.replicate (N.length - ps.length) none, []⟩ t D') : FnOk P w K mg base CX0 (k + 1) f fd ps (spN Cc R) := by
  refine F.ok S (fun vs H Q E h => ?_) (fun cdv A outer s H vs Q E hr h => ?_)
  · obtain ⟨x, dx, us, M0, Ps, T, rfl, hR, _, _, _, _, _, _, hF, _⟩ := h
    rw [List.length_cons, hF.length, hlen Ps T hR]
  · obtain ⟨sx, dx, us, M0, Ps, T, rfl, hR, h1, h2, hne, n1, n2, hM, hF, hq⟩ := h
    obtain ⟨t, ht, hx⟩ := hbody cdv A outer s H E hr
    refine ⟨t, ht, ?_⟩
    have hB : ∀ a, a ≠ sx → a ≠ dx → hid [sx, dx] H a = H a := fun a z1 z2 => hid_out (by simp [z1, z2])
    have hBs : hid [sx, dx] H sx = none := hid_in (by simp)
    have sB : Same (hid [sx, dx] H) H := hid_same
    have sm : Same (hid M0 (hid [sx, dx] H)) (hid (sx :: M0) H) := fun a o e => by
      by_cases z : a ∈ M0
      · rw [hid_in z] at e; cases e
      · rw [hid_out z] at e
        have e2 := sB _ _ e
        have z2 : a ≠ sx := fun y => by rw [y, hBs] at e; cases e
        rw [hid_out (by simp [z2, z])]
        exact e2
    have e : En ⟨hid [sx, dx] H, M0, [(sx, InsF Cc dx [])], some (Rf sx) :: Ps.map some ++ List.replicate (N.length - ps.length) none, []⟩ (L2.start N (.ref sx :: us)) H := by
      have hl : Ps.length + 1 = ps.length := hlen Ps T hR
      refine ⟨?_, fun i P hi => ?_, (fun p hp => nomatch hp), fun p hp => ?_, by simp, fun l hl => ?_, fun l hl => ?_, sB⟩
      · unfold L2.start
        rw [List.length_append, List.length_map, List.length_replicate, List.length_cons, hF.length]
        show _ = (some (Rf sx) :: (Ps.map some ++ List.replicate (N.length - ps.length) none)).length
        rw [List.length_cons, List.length_append, List.length_map, List.length_replicate]
        omega
      · have hfa : Fa (hid (sx :: M0) H) (Rf sx :: Ps) (.ref sx :: us) := .cons rfl (hF.mono sm)
        have hi' : ((Rf sx :: Ps).map some ++ List.replicate (N.length - ps.length) none)[i]? = some (some P) := hi
        by_cases hlt : i < (Rf sx :: Ps).length
        · rw [List.getElem?_append_left (by simpa using hlt), List.getElem?_map] at hi'
          cases e : (Rf sx :: Ps)[i]? with
          | none => rw [e] at hi'; cases hi'
          | some P' =>
            rw [e] at hi'
            have := Option.some.inj (Option.some.inj hi')
            subst this
            obtain ⟨v, h3, h4⟩ := hfa.get e
            refine ⟨v, ?_, h4⟩
            unfold L2.start
            rw [List.getElem?_append_left (by rw [List.length_map, hfa.length]; exact hlt), List.getElem?_map, h3]
            rfl
        · rw [List.getElem?_append_right (by simpa using hlt)] at hi'
          exfalso
          rw [List.getElem?_replicate] at hi'
          split at hi'
          · cases hi'
          · cases hi'
      · rw [List.mem_singleton.mp hp]
        exact ⟨_, h1, [], rfl, rfl, .nil⟩
      · have : l = sx := by simpa using hl
        rw [this]
        exact ⟨hBs, n1⟩
      · obtain ⟨o, ho⟩ := hM l hl
        refine ⟨o, ?_⟩
        show hid [sx, dx] H l = some o
        rw [hB l (fun z => n1 (z ▸ hl)) (fun z => n2 (z ▸ hl))]
        exact ho
    refine hx (hid [sx, dx] H) M0 Ps T sx dx { nx := fun _ H' => Q .non H', rt := Q } hR (fun σ H' gs mm ds e' fs hm hT => ?_) _ H e
    obtain ⟨o, o1, o2⟩ := e'.mu _ hm
    refine hq H' e'.base (hT _ _ ⟨sx, dx, o, rfl, ?_, FF.mono _ (hid_sub fun a ha => List.mem_append_right _ ha) o2⟩)
    rw [hid_out n1]
    exact o1
end
section
open PySem.Spec PyProof.Rows
variable {X : Cx} {CX : CXT} {k : Nat} {f : Addr} {fd : FuncData} {ps ks : List PySem.Str} {sp : Sp} {E : XK} {x : PySem.Str} {p pos : Pos} {kws : List Keyword} {tk : TA} {g : List Value → List Value → List Value} {gV : List V → List V → List V}
/-- f(k = v, ..) -/
theorem pe_callK0 (F : FnOk X.prog X.w X.K X.mg X.base CX k f fd ps sp) (hr : Room k X.A) (hg : Gl X x) (hm : X.mg x = some (.ref f)) (hk : PySem.W.keepIn X.K (.ref f) = true) (hb : KBinds X.K fd ps ks g gV) (hx : Passes CX X E) (hkw : PK X kws tk)
    (hall : (backToKw pos (keywordEach kws X.env)).all (·.1.isSome) = true := by rfl) (hks : (backToKw pos (keywordEach kws X.env)).filterMap (·.1) = ks := by rfl) (hdb : (x == ("__debug__" : PySem.Str)) = false := by decide)
    (hpl : ((backTo pos (starEach [] X.env)).any (·.1) || (backToKw pos (keywordEach kws X.env)).any (·.1.isNone)) = false := by rfl) : PE X (.Call (.Name x p) [] kws pos) (tCallK sp gV E tNil tk) := by
  constructor
  intro pins s σ H Q I h
  refine wpAny_Call_Name_kw (ld_glob I hg hm ?_ hdb)
  refine PySem.W.callWith_KW0 (h₀ := X.base) I.ok.mod.kin hk hall ?_ hpl
  refine thn (hkw.run pos pins s σ H _ I h) ?_
  rintro ws s2 ⟨zs, H2, I2, rz, q2⟩
  refine ⟨I2.kIn, ?_⟩
  rw [hks]
  exact run_fnk (us := []) (vs := []) F hr hb hx I2 .nil rz q2
end
end K74

set_option Elab.async false
set_option linter.all false
set_option maxRecDepth 100000
set_option maxHeartbeats 1000000
/-! The text by places; what the top has left; calls by promises. -/
namespace K74
open PySem PySem.Spec PyProof.Rows L2
def topS (i : Nat) : Stmt := PySem.Challenge.pw_lanekeepers_k74_whole_stairs_of_lines.main.body.getD i (.Pass ⟨0, 0, 0, 0⟩)
/-- the names of the module that are used: constants, classes, built-in ones that are not shadowed -/
structure Txt (K : PySem.W.Frag) (mg : PySem.Str → Option Value) (CC CW : Addr) : Prop where
  abs : mg "abs" = none
  all : mg "all" = none
  any : mg "any" = none
  bool : mg "bool" = none
  divmod : mg "divmod" = none
  enumerate : mg "enumerate" = none
  int : mg "int" = none
  isinstance : mg "isinstance" = none
  len : mg "len" = none
  list : mg "list" = none
  max : mg "max" = none
  min : mg "min" = none
  range : mg "range" = none
  repr : mg "repr" = none
  set : mg "set" = none
  sorted : mg "sorted" = none
  sum : mg "sum" = none
  tuple : mg "tuple" = none
  zip : mg "zip" = none
  MOST_YARDS : ∃ t, mg "MOST_YARDS" = some (.int 7 t)
  MOST_LANES : ∃ t, mg "MOST_LANES" = some (.int 4 t)
  MOST_PLACES : ∃ t, mg "MOST_PLACES" = some (.int 6 t)
  MOST_BOUNDS : ∃ t, mg "MOST_BOUNDS" = some (.int 6 t)
  MOST_ALTERNATIVES : ∃ t, mg "MOST_ALTERNATIVES" = some (.int 4 t)
  mCountry : mg "Country" = some (.ref CC)
  mWeb : mg "Web" = some (.ref CW)
  cC : Cls K CC
  cW : Cls K CW
  nl : NoAttr K CC "own_lanes"
  nt : NoAttr K CC "own_ties"
  na : NoAttr K CC "own_ahead"
  nc : NoAttr K CW "own_country"
  nb : NoAttr K CW "own_books"
  isCCountry : C8.InsC K CC
  isCWeb : C8.InsC K CW
/-- a def as the top has left it, with its promise -/
structure Cal (P : Program) (w : World) (K : PySem.W.Frag) (mg : PySem.Str → Option Value) (base : Heap) (x : PySem.Str) (ps : List PySem.Str) (k : Nat) (sp : Sp) : Prop where
  ex : ∃ f fd, mg x = some (.ref f) ∧ PySem.W.keepIn K (.ref f) = true ∧ Binds K fd ps [] ∧ FnOk P w K mg base CX0 k f fd ps sp ∧ ∃ st, Fun K x x st f fd
structure Df (K : PySem.W.Frag) (mg : PySem.Str → Option Value) (x : PySem.Str) (st : Stmt) (ps : List PySem.Str) : Prop where
  ex : ∃ f fd, mg x = some (.ref f) ∧ Fun K x x st f fd ∧ Binds K fd ps []
section
variable {X : Cx} {k : Nat} {ps : List PySem.Str} {sp : Sp} {x : PySem.Str} {p pos : Pos} {e : Expr} {es : List Expr} {t : TA}
theorem hu65 {A : Around} (hr : Room k A) : A.units + 65 < cLine := by have := hr.un; omega
theorem pe_cal (c : Cal X.prog X.w X.K X.mg X.base x ps k sp) (hr : Room k X.A) (hg : Gl X x) (ha : PA X (e :: es) t) (hdb : (x == ("__debug__" : PySem.Str)) = false := by decide)
    (he : starEach (e :: es) X.env = (false, eval e X.env) :: starEach es X.env := by rfl) (hpl : (backTo pos (starEach es X.env)).any (·.1) = false := by rfl) : PE X (.Call (.Name x p) (e :: es) [] pos) (tCall sp [] E0 t) := by
  obtain ⟨f, fd, h1, h2, h3, h4, _⟩ := c.ex
  exact pe_call h4 hr hg h1 h2 h3 .nil pass0 ha hdb he hpl
/-- a def that is called by the keywords ks alone -/
structure CalK (P : Program) (w : World) (K : PySem.W.Frag) (mg : PySem.Str → Option Value) (base : Heap) (x : PySem.Str) (ps ks : List PySem.Str) (gV : List V → List V → List V) (k : Nat) (sp : Sp) : Prop where
  ex : ∃ f fd g, mg x = some (.ref f) ∧ PySem.W.keepIn K (.ref f) = true ∧ KBinds K fd ps ks g gV ∧ FnOk P w K mg base CX0 k f fd ps sp
theorem pe_calK {ks : List PySem.Str} {gV : List V → List V → List V} {kws : List Keyword} {tk : TA} (c : CalK X.prog X.w X.K X.mg X.base x ps ks gV k sp) (hr : Room k X.A) (hg : Gl X x) (hkw : PK X kws tk)
    (hall : (backToKw pos (keywordEach kws X.env)).all (·.1.isSome) = true := by rfl) (hks : (backToKw pos (keywordEach kws X.env)).filterMap (·.1) = ks := by rfl) (hdb : (x == ("__debug__" : PySem.Str)) = false := by decide)
    (hpl : ((backTo pos (starEach [] X.env)).any (·.1) || (backToKw pos (keywordEach kws X.env)).any (·.1.isNone)) = false := by rfl) : PE X (.Call (.Name x p) [] kws pos) (tCallK sp gV E0 tNil tk) := by
  obtain ⟨f, fd, g, h1, h2, h3, h4⟩ := c.ex
  exact pe_callK0 h4 hr hg h1 h2 h3 pass0 hkw hall hks hdb hpl
theorem pe_const {v : Int} (h : ∃ t, X.mg x = some (.int v t)) (hg : Gl X x) (hdb : (x == ("__debug__" : PySem.Str)) = false := by decide) : PE X (.Name x pos) (tC (.int v)) := by
  obtain ⟨t, ht⟩ := h
  exact pe_glob (v := .int v) hg ht ⟨t, rfl⟩ hdb
end
/-- a class of the text with its __init__'s promise -/
structure CalN (P : Program) (w : World) (K : PySem.W.Frag) (mg : PySem.Str → Option Value) (base : Heap) (x : PySem.Str) (Cc : Addr) (ps : List PySem.Str) (k : Nat) (R : List PP → PP → Prop) : Prop where
  ex : ∃ f fd, mg x = some (.ref Cc) ∧ Mk K Cc f ∧ Binds K fd ps [] ∧ FnOk P w K mg base CX0 k f fd ps (spN Cc R)
section
variable {X : Cx} {k : Nat} {ps : List PySem.Str} {R : List PP → PP → Prop} {x : PySem.Str} {p pos : Pos} {e : Expr} {es : List Expr} {t : TA} {Cc : Addr}
theorem pe_new (c : CalN X.prog X.w X.K X.mg X.base x Cc ps k R) (hr : Room (k + 1) X.A) (hg : Gl X x) (ha : PA X (e :: es) t) (hdb : (x == ("__debug__" : PySem.Str)) = false := by decide)
    (he : starEach (e :: es) X.env = (false, eval e X.env) :: starEach es X.env := by rfl) (hpl : (backTo pos (starEach es X.env)).any (·.1) = false := by rfl) : PE X (.Call (.Name x p) (e :: es) [] pos) (tMake Cc (spN Cc R) [] E0 t) := by
  obtain ⟨f, fd, h1, h2, h3, h4⟩ := c.ex
  exact pe_make h2 h4 hr hg h1 h3 .nil pass0 ha hdb he hpl
/-- a property of a class -/
structure CalP (P : Program) (w : World) (K : PySem.W.Frag) (mg : PySem.Str → Option Value) (base : Heap) (Cc : Addr) (f : PySem.Str) (k : Nat) (sp : Sp) : Prop where
  ex : ∃ p g fd, PropOf K Cc f p g ∧ Binds K fd ["self"] [] ∧ FnOk P w K mg base CX0 k g fd ["self"] sp
theorem pe_pr {sp : Sp} {f : PySem.Str} {ta : TE} (c : CalP X.prog X.w X.K X.mg X.base Cc f k sp) (cc : Cls X.K Cc) (hr : Room (k + 1) X.A) (he : PE X e ta) (hab : attributeBase e f X.env (eval e X.env) = eval e X.env := by rfl) : PE X (.Attribute e f pos) (tProp Cc sp [] E0 ta) := by
  obtain ⟨p, g, fd, h1, h2, h3⟩ := c.ex
  exact pe_prop he cc h1 h3 hr h2 .nil pass0 hab
end
theorem pe_fldK {X : Cx} {K : PySem.W.Frag} {e : Expr} {f : PySem.Str} {pos : Pos} {ta : TE} (hK : X.K = K) (he : PE X e ta) (hb : attributeBase e f X.env (eval e X.env) = eval e X.env) : PE X (.Attribute e f pos) (tFld K ta f) := by
  subst hK
  exact pe_fld he hb
/-- rules within comprehensions, the written part named -/
def rLenV (K : PySem.W.Frag) : List V → Hp → VK → Prop := fun xs H Q => ∃ x n, xs = [x] ∧ LenV K x H n ∧ Q (.int n) H
def rListOf (K : PySem.W.Frag) : List V → Hp → VK → Prop := fun xs H Q => ∃ p ys, xs = [.ref p] ∧ (SqL K H p ys ∨ SqT K H p ys) ∧ ∀ l, H l = none → Q (.ref l) (upd H l (.lst ys))
/-- THE RULE of a def of the module that leaves all as it was -/
theorem Df.ok {P : Program} {w : World} {K : PySem.W.Frag} {mg : PySem.Str → Option Value} {base : Heap} {x : PySem.Str} {st : Stmt} {N ps : List PySem.Str} {k : Nat} {R : List PP → PP → Prop} (F : Df K mg x st ps) (S : FnScope N ps (defScope st))
    (hlen : ∀ Ps T, R Ps T → Ps.length = ps.length)
    (hbody : ∀ (f : Addr) (cdv : Value) (A : Around) (outer : List PySem.Env) (s : Shared) (H : Hp) (E : XK), Room k (A.deeper (envOfC x (defScope st) s.heap.objs.size f cdv)) → ∃ t, PSs (cxOf CX0 P w K mg base N x (defScope st) f cdv A outer s H E).nox (defBody st) t ∧
      ∀ (B : Hp) (M0 : List Addr) (Ps : List PP) (T : PP) (D' : Ends), R Ps T → Rt ⟨B, M0, [], Ps.map some ++ List.replicate (N.length - ps.length) none, []⟩ T D' → (∀ σ H', D'.nx σ H' = D'.rt .non H') → Xs ⟨B, M0, [], Ps.map some ++ List.replicate (N.length - ps.length) none, []⟩ t D') : Cal P w K mg base x ps (k + 1) (spF R) := by
  obtain ⟨f, fd, h1, h2, h3⟩ := F.ex
  refine ⟨f, fd, h1, h2.kp, h3, ok_of h2 S hlen fun cdv A outer s H E hr => ?_, st, h2⟩
  obtain ⟨t, h4, h5⟩ := hbody f cdv A outer s H E hr
  exact ⟨t, h4, fun M0 Ps T D' => h5 H M0 Ps T D'⟩
end K74

set_option Elab.async false
set_option linter.all false
set_option maxRecDepth 100000
set_option maxHeartbeats 4000000
namespace K74
open PySem PySem.Spec PyProof.Rows L2
section
variable {P : Program} {w : World} {K : PySem.W.Frag} {mg : PySem.Str → Option Value} {base : Heap} {CC CW : Addr}
/-! ### numbers and lists -/
def isInt : PyData → Bool
  | .int _ => true
  | _ => false
def isCnt : PyData → Bool
  | .int i => decide (0 ≤ i)
  | _ => false
def isLst : PyData → Bool
  | .list _ => true
  | .tuple _ => true
  | _ => false
def noDict : PyData → Bool
  | .dict _ => false
  | _ => true
def R_is_integer : List PP → PP → Prop := fun Ps T => ∃ d, Ps = [D d] ∧ noDict d = true ∧ T = DB (isInt d)
abbrev s_is_integer : Stmt := topS 14
abbrev N_is_integer : List PySem.Str := ["value"]
theorem sc_is_integer : FnScope N_is_integer ["value"] (defScope s_is_integer) := ⟨rfl, rfl, rfl, by decide +kernel, rfl, by decide +kernel, by decide +kernel⟩
def isIB : PyData → Bool
  | .int _ => true
  | .bool _ => true
  | _ => false
def isBl : PyData → Bool
  | .bool _ => true
  | _ => false
theorem kit_all : kitB "NoneType" "int" = some false ∧ kitB "bool" "int" = some true ∧ kitB "int" "int" = some true ∧ kitB "str" "int" = some false ∧ kitB "list" "int" = some false ∧ kitB "tuple" "int" = some false := by decide +kernel
theorem kit_allb : kitB "NoneType" "bool" = some false ∧ kitB "bool" "bool" = some true ∧ kitB "int" "bool" = some false ∧ kitB "str" "bool" = some false ∧ kitB "list" "bool" = some false ∧ kitB "tuple" "bool" = some false := by decide +kernel
theorem kit_alll : kitB "NoneType" "list" = some false ∧ kitB "bool" "list" = some false ∧ kitB "int" "list" = some false ∧ kitB "str" "list" = some false ∧ kitB "list" "list" = some true ∧ kitB "tuple" "list" = some false := by decide +kernel
theorem kit_allt : kitB "NoneType" "tuple" = some false ∧ kitB "bool" "tuple" = some false ∧ kitB "int" "tuple" = some false ∧ kitB "str" "tuple" = some false ∧ kitB "list" "tuple" = some false ∧ kitB "tuple" "tuple" = some true := by decide +kernel
theorem kit_int {d : PyData} (h : noDict d = true) : kitB (tyD d) "int" = some (isIB d) := by
  obtain ⟨a, b, c, e, f, g⟩ := kit_all
  cases d <;> first | assumption | cases h
theorem kit_bool {d : PyData} (h : noDict d = true) : kitB (tyD d) "bool" = some (isBl d) := by
  obtain ⟨a, b, c, e, f, g⟩ := kit_allb
  cases d <;> first | assumption | cases h
def isL0 : PyData → Bool
  | .list _ => true
  | _ => false
def isT0 : PyData → Bool
  | .tuple _ => true
  | _ => false
theorem kit_list {d : PyData} (h : noDict d = true) : kitB (tyD d) "list" = some (isL0 d) := by
  obtain ⟨a, b, c, e, f, g⟩ := kit_alll
  cases d <;> first | assumption | cases h
theorem kit_tuple {d : PyData} (h : noDict d = true) : kitB (tyD d) "tuple" = some (isT0 d) := by
  obtain ⟨a, b, c, e, f, g⟩ := kit_allt
  cases d <;> first | assumption | cases h
theorem ok_is_integer (F : Df K mg "is_integer" s_is_integer ["value"]) (T : Txt K mg CC CW) : Cal P w K mg base "is_integer" ["value"] 1 (spF R_is_integer) := by
  refine F.ok sc_is_integer (fun Ps T ⟨d, h, _⟩ => by rw [h]; rfl) fun f cdv A outer s H E hr => ⟨_,
    (pss_one (ps_ret (pe_and (pe_callB call_isi (by rfl) T.isinstance boot_isinstance (pa_cons (pv 0) (pa_cons (pe_bltn (v := .ty "int") rfl T.int boot_int rfl) pa_nil))) (pe_one (pe_not (pe_callB call_isi (by rfl) T.isinstance boot_isinstance (pa_cons (pv 0) (pa_cons (pe_bltn (v := .ty "bool") rfl T.bool boot_bool rfl) pa_nil)))))))), ?_⟩
  rintro B M0 Ps T D' ⟨d, rfl, hd, rfl⟩ hR _
  refine xs_ret (T := DB (isInt d)) (xv_and (xv_cb (xa_cons (xv_var rfl) (xa_cons xv_ty xa_nil)) (rc_isi (kit_int hd))) fun _ => xv_not (xv_cb (xa_cons (xv_var rfl) (xa_cons xv_ty xa_nil)) (rc_isi (kit_bool hd)))) rfl rfl (fun H v p => ?_) hR
  have e : isInt d = (isIB d && !isBl d) := by cases d <;> rfl
  rw [e]
  exact p
def R_is_count : List PP → PP → Prop := fun Ps T => ∃ d, Ps = [D d] ∧ noDict d = true ∧ T = DB (isCnt d)
abbrev s_is_count : Stmt := topS 15
abbrev N_is_count : List PySem.Str := ["value"]
theorem sc_is_count : FnScope N_is_count ["value"] (defScope s_is_count) := ⟨rfl, rfl, rfl, by decide +kernel, rfl, by decide +kernel, by decide +kernel⟩
theorem ok_is_count (F : Df K mg "is_count" s_is_count ["value"]) (c_is_integer : Cal P w K mg base "is_integer" ["value"] 1 (spF R_is_integer)) : Cal P w K mg base "is_count" ["value"] 2 (spF R_is_count) := by
  refine F.ok sc_is_count (fun Ps T ⟨d, h, _⟩ => by rw [h]; rfl) fun f cdv A outer s H E hr => ⟨_,
    (pss_one (ps_ret (pe_and (pe_cal c_is_integer (hr.mono (by decide)) rfl (pa_cons (pv 0) pa_nil)) (pe_one (pe_cmpR op_ge (pv 0) pe_int (nomark _)))))), ?_⟩
  rintro B M0 Ps T D' ⟨d, rfl, hd, rfl⟩ hR _
  cases h : isInt d with
  | false =>
    refine xs_ret (T := DB (isCnt d)) (P := DB (false && true)) (xv_and (xv_call (xa_cons (xv_var rfl) xa_nil) ⟨d, rfl, hd, by rw [h]⟩) fun z => by cases z) rfl rfl (fun H v p => ?_) hR
    have e : isCnt d = false := by cases d <;> first | rfl | cases h
    rw [e]
    exact p
  | true =>
    obtain ⟨i, rfl⟩ : ∃ i, d = .int i := by cases d <;> first | exact ⟨_, rfl⟩ | cases h
    exact xs_ret (T := DB (isCnt (.int i))) (xv_and (a := true) (xv_call (xa_cons (xv_var rfl) xa_nil) ⟨_, rfl, rfl, by rw [h]⟩) fun _ => xv_op (xv_var rfl) xv_int ro_b0) rfl rfl (fun H v p => p) hR
def R_is_list : List PP → PP → Prop := fun Ps T => ∃ d, Ps = [D d] ∧ noDict d = true ∧ T = DB (isLst d)
abbrev s_is_list : Stmt := topS 16
abbrev N_is_list : List PySem.Str := ["value"]
theorem sc_is_list : FnScope N_is_list ["value"] (defScope s_is_list) := ⟨rfl, rfl, rfl, by decide +kernel, rfl, by decide +kernel, by decide +kernel⟩
theorem ok_is_list (F : Df K mg "is_list" s_is_list ["value"]) (T : Txt K mg CC CW) : Cal P w K mg base "is_list" ["value"] 1 (spF R_is_list) := by
  refine F.ok sc_is_list (fun Ps T ⟨d, h, _⟩ => by rw [h]; rfl) fun f cdv A outer s H E hr => ⟨_,
    (pss_one (ps_ret (pe_callB call_isiT (by rfl) T.isinstance boot_isinstance (pa_cons (pv 0) (pa_cons (pe_tup (pa_cons (pe_bltn (v := .ty "list") rfl T.list boot_list rfl) (pa_cons (pe_bltn (v := .ty "tuple") rfl T.tuple boot_tuple rfl) pa_nil))) pa_nil))))), ?_⟩
  rintro B M0 Ps T D' ⟨d, rfl, hd, rfl⟩ hR _
  refine xs_ret (T := DB (isLst d)) (xv_cb (xa_cons (xv_var rfl) (xa_cons (Xv.of (xf_tupP (xa_cons xv_ty (xa_cons xv_ty xa_nil)) (by decide))) xa_nil)) (rc_isiT (kit_list hd) (kit_tuple hd))) rfl rfl (fun H v p => ?_) hR
  have e : isLst d = (isL0 d || isT0 d) := by cases d <;> rfl
  rw [e]
  exact p
end
end K74

set_option Elab.async false
set_option linter.all false
set_option maxRecDepth 100000
set_option maxHeartbeats 4000000
namespace K74
open PySem PySem.Spec PyProof.Rows L2
/-! ### data of the program as plain data -/
abbrev eN (n : Nat) : PyData := .int (n : Int)
def eNs (l : List Nat) : List PyData := l.map eN
def eLL (ls : List (List Nat)) : List PyData := ls.map fun l => .list (eNs l)
def eLane (p : Nat × Nat) : PyData := .tuple [eN p.1, eN p.2]
def eO : Option Nat → PyData
  | .none => .none
  | some n => eN n
def eOs (l : List (Option Nat)) : List PyData := l.map eO
theorem eNs_len (l : List Nat) : (eNs l).length = l.length := by unfold eNs; rw [List.length_map]
theorem eLL_len (l : List (List Nat)) : (eLL l).length = l.length := by unfold eLL; rw [List.length_map]
theorem eNs_ints (l : List Nat) : eNs l = (l.map fun n : Nat => (n : Int)).map PyData.int := by unfold eNs; rw [List.map_map]; rfl
theorem eNs_append (a b : List Nat) : eNs (a ++ b) = eNs a ++ eNs b := by unfold eNs; rw [List.map_append]
theorem eNs_get {l : List Nat} {i n : Nat} (h : l[i]? = some n) : (eNs l)[i]? = some (eN n) := by unfold eNs; rw [List.getElem?_map, h]; rfl
theorem eLL_get {l : List (List Nat)} {i : Nat} {n : List Nat} (h : l[i]? = some n) : (eLL l)[i]? = some (.list (eNs n)) := by unfold eLL; rw [List.getElem?_map, h]; rfl
theorem eOs_get {l : List (Option Nat)} {i : Nat} {n : Option Nat} (h : l[i]? = some n) : (eOs l)[i]? = some (eO n) := by unfold eOs; rw [List.getElem?_map, h]; rfl
theorem eNs_getD (l : List Nat) {i : Nat} (h : i < l.length) : (eNs l).getD i .none = eN (l.getD i 0) := by
  rw [List.getD_eq_getElem?_getD, List.getD_eq_getElem?_getD, List.getElem?_eq_getElem h, eNs_get (List.getElem?_eq_getElem h)]
  rfl
theorem map_getD {α : Type} (f : α → PyData) (l : List α) (a : α) {i : Nat} (h : i < l.length) : (l.map f).getD i .none = f (l.getD i a) := by
  rw [List.getD_eq_getElem?_getD, List.getD_eq_getElem?_getD, List.getElem?_map, List.getElem?_eq_getElem h]
  rfl
theorem atI_n {α : Type} {xs : List α} {j : Nat} {v : α} (h : xs[j]? = some v) : L2.atI xs (j : Int) = some v := atI_nat h
/-- the last item -/
theorem atI_end {α : Type} {xs : List α} {v : α} (h : xs[xs.length - 1]? = some v) : L2.atI xs (-1) = some v := by
  have hlt := (List.getElem?_eq_some_iff.mp h).1
  unfold L2.atI ixN
  rw [if_neg (by decide), if_pos (by omega)]
  show xs[(-1 + (xs.length : Int)).toNat]? = some v
  have : (-1 + (xs.length : Int)).toNat = xs.length - 1 := by omega
  rw [this]; exact h
theorem atI_neg {α : Type} {xs : List α} {v : α} {k : Nat} {i : Int} (hi : i = -(k : Int)) (hk : 0 < k ∧ k ≤ xs.length) (h : xs[xs.length - k]? = some v) : L2.atI xs i = some v := by
  unfold L2.atI ixN
  rw [if_neg (by omega), if_pos (by omega)]
  show xs[(i + (xs.length : Int)).toNat]? = some v
  have : (i + (xs.length : Int)).toNat = xs.length - k := by omega
  rw [this]; exact h
theorem ixN_n {n j : Nat} (h : j < n) : ixN n (j : Int) = some j := by
  unfold ixN
  rw [if_pos (by omega), if_pos (by omega)]
  simp
/-! shapes -/
theorem shaped_list {ds : List PyData} (h : PyData.canLayAll0 ds = true) (hd : PyData.depthAll ds ≤ 60) : SeqAt.shaped (.list ds) = true := by
  show (PyData.canLay0 (.list ds) && decide (PyData.depth (.list ds) ≤ 64)) = true
  rw [Bool.and_eq_true]
  refine ⟨by simp only [PyData.canLay0]; exact h, decide_eq_true ?_⟩
  simp only [PyData.depth]
  omega
def flatD : PyData → Bool
  | .none => true
  | .bool _ => true
  | .int _ => true
  | _ => false
/-- flat, or a tuple or list of flat ones -/
theorem flat_lay : ∀ {d : PyData}, flatD d = true → PyData.canLay0 d = true ∧ PyData.depth d = 0
  | .none, _ => by simp [PyData.canLay0, PyData.depth]
  | .bool _, _ => by simp [PyData.canLay0, PyData.depth]
  | .int _, _ => by simp [PyData.canLay0, PyData.depth]
theorem flat_all : ∀ {ds : List PyData}, ds.all flatD = true → PyData.canLayAll0 ds = true ∧ PyData.depthAll ds = 0
  | [], _ => by simp [PyData.canLayAll0, PyData.depthAll]
  | d :: r, h => by
    rw [List.all_cons, Bool.and_eq_true] at h
    obtain ⟨a, b⟩ := flat_lay h.1
    obtain ⟨c, e⟩ := flat_all h.2
    simp [PyData.canLayAll0, PyData.depthAll, a, b, c, e]
theorem shaped_flats {ds : List PyData} (h : ds.all flatD = true) : SeqAt.shaped (.list ds) = true := by
  obtain ⟨a, b⟩ := flat_all h
  exact shaped_list a (by omega)
theorem shaped_flat {d : PyData} (h : flatD d = true) : SeqAt.shaped d = true := by
  obtain ⟨a, b⟩ := flat_lay h
  show (PyData.canLay0 d && decide (PyData.depth d ≤ 64)) = true
  rw [a, b]
  rfl
theorem eNs_flat (l : List Nat) : (eNs l).all flatD = true := by
  unfold eNs
  rw [List.all_map]
  exact List.all_eq_true.mpr fun _ _ => rfl
theorem eNs_shaped (l : List Nat) : SeqAt.shaped (.list (eNs l)) = true := shaped_flats (eNs_flat l)
def tupF (d : PyData) : Bool := match d with
  | .tuple ds => ds.all flatD
  | .none => true
  | _ => false
theorem tup_lay {d : PyData} (h : tupF d = true) : PyData.canLay0 d = true ∧ PyData.depth d ≤ 1 := by
  cases d with
  | tuple ds =>
    obtain ⟨a, b⟩ := flat_all (ds := ds) h
    simp only [PyData.canLay0, PyData.depth]
    exact ⟨a, by omega⟩
  | none => simp [PyData.canLay0, PyData.depth]
  | _ => cases h
theorem tup_all : ∀ {ds : List PyData}, ds.all tupF = true → PyData.canLayAll0 ds = true ∧ PyData.depthAll ds ≤ 1
  | [], _ => by simp [PyData.canLayAll0, PyData.depthAll]
  | d :: r, h => by
    rw [List.all_cons, Bool.and_eq_true] at h
    obtain ⟨a, b⟩ := tup_lay h.1
    obtain ⟨c, e⟩ := tup_all h.2
    simp only [PyData.canLayAll0, PyData.depthAll, a, c]
    exact ⟨rfl, by omega⟩
theorem shaped_tups {ds : List PyData} (h : ds.all tupF = true) : SeqAt.shaped (.list ds) = true := by
  obtain ⟨a, b⟩ := tup_all h
  exact shaped_list a (by omega)
theorem shaped_tup {ds : List PyData} (h : ds.all flatD = true) : SeqAt.shaped (.tuple ds) = true := by
  obtain ⟨a, b⟩ := tup_lay (d := .tuple ds) h
  show (PyData.canLay0 (.tuple ds) && decide (PyData.depth (.tuple ds) ≤ 64)) = true
  rw [Bool.and_eq_true]
  exact ⟨a, decide_eq_true (by omega)⟩
/-! equality -/
theorem eqv_int (a b : Int) : PyData.eqv (.int a) (.int b) = decide (a = b) := by
  simp only [PyData.eqv]
  exact (Bool.beq_eq_decide_eq a b)
theorem eqv_nat (a b : Nat) : PyData.eqv (eN a) (eN b) = decide (a = b) := by
  rw [eqv_int]
  by_cases h : a = b
  · subst h; simp
  · rw [decide_eq_false h, decide_eq_false (by omega)]
theorem any_nat (l : List Nat) (p : Nat) : ((eNs l).any fun z => PyData.eqv z (eN p)) = decide (p ∈ l) := by
  unfold eNs
  rw [List.any_map]
  induction l with
  | nil => rfl
  | cons a r ih =>
    rw [List.any_cons, ih]
    show (PyData.eqv (eN a) (eN p) || _) = _
    rw [eqv_nat]
    by_cases h : a = p
    · subst h; simp
    · have : ¬ p = a := fun z => h z.symm
      simp [h, this]
theorem eqv_list_nil (ds : List PyData) : PyData.eqv (.list ds) (.list []) = ds.isEmpty := by
  cases ds <;> simp [PyData.eqv, PyData.eqvAll]
end K74

set_option Elab.async false
set_option linter.all false
set_option maxRecDepth 100000
set_option maxHeartbeats 2000000
namespace K74
open PySem L2
/-! ### lists of own lists -/
theorem hid_mem {M M' : List Addr} (h : ∀ a, a ∈ M ↔ a ∈ M') (H : Hp) : hid M H = hid M' H := by
  funext a
  unfold hid
  by_cases z : a ∈ M
  · rw [if_pos z, if_pos ((h a).mp z)]
  · rw [if_neg z, if_neg fun y => z ((h a).mpr y)]
theorem En.perm {B : Hp} {M0 : List Addr} {mm mm' : List (Addr × FF)} {ds : List (Option PP)} {gs : List (V × PP)} {σ : St} {H : Hp} (p : mm.Perm mm') (e : En ⟨B, M0, mm, ds, gs⟩ σ H) : En ⟨B, M0, mm', ds, gs⟩ σ H := by
  have hh : hid (Ct.M ⟨B, M0, mm, ds, gs⟩) H = hid (Ct.M ⟨B, M0, mm', ds, gs⟩) H := hid_mem (fun a => by
    show a ∈ mm.map (·.1) ++ M0 ↔ a ∈ mm'.map (·.1) ++ M0
    rw [List.mem_append, List.mem_append, (p.map (·.1)).mem_iff]) H
  refine ⟨e.len, fun i P h => ?_, fun q hq => ?_, fun q hq => ?_, ((p.map (·.1)).nodup_iff).mp e.nd, fun l hl => e.own l ((p.map (·.1)).mem_iff.mpr hl), e.out, e.base⟩
  · rw [← hh]; exact e.sl i P h
  · rw [← hh]; exact e.gh q hq
  · rw [← hh]; exact e.mu q (p.mem_iff.mpr hq)
def LFp (Ps : List PP) : FF := ⟨fun H o => ∃ xs, o = .lst xs ∧ Fa H Ps xs, fun s ⟨xs, e, r⟩ => ⟨xs, e, r.mono s⟩⟩
theorem Fa.append {H : Hp} : ∀ {Ps Qs : List PP} {vs ws : List V}, Fa H Ps vs → Fa H Qs ws → Fa H (Ps ++ Qs) (vs ++ ws)
  | _, _, _, _, .nil, r => r
  | _, _, _, _, .cons h q, r => .cons h (Fa.append q r)
section
variable {C C1 C2 C3 C' : Ct} {ta tb' te tl : TE} {P P' R T : PP} {F : FF} {K : PySem.W.Frag} {D' : Ends} {tu tw tz tb : TS} {g : TG}
theorem ro_ixLP {l : Addr} {Ps : List PP} {k : Nat} {i : Int} (hk : C.mm[k]? = some (l, LFp Ps)) (hi : L2.atI Ps i = some P) : RO C (rIx K) (Rf l) (DI i) P := fun σ H x y en hx hy Q q => by
  have hv : x = .ref l := hx
  subst hv
  obtain ⟨o, h1, xs, rfl, h2⟩ := en.mu (l, LFp Ps) (List.mem_of_getElem? hk)
  obtain ⟨v, h3, h4⟩ := h2.atI hi
  exact .inl ⟨l, xs, i, v, rfl, Dn.int_inv hy, .inl (.inl h1), h3, q _ _ (Same.refl _) h4⟩
theorem Fa.at {H : Hp} : ∀ {Ps : List PP} {vs : List V} {i : Nat} {v : V}, Fa H Ps vs → vs[i]? = some v → ∃ P : PP, Ps[i]? = some P ∧ P.P H v
  | _, _, _, _, .nil, h => by simp at h
  | _, _, 0, _, .cons h _, e => by
    have e' := Option.some.inj e
    subst e'
    exact ⟨_, rfl, h⟩
  | _, _, i + 1, _, .cons _ r, e => Fa.at (i := i) r e
theorem xi_listP {Ps : List PP} {l : Addr} {k : Nat} (h : Xv C tl (Rf l) C1) (hk : C1.mm[k]? = some (l, LFp Ps)) : XI C (iList K tl) Ps.length (fun i => Ps.getD i Any) C1 [(l, LFp Ps)] := by
  refine ⟨h.1, fun σ H e R r => h.2 σ H e _ fun v H1 s1 e1 p1 => ?_⟩
  have hv : v = .ref l := p1
  subst hv
  obtain ⟨o, h1, xs, rfl, h2⟩ := e1.mu (l, LFp Ps) (List.mem_of_getElem? hk)
  have at_ : ∀ {C2 : Ct} {σ2 : St} {H2 : Hp}, En C2 σ2 H2 → (∀ p ∈ [(l, LFp Ps)], p ∈ C2.mm) → ∃ zs, H2 l = some (.lst zs) ∧ Fa (hid C2.M H2) Ps zs := fun e2 k => by
    obtain ⟨o, q1, zs, rfl, q2⟩ := e2.mu _ (k _ List.mem_cons_self)
    exact ⟨zs, q1, q2⟩
  refine ⟨l, rfl, ⟨xs, .inl (.inl h1)⟩, r (Itl K l) H1 [] s1 e1 ⟨fun i C2 σ2 H2 hi e2 _ k => ?_, fun C2 σ2 H2 e2 _ k => ?_, fun i C2 σ2 H2 x H3 hi e2 _ k y => ?_⟩⟩
  · obtain ⟨zs, q1, q2⟩ := at_ e2 k
    exact ⟨zs, zs[i]'(by rw [q2.length]; exact hi), .inl (.inl q1), by simp [q2.length, hi]⟩
  · obtain ⟨zs, q1, q2⟩ := at_ e2 k
    exact ⟨zs, .inl (.inl q1), by rw [q2.length]; exact Nat.le_refl _⟩
  · obtain ⟨zs, q1, q2⟩ := at_ e2 k
    obtain ⟨y1, y2⟩ := y
    subst y1
    refine ⟨e2, Same.refl _, ?_⟩
    have y3 := y2 zs (.inl (.inl q1))
    obtain ⟨P0, d1, d2⟩ := q2.at y3
    show (Ps.getD i Any).P _ x
    rw [List.getD_eq_getElem?_getD, d1]
    exact d2
/-- x = [[] for i in range(n)] -/
theorem xs_rows {t : TA} {n i j : Nat} (h : XA C t [DI (n : Int)] C1) (hn : n ≤ 1000)
    (k : ∀ (l : Addr) (rs : List Addr), rs.length = n → Nx (Ct.put { C1 with mm := (l, LFp (rs.map Rf)) :: (rs.map fun r => (r, LF ([] : List PyData))) ++ C1.mm } i (Rf l)) D') : Xs C (tAsg (tLc (iRng1 t) (gName j) tYes (tLst tNil) [j]) (gName i)) D' := fun σ H e => by
  show tLc (iRng1 t) (gName j) tYes (tLst tNil) [j] σ H (fun x H1 => gName i x σ H1 D'.nx)
  refine (xi_rng1 (j := (n : Int)) h ⟨by omega, by omega⟩).2 σ H e _ ?_
  intro J H1 gl s1 e1 jo L hL
  have e2 : En ((C1.ghs gl).new L (LFp [])) σ (upd H1 L (.lst [])) := e1.push (F := LFp []) (same_upd hL) hL upd_same ⟨[], rfl, .nil⟩
  have sub : ∀ p ∈ gl, p ∈ gl ++ C1.gs := fun p hp => List.mem_append_left _ hp
  have hn' : (n : Int).toNat = n := Int.toNat_natCast n
  refine ⟨fun i m H' => m = n - i ∧ i ≤ n ∧ ∃ rs : List Addr, rs.length = i ∧ En { C1.ghs gl with mm := (L, LFp (rs.map Rf)) :: (rs.map fun r => (r, LF ([] : List PyData))) ++ C1.mm } σ H', ⟨n, by simp, Nat.zero_le _, [], rfl, e2⟩, ?_⟩
  rintro a m H' ⟨rfl, ha, rs, hrs, e'⟩
  by_cases hlt : a < n
  · refine .inr ⟨jo.go a _ σ H' (by omega) e' sub (fun q hq => nomatch hq), fun H2 => a + 1 ≤ n ∧ ∃ rs : List Addr, rs.length = a + 1 ∧ En { C1.ghs gl with mm := (L, LFp (rs.map Rf)) :: (rs.map fun r => (r, LF ([] : List PyData))) ++ C1.mm } σ H2, fun H2 ⟨q1, q2⟩ => ⟨n - (a + 1), by omega, rfl, q1, q2⟩, fun x H2 y => ?_⟩
    obtain ⟨e3, s3, p3⟩ := jo.yld a _ σ H' x H2 (by omega) e' sub (fun q hq => nomatch hq) y
    refine ⟨?_, ?_⟩
    · show L2.wipe ((L2.wipe σ [j]).set j (some x)) [j] = L2.wipe σ [j]
      have : L2.wipe ((L2.wipe σ [j]).set j (some x)) [j] = L2.wipe (L2.wipe σ [j]) [j] := wipe_ext (by simp) fun m hm => List.getElem?_set_ne fun z => hm (by simp [z])
      rw [this, wipe_wipe]
    · show (0 ≤ sizeLine ∧ ∀ p, H2 p = none → ∃ acc, upd H2 p (.lst []) L = some (.lst acc) ∧ acc.length < sizeLine ∧ _)
      refine ⟨Nat.zero_le _, fun p hp => ?_⟩
      have e4 := e3.push (F := LF []) (o := .lst []) (same_upd hp) hp upd_same ⟨[], rfl, .nil⟩
      have e5 := En.perm (mm' := (L, LFp (rs.map Rf)) :: ((rs ++ [p]).map fun r => (r, LF [])) ++ C1.mm) (by
        show List.Perm ((p, LF []) :: (L, LFp (rs.map Rf)) :: ((rs.map fun r => (r, LF ([] : List PyData))) ++ C1.mm)) ((L, LFp (rs.map Rf)) :: (((rs ++ [p]).map fun r => (r, LF [])) ++ C1.mm))
        rw [List.map_append, List.append_assoc]
        refine (List.Perm.swap _ _ _).trans ?_
        refine List.Perm.cons _ ?_
        exact (List.perm_middle).symm) e4
      obtain ⟨o, o1, xs, o2, o3⟩ := e5.mu (L, LFp (rs.map Rf)) List.mem_cons_self
      subst o2
      refine ⟨xs, o1, ?_, hlt, rs ++ [p], by simp [hrs], ?_⟩
      · rw [o3.length, List.length_map, hrs]
        exact Nat.lt_of_lt_of_le hlt (Nat.le_trans hn (by decide))
      · have e6 := e5.write (k := 0) (l := L) (F := LFp (rs.map Rf)) (F' := LFp ((rs ++ [p]).map Rf)) (o := .lst (xs ++ [.ref p])) rfl ⟨_, rfl, by rw [show (rs ++ [p]).map Rf = rs.map Rf ++ [Rf p] by simp]; exact o3.append (Fa.cons (P := Rf p) (v := .ref p) rfl .nil)⟩
        exact e6
  · have en : a = n := by omega
    subst en
    refine .inl ⟨?_, ?_⟩
    · have := jo.stop _ σ H' e' sub (fun q hq => nomatch hq)
      rw [hn'] at this
      exact this
    · refine k L rs hrs _ H' (En.set (P := Rf L) ⟨e'.len, e'.sl, fun p hp => e'.gh p (List.mem_append_right _ hp), e'.mu, e'.nd, e'.own, e'.out, e'.base⟩ rfl)
end
end K74

set_option Elab.async false
set_option linter.all false
set_option maxRecDepth 100000
set_option maxHeartbeats 4000000
namespace K74
open PySem PySem.Spec PyProof.Rows L2
theorem nx_x {C : Ct} {tz : TS} {D' : Ends} (h : Xs C tz D') : Nx C { D' with nx := tz D' } := h
theorem eNs_dropLast (l : List Nat) : (eNs l).dropLast = eNs l.dropLast := by unfold eNs; rw [List.map_dropLast]
def mmR (rs : List Addr) (rows : List (List Nat)) : List (Addr × FF) := List.zipWith (fun r row => (r, LF (eNs row))) rs rows
theorem mmR_get {rs : List Addr} {rows : List (List Nat)} {k : Nat} {r : Addr} {row : List Nat} (h1 : rs[k]? = some r) (h2 : rows[k]? = some row) : (mmR rs rows)[k]? = some (r, LF (eNs row)) := by
  unfold mmR
  rw [List.getElem?_zipWith, h1, h2]
theorem mmR_set {rs : List Addr} {k : Nat} {r : Addr} (h1 : rs[k]? = some r) (row' : List Nat) : ∀ (rows : List (List Nat)), (mmR rs rows).set k (r, LF (eNs row')) = mmR rs (rows.set k row') := by
  intro rows
  unfold mmR
  apply List.ext_getElem?
  intro i
  rw [List.getElem?_set, List.getElem?_zipWith, List.getElem?_zipWith, List.getElem?_set]
  by_cases e : k = i
  · subst e
    rw [if_pos rfl, if_pos rfl, h1, List.length_zipWith]
    have hk := (List.getElem?_eq_some_iff.mp h1).1
    by_cases hl : k < rows.length
    · rw [if_pos (by omega), if_pos hl]
    · rw [if_neg (by omega), if_neg hl]
  · rw [if_neg e, if_neg e]
theorem mmR_nil (n : Nat) : ∀ (rs : List Addr), rs.length = n → (rs.map fun r => (r, LF ([] : List PyData))) = mmR rs (List.replicate n []) := by
  induction n with
  | zero =>
    intro rs h
    have : rs = [] := List.length_eq_zero_iff.mp h
    subst this
    rfl
  | succ n ih =>
    intro rs h
    cases rs with
    | nil => cases h
    | cons r rs =>
      rw [List.map_cons, ih rs (by simpa using h), List.replicate_succ]
      rfl
/-- two lists in order of the same things are one -/
theorem sorted_one {α : Type} (r : α → α → Prop) (as : ∀ a b, r a b → r b a → a = b) : ∀ {l m : List α}, l.Perm m → l.Pairwise r → m.Pairwise r → l = m
  | [], m, h, _, _ => by
    have := h.length_eq
    cases m with
    | nil => rfl
    | cons _ _ => simp at this
  | a :: l, [], h, _, _ => by
    have := h.length_eq
    simp at this
  | a :: l, b :: m, h, h1, h2 => by
    have ha : a ∈ b :: m := h.mem_iff.mp List.mem_cons_self
    have hb : b ∈ a :: l := h.mem_iff.mpr List.mem_cons_self
    rw [List.pairwise_cons] at h1 h2
    have e : a = b := by
      rcases List.mem_cons.mp ha with e | ha
      · exact e
      · rcases List.mem_cons.mp hb with e | hb
        · exact e.symm
        · exact as a b (h1.1 b hb) (h2.1 a ha)
    subst e
    rw [sorted_one r as ((List.perm_cons a).mp h) h1.2 h2.2]
theorem sorted_int {l : List Nat} {k : List Int} (h : k.Perm (l.map fun n : Nat => (n : Int))) (hs : k.Pairwise (· ≤ ·)) : k = (Mir.isort l).map fun n : Nat => (n : Int) := by
  refine sorted_one (· ≤ ·) (fun a b h1 h2 => Int.le_antisymm h1 h2) (h.trans ((Mir.isort_perm l).map _).symm) hs ?_
  rw [List.pairwise_map]
  exact (Mir.isort_sorted l).imp fun h => by omega
section
variable {P : Program} {w : World} {K : PySem.W.Frag} {mg : PySem.Str → Option Value} {base : Heap} {CC CW : Addr}
/-! ### lanes -/
abbrev s_lane_in : Stmt := topS 20
abbrev N_lane_in : List PySem.Str := ["value", "one"]
theorem sc_lane_in : FnScope N_lane_in ["value"] (defScope s_lane_in) := ⟨rfl, rfl, rfl, by decide +kernel, rfl, by decide +kernel, by decide +kernel⟩
def R_lane_in : List PP → PP → Prop := fun Ps T => ∃ l : Nat × Nat, Ps = [D (eLane l)] ∧ l.1 ≠ l.2 ∧ T = D (eLane (Mir.laneIn l))
theorem ok_lane_in (F : Df K mg "lane_in" s_lane_in ["value"]) (T : Txt K mg CC CW) (c_is_list : Cal P w K mg base "is_list" ["value"] 1 (spF R_is_list)) (c_is_count : Cal P w K mg base "is_count" ["value"] 2 (spF R_is_count)) :
    Cal P w K mg base "lane_in" ["value"] 3 (spF R_lane_in) := by
  refine F.ok sc_lane_in (fun Ps T ⟨d, h, _⟩ => by rw [h]; rfl) fun f cdv A outer s H E hr => ⟨_,
    (pss_cons (ps_if (PW.pt (pw_or (pt_not (pt_val (pe_cal c_is_list (hr.mono (by decide)) rfl (pa_cons (pv 0) pa_nil)))) (pw_or (pt_cmpR (op_neD hr.units) (pe_callB call_len (by rfl) T.len PySem.boot_len (pa_cons (pv 0) pa_nil)) pe_int (nomark _)) (pw_or (pt_not (pt_val (pe_callB (cr_all rfl) (by rfl) T.all boot_all (pa_cons (pe_lc (own := [("one", 1)]) (g := (gName 1)) (tt := tYes) (by rfl) sc_lane_in.nd (pi_tup (pv 0)) (blkOk_by (own := [("one", 1)]) (N := N_lane_in) (sc := defScope s_lane_in) (by decide +kernel)) (fun _ _ _ _ _ => (pg_name (i := 1) sc_lane_in.nd rfl (by first | exact Or.inl rfl | exact Or.inr rfl))) (fun _ _ _ _ _ => pts_nil) (fun _ _ _ _ _ => (pe_cal c_is_count (hr.mono (by decide)) rfl (pa_cons (pv 1) pa_nil)))) pa_nil)))) (pw_or1 (pt_cmpR (op_eqD hr.units) (pe_ix ix_seq (pv 0) pe_int (fun _ _ => rfl)) (pe_ix ix_seq (pv 0) pe_int (fun _ _ => rfl)) (nomark _))))))) (pss_one (ps_ret pe_non)) pss_nil)
      (pss_one (ps_ret (pe_tup (pa_cons (pe_callB (call_min2 rfl) (by rfl) T.min boot_min (pa_cons (pe_ix ix_seq (pv 0) pe_int (fun _ _ => rfl)) (pa_cons (pe_ix ix_seq (pv 0) pe_int (fun _ _ => rfl)) pa_nil))) (pa_cons (pe_callB (call_max2 rfl) (by rfl) T.max boot_max (pa_cons (pe_ix ix_seq (pv 0) pe_int (fun _ _ => rfl)) (pa_cons (pe_ix ix_seq (pv 0) pe_int (fun _ _ => rfl)) pa_nil))) pa_nil)))))), ?_⟩
  rintro B M0 Ps T D' ⟨⟨a, b⟩, rfl, hne, rfl⟩ hR _
  have v0 : ∀ {C : Ct}, Vt C (DT [eN a, eN b]) [eN a, eN b] := vt_d
  refine xs_seq (xs_no (C1 := ⟨B, M0, [], [some (DT [eN a, eN b]), none], []⟩) (XT.eq (xt_or (a := !true) (xt_not (xt_b (xv_call (xa_cons (xv_var rfl) xa_nil) ⟨_, rfl, rfl, rfl⟩))) fun _ =>
    xt_or (xt_test (xv_op (xv_cb (xa_cons (xv_var rfl) xa_nil) (rc_lenT v0)) xv_int (ro_neD vd_d vd_d (shaped_flat rfl) (shaped_flat rfl)))) fun _ =>
    xt_or (a := !true) (xt_not (xt_b (xv_cb (xa_cons (Xv.lst (xf_map (items := [eN a, eN b]) PyData.none (fun d => .bool (isCnt d)) (xi_tup (xv_var rfl)) (fun q hq => nomatch hq) (by show 2 ≤ 100000; decide) fun i gl l acc hi => ⟨_, _, xg_name, fun j hj => hj, ?_⟩)) xa_nil) (Ps := [DL ([true, true].map PyData.bool)]) (rc_all vl_d)))) fun _ =>
    xt_test (xv_op (xv_op (xv_var rfl) xv_int (ro_ixT v0 rfl)) (xv_op (xv_var rfl) xv_int (ro_ixT v0 rfl)) (ro_eqD vd_d vd_d (shaped_flat rfl) (shaped_flat rfl)))) ?_) ?_)
  · refine xv_call (xa_cons (xv_var rfl) xa_nil) ⟨_, rfl, ?_, rfl⟩
    match i, hi with
    | 0, _ => rfl
    | 1, _ => rfl
  · have hab : ¬ a = b := hne
    rw [eqv_nat, decide_eq_false hab]
    rfl
  · refine xs_next (nx_x (xs_ret (T := D (eLane (Mir.laneIn (a, b)))) (Xv.tup (xf_tup [eN (min a b), eN (max a b)] (XA.eq (xa_cons (xv_cb (xa_cons (xv_op (xv_var rfl) xv_int (ro_ixT v0 rfl)) (xa_cons (xv_op (xv_var rfl) xv_int (ro_ixT v0 rfl)) xa_nil)) rc_min2)
      (xa_cons (xv_cb (xa_cons (xv_op (xv_var rfl) xv_int (ro_ixT v0 rfl)) (xa_cons (xv_op (xv_var rfl) xv_int (ro_ixT v0 rfl)) xa_nil)) rc_max2) xa_nil)) ?_) (by show 2 ≤ 100000; decide))) rfl rfl (fun H v p => p) hR))
    show [DI (min (a : Int) b), DI (max (a : Int) b)] = [DI ((min a b : Nat) : Int), DI ((max a b : Nat) : Int)]
    have e1 : min (a : Int) b = ((min a b : Nat) : Int) := by omega
    have e2 : max (a : Int) b = ((max a b : Nat) : Int) := by omega
    rw [e1, e2]
abbrev s_ties_of : Stmt := topS 21
abbrev N_ties_of : List PySem.Str := ["lanes", "found", "near", "far", "place", "row"]
theorem sc_ties_of : FnScope N_ties_of ["lanes"] (defScope s_ties_of) := ⟨rfl, rfl, rfl, by decide +kernel, rfl, by decide +kernel, by decide +kernel⟩
abbrev s__law_ties : Stmt := topS 87
abbrev N__law_ties : List PySem.Str := ["_law_lanes", "_law_found", "_law_near", "_law_far", "_law_place", "_law_row"]
theorem sc__law_ties : FnScope N__law_ties ["_law_lanes"] (defScope s__law_ties) := ⟨rfl, rfl, rfl, by decide +kernel, rfl, by decide +kernel, by decide +kernel⟩
def R_ties : List PP → PP → Prop := fun Ps T => ∃ ls : List (Nat × Nat), Ps = [DL (ls.map eLane)] ∧ Mir.lanesOk ls = true ∧ ls.length ≤ 100 ∧ T = DL (eLL (Mir.tiesOf ls))
theorem addAt_len (rows : List (List Nat)) (i x : Nat) : (Mir.addAt rows i x).length = rows.length := by unfold Mir.addAt; rw [List.length_set]
theorem tieStep_len (rows : List (List Nat)) (l : Nat × Nat) : (Mir.tieStep rows l).length = rows.length := by unfold Mir.tieStep; rw [addAt_len, addAt_len]
theorem tieFold_len : ∀ (ls : List (Nat × Nat)) (rows : List (List Nat)), (ls.foldl Mir.tieStep rows).length = rows.length
  | [], _ => rfl
  | l :: r, rows => by rw [List.foldl_cons, tieFold_len r, tieStep_len]
theorem foldl_take {α β : Type} (f : β → α → β) (b : β) (l : List α) (a : α) {i : Nat} (h : i < l.length) : (l.take (i + 1)).foldl f b = f ((l.take i).foldl f b) (l.getD i a) := by
  rw [List.take_add_one, List.getElem?_eq_getElem h, List.foldl_append, List.getD_eq_getElem?_getD, List.getElem?_eq_getElem h]
  rfl
/-- one append to a row -/
theorem xv_row {B : Hp} {M0 : List Addr} {l : Addr} {rs : List Addr} {rows : List (List Nat)} {ds : List (Option PP)} {gs : List (V × PP)} {i j k : Nat} {a x : Nat} (hl : rs.length = rows.length) (ha : a < rows.length) (h1 : ds[i]? = some (some (Rf l))) (h2 : ds[j]? = some (some (D (eN a)))) (h3 : ds[k]? = some (some (D (eN x)))) (hz : (rows.getD a []).length < 1000) :
    Xv ⟨B, M0, (l, LFp (rs.map Rf)) :: mmR rs rows, ds, gs⟩ (tBM K "list" rAppend (tOp (rIx K) (tVar i) (tVar j)) (tCons (tVar k) tNil)) (D .none) ⟨B, M0, (l, LFp (rs.map Rf)) :: mmR rs (Mir.addAt rows a x), ds, gs⟩ := by
  have hra : rs[a]? = some (rs[a]'(by omega)) := List.getElem?_eq_getElem _
  have hro : rows[a]? = some (rows.getD a []) := by rw [List.getElem?_eq_getElem ha, List.getD_eq_getElem?_getD, List.getElem?_eq_getElem ha]; rfl
  have hk : (⟨B, M0, (l, LFp (rs.map Rf)) :: mmR rs rows, ds, gs⟩ : Ct).mm[a + 1]? = some (rs[a]'(by omega), LF (eNs (rows.getD a []))) := mmR_get hra hro
  have hx := xv_app (K := K) (C := ⟨B, M0, (l, LFp (rs.map Rf)) :: mmR rs rows, ds, gs⟩) (k := a + 1) (d := eN x) (xv_op (xv_var h1) (xv_var h2) (ro_ixLP (K := K) (k := 0) rfl (atI_n (by rw [List.getElem?_map, hra]; rfl)))) (xv_var h3) hk hk (by rw [eNs_len]; omega)
  have e : (Ct.mut ⟨B, M0, (l, LFp (rs.map Rf)) :: mmR rs rows, ds, gs⟩ (a + 1) (rs[a]'(by omega)) (LF (eNs (rows.getD a []) ++ [eN x]))) = ⟨B, M0, (l, LFp (rs.map Rf)) :: mmR rs (Mir.addAt rows a x), ds, gs⟩ := by
    show Ct.mk B M0 ((l, LFp (rs.map Rf)) :: (mmR rs rows).set a (rs[a]'(by omega), LF (eNs (rows.getD a []) ++ [eN x]))) ds gs = _
    have e2 : eNs (rows.getD a []) ++ [eN x] = eNs (rows.getD a [] ++ [x]) := by rw [eNs_append]; rfl
    rw [e2, mmR_set hra]
    rfl
  rw [e] at hx
  exact hx
theorem rowLen_step (rows : List (List Nat)) (i x k m : Nat) (h : (rows.getD k []).length ≤ m) : ((Mir.addAt rows i x).getD k []).length ≤ m + 1 := by
  unfold Mir.addAt
  rw [List.getD_eq_getElem?_getD, List.getElem?_set]
  by_cases e : i = k
  · subst e
    rw [if_pos rfl]
    split
    · show (rows.getD i [] ++ [x]).length ≤ m + 1
      rw [List.length_append]
      simp only [List.length_cons, List.length_nil]
      omega
    · simp
  · rw [if_neg e, ← List.getD_eq_getElem?_getD]
    omega
theorem rowLen_fold : ∀ (ls : List (Nat × Nat)) (rows : List (List Nat)) (m : Nat), (∀ k, (rows.getD k []).length ≤ m) → ∀ k, ((ls.foldl Mir.tieStep rows).getD k []).length ≤ m + 2 * ls.length
  | [], rows, m, h, k => h k
  | l :: r, rows, m, h, k => by
    rw [List.foldl_cons, List.length_cons]
    have := rowLen_fold r (Mir.tieStep rows l) (m + 2) (fun k => by
      unfold Mir.tieStep
      exact rowLen_step _ _ _ _ _ (rowLen_step _ _ _ _ _ (h k))) k
    omega
theorem read_ties {X : Cx} {ls : List (Nat × Nat)} (hok : Mir.lanesOk ls = true) (hlen : ls.length ≤ 100) {B : Hp} {M0 : List Addr} {D' : Ends} (hR : Rt ⟨B, M0, [], [some (DL (ls.map eLane)), none, none, none, none, none], []⟩ (DL (eLL (Mir.tiesOf ls))) D') :
    Xs ⟨B, M0, [], [some (DL (ls.map eLane)), none, none, none, none, none], []⟩
      (tSeq (tAsg (tLc (iRng1 (tCons (tOp (rI0 fun i j => .int (i + j)) (tCB (fun xs H Q => ∃ x n, xs = [x] ∧ LenV K x H n ∧ Q (.int n) H) (tCons (tVar 0) tNil)) (tC (.int 1))) tNil)) (gName 4) tYes (tLst tNil) [4]) (gName 1))
      (tSeq (tFor (iList K (tVar 0)) (gTup K 2 (gCons (gName 2) (gCons (gName 3) gNil)))
        (tSeq (tDrop (tBM K "list" rAppend (tOp (rIx K) (tVar 1) (tVar 2)) (tCons (tVar 3) tNil))) (tDrop (tBM K "list" rAppend (tOp (rIx K) (tVar 1) (tVar 3)) (tCons (tVar 2) tNil)))))
      (tRet (tLc (iList K (tVar 1)) (gName 5) tYes (tCB (rSortedI K) (tCons (tVar 5) tNil)) [5])))) D' := by
  refine xs_seq (xs_rows (n := ls.length + 1) (XA.eq (xa_cons (xv_op (xv_cb (xa_cons (xv_var rfl) xa_nil) (rc_lenL vl_d)) xv_int ro_i0) xa_nil) ?_) (by omega) fun l rs hrs => nx_x ?_)
  · rw [List.length_map]
    rfl
  rw [mmR_nil _ rs hrs, List.append_nil]
  let rows : Nat → List (List Nat) := fun i => (ls.take i).foldl Mir.tieStep (List.replicate (ls.length + 1) [])
  have rl : ∀ i, (rows i).length = ls.length + 1 := fun i => by
    show ((ls.take i).foldl Mir.tieStep _).length = _
    rw [tieFold_len, List.length_replicate]
  have r0 : ∀ i k, ((rows i).getD k []).length ≤ 0 + 2 * (ls.take i).length := fun i k => rowLen_fold _ _ 0 (fun k => by
    rw [List.getD_eq_getElem?_getD, List.getElem?_replicate]
    split <;> simp) k
  have rb : ∀ i k, ((rows i).getD k []).length ≤ 200 := fun i k => by
    have h1 := r0 i k
    have h2 : (ls.take i).length ≤ ls.length := by rw [List.length_take]; omega
    omega
  refine xs_seq (xs_for (I := fun i => ⟨B, M0, (l, LFp (rs.map Rf)) :: mmR rs (rows i), [some (DL (ls.map eLane)), some (Rf l), none, none, none, none], []⟩) (xi_list (xv_var rfl)) (fun _ _ q hq => nomatch hq) (ghs_weak (wk_refl _)) (fun i gl hi => ?_) (nx_x ?_))
  · rw [List.length_map] at hi
    have e0 : D ((ls.map eLane).getD i .none) = DT [eN (ls.getD i (0, 0)).1, eN (ls.getD i (0, 0)).2] := by rw [map_getD eLane ls (0, 0) hi]; rfl
    show Xb _ _ (D ((ls.map eLane).getD i .none)) _ _
    rw [e0]
    have hm : ls.getD i (0, 0) ∈ ls := by
      rw [List.getD_eq_getElem?_getD, List.getElem?_eq_getElem hi]
      exact List.getElem_mem hi
    have hb := List.all_eq_true.mp hok _ hm
    simp only [decide_eq_true_eq] at hb
    obtain ⟨b1, b2, b3⟩ := hb
    generalize hl : ls.getD i (0, 0) = ab at *
    obtain ⟨a, b⟩ := ab
    have e1 : rows (i + 1) = Mir.addAt (Mir.addAt (rows i) a b) b a := by
      show (ls.take (i + 1)).foldl Mir.tieStep _ = _
      rw [foldl_take _ _ _ (0, 0) hi, hl]
      rfl
    refine xb_mk (xg_tup (xgs_cons xg_name (xgs_cons xg_name xgs_nil)) rfl) (xs_seq (xs_drop (xv_row (i := 1) (j := 2) (k := 3) (a := a) (x := b) (by rw [hrs, rl]) (by rw [rl]; exact Nat.lt_succ_of_le b1) rfl rfl rfl (Nat.lt_of_le_of_lt (rb i a) (by decide))) (nx_x
      (xs_drop (xv_row (i := 1) (j := 3) (k := 2) (a := b) (x := a) (by rw [hrs, addAt_len, rl]) (by rw [addAt_len, rl]; exact Nat.lt_succ_of_le b2) rfl rfl rfl ?_) fun σ H e => ?_))))
    · have := rowLen_step (rows i) a b b 200 (rb i b)
      omega
    · show En (Ct.ghs ⟨B, M0, (l, LFp (rs.map Rf)) :: mmR rs (rows (i + 1)), [some (DL (ls.map eLane)), some (Rf l), none, none, none, none], []⟩ gl) σ H
      rw [e1]
      exact e.weak (.keep (.keep (.drop (.drop (.keep (.keep .nil)))))) fun _ z => z
  · rw [List.length_map]
    have hrl : rs.length = (rows ls.length).length := by rw [hrs, rl]
    refine xs_retF (T := DL (eLL (Mir.tiesOf ls))) (F := LF (eLL (Mir.tiesOf ls))) (C1 := ⟨B, M0, (l, LFp (rs.map Rf)) :: mmR rs (rows ls.length), [some (DL (ls.map eLane)), some (Rf l), none, none, none, none], []⟩) ?_ rfl rfl (fun _ _ p => Fz.lst p) hR
    have et : eLL (Mir.tiesOf ls) = (List.range (rows ls.length).length).map fun i => .list (eNs (Mir.isort ((rows ls.length).getD i []))) := by
      have : Mir.tiesOf ls = (rows ls.length).map Mir.isort := by
        show (Mir.tiesRaw ls).map Mir.isort = ((ls.take ls.length).foldl Mir.tieStep _).map Mir.isort
        rw [List.take_length]
        rfl
      rw [this]
      unfold eLL
      rw [List.map_map]
      apply List.ext_getElem?
      intro i
      rw [List.getElem?_map, List.getElem?_map]
      by_cases hi : i < (rows ls.length).length
      · rw [List.getElem?_range hi, List.getElem?_eq_getElem hi, ]
        simp [List.getD_eq_getElem?_getD, hi]
      · rw [List.getElem?_eq_none (by omega), List.getElem?_eq_none (by simpa using hi)]
        rfl
    rw [et]
    have hmap := xf_lc (C := ⟨B, M0, (l, LFp (rs.map Rf)) :: mmR rs (rows ls.length), [some (DL (ls.map eLane)), some (Rf l), none, none, none, none], []⟩) (g := gName 5) (tt := tYes) (te := tCB (rSortedI K) (tCons (tVar 5) tNil)) (vs := [5])
      (fun i => some (.list (eNs (Mir.isort ((rows ls.length).getD i []))))) (xi_listP (K := K) (k := 0) (xv_var (i := 1) rfl) rfl) (fun q hq => by rw [List.mem_singleton.mp hq]; exact List.mem_cons_self) (by rw [List.length_map, hrs]; omega) (fun i gl l2 acc hi => ?_)
    · have ew : (List.range (rs.map Rf).length).filterMap (fun i => some (PyData.list (eNs (Mir.isort ((rows ls.length).getD i []))))) = (List.range (rows ls.length).length).map fun i => .list (eNs (Mir.isort ((rows ls.length).getD i []))) := by
        rw [List.length_map, ← hrl]
        exact congrFun (List.filterMap_eq_map (f := fun i => PyData.list (eNs (Mir.isort ((rows ls.length).getD i []))))) _
      rw [ew] at hmap
      exact hmap
    · rw [List.length_map] at hi
      have hra : rs[i]? = some (rs[i]'hi) := List.getElem?_eq_getElem _
      have hro : (rows ls.length)[i]? = some ((rows ls.length).getD i []) := by
        have hi2 : i < (rows ls.length).length := by omega
        rw [List.getElem?_eq_getElem hi2, List.getD_eq_getElem?_getD, List.getElem?_eq_getElem hi2]; rfl
      have eP : (rs.map Rf).getD i Any = Rf (rs[i]'hi) := by
        rw [List.getD_eq_getElem?_getD, List.getElem?_map, hra]
        rfl
      refine ⟨_, _, xg_name, fun j hj => hj, xt_yes, fun d hd => ?_⟩
      cases hd
      refine Xv.lst (xf_cb (xa_cons (xv_var rfl) xa_nil) ?_)
      show RCF _ _ [(rs.map Rf).getD i Any] _
      rw [eP, eNs_ints]
      refine rcf_sortedI (ns := ((rows ls.length).getD i []).map fun n : Nat => (n : Int)) (vl_r (k := i + 2) ?_) fun k hk hs => ?_
      · rw [← eNs_ints]
        exact mmR_get hra hro
      · refine sorted_int hk hs
theorem ok_ties_of (F : Df K mg "ties_of" s_ties_of ["lanes"]) (T : Txt K mg CC CW) : Cal P w K mg base "ties_of" ["lanes"] 1 (spF R_ties) := by
  refine F.ok sc_ties_of (fun Ps T ⟨d, h, _⟩ => by rw [h]; rfl) fun f cdv A outer s H E hr => ⟨_,
    (pss_cons (ps_setLc (i := 1) (own := [("place", 4)]) (g := (gName 4)) (tt := tYes) (by rfl) sc_ties_of.nd rfl rfl (sw_true rfl rfl rfl (by decide +kernel)) (pi_range1 rfl T.range (pa_cons (pe_op op_add (pe_callB call_len (by rfl) T.len PySem.boot_len (pa_cons (pv 0) pa_nil)) pe_int) pa_nil)) (blkOk_by (own := [("place", 4)]) (N := N_ties_of) (sc := defScope s_ties_of) (by decide +kernel)) (fun _ _ _ _ _ => (pg_name (i := 4) sc_ties_of.nd rfl (by first | exact Or.inl rfl | exact Or.inr rfl))) (fun _ _ _ _ _ => pts_nil) (fun _ _ _ _ _ => (pe_lst pa_nil)))
      (pss_cons (ps_for PassesOwn.never rfl (pi_list (pv 0)) (pg_tup rfl (pgs_cons (pg_name (i := 2) sc_ties_of.nd rfl (.inl rfl)) (pgs_cons (pg_name (i := 3) sc_ties_of.nd rfl (.inl rfl)) pgs_nil)))
        (pss_cons (ps_expr (pe_bm PySem.F.plainAttrs_list PySem.F.slot_list_append PySem.F.type_list_append mt_append (pe_ix ix_seq (pv 1) (pv 2) (fun _ _ => rfl)) (pa_cons (pv 3) pa_nil)))
        (pss_one (ps_expr (pe_bm PySem.F.plainAttrs_list PySem.F.slot_list_append PySem.F.type_list_append mt_append (pe_ix ix_seq (pv 1) (pv 3) (fun _ _ => rfl)) (pa_cons (pv 2) pa_nil))))))
      (pss_one (ps_ret (pe_lc (own := [("row", 5)]) (g := (gName 5)) (tt := tYes) (by rfl) sc_ties_of.nd (pi_list (pv 1)) (blkOk_by (own := [("row", 5)]) (N := N_ties_of) (sc := defScope s_ties_of) (by decide +kernel)) (fun _ _ _ _ _ => (pg_name (i := 5) sc_ties_of.nd rfl (by first | exact Or.inl rfl | exact Or.inr rfl))) (fun _ _ _ _ _ => pts_nil) (fun _ _ _ _ _ => (pe_callB (r := rSortedI K) cr_sortedI (by rfl) T.sorted boot_sorted (pa_cons (pv 5) pa_nil)))))))), ?_⟩
  rintro B M0 Ps T D' ⟨ls, rfl, hok, hl, rfl⟩ hR _
  exact read_ties (X := cxOf CX0 P w K mg base N_ties_of "ties_of" (defScope s_ties_of) f cdv A outer s H E) hok hl hR
theorem ok__law_ties (F : Df K mg "_law_ties" s__law_ties ["_law_lanes"]) (T : Txt K mg CC CW) : Cal P w K mg base "_law_ties" ["_law_lanes"] 1 (spF R_ties) := by
  refine F.ok sc__law_ties (fun Ps T ⟨d, h, _⟩ => by rw [h]; rfl) fun f cdv A outer s H E hr => ⟨_,
    (pss_cons (ps_setLc (i := 1) (own := [("_law_place", 4)]) (g := (gName 4)) (tt := tYes) (by rfl) sc__law_ties.nd rfl rfl (sw_true rfl rfl rfl (by decide +kernel)) (pi_range1 rfl T.range (pa_cons (pe_op op_add (pe_callB call_len (by rfl) T.len PySem.boot_len (pa_cons (pv 0) pa_nil)) pe_int) pa_nil)) (blkOk_by (own := [("_law_place", 4)]) (N := N__law_ties) (sc := defScope s__law_ties) (by decide +kernel)) (fun _ _ _ _ _ => (pg_name (i := 4) sc__law_ties.nd rfl (by first | exact Or.inl rfl | exact Or.inr rfl))) (fun _ _ _ _ _ => pts_nil) (fun _ _ _ _ _ => (pe_lst pa_nil)))
      (pss_cons (ps_for PassesOwn.never rfl (pi_list (pv 0)) (pg_tup rfl (pgs_cons (pg_name (i := 2) sc__law_ties.nd rfl (.inl rfl)) (pgs_cons (pg_name (i := 3) sc__law_ties.nd rfl (.inl rfl)) pgs_nil)))
        (pss_cons (ps_expr (pe_bm PySem.F.plainAttrs_list PySem.F.slot_list_append PySem.F.type_list_append mt_append (pe_ix ix_seq (pv 1) (pv 2) (fun _ _ => rfl)) (pa_cons (pv 3) pa_nil)))
        (pss_one (ps_expr (pe_bm PySem.F.plainAttrs_list PySem.F.slot_list_append PySem.F.type_list_append mt_append (pe_ix ix_seq (pv 1) (pv 3) (fun _ _ => rfl)) (pa_cons (pv 2) pa_nil))))))
      (pss_one (ps_ret (pe_lc (own := [("_law_row", 5)]) (g := (gName 5)) (tt := tYes) (by rfl) sc__law_ties.nd (pi_list (pv 1)) (blkOk_by (own := [("_law_row", 5)]) (N := N__law_ties) (sc := defScope s__law_ties) (by decide +kernel)) (fun _ _ _ _ _ => (pg_name (i := 5) sc__law_ties.nd rfl (by first | exact Or.inl rfl | exact Or.inr rfl))) (fun _ _ _ _ _ => pts_nil) (fun _ _ _ _ _ => (pe_callB (r := rSortedI K) cr_sortedI (by rfl) T.sorted boot_sorted (pa_cons (pv 5) pa_nil)))))))), ?_⟩
  rintro B M0 Ps T D' ⟨ls, rfl, hok, hl, rfl⟩ hR _
  exact read_ties (X := cxOf CX0 P w K mg base N__law_ties "_law_ties" (defScope s__law_ties) f cdv A outer s H E) hok hl hR
end
end K74

set_option Elab.async false
set_option linter.all false
set_option maxRecDepth 100000
set_option maxHeartbeats 4000000
namespace K74
open PySem PySem.Spec PyProof.Rows L2
section
variable {P : Program} {w : World} {K : PySem.W.Frag} {mg : PySem.Str → Option Value} {base : Heap} {CC CW : Addr}
abbrev s_is_whole : Stmt := topS 22
abbrev N_is_whole : List PySem.Str := ["ties", "met", "waiting", "place"]
theorem sc_is_whole : FnScope N_is_whole ["ties"] (defScope s_is_whole) := ⟨rfl, rfl, rfl, by decide +kernel, rfl, by decide +kernel, by decide +kernel⟩
theorem wholeLen : ∀ (row : List Nat) (a b : List Nat), (row.foldl Mir.wholeStep (a, b)).1.length ≤ a.length + row.length ∧ (row.foldl Mir.wholeStep (a, b)).2.length ≤ b.length + row.length
  | [], a, b => ⟨Nat.le_refl _, Nat.le_refl _⟩
  | p :: r, a, b => by
    rw [List.foldl_cons, List.length_cons]
    by_cases h : p ∈ a
    · have e : Mir.wholeStep (a, b) p = (a, b) := if_pos h
      rw [e]
      have := wholeLen r a b
      omega
    · have e : Mir.wholeStep (a, b) p = (a ++ [p], b ++ [p]) := if_neg h
      rw [e]
      have := wholeLen r (a ++ [p]) (b ++ [p])
      simp only [List.length_append, List.length_cons, List.length_nil] at this
      omega
theorem mem_dropLast' {α : Type} {l : List α} {p : α} (h : p ∈ l.dropLast) : p ∈ l := by
  rw [List.dropLast_eq_take] at h
  exact List.mem_of_mem_take h
theorem getD_get {α : Type} {l : List α} {i : Nat} (a : α) (h : i < l.length) : l[i]? = some (l.getD i a) := by
  rw [List.getD_eq_getElem?_getD, List.getElem?_eq_getElem h]; rfl
def R_is_whole : List PP → PP → Prop := fun Ps T => ∃ (ties : List (List Nat)) (met : List Nat), Ps = [DL (eLL ties)] ∧ Mir.tiesOk ties = true ∧ ties.length ≤ 100 ∧ (∀ r ∈ ties, r.length ≤ 100) ∧ 0 < ties.length ∧ Mir.wholeRun ties 40 [0] [0] = some met ∧ T = DB (decide (met.length = ties.length))
theorem ok_is_whole (F : Df K mg "is_whole" s_is_whole ["ties"]) (T : Txt K mg CC CW) : Cal P w K mg base "is_whole" ["ties"] 1 (spF R_is_whole) := by
  refine F.ok sc_is_whole (fun Ps T ⟨d, e, h, _⟩ => by rw [h]; rfl) fun f cdv A outer s H E hr => ⟨_,
    (pss_cons (ps_par (i := 1) (j := 2) (by rfl) sc_is_whole.nd rfl rfl (by decide) rfl rfl (pa_cons (pe_lst (pa_cons pe_int pa_nil)) (pa_cons (pe_lst (pa_cons pe_int pa_nil)) pa_nil)) (by rfl))
      (pss_cons (ps_while PassesOwn.never (pt_cmpR (op_neD hr.units) (pv 2) (pe_lst pa_nil) (nomark _)) (pss_one (ps_for PassesOwn.never rfl (pi_list (pe_ix ix_seq (pv 0) (pe_bm0 PySem.F.plainAttrs_list PySem.F.slot_list_pop PySem.F.type_list_pop mt_pop (pv 2)) (fun _ _ => rfl))) (pg_name (i := 3) sc_is_whole.nd rfl (.inl rfl))
          (pss_one (ps_if (pt_cmpR (op_notInD (hu65 hr)) (pv 3) (pv 1) (by rfl)) (pss_cons (ps_expr (pe_bm PySem.F.plainAttrs_list PySem.F.slot_list_append PySem.F.type_list_append mt_append (pv 1) (pa_cons (pv 3) pa_nil)))
            (pss_one (ps_expr (pe_bm PySem.F.plainAttrs_list PySem.F.slot_list_append PySem.F.type_list_append mt_append (pv 2) (pa_cons (pv 3) pa_nil))))) pss_nil)))))
      (pss_one (ps_ret (pe_cmpR (op_eqD hr.units) (pe_callB call_len (by rfl) T.len PySem.boot_len (pa_cons (pv 1) pa_nil)) (pe_callB call_len (by rfl) T.len PySem.boot_len (pa_cons (pv 0) pa_nil)) (nomark _)))))), ?_⟩
  rintro B M0 Ps T D' ⟨ties, res, rfl, hok, hlen, hrow, hpos, hrun, rfl⟩ hR _
  refine xs_seq (xs_parFF (xf_lst [eN 0] (xa_cons xv_int xa_nil) (by show 1 ≤ 100000; decide)) (fun l => xf_lst [eN 0] (xa_cons xv_int xa_nil) (by show 1 ≤ 100000; decide)) fun lm lw => nx_x ?_)
  -- the state: met, waiting, turns left
  let I : List Nat × List Nat × Nat → Ct := fun x => ⟨B, M0, [(lw, LF (eNs x.2.1)), (lm, LF (eNs x.1))], [some (DL (eLL ties)), some (Rf lm), some (Rf lw), none], []⟩
  refine xs_seq (xs_while I (fun x => x.2.2) (fun x => Mir.wholeRun ties x.2.2 x.1 x.2.1 = some res ∧ (∀ p ∈ x.2.1, p < ties.length) ∧ x.1.length + 100 * x.2.2 ≤ 5000 ∧ x.2.1.length + 100 * x.2.2 ≤ 5000) ([0], [0], 40) ⟨hrun, fun p hp => by rw [List.mem_singleton.mp hp]; exact hpos, by decide, by decide⟩ (fun σ H e => e) ?_)
  rintro ⟨met, wa, n⟩ ⟨hr0, hw, hz1, hz2⟩
  have hz1 : met.length + 100 * n ≤ 5000 := hz1
  have hz2 : wa.length + 100 * n ≤ 5000 := hz2
  refine ⟨!(eNs wa).isEmpty, I (met, wa, n), (xt_test (xv_op (xv_var rfl) (Xv.lst (xf_lst [] xa_nil (by decide))) (ro_neD (vd_r (k := 0) rfl) vd_d (eNs_shaped wa) (shaped_flats rfl)))).eq (by rw [eqv_list_nil]), fun hb => ?_, fun hb => nx_x ?_⟩
  · cases wa with
    | nil => cases hb
    | cons a r =>
      cases n with
      | zero => cases hr0
      | succ n =>
        generalize hwa : a :: r = wa at *
        have hne : 0 < wa.length := by rw [← hwa]; simp
        let x := wa.getD (wa.length - 1) 0
        have hx : wa[wa.length - 1]? = some x := getD_get 0 (by omega)
        have hxl : x < ties.length := hw x (List.mem_of_getElem? hx)
        let row := ties.getD x []
        have hrow2 : ties[x]? = some row := getD_get [] hxl
        have hrl : row.length ≤ 100 := hrow row (List.mem_of_getElem? hrow2)
        have hrb : ∀ p ∈ row, p < ties.length := fun p hp => by
          have h1 := List.all_eq_true.mp hok row (List.mem_of_getElem? hrow2)
          have h2 := List.all_eq_true.mp h1 p hp
          simpa using h2
        let st : Nat → List Nat × List Nat := fun i => (row.take i).foldl Mir.wholeStep (met, wa.dropLast)
        have hst : ∀ i, (st i).1.length ≤ met.length + 100 ∧ (st i).2.length ≤ wa.length + 100 := fun i => by
          have h1 := wholeLen (row.take i) met wa.dropLast
          have h2 : (row.take i).length ≤ row.length := by rw [List.length_take]; omega
          have h3 : wa.dropLast.length ≤ wa.length := by rw [List.length_dropLast]; omega
          refine ⟨?_, ?_⟩
          · show ((row.take i).foldl Mir.wholeStep (met, wa.dropLast)).1.length ≤ _
            omega
          · show ((row.take i).foldl Mir.wholeStep (met, wa.dropLast)).2.length ≤ _
            omega
        have hsb : ∀ i, ∀ p ∈ (st i).2, p < ties.length := by
          have gen : ∀ (rw' : List Nat) (a b : List Nat), (∀ p ∈ rw', p < ties.length) → (∀ p ∈ b, p < ties.length) → ∀ p ∈ (rw'.foldl Mir.wholeStep (a, b)).2, p < ties.length := by
            intro rw'
            induction rw' with
            | nil => intro a b _ hb p hp; exact hb p hp
            | cons q r' ih =>
              intro a b h1 h2 p hp
              rw [List.foldl_cons] at hp
              by_cases h : q ∈ a
              · have e : Mir.wholeStep (a, b) q = (a, b) := if_pos h
                rw [e] at hp
                exact ih a b (fun p hp => h1 p (List.mem_cons_of_mem _ hp)) h2 p hp
              · have e : Mir.wholeStep (a, b) q = (a ++ [q], b ++ [q]) := if_neg h
                rw [e] at hp
                refine ih _ _ (fun p hp => h1 p (List.mem_cons_of_mem _ hp)) (fun p hp => ?_) p hp
                rcases List.mem_append.mp hp with z | z
                · exact h2 p z
                · rw [List.mem_singleton.mp z]; exact h1 q List.mem_cons_self
          intro i p hp
          exact gen _ _ _ (fun p hp => hrb p (List.mem_of_mem_take hp)) (fun p hp => hw p (mem_dropLast' hp)) p hp
        have hpop : (eNs wa)[(eNs wa).length - 1]? = some (eN x) := by rw [eNs_len]; exact eNs_get hx
        refine xs_for (I := fun i => ⟨B, M0, [(lw, LF (eNs (st i).2)), (lm, LF (eNs (st i).1))], [some (DL (eLL ties)), some (Rf lm), some (Rf lw), none], []⟩)
          (xi_list (items := eNs row) (xv_op (xv_var rfl) (xv_pop (k := 0) (xv_var rfl) rfl hpop) (ro_ixL vl_d (atI_n (eLL_get hrow2))))) (fun _ _ q hq => nomatch hq) (fun gl σ H e => ?_) (fun i gl hi => ?_) (fun σ H e => ?_)
        · have e2 : (eNs wa).dropLast = eNs wa.dropLast := eNs_dropLast wa
          have e3 : En (Ct.ghs ⟨B, M0, [(lw, LF (eNs wa).dropLast), (lm, LF (eNs met))], [some (DL (eLL ties)), some (Rf lm), some (Rf lw), none], []⟩ gl) σ H := e
          rw [e2] at e3
          exact e3
        · rw [eNs_len] at hi
          rw [eNs_getD row hi]
          have e1 : st (i + 1) = Mir.wholeStep (st i) (row.getD i 0) := foldl_take _ _ _ 0 hi
          have h1 := hst i
          refine xb_mk xg_name (xs_if (b := !decide (row.getD i 0 ∈ (st i).1)) (xt_test (xv_op (xv_var rfl) (xv_var rfl) ?_)) (fun hb => ?_) fun hb => ?_)
          · have q := ro_notInD (K := K) (C := Ct.put (Ct.ghs ⟨B, M0, [(lw, LF (eNs (st i).2)), (lm, LF (eNs (st i).1))], [some (DL (eLL ties)), some (Rf lm), some (Rf lw), none], []⟩ gl) 3 (DI (row.getD i 0 : Nat))) (P := DI (row.getD i 0 : Nat)) (R := Rf lm) (vd_d (d := eN (row.getD i 0))) (vd_r (k := 1) rfl) (shaped_flat rfl) (eNs_shaped (st i).1)
            rw [any_nat] at q
            exact q
          · have hn : row.getD i 0 ∉ (st i).1 := by simpa using hb
            have e2 : Mir.wholeStep (st i) (row.getD i 0) = ((st i).1 ++ [row.getD i 0], (st i).2 ++ [row.getD i 0]) := if_neg hn
            refine xs_seq (xs_drop (xv_app (k := 1) (d := eN (row.getD i 0)) (xv_var rfl) (xv_var rfl) rfl rfl (by rw [eNs_len]; omega)) (nx_x (xs_drop (xv_app (k := 0) (d := eN (row.getD i 0)) (xv_var rfl) (xv_var rfl) rfl rfl (by rw [eNs_len]; omega)) fun σ H e => ?_)))
            show En (Ct.ghs ⟨B, M0, [(lw, LF (eNs (st (i + 1)).2)), (lm, LF (eNs (st (i + 1)).1))], [some (DL (eLL ties)), some (Rf lm), some (Rf lw), none], []⟩ gl) σ H
            rw [e1, e2, eNs_append, eNs_append]
            exact e.weak (.keep (.keep (.keep (.drop .nil)))) fun _ z => z
          · have hn : row.getD i 0 ∈ (st i).1 := by simpa using hb
            have e2 : Mir.wholeStep (st i) (row.getD i 0) = st i := if_pos hn
            refine xs_next fun σ H e => ?_
            show En (Ct.ghs ⟨B, M0, [(lw, LF (eNs (st (i + 1)).2)), (lm, LF (eNs (st (i + 1)).1))], [some (DL (eLL ties)), some (Rf lm), some (Rf lw), none], []⟩ gl) σ H
            rw [e1, e2]
            exact e.weak (.keep (.keep (.keep (.drop .nil)))) fun _ z => z
        · rw [eNs_len] at e
          have e9 : st row.length = row.foldl Mir.wholeStep (met, wa.dropLast) := by
            show (row.take row.length).foldl _ _ = _
            rw [List.take_length]
          refine ⟨((st row.length).1, (st row.length).2, n), Nat.lt_succ_self n, ⟨?_, hsb _, ?_, ?_⟩, e⟩
          · rw [e9]
            rw [← hwa] at hr0
            have : Mir.wholeRun ties (n + 1) met (a :: r) = Mir.wholeRun ties n ((ties.getD ((a :: r).getD ((a :: r).length - 1) 0) []).foldl Mir.wholeStep (met, (a :: r).dropLast)).1 ((ties.getD ((a :: r).getD ((a :: r).length - 1) 0) []).foldl Mir.wholeStep (met, (a :: r).dropLast)).2 := rfl
            rw [this, hwa] at hr0
            exact hr0
          · have := hst row.length
            show (st row.length).1.length + 100 * n ≤ 5000
            omega
          · have := hst row.length
            show (st row.length).2.length + 100 * n ≤ 5000
            omega
  · cases wa with
    | cons a r => cases hb
    | nil =>
      have hm : met = res := by
        cases n with
        | zero => exact Option.some.inj hr0
        | succ n => exact Option.some.inj hr0
      subst hm
      refine xs_ret (T := DB (decide (met.length = ties.length))) (xv_op (xv_cb (xa_cons (xv_var rfl) xa_nil) (rc_lenL (vl_r (k := 1) rfl))) (xv_cb (xa_cons (xv_var rfl) xa_nil) (rc_lenL vl_d)) (ro_eqD vd_d vd_d (shaped_flat rfl) (shaped_flat rfl))) rfl rfl (fun H v p => ?_) hR
      rw [eNs_len, eLL_len, eqv_nat] at p
      exact p
end
end K74

set_option Elab.async false
set_option linter.all false
set_option maxRecDepth 100000
set_option maxHeartbeats 4000000
namespace K74
open PySem PySem.Spec PyProof.Rows L2
section
variable {P : Program} {w : World} {K : PySem.W.Frag} {mg : PySem.Str → Option Value} {base : Heap} {CC CW : Addr}
abbrev s_ahead_of : Stmt := topS 23
abbrev N_ahead_of : List PySem.Str := ["ties", "goal", "found", "waiting", "here", "place"]
theorem sc_ahead_of : FnScope N_ahead_of ["ties", "goal"] (defScope s_ahead_of) := ⟨rfl, rfl, rfl, by decide +kernel, rfl, by decide +kernel, by decide +kernel⟩
theorem aheadLen (x : Nat) : ∀ (row : List Nat) (a : List (Option Nat)) (b : List Nat), (row.foldl (Mir.aheadStep x) (a, b)).1.length = a.length ∧ (row.foldl (Mir.aheadStep x) (a, b)).2.length ≤ b.length + row.length
  | [], a, b => ⟨rfl, Nat.le_refl _⟩
  | p :: r, a, b => by
    rw [List.foldl_cons, List.length_cons]
    by_cases h : a.getD p none = none
    · have e : Mir.aheadStep x (a, b) p = (a.set p (some x), b ++ [p]) := if_pos h
      rw [e]
      have := aheadLen x r (a.set p (some x)) (b ++ [p])
      simp only [List.length_append, List.length_cons, List.length_nil, List.length_set] at this
      omega
    · have e : Mir.aheadStep x (a, b) p = (a, b) := if_neg h
      rw [e]
      have := aheadLen x r a b
      omega
theorem aheadMem (x m : Nat) : ∀ (rw' : List Nat) (a : List (Option Nat)) (b : List Nat), (∀ p ∈ rw', p < m) → (∀ p ∈ b, p < m) → ∀ p ∈ (rw'.foldl (Mir.aheadStep x) (a, b)).2, p < m
  | [], a, b, _, hb, p, hp => hb p hp
  | q :: r, a, b, h1, h2, p, hp => by
    rw [List.foldl_cons] at hp
    by_cases h : a.getD q none = none
    · have e : Mir.aheadStep x (a, b) q = (a.set q (some x), b ++ [q]) := if_pos h
      rw [e] at hp
      refine aheadMem x m r _ _ (fun p hp => h1 p (List.mem_cons_of_mem _ hp)) (fun p hp => ?_) p hp
      rcases List.mem_append.mp hp with z | z
      · exact h2 p z
      · rw [List.mem_singleton.mp z]; exact h1 q List.mem_cons_self
    · have e : Mir.aheadStep x (a, b) q = (a, b) := if_neg h
      rw [e] at hp
      exact aheadMem x m r _ _ (fun p hp => h1 p (List.mem_cons_of_mem _ hp)) h2 p hp
theorem eOs_len (l : List (Option Nat)) : (eOs l).length = l.length := by unfold eOs; rw [List.length_map]
theorem eOs_set (l : List (Option Nat)) (i : Nat) (v : Option Nat) : eOs (l.set i v) = (eOs l).set i (eO v) := by unfold eOs; rw [List.map_set]
theorem flat_none (n : Nat) : (List.replicate n [PyData.none]).flatten = eOs (List.replicate n (none : Option Nat)) := by
  induction n with
  | zero => rfl
  | succ n ih => rw [List.replicate_succ, List.flatten_cons, ih, List.replicate_succ]; rfl
theorem isNon_eO (o : Option Nat) : isNon (eO o) = decide (o = none) := by cases o <;> rfl
def R_ahead_of : List PP → PP → Prop := fun Ps T => ∃ (ties : List (List Nat)) (goal : Nat) (res : List (Option Nat)), Ps = [DL (eLL ties), DI (goal : Nat)] ∧ Mir.tiesOk ties = true ∧ ties.length ≤ 100 ∧ (∀ r ∈ ties, r.length ≤ 100) ∧ goal < ties.length ∧ Mir.aheadOf ties goal = some res ∧ T = DL (eOs res)
theorem ok_ahead_of (F : Df K mg "ahead_of" s_ahead_of ["ties", "goal"]) (T : Txt K mg CC CW) : Cal P w K mg base "ahead_of" ["ties", "goal"] 1 (spF R_ahead_of) := by
  refine F.ok sc_ahead_of (fun Ps T ⟨d, e, g, h, _⟩ => by rw [h]; rfl) fun f cdv A outer s H E hr => ⟨_,
    (pss_cons (ps_par (i := 2) (j := 3) (by rfl) sc_ahead_of.nd rfl rfl (by decide) rfl rfl (pa_cons (pe_op op_rep (pe_lst (pa_cons pe_non pa_nil)) (pe_callB call_len (by rfl) T.len PySem.boot_len (pa_cons (pv 0) pa_nil))) (pa_cons (pe_lst (pa_cons (pv 1) pa_nil)) pa_nil)) (by rfl))
      (pss_cons (ps_asg (pv 1) (pg_sub (pv 2) (pv 1) set_list))
      (pss_cons (ps_while PassesOwn.never (pt_cmpR (op_neD hr.units) (pv 3) (pe_lst pa_nil) (nomark _)) (pss_cons (ps_set (i := 4) sc_ahead_of.nd rfl (.inl rfl) (pe_bm0 PySem.F.plainAttrs_list PySem.F.slot_list_pop PySem.F.type_list_pop mt_pop (pv 3)))
        (pss_one (ps_for PassesOwn.never rfl (pi_list (pe_ix ix_seq (pv 0) (pv 4) (fun _ _ => rfl))) (pg_name (i := 5) sc_ahead_of.nd rfl (.inl rfl))
          (pss_one (ps_if (pt_cmpR op_isN (pe_ix ix_seq (pv 2) (pv 5) (fun _ _ => rfl)) pe_non (nomark _)) (pss_cons (ps_asg (pv 4) (pg_sub (pv 2) (pv 5) set_list))
            (pss_one (ps_expr (pe_bm PySem.F.plainAttrs_list PySem.F.slot_list_append PySem.F.type_list_append mt_append (pv 3) (pa_cons (pv 5) pa_nil))))) pss_nil))))))
      (pss_one (ps_ret (pv 2)))))), ?_⟩
  rintro B M0 Ps T D' ⟨ties, goal, res, rfl, hok, hlen, hrow, hpos, hrun, rfl⟩ hR _
  refine xs_seq (xs_parFF (xf_op (Xv.lst (xf_lst [PyData.none] (xa_cons xv_non xa_nil) (by show 1 ≤ 100000; decide))) (xv_cb (xa_cons (xv_var rfl) xa_nil) (rc_lenL vl_d)) (rf_rep vl_d (by rw [eLL_len]; omega) (by decide))) (fun l => xf_lst [eN goal] (xa_cons (xv_var rfl) xa_nil) (by show 1 ≤ 100000; decide)) fun lf lw => nx_x ?_)
  rw [Int.toNat_natCast, flat_none, eLL_len]
  let f0 : List (Option Nat) := (List.replicate ties.length (none : Option Nat)).set goal (some goal)
  have f0l : f0.length = ties.length := by rw [List.length_set, List.length_replicate]
  let I : List (Option Nat) × List Nat × Nat → Ct := fun x => ⟨B, M0, [(lw, LF (eNs x.2.1)), (lf, LF (eOs x.1))], [some (DL (eLL ties)), some (DI (goal : Nat)), some (Rf lf), some (Rf lw), none, none], []⟩
  refine xs_seq (xs_g (xv_var rfl) (xg_sub (k := 1) (xv_var rfl) (xv_var rfl) rfl (ixN_n (j := goal) (by rw [eOs_len, List.length_replicate]; exact hpos))) (nx_x ?_))
  rw [show (eOs (List.replicate ties.length (none : Option Nat))).set goal (.int (goal : Nat)) = eOs f0 from (eOs_set (List.replicate ties.length none) goal (some goal)).symm]
  refine xs_seq (xs_while I (fun x => x.2.2) (fun x => Mir.aheadRun ties x.2.2 x.1 x.2.1 = some res ∧ (∀ p ∈ x.2.1, p < ties.length) ∧ x.1.length = ties.length ∧ x.2.1.length + 100 * x.2.2 ≤ 5000) (f0, [goal], 40) ⟨hrun, fun p hp => by rw [List.mem_singleton.mp hp]; exact hpos, f0l, Nat.le_of_ble_eq_true rfl⟩ (fun σ H e => e) ?_)
  rintro ⟨fo, wa, n⟩ ⟨hr0, hw, hz1, hz2⟩
  have hz1 : fo.length = ties.length := hz1
  have hz2 : wa.length + 100 * n ≤ 5000 := hz2
  refine ⟨!(eNs wa).isEmpty, I (fo, wa, n), (xt_test (xv_op (xv_var rfl) (Xv.lst (xf_lst [] xa_nil (by decide))) (ro_neD (vd_r (k := 0) rfl) vd_d (eNs_shaped wa) (shaped_flats rfl)))).eq (by rw [eqv_list_nil]), fun hb => ?_, fun hb => nx_x ?_⟩
  · cases wa with
    | nil => cases hb
    | cons a r =>
      cases n with
      | zero => cases hr0
      | succ n =>
        generalize hwa : a :: r = wa at *
        have hne : 0 < wa.length := by rw [← hwa]; simp
        let x := wa.getD (wa.length - 1) 0
        have hx : wa[wa.length - 1]? = some x := getD_get 0 (by omega)
        have hxl : x < ties.length := hw x (List.mem_of_getElem? hx)
        let row := ties.getD x []
        have hrow2 : ties[x]? = some row := getD_get [] hxl
        have hrl : row.length ≤ 100 := hrow row (List.mem_of_getElem? hrow2)
        have hrb : ∀ p ∈ row, p < ties.length := fun p hp => by
          have h1 := List.all_eq_true.mp hok row (List.mem_of_getElem? hrow2)
          have h2 := List.all_eq_true.mp h1 p hp
          simpa using h2
        let st : Nat → List (Option Nat) × List Nat := fun i => (row.take i).foldl (Mir.aheadStep x) (fo, wa.dropLast)
        have hst : ∀ i, (st i).1.length = ties.length ∧ (st i).2.length ≤ wa.length + 100 := fun i => by
          have h1 := aheadLen x (row.take i) fo wa.dropLast
          have h2 : (row.take i).length ≤ row.length := by rw [List.length_take]; omega
          have h3 : wa.dropLast.length ≤ wa.length := by rw [List.length_dropLast]; omega
          refine ⟨?_, ?_⟩
          · show ((row.take i).foldl (Mir.aheadStep x) (fo, wa.dropLast)).1.length = _
            omega
          · show ((row.take i).foldl (Mir.aheadStep x) (fo, wa.dropLast)).2.length ≤ _
            omega
        have hsb : ∀ i, ∀ p ∈ (st i).2, p < ties.length := fun i p hp =>
          aheadMem x ties.length _ _ _ (fun p hp => hrb p (List.mem_of_mem_take hp)) (fun p hp => hw p (mem_dropLast' hp)) p hp
        have hpop : (eNs wa)[(eNs wa).length - 1]? = some (eN x) := by rw [eNs_len]; exact eNs_get hx
        refine xs_seq (xs_set (xv_pop (k := 0) (xv_var rfl) rfl hpop) (nx_x ?_))
        refine xs_for (I := fun i => ⟨B, M0, [(lw, LF (eNs (st i).2)), (lf, LF (eOs (st i).1))], [some (DL (eLL ties)), some (DI (goal : Nat)), some (Rf lf), some (Rf lw), some (D (eN x)), none], []⟩)
          (xi_list (items := eNs row) (xv_op (xv_var rfl) (xv_var rfl) (ro_ixL vl_d (atI_n (eLL_get hrow2))))) (fun _ _ q hq => nomatch hq) (fun gl σ H e => ?_) (fun i gl hi => ?_) (fun σ H e => ?_)
        · have e2 : (eNs wa).dropLast = eNs wa.dropLast := eNs_dropLast wa
          have e3 : En (Ct.ghs ⟨B, M0, [(lw, LF (eNs wa).dropLast), (lf, LF (eOs fo))], [some (DL (eLL ties)), some (DI (goal : Nat)), some (Rf lf), some (Rf lw), some (D (eN x)), none], []⟩ gl) σ H := e
          rw [e2] at e3
          exact e3
        · rw [eNs_len] at hi
          rw [eNs_getD row hi]
          have e1 : st (i + 1) = Mir.aheadStep x (st i) (row.getD i 0) := foldl_take _ _ _ 0 hi
          have h1 := hst i
          have hpl : row.getD i 0 < ties.length := hrb _ (List.mem_of_getElem? (getD_get 0 hi))
          have hg : (st i).1[row.getD i 0]? = some ((st i).1.getD (row.getD i 0) none) := getD_get none (by rw [h1.1]; exact hpl)
          refine xb_mk xg_name (xs_if (b := decide ((st i).1.getD (row.getD i 0) none = none)) ((xt_test (xv_op (xv_op (xv_var rfl) (xv_var rfl) (ro_ixL (vl_r (k := 1) rfl) (atI_n (eOs_get hg)))) xv_non ro_isN)).eq (isNon_eO _)) (fun hb => ?_) fun hb => ?_)
          · have hn : (st i).1.getD (row.getD i 0) none = none := by simpa using hb
            have e2 : Mir.aheadStep x (st i) (row.getD i 0) = ((st i).1.set (row.getD i 0) (some x), (st i).2 ++ [row.getD i 0]) := if_pos hn
            refine xs_seq (xs_g (xv_var rfl) (xg_sub (k := 1) (xv_var rfl) (xv_var rfl) rfl (ixN_n (j := row.getD i 0) (by rw [eOs_len, h1.1]; exact hpl))) (nx_x (xs_drop (xv_app (k := 0) (d := eN (row.getD i 0)) (xv_var rfl) (xv_var rfl) rfl rfl (by rw [eNs_len]; omega)) fun σ H e => ?_)))
            show En (Ct.ghs ⟨B, M0, [(lw, LF (eNs (st (i + 1)).2)), (lf, LF (eOs (st (i + 1)).1))], [some (DL (eLL ties)), some (DI (goal : Nat)), some (Rf lf), some (Rf lw), some (D (eN x)), none], []⟩ gl) σ H
            rw [e1, e2, eNs_append, eOs_set]
            exact e.weak (.keep (.keep (.keep (.keep (.keep (.drop .nil)))))) fun _ z => z
          · have hn : ¬ (st i).1.getD (row.getD i 0) none = none := by simpa using hb
            have e2 : Mir.aheadStep x (st i) (row.getD i 0) = st i := if_neg hn
            refine xs_next fun σ H e => ?_
            show En (Ct.ghs ⟨B, M0, [(lw, LF (eNs (st (i + 1)).2)), (lf, LF (eOs (st (i + 1)).1))], [some (DL (eLL ties)), some (DI (goal : Nat)), some (Rf lf), some (Rf lw), some (D (eN x)), none], []⟩ gl) σ H
            rw [e1, e2]
            exact e.weak (.keep (.keep (.keep (.keep (.keep (.drop .nil)))))) fun _ z => z
        · rw [eNs_len] at e
          have e9 : st row.length = row.foldl (Mir.aheadStep x) (fo, wa.dropLast) := by
            show (row.take row.length).foldl _ _ = _
            rw [List.take_length]
          refine ⟨((st row.length).1, (st row.length).2, n), Nat.lt_succ_self n, ⟨?_, hsb _, (hst _).1, ?_⟩, e.weak (.keep (.keep (.keep (.keep (.drop (.keep .nil)))))) fun _ z => z⟩
          · rw [e9]
            rw [← hwa] at hr0
            have : Mir.aheadRun ties (n + 1) fo (a :: r) = Mir.aheadRun ties n ((ties.getD ((a :: r).getD ((a :: r).length - 1) 0) []).foldl (Mir.aheadStep ((a :: r).getD ((a :: r).length - 1) 0)) (fo, (a :: r).dropLast)).1 ((ties.getD ((a :: r).getD ((a :: r).length - 1) 0) []).foldl (Mir.aheadStep ((a :: r).getD ((a :: r).length - 1) 0)) (fo, (a :: r).dropLast)).2 := rfl
            rw [this, hwa] at hr0
            exact hr0
          · have := hst row.length
            show (st row.length).2.length + 100 * n ≤ 5000
            omega
  · cases wa with
    | cons a r => cases hb
    | nil =>
      have hm : fo = res := by
        cases n with
        | zero => exact Option.some.inj hr0
        | succ n => exact Option.some.inj hr0
      subst hm
      exact xs_retM (T := DL (eOs fo)) (k := 1) (xv_var rfl) rfl rfl rfl (fun _ _ p => Fz.lst p) hR
end
end K74

set_option Elab.async false
set_option linter.all false
set_option maxRecDepth 100000
set_option maxHeartbeats 1000000
namespace K74
open PySem PySem.Spec PyProof.Rows L2
section
variable {C C1 C2 C3 C' : Ct} {ta tb' te tl : TE} {P P' R T : PP} {F : FF} {K : PySem.W.Frag} {D' : Ends} {tu tw tz tb : TS} {g : TG} {wi : TI} {n : Nat} {Ys Zs : Nat → PP} {ml : List (Addr × FF)} {tt : TT}
theorem XI.congr (h : XI C wi n Ys C1 ml) (hy : ∀ i, i < n → Ys i = Zs i) : XI C wi n Zs C1 ml := ⟨h.1, fun σ H e R r => h.2 σ H e R fun J H1 gl s e1 jo => r J H1 gl s e1 ⟨jo.go, jo.stop, fun i C σ H x H' hi en a b y => by
  rw [← hy i hi]
  exact jo.yld i C σ H x H' hi en a b y⟩⟩
theorem XI.len {m : Nat} (h : XI C wi n Ys C1 ml) (e : n = m) : XI C wi m Ys C1 ml := e ▸ h
theorem xi_encL {β : Type} {items : List β} (b0 : β) (enc : β → PyData) (h : Xv C tl (DL (items.map enc)) C1) : XI C (iList K tl) items.length (fun i => D (enc (items.getD i b0))) C1 [] :=
  ((xi_list (K := K) h).len (by rw [List.length_map])).congr fun i hi => by rw [map_getD enc items b0 hi]
theorem xi_encR {β : Type} {items : List β} {l : Addr} {k : Nat} (b0 : β) (enc : β → PyData) (h : Xv C tl (Rf l) C1) (hk : C1.mm[k]? = some (l, LF (items.map enc))) : XI C (iList K tl) items.length (fun i => D (enc (items.getD i b0))) C1 [(l, LF (items.map enc))] :=
  ((xi_listR (K := K) h hk).len (by rw [List.length_map])).congr fun i hi => by rw [map_getD enc items b0 hi]
theorem xi_encT {β : Type} {items : List β} (b0 : β) (enc : β → PyData) (h : Xv C tl (DT (items.map enc)) C1) : XI C (iTup K tl) items.length (fun i => D (enc (items.getD i b0))) C1 [] :=
  ((xi_tup (K := K) h).len (by rw [List.length_map])).congr fun i hi => by rw [map_getD enc items b0 hi]
theorem xi_encE {β : Type} {items : List β} {t : TA} (b0 : β) (enc : β → PyData) (h : XA C t [DL (items.map enc)] C1) : XI C (iEnum K t) items.length (fun i => DT [eN i, enc (items.getD i b0)]) C1 [] :=
  ((xi_enum (K := K) h).len (by rw [List.length_map])).congr fun i hi => by rw [map_getD enc items b0 hi]
theorem xi_encZ {β γ : Type} {xs : List β} {ys : List γ} {t : TA} (b0 : β) (c0 : γ) (enc : β → PyData) (enc2 : γ → PyData) (h : XA C t [DL (xs.map enc), DL (ys.map enc2)] C1) (hl : xs.length = ys.length) : XI C (iZip K t) xs.length (fun i => DT [enc (xs.getD i b0), enc2 (ys.getD i c0)]) C1 [] :=
  ((xi_zip (K := K) h (by rw [List.length_map, List.length_map]; exact hl)).len (by rw [List.length_map])).congr fun i hi => by rw [map_getD enc xs b0 hi, map_getD enc2 ys c0 (by omega)]
theorem eLL_map (ls : List (List Nat)) : eLL ls = ls.map fun l => .list (eNs l) := rfl
theorem eNs_map (l : List Nat) : eNs l = l.map eN := rfl
/-- a list by its items -/
theorem xf_mapB {β : Type} {vs : List Nat} {items : List β} (a : β) (gb : β → Bool) (h : XI C wi items.length Ys C1 ml) (hm : ∀ q ∈ ml, q ∈ C1.mm) (hn : items.length ≤ 100000)
    (hs : ∀ i gl l acc, i < items.length → ∃ es js, XG (C1.lc vs l acc gl) g (Ys i) { C1.lc vs l acc gl with ds := es } js ∧ (∀ j ∈ js, j ∈ vs) ∧
      Xv { C1.lc vs l acc gl with ds := es } te (DB (gb (items.getD i a))) { C1.lc vs l acc gl with ds := es }) :
    Xf C (tLc wi g tYes te vs) (LF ((items.map gb).map PyData.bool)) C1 := by
  have := xf_map (te := te) (g := g) (vs := vs) a (fun x => PyData.bool (gb x)) h hm hn hs
  rw [List.map_map]
  exact this
end
/-! ### what is sorted -/
theorem code_eq {B : Int} : ∀ {x y : List Int}, x.length = y.length → TS.Bd B x → TS.Bd B y → TS.code B x = TS.code B y → x = y
  | [], [], _, _, _, _ => rfl
  | d :: r, e :: q, hl, h1, h2, h => by
    have hl' : r.length = q.length := by simpa using hl
    rcases Int.lt_trichotomy d e with z | z | z
    · have := TS.code_lt hl' h1.tail h2.tail z
      omega
    · subst z
      have h3 : TS.code B r = TS.code B q := by
        have : d * B ^ r.length + TS.code B r = d * B ^ q.length + TS.code B q := h
        rw [hl'] at this
        omega
      rw [code_eq hl' h1.tail h2.tail h3]
    · have := TS.code_lt hl'.symm h2.tail h1.tail z
      omega
theorem sorted_in {α : Type} (r : α → α → Prop) : ∀ {l m : List α}, (∀ a ∈ l, ∀ b ∈ l, r a b → r b a → a = b) → l.Perm m → l.Pairwise r → m.Pairwise r → l = m
  | [], m, _, h, _, _ => by
    have := h.length_eq
    cases m with
    | nil => rfl
    | cons _ _ => simp at this
  | a :: l, [], _, h, _, _ => by
    have := h.length_eq
    simp at this
  | a :: l, b :: m, as, h, h1, h2 => by
    have ha : a ∈ b :: m := h.mem_iff.mp List.mem_cons_self
    have hb : b ∈ a :: l := h.mem_iff.mpr List.mem_cons_self
    rw [List.pairwise_cons] at h1 h2
    have e : a = b := by
      rcases List.mem_cons.mp ha with e | ha'
      · exact e
      · rcases List.mem_cons.mp hb with e | hb'
        · exact e.symm
        · exact as a List.mem_cons_self b hb (h1.1 b hb') (h2.1 a ha')
    subst e
    rw [sorted_in r (fun x hx y hy => as x (List.mem_cons_of_mem _ hx) y (List.mem_cons_of_mem _ hy)) ((List.perm_cons a).mp h) h1.2 h2.2]
theorem sort_code {d : Nat} {B : Int} {items ms : List (List Int)} (hb : ∀ ns ∈ items, ns.length = d ∧ TS.Bd B ns) (hp : ms.Perm items) (hs : ms.Pairwise fun x y => TS.code B x ≤ TS.code B y) :
    ∀ ks : List (List Int), ks.Perm items → ks.Pairwise (fun x y => TS.code B x ≤ TS.code B y) → ks = ms := fun ks hk ho =>
  sorted_in _ (fun a ha b hb' h1 h2 => code_eq (by rw [(hb a (hk.mem_iff.mp ha)).1, (hb b (hk.mem_iff.mp hb')).1]) (hb a (hk.mem_iff.mp ha)).2 (hb b (hk.mem_iff.mp hb')).2 (by omega)) (hk.trans hp.symm) ho hs
theorem sort_codeS {d : Nat} {B : Int} {items ms : List (List Int)} (hb : ∀ ns ∈ items, ns.length = d ∧ TS.Bd B ns) (hp : ∀ k, k ∈ ms ↔ k ∈ items) (hn : ms.Nodup) (hs : ms.Pairwise fun x y => TS.code B x ≤ TS.code B y) :
    ∀ ks : List (List Int), (∀ k, k ∈ ks ↔ k ∈ items) → ks.Nodup → ks.Pairwise (fun x y => TS.code B x ≤ TS.code B y) → ks = ms := fun ks hk hd ho =>
  sorted_in _ (fun a ha b hb' h1 h2 => code_eq (by rw [(hb a ((hk a).mp ha)).1, (hb b ((hk b).mp hb')).1]) (hb a ((hk a).mp ha)).2 (hb b ((hk b).mp hb')).2 (by omega)) ((List.perm_ext_iff_of_nodup hd hn).mpr fun a => (hk a).trans (hp a).symm) ho hs
end K74

set_option Elab.async false
set_option linter.all false
set_option maxRecDepth 100000
set_option maxHeartbeats 4000000
namespace K74
open PySem PySem.Spec PyProof.Rows L2
section
variable {P : Program} {w : World} {K : PySem.W.Frag} {mg : PySem.Str → Option Value} {base : Heap} {CC CW : Addr}
theorem tups_shaped {α : Type} (f : α → List PyData) (h : ∀ a, (f a).all flatD = true) (l : List α) : SeqAt.shaped (.list (l.map fun a => .tuple (f a))) = true :=
  shaped_tups (by rw [List.all_map]; exact List.all_eq_true.mpr fun a _ => h a)
theorem lanes_shaped (l : List (Nat × Nat)) : SeqAt.shaped (.list (l.map eLane)) = true := tups_shaped (fun p : Nat × Nat => [eN p.1, eN p.2]) (fun _ => rfl) l
theorem any_none {α : Type} (f : α → List PyData) (l : List α) : ((l.map fun a => PyData.tuple (f a)).any fun z => PyData.eqv z .none) = false := by
  rw [List.any_map, List.any_eq_false]
  intro a _
  simp [PyData.eqv]
abbrev lL (p : Nat × Nat) : List Int := [(p.1 : Int), (p.2 : Int)]
theorem lanes_eT (l : List (Nat × Nat)) : l.map eLane = (l.map lL).map eT := by rw [List.map_map]; rfl
theorem nodup_map {α β : Type} {f : α → β} (hf : ∀ a b, f a = f b → a = b) : ∀ {l : List α}, l.Nodup → (l.map f).Nodup
  | [], _ => List.nodup_nil
  | a :: r, h => by
    rw [List.nodup_cons] at h
    rw [List.map_cons, List.nodup_cons]
    refine ⟨fun z => ?_, nodup_map hf h.2⟩
    obtain ⟨b, hb, e⟩ := List.mem_map.mp z
    rw [hf b a e] at hb
    exact h.1 hb
theorem lL_inj (a b : Nat × Nat) (h : lL a = lL b) : a = b := by
  obtain ⟨a1, a2⟩ := a
  obtain ⟨b1, b2⟩ := b
  simp only [lL, List.cons.injEq, and_true] at h
  have e1 : a1 = b1 := by omega
  have e2 : a2 = b2 := by omega
  rw [e1, e2]
theorem any_id {α : Type} (p : α → Bool) (l : List α) : (l.map p).any id = l.any p := by rw [List.any_map]; rfl
theorem all_id {α : Type} (p : α → Bool) (l : List α) : (l.map p).all id = l.all p := by rw [List.all_map]; rfl
theorem insL_perm (a : Nat × Nat) : ∀ l : List (Nat × Nat), (Mir.insL a l).Perm (a :: l)
  | [] => .refl _
  | b :: r => by
    unfold Mir.insL
    split
    · exact .refl _
    · exact ((insL_perm a r).cons b).trans (.swap a b r)
theorem sortL_perm : ∀ l : List (Nat × Nat), (Mir.sortL l).Perm l
  | [] => .refl _
  | a :: r => (insL_perm a (Mir.sortL r)).trans ((sortL_perm r).cons a)
theorem lexLe_iff (a b : Nat × Nat) : Mir.lexLe a b = true ↔ (a.1 < b.1 ∨ (a.1 = b.1 ∧ a.2 ≤ b.2)) := by
  unfold Mir.lexLe
  rw [Bool.or_eq_true, Bool.and_eq_true, decide_eq_true_eq, decide_eq_true_eq, decide_eq_true_eq]
theorem insL_sorted (a : Nat × Nat) : ∀ l : List (Nat × Nat), l.Pairwise (fun x y => Mir.lexLe x y = true) → (Mir.insL a l).Pairwise (fun x y => Mir.lexLe x y = true)
  | [], _ => by simp [Mir.insL]
  | b :: r, h => by
    unfold Mir.insL
    rw [List.pairwise_cons] at h
    split
    · rename_i hab
      refine List.pairwise_cons.mpr ⟨fun x hx => ?_, List.pairwise_cons.mpr h⟩
      rcases List.mem_cons.mp hx with e | hx
      · rw [e]; exact hab
      · have h1 := h.1 x hx
        rw [lexLe_iff] at h1 hab ⊢
        omega
    · rename_i hab
      refine List.pairwise_cons.mpr ⟨fun x hx => ?_, insL_sorted a r h.2⟩
      rcases List.mem_cons.mp ((insL_perm a r).mem_iff.mp hx) with e | hx
      · rw [e]
        rw [lexLe_iff] at hab ⊢
        omega
      · exact h.1 x hx
theorem sortL_sorted : ∀ l : List (Nat × Nat), (Mir.sortL l).Pairwise (fun x y => Mir.lexLe x y = true)
  | [] => .nil
  | a :: r => insL_sorted a _ (sortL_sorted r)
theorem code2 (B : Int) (a b : Int) : TS.code B [a, b] = a * B + b := by
  show a * B ^ 1 + (b * B ^ 0 + 0) = _
  rw [Int.pow_succ, Int.pow_zero]
  simp
abbrev s_lanes_in : Stmt := topS 24
abbrev N_lanes_in : List PySem.Str := ["value", "found", "ties", "yards", "one", "row", "lane"]
theorem sc_lanes_in : FnScope N_lanes_in ["value"] (defScope s_lanes_in) := ⟨rfl, rfl, rfl, by decide +kernel, rfl, by decide +kernel, by decide +kernel⟩
def R_lanes_in : List PP → PP → Prop := fun Ps T => ∃ ls : List (Nat × Nat), Ps = [DL (ls.map eLane)] ∧ Mir.lanesIn ls = true ∧ T = DL ((Mir.told ls).map eLane)
theorem ok_lanes_in (F : Df K mg "lanes_in" s_lanes_in ["value"]) (T : Txt K mg CC CW) (c_is_list : Cal P w K mg base "is_list" ["value"] 1 (spF R_is_list)) (c_lane_in : Cal P w K mg base "lane_in" ["value"] 3 (spF R_lane_in)) (c_ties_of : Cal P w K mg base "ties_of" ["lanes"] 1 (spF R_ties)) (c_is_whole : Cal P w K mg base "is_whole" ["ties"] 1 (spF R_is_whole)) :
    Cal P w K mg base "lanes_in" ["value"] 4 (spF R_lanes_in) := by
  refine F.ok sc_lanes_in (fun Ps T ⟨d, h, _⟩ => by rw [h]; rfl) fun f cdv A outer s H E hr => ⟨_,
    (pss_cons (ps_if (PW.pt (pw_or (pt_not (pt_val (pe_cal c_is_list (hr.mono (by decide)) rfl (pa_cons (pv 0) pa_nil)))) (pw_or1 (pt_cmpR op_gt (pe_callB call_len (by rfl) T.len PySem.boot_len (pa_cons (pv 0) pa_nil)) (pe_op op_mul (pe_const T.MOST_YARDS rfl) (pe_const T.MOST_LANES rfl)) (nomark _))))) (pss_one (ps_ret pe_non)) pss_nil)
      (pss_cons (ps_set (i := 1) sc_lanes_in.nd rfl (.inr rfl) (pe_lc (own := [("one", 4)]) (g := (gName 4)) (tt := tYes) (by rfl) sc_lanes_in.nd (pi_list (pv 0)) (blkOk_by (own := [("one", 4)]) (N := N_lanes_in) (sc := defScope s_lanes_in) (by decide +kernel)) (fun _ _ _ _ _ => (pg_name (i := 4) sc_lanes_in.nd rfl (by first | exact Or.inl rfl | exact Or.inr rfl))) (fun _ _ _ _ _ => pts_nil) (fun _ _ _ _ _ => (pe_cal c_lane_in (hr.mono (by decide)) rfl (pa_cons (pv 4) pa_nil)))))
      (pss_cons (ps_if (PW.pt (pw_or (pt_cmpR (op_inD (hu65 hr)) pe_non (pv 1) (by rfl)) (pw_or (pt_cmpR (op_neD hr.units) (pe_lenSetT rfl hr.units rfl T.len rfl T.set (pv 1)) (pe_callB call_len (by rfl) T.len PySem.boot_len (pa_cons (pv 1) pa_nil)) (nomark _)) (pw_or1 (pt_val (pe_callB (cr_any rfl) (by rfl) T.any boot_any (pa_cons (pe_lc (own := [("lane", 6)]) (g := (gName 6)) (tt := tYes) (by rfl) sc_lanes_in.nd (pi_list (pv 1)) (blkOk_by (own := [("lane", 6)]) (N := N_lanes_in) (sc := defScope s_lanes_in) (by decide +kernel)) (fun _ _ _ _ _ => (pg_name (i := 6) sc_lanes_in.nd rfl (by first | exact Or.inl rfl | exact Or.inr rfl))) (fun _ _ _ _ _ => pts_nil) (fun _ _ _ _ _ => (pe_cmpR op_gt (pe_ix (r := rIx K) ix_seq (pv 6) pe_int (fun _ _ => rfl)) (pe_callB (r := rLenV K) call_len (by rfl) T.len PySem.boot_len (pa_cons (pv 1) pa_nil)) (nomark _)))) pa_nil))))))) (pss_one (ps_ret pe_non)) pss_nil)
      (pss_cons (ps_set (i := 2) sc_lanes_in.nd rfl (.inl rfl) (pe_cal c_ties_of (hr.mono (by decide)) rfl (pa_cons (pv 1) pa_nil)))
      (pss_cons (ps_setLc (i := 3) (own := [("row", 5)]) (g := (gName 5))  (by rfl) sc_lanes_in.nd rfl rfl (sw_true rfl rfl rfl (by decide +kernel)) (pi_list (pv 2)) (blkOk_by (own := [("row", 5)]) (N := N_lanes_in) (sc := defScope s_lanes_in) (by decide +kernel)) (fun _ _ _ _ _ => (pg_name (i := 5) sc_lanes_in.nd rfl (by first | exact Or.inl rfl | exact Or.inr rfl))) (fun _ _ _ _ _ => (pts_one (pt_cmpR op_gt (pe_callB (r := rLenV K) call_len (by rfl) T.len PySem.boot_len (pa_cons (pv 5) pa_nil)) pe_int (nomark _)))) (fun _ _ _ _ _ => (pv 5)))
      (pss_cons (ps_if (PW.pt (pw_or (pt_not (pt_chain op_le op_le pe_int (pe_callB call_len (by rfl) T.len PySem.boot_len (pa_cons (pv 3) pa_nil)) (pe_const T.MOST_YARDS rfl))) (pw_or (pt_val (pe_callB (cr_any rfl) (by rfl) T.any boot_any (pa_cons (pe_lc (own := [("row", 5)]) (g := (gName 5)) (tt := tYes) (by rfl) sc_lanes_in.nd (pi_list (pv 2)) (blkOk_by (own := [("row", 5)]) (N := N_lanes_in) (sc := defScope s_lanes_in) (by decide +kernel)) (fun _ _ _ _ _ => (pg_name (i := 5) sc_lanes_in.nd rfl (by first | exact Or.inl rfl | exact Or.inr rfl))) (fun _ _ _ _ _ => pts_nil) (fun _ _ _ _ _ => (pe_cmpR op_gt (pe_callB (r := rLenV K) call_len (by rfl) T.len PySem.boot_len (pa_cons (pv 5) pa_nil)) (pe_const T.MOST_LANES rfl) (nomark _)))) pa_nil))) (pw_or1 (pt_not (pt_val (pe_cal c_is_whole (hr.mono (by decide)) rfl (pa_cons (pv 2) pa_nil)))))))) (pss_one (ps_ret pe_non)) pss_nil)
      (pss_one (ps_ret (pe_callB (cr_sortT (d := 2) (B := 64) (by decide)) (by rfl) T.sorted boot_sorted (pa_cons (pv 1) pa_nil)))))))))), ?_⟩
  rintro B M0 Ps T D' ⟨ls, rfl, hok, rfl⟩ hR _
  simp only [Mir.lanesIn, Bool.and_eq_true, decide_eq_true_eq] at hok
  obtain ⟨⟨⟨⟨⟨⟨⟨⟨h1, h2⟩, h3⟩, h4⟩, h5⟩, h6⟩, h7⟩, h8⟩, h9⟩ := hok
  generalize hf : ls.map Mir.laneIn = f at *
  have hfl : f.length = ls.length := by rw [← hf, List.length_map]
  generalize hT : Mir.tiesOf f = ties at *
  have htl : ties.length = f.length + 1 := by
    rw [← hT]
    unfold Mir.tiesOf Mir.tiesRaw
    rw [List.length_map, tieFold_len, List.length_replicate]
  refine xs_seq (xs_no (XT.eq (xt_or (a := !true) (xt_not (xt_b (xv_call (xa_cons (xv_var rfl) xa_nil) ⟨_, rfl, rfl, rfl⟩))) fun _ =>
    xt_test (xv_op (xv_cb (xa_cons (xv_var rfl) xa_nil) (rc_lenL vl_d)) (xv_op xv_int xv_int (ro_i (Or.inl ⟨by decide, by decide⟩))) ro_b0)) ?_) (xs_next (nx_x ?_)))
  · rw [List.length_map, Bool.or_eq_false_iff]
    exact ⟨rfl, decide_eq_false (by omega)⟩
  refine xs_seq (xs_set (Xv.dat (Xv.lst (xf_map (0, 0) (fun l => eLane (Mir.laneIn l)) (xi_encL (0, 0) eLane (xv_var rfl)) (fun q hq => nomatch hq) (by omega) fun i gl l acc hi => ⟨_, _, xg_name, fun j hj => hj, xv_call (xa_cons (xv_var rfl) xa_nil) ⟨_, rfl, ?_, rfl⟩⟩)) (d' := .list (f.map eLane)) ?_) (nx_x ?_))
  · have := List.all_eq_true.mp h1 _ (List.mem_of_getElem? (getD_get (0, 0) hi))
    simp only [decide_eq_true_eq] at this
    exact this.2.2
  · rw [← hf, List.map_map]
    rfl
  have hb : ∀ ns ∈ f.map lL, ns.length = 2 ∧ TS.Bd 64 ns := fun ns hns => by
    obtain ⟨q, hq, rfl⟩ := List.mem_map.mp hns
    have := List.all_eq_true.mp h2 _ hq
    simp only [decide_eq_true_eq] at this
    refine ⟨rfl, fun m hm => ?_⟩
    simp only [lL, List.mem_cons, List.not_mem_nil, or_false] at hm
    omega
  refine xs_seq (xs_no (XT.eq (xt_or (xt_test (xv_op xv_non (xv_var rfl) (ro_inD vd_d vd_d (shaped_flat rfl) (lanes_shaped f)))) fun _ =>
    xt_or (xt_test (xv_op (xv_lenSetT (items := f.map lL) (xv_var rfl) (by rw [← lanes_eT]; exact vl_d) (by rw [List.length_map]; omega) (nodup_map lL_inj h4)) (xv_cb (xa_cons (xv_var rfl) xa_nil) (rc_lenL vl_d)) (ro_neD vd_d vd_d (shaped_flat rfl) (shaped_flat rfl)))) fun _ =>
    xt_b (xv_cb (xa_cons (Xv.lst (xf_mapB (ml := []) (items := f) (0, 0) (fun l => decide ((l.2 : Int) > (f.length : Nat))) (xi_encL (0, 0) eLane (xv_var rfl)) (fun q hq => nomatch hq) (by omega) fun i gl l acc hi => ⟨_, _, xg_name, fun j hj => hj, ?_⟩)) xa_nil) (rc_any vl_d))) ?_) (xs_next (nx_x ?_)))
  · exact Xv.dat (xv_op (xv_op (xv_var rfl) xv_int (ro_ixT (ds := [eN (f.getD i (0, 0)).1, eN (f.getD i (0, 0)).2]) vt_d rfl)) (xv_cb (xa_cons (xv_var rfl) xa_nil) (rc_lenL vl_d)) ro_b0) (by rw [List.length_map])
  · rw [show ((f.map eLane).any fun z => PyData.eqv z .none) = false from any_none (fun p : Nat × Nat => [eN p.1, eN p.2]) f, any_id, List.length_map, eqv_nat, List.length_map, decide_eq_true (rfl : f.length = f.length), Bool.false_or, Bool.not_true, Bool.false_or, List.any_eq_false]
    intro q hq
    have := List.all_eq_true.mp h2 _ hq
    simp only [decide_eq_true_eq] at this
    simp only [decide_eq_true_eq]
    omega
  refine xs_seq (xs_set (xv_call (xa_cons (xv_var rfl) xa_nil) ⟨f, rfl, h2, by omega, rfl⟩) (nx_x ?_))
  rw [hT]
  have hrow : ∀ r ∈ ties, r.length ≤ 4 := fun r hr => by
    have := List.all_eq_true.mp h7 r hr
    simpa using this
  have hI : ∀ {C : Ct} {te : TE}, Xv C te (DL (eLL ties)) C → XI C (iList K te) ties.length (fun i => D (.list (eNs (ties.getD i [])))) C [] := fun h => xi_encL [] (fun l => .list (eNs l)) h
  refine xs_seq (xs_set (Xv.lst (xf_filter (ml := []) (items := ties) [] (fun r : List Nat => decide (r.length > 1)) (fun r => .list (eNs r)) (hI (xv_var rfl)) (fun q hq => nomatch hq) (by omega) fun i gl l acc hi => ⟨_, _, xg_name, fun j hj => hj, ?_, fun _ => xv_var rfl⟩)) (nx_x ?_))
  · refine (xt_test (xv_op (xv_cb (xa_cons (xv_var rfl) xa_nil) (rc_lenL vl_d)) xv_int ro_b0)).eq ?_
    rw [eNs_len]
    by_cases z : (ties.getD i []).length > 1
    · rw [decide_eq_true z, decide_eq_true (by omega)]
    · rw [decide_eq_false z, decide_eq_false (by omega)]
  generalize hy : ties.filter (fun r => decide (r.length > 1)) = ys at *
  obtain ⟨met, hm1, hm2⟩ := Option.map_eq_some_iff.mp h9
  refine xs_seq (xs_no (XT.eq (xt_or (xt_not (xt_test (xv_chain (C3 := ⟨B, M0, [], [], []⟩) xv_int (xv_cb (xa_cons (xv_var rfl) xa_nil) (rc_lenL vl_d)) ro_b0 (fun _ => xv_int) fun _ => ro_b0))) fun _ =>
    xt_or (xt_b (xv_cb (xa_cons (Xv.lst (xf_mapB (ml := []) (items := ties) [] (fun r : List Nat => decide ((r.length : Int) > 4)) (hI (xv_var rfl)) (fun q hq => nomatch hq) (by omega) fun i gl l acc hi => ⟨_, _, xg_name, fun j hj => hj, ?_⟩)) xa_nil) (rc_any vl_d))) fun _ =>
    xt_not (xt_b (xv_call (xa_cons (xv_var rfl) xa_nil) ⟨ties, met, rfl, h8, by omega, fun r hr => Nat.le_trans (hrow r hr) (by decide), by omega, hm1, rfl⟩))) ?_) (xs_next (nx_x ?_)))
  · exact Xv.dat (xv_op (xv_cb (xa_cons (xv_var rfl) xa_nil) (rc_lenL vl_d)) xv_int ro_b0) (by rw [eNs_len])
  · rw [List.length_map, any_id, decide_eq_true hm2, Bool.not_true, Bool.or_false, Bool.or_eq_false_iff]
    refine ⟨?_, List.any_eq_false.mpr fun r hr => ?_⟩
    · rw [decide_eq_true (by omega), decide_eq_true (by omega)]
      rfl
    · have := hrow r hr
      simp only [decide_eq_true_eq]
      omega
  · refine xs_retF (T := DL ((Mir.told ls).map eLane)) (xf_cb (xa_cons (xv_var rfl) xa_nil) (rcf_sortT (items := f.map lL) (ms := (Mir.told ls).map lL) (by rw [← lanes_eT]; exact vl_d) (by rw [List.length_map]; omega) hb ?_)) rfl rfl (fun H v p => by rw [lanes_eT]; exact Fz.lst p) hR
    have ht : Mir.told ls = Mir.sortL f := by unfold Mir.told; rw [hf]
    refine sort_code hb (by rw [ht]; exact (sortL_perm f).map _) ?_
    rw [ht, List.pairwise_map]
    refine ((sortL_sorted f).and (List.pairwise_of_forall_mem_list (r := fun a b => a ∈ f ∧ b ∈ f) fun a ha b hb => ⟨(sortL_perm f).mem_iff.mp ha, (sortL_perm f).mem_iff.mp hb⟩)).imp ?_
    rintro ⟨a1, a2⟩ ⟨b1, b2⟩ ⟨z, za, zb⟩
    rw [lexLe_iff] at z
    have e1 := List.all_eq_true.mp h2 _ za
    have e2 := List.all_eq_true.mp h2 _ zb
    simp only [decide_eq_true_eq] at e1 e2
    rw [code2, code2]
    simp only at z
    omega
end
end K74

set_option Elab.async false
set_option linter.all false
set_option maxRecDepth 100000
set_option maxHeartbeats 1000000
namespace K74
open PySem PySem.Spec PyProof.Rows L2
/-! ### a line of named places -/
abbrev at0 (nm : List Nat) (i : Nat) : Nat := nm.getD i 0
def lties (nm : List Nat) : List (List Nat) := Mir.tiesOf (Mir.told (Mir.lanesOf nm))
def lahead (nm : List Nat) (g : Nat) : List (Option Nat) := (Mir.aheadOf (lties nm) g).getD []
def nbs (nm : List Nat) (x : Nat) : List Nat := (lties nm).getD x []
structure LineOk (nm : List Nat) : Prop where
  len : 3 ≤ nm.length ∧ nm.length ≤ 6
  lanes : Mir.lanesIn (Mir.lanesOf nm) = true
  lok : Mir.lanesOk (Mir.lanesOf nm) = true
  tok : Mir.lanesOk (Mir.told (Mir.lanesOf nm)) = true
  tiesok : Mir.tiesOk (lties nm) = true
  tlen : (lties nm).length = nm.length
  same : Mir.tiesOf (Mir.lanesOf nm) = lties nm
  ends : at0 nm 0 < at0 nm (nm.length - 1)
  nd : nm.Nodup
  lt : ∀ x ∈ nm, x < nm.length
  perm : nm.Perm (List.range nm.length)
  t0 : nbs nm (at0 nm 0) = [at0 nm 1]
  t1 : nbs nm (at0 nm (nm.length - 1)) = [at0 nm (nm.length - 2)]
  mid : ∀ i, 0 < i → i < nm.length - 1 → nbs nm (at0 nm i) = Mir.isort [at0 nm (i - 1), at0 nm (i + 1)]
  ahd : ∀ j, j < nm.length → ∃ t, Mir.aheadOf (lties nm) (at0 nm j) = some t ∧ t.length = nm.length ∧ ∀ i, i < nm.length → t.getD (at0 nm i) none = some (at0 nm (Mir.nxt i j))
  w1 : Mir.lwayRun (lties nm) (at0 nm (nm.length - 1)) 10 [[at0 nm 0]] = some nm
  w2 : Mir.lwayRun (lties nm) (at0 nm 0) 10 [[at0 nm (nm.length - 1)]] = some nm.reverse
theorem lineOk {nm : List Nat} (hl : 3 ≤ nm.length ∧ nm.length ≤ 6) (hp : nm.Perm (List.range nm.length)) (h : Mir.chk nm = true) : LineOk nm := by
  simp only [Mir.chk, Bool.and_eq_true, decide_eq_true_eq] at h
  obtain ⟨⟨⟨⟨⟨⟨⟨⟨⟨⟨⟨⟨⟨h1, h2⟩, h3⟩, h4⟩, h5⟩, h6⟩, h7⟩, h8⟩, h9⟩, h10⟩, h11⟩, h12⟩, h13⟩, h14⟩ := h
  refine ⟨hl, h1, ?_, h2, h3, h4, h5, h6, h7, fun x hx => ?_, hp, h9, h10, fun i hi hj => ?_, fun j hj => ?_, h13, h14⟩
  · simp only [Mir.lanesIn, Bool.and_eq_true] at h1
    exact h1.1.1.1.1.1.1.1.1
  · have := List.all_eq_true.mp h8 x hx
    simpa using this
  · have := List.all_eq_true.mp h11 i (List.mem_range.mpr (by omega))
    rw [Bool.or_eq_true, decide_eq_true_eq, decide_eq_true_eq] at this
    rcases this with z | z
    · omega
    · exact z
  · have := List.all_eq_true.mp h12 j (List.mem_range.mpr hj)
    show ∃ t, Mir.aheadOf (lties nm) (at0 nm j) = some t ∧ _
    cases z : Mir.aheadOf (lties nm) (at0 nm j) with
    | none =>
      have z' : Mir.aheadOf (Mir.tiesOf (Mir.told (Mir.lanesOf nm))) (nm.getD j 0) = none := z
      rw [z'] at this
      cases this
    | some t =>
      have z' : Mir.aheadOf (Mir.tiesOf (Mir.told (Mir.lanesOf nm))) (nm.getD j 0) = some t := z
      rw [z'] at this
      simp only [Bool.and_eq_true, decide_eq_true_eq] at this
      refine ⟨t, rfl, this.1, fun i hi => ?_⟩
      have q := List.all_eq_true.mp this.2 i (List.mem_range.mpr hi)
      simpa using q
section
variable {nm : List Nat} (L : LineOk nm)
include L
theorem LineOk.pos {g : Nat} (h : g < nm.length) : ∃ i, i < nm.length ∧ at0 nm i = g := by
  have h1 : g ∈ nm := L.perm.mem_iff.mpr (List.mem_range.mpr h)
  obtain ⟨i, hi, e⟩ := List.getElem_of_mem h1
  exact ⟨i, hi, by rw [at0, List.getD_eq_getElem?_getD, List.getElem?_eq_getElem hi, e]; rfl⟩
theorem LineOk.inj {i j : Nat} (hi : i < nm.length) (hj : j < nm.length) (h : at0 nm i = at0 nm j) : i = j := by
  unfold at0 at h
  rw [List.getD_eq_getElem?_getD, List.getD_eq_getElem?_getD, List.getElem?_eq_getElem hi, List.getElem?_eq_getElem hj] at h
  have h' : nm[i] = nm[j] := h
  have q := List.pairwise_iff_getElem.mp L.nd
  rcases Nat.lt_trichotomy i j with z | z | z
  · exact absurd h' (q i j hi hj z)
  · exact z
  · exact absurd h'.symm (q j i hj hi z)
theorem LineOk.ltA {i : Nat} (hi : i < nm.length) : at0 nm i < nm.length := L.lt _ (List.mem_of_getElem? (getD_get 0 hi))
theorem LineOk.tget {x : Nat} (h : x < nm.length) : (lties nm)[x]? = some (nbs nm x) := getD_get [] (by rw [L.tlen]; exact h)
theorem LineOk.row4 : ∀ r ∈ lties nm, r.length ≤ 4 := fun r hr => by
  have h := L.lanes
  simp only [Mir.lanesIn, Bool.and_eq_true] at h
  have h7 := h.1.1.2
  have e : Mir.tiesOf ((Mir.lanesOf nm).map Mir.laneIn) = lties nm ∨ True := .inr trivial
  -- by places
  obtain ⟨x, hx, ex⟩ := List.getElem_of_mem hr
  have hx2 : x < nm.length := by rw [← L.tlen]; exact hx
  have er : r = nbs nm x := by
    have := L.tget hx2
    rw [List.getElem?_eq_getElem hx, ex] at this
    exact Option.some.inj this
  obtain ⟨i, hi, e⟩ := L.pos hx2
  rw [er, ← e]
  have hl := L.len
  by_cases h0 : i = 0
  · subst h0
    rw [L.t0]; simp
  · by_cases h1 : i = nm.length - 1
    · subst h1
      rw [L.t1]; simp
    · rw [L.mid i (by omega) (by omega), (Mir.isort_perm _).length_eq]
      simp
theorem LineOk.nlen {i : Nat} (hi : i < nm.length) : (nbs nm (at0 nm i)).length = if i = 0 ∨ i = nm.length - 1 then 1 else 2 := by
  by_cases h0 : i = 0
  · subst h0
    rw [L.t0, if_pos (.inl rfl)]; rfl
  · by_cases h1 : i = nm.length - 1
    · rw [if_pos (.inr h1)]
      subst h1
      rw [L.t1]; rfl
    · rw [L.mid i (by omega) (by omega), (Mir.isort_perm _).length_eq, if_neg (by omega)]
      rfl
theorem LineOk.aget {i j : Nat} (hi : i < nm.length) (hj : j < nm.length) : (lahead nm (at0 nm j))[at0 nm i]? = some (some (at0 nm (Mir.nxt i j))) := by
  obtain ⟨t, h1, h2, h3⟩ := L.ahd j hj
  unfold lahead
  rw [h1]
  show t[at0 nm i]? = _
  rw [← h3 i hi]
  exact getD_get none (by rw [h2]; exact L.ltA hi)
end
/-! the yards, the gates -/
def yardsOf (nm : List Nat) : List Nat := (List.range nm.length).filter fun x => decide ((nbs nm x).length > 1)
def gatesOf (nm : List Nat) : List Nat := (List.range nm.length).filter fun x => decide ((nbs nm x).length = 1)
theorem range_sorted (n : Nat) : (List.range n).Pairwise (· ≤ ·) := (List.pairwise_lt_range (n := n)).imp fun h => Nat.le_of_lt h
theorem LineOk.gates {nm : List Nat} (L : LineOk nm) : gatesOf nm = [at0 nm 0, at0 nm (nm.length - 1)] := by
  have hl := L.len
  refine Mir.sorted_eq ?_ ((range_sorted _).filter _) ?_
  · refine (List.perm_ext_iff_of_nodup (List.nodup_range.filter _) ?_).mpr fun x => ?_
    · rw [List.nodup_cons, List.mem_singleton]
      have := L.ends
      exact ⟨by omega, by simp⟩
    · rw [List.mem_filter, List.mem_range, decide_eq_true_eq]
      constructor
      · rintro ⟨h1, h2⟩
        obtain ⟨i, hi, rfl⟩ := L.pos h1
        rw [L.nlen hi] at h2
        split at h2
        · rename_i z
          rcases z with z | z
          · subst z; simp
          · subst z; simp
        · cases h2
      · intro h
        rcases List.mem_cons.mp h with h | h
        · subst h
          exact ⟨L.ltA (by omega), by rw [L.t0]; rfl⟩
        · rw [List.mem_singleton] at h
          subst h
          exact ⟨L.ltA (by omega), by rw [L.t1]; rfl⟩
  · have := L.ends
    exact List.pairwise_cons.mpr ⟨fun x hx => by rw [List.mem_singleton.mp hx]; omega, List.pairwise_singleton _ _⟩
theorem LineOk.yards_mem {nm : List Nat} (L : LineOk nm) {x : Nat} : x ∈ yardsOf nm ↔ ∃ i, 0 < i ∧ i < nm.length - 1 ∧ at0 nm i = x := by
  have hl := L.len
  unfold yardsOf
  rw [List.mem_filter, List.mem_range, decide_eq_true_eq]
  constructor
  · rintro ⟨h1, h2⟩
    obtain ⟨i, hi, rfl⟩ := L.pos h1
    rw [L.nlen hi] at h2
    split at h2
    · omega
    · exact ⟨i, by omega, by omega, rfl⟩
  · rintro ⟨i, h1, h2, rfl⟩
    have hi : i < nm.length := by omega
    exact ⟨L.ltA hi, by rw [L.nlen hi, if_neg (by omega)]; decide⟩
theorem inner_mem {nm : List Nat} {x : Nat} : x ∈ (nm.drop 1).dropLast ↔ ∃ i, 0 < i ∧ i < nm.length - 1 ∧ at0 nm i = x := by
  rw [List.dropLast_eq_take, List.length_drop]
  constructor
  · intro h
    obtain ⟨k, hk, e⟩ := List.getElem_of_mem h
    rw [List.length_take, List.length_drop] at hk
    refine ⟨k + 1, by omega, by omega, ?_⟩
    rw [List.getElem_take, List.getElem_drop] at e
    rw [at0, List.getD_eq_getElem?_getD, List.getElem?_eq_getElem (by omega), ← e]
    simp [Nat.add_comm]
  · rintro ⟨i, h1, h2, rfl⟩
    have h3 : i - 1 < ((nm.drop 1).take (nm.length - 1 - 1)).length := by rw [List.length_take, List.length_drop]; omega
    have e : ((nm.drop 1).take (nm.length - 1 - 1))[i - 1] = at0 nm i := by
      rw [List.getElem_take, List.getElem_drop, at0, List.getD_eq_getElem?_getD, List.getElem?_eq_getElem (by omega)]
      have : 1 + (i - 1) = i := by omega
      simp [this]
    rw [← e]
    exact List.getElem_mem h3
theorem LineOk.yards {nm : List Nat} (L : LineOk nm) : yardsOf nm = Mir.isort (nm.drop 1).dropLast := by
  refine Mir.isort_eq ((List.perm_ext_iff_of_nodup (List.nodup_range.filter _) ?_).mpr fun x => ?_) ((range_sorted _).filter _)
  · exact (L.nd.sublist (List.drop_sublist _ _)).sublist (List.dropLast_sublist _)
  · rw [show x ∈ List.filter (fun x => decide ((nbs nm x).length > 1)) (List.range nm.length) ↔ _ from L.yards_mem, inner_mem]
/-! ways -/
def dst (i j : Nat) : Nat := if i ≤ j then j - i else i - j
def posAt (i j t : Nat) : Nat := if i ≤ j then i + t else i - t
def pathN (nm : List Nat) (i j : Nat) : List Nat := (List.range (dst i j + 1)).map fun t => at0 nm (posAt i j t)
theorem pathN_len (nm : List Nat) (i j : Nat) : (pathN nm i j).length = dst i j + 1 := by unfold pathN; rw [List.length_map, List.length_range]
theorem pathN_get (nm : List Nat) (i j : Nat) {t : Nat} (h : t < dst i j + 1) : (pathN nm i j)[t]? = some (at0 nm (posAt i j t)) := by
  unfold pathN
  rw [List.getElem?_map, List.getElem?_range h]
  rfl
theorem posAt_nxt (i j t : Nat) (h : t < dst i j) : Mir.nxt (posAt i j t) j = posAt i j (t + 1) := by
  unfold dst at h
  unfold Mir.nxt posAt
  by_cases z : i ≤ j
  · rw [if_pos z] at h
    rw [if_pos z, if_pos z, if_pos (by omega)]
    omega
  · rw [if_neg z] at h
    rw [if_neg z, if_neg z, if_neg (by omega), if_pos (by omega)]
    omega
theorem posAt_end (i j : Nat) : posAt i j (dst i j) = j := by
  unfold posAt dst
  split <;> omega
theorem posAt_ne (i j t : Nat) (h : t < dst i j) : posAt i j t ≠ j := by
  unfold dst at h
  unfold posAt
  split at h
  · rw [if_pos (by assumption)]; omega
  · rw [if_neg (by assumption)]; omega
theorem posAt_lt {i j t n : Nat} (hi : i < n) (hj : j < n) (h : t ≤ dst i j) : posAt i j t < n := by
  unfold dst at h
  unfold posAt
  split at h
  · rw [if_pos (by assumption)]; omega
  · rw [if_neg (by assumption)]; omega
theorem dst_lt {i j n : Nat} (hi : i < n) (hj : j < n) : dst i j < n := by
  unfold dst
  split <;> omega
/-- a Country of a line -/
def Cy (CC : Addr) (nm : List Nat) : PP := Ob CC [("own_lanes", DL ((Mir.told (Mir.lanesOf nm)).map eLane)), ("own_ties", DL (eLL (lties nm))), ("own_ahead", DL ((List.range nm.length).map fun g => .list (eOs (lahead nm g))))]
theorem told_len (ls : List (Nat × Nat)) : (Mir.told ls).length = ls.length := by
  unfold Mir.told
  rw [(sortL_perm _).length_eq, List.length_map]
theorem lanesOf_len (nm : List Nat) : (Mir.lanesOf nm).length = nm.length - 1 := by unfold Mir.lanesOf; rw [List.length_map, List.length_range]
end K74

set_option Elab.async false
set_option linter.all false
set_option maxRecDepth 100000
set_option maxHeartbeats 4000000
namespace K74
open PySem PySem.Spec PyProof.Rows L2
/-- an __init__ as the top has left it; a property -/
structure DfN (K : PySem.W.Frag) (mg : PySem.Str → Option Value) (x qual : PySem.Str) (Cc : Addr) (st : Stmt) (ps : List PySem.Str) : Prop where
  ex : ∃ f fd, mg x = some (.ref Cc) ∧ Mk K Cc f ∧ Fun K "__init__" qual st f fd ∧ Binds K fd ps []
structure DfP (K : PySem.W.Frag) (Cc : Addr) (f qual : PySem.Str) (st : Stmt) : Prop where
  ex : ∃ p g fd, PropOf K Cc f p g ∧ Fun K f qual st g fd ∧ Binds K fd ["self"] []
section
variable {P : Program} {w : World} {K : PySem.W.Frag} {mg : PySem.Str → Option Value} {base : Heap} {CC CW : Addr}
theorem DfN.ok {x qual : PySem.Str} {st : Stmt} {N ps : List PySem.Str} {k : Nat} {Cc : Addr} {R : List PP → PP → Prop} (F : DfN K mg x qual Cc st ps) (S : FnScope N ps (defScope st))
    (hlen : ∀ Ps T, R Ps T → Ps.length + 1 = ps.length)
    (hbody : ∀ (f : Addr) (cdv : Value) (A : Around) (outer : List PySem.Env) (s : Shared) (H : Hp) (E : XK), Room k (A.deeper (envOfC qual (defScope st) s.heap.objs.size f cdv)) → ∃ t, PSs (cxOf CX0 P w K mg base N qual (defScope st) f cdv A outer s H E).nox (defBody st) t ∧
      ∀ (B : Hp) (M0 : List Addr) (Ps : List PP) (T : PP) (sx dx : Addr) (D' : Ends), R Ps T → (∀ σ H' gs mm ds, En ⟨B, M0, mm, ds, gs⟩ σ H' → (∀ fs, (sx, InsF Cc dx fs) ∈ mm → (∀ H v, (Ob Cc fs).P H v → T.P H v) → D'.nx σ H')) →
        Xs ⟨B, M0, [(sx, InsF Cc dx [])], some (Rf sx) :: Ps.map some ++ List.replicate (N.length - ps.length) none, []⟩ t D') : CalN P w K mg base x Cc ps (k + 1) R := by
  obtain ⟨f, fd, h1, h2, h3, h4⟩ := F.ex
  exact ⟨f, fd, h1, h2, h4, ok_new h3 S hlen fun cdv A outer s H E hr => hbody f cdv A outer s H E hr⟩
theorem DfP.ok {f qual : PySem.Str} {st : Stmt} {N : List PySem.Str} {k : Nat} {Cc : Addr} {R : List PP → PP → Prop} (F : DfP K Cc f qual st) (S : FnScope N ["self"] (defScope st))
    (hlen : ∀ Ps T, R Ps T → Ps.length = 1)
    (hbody : ∀ (g : Addr) (cdv : Value) (A : Around) (outer : List PySem.Env) (s : Shared) (H : Hp) (E : XK), Room k (A.deeper (envOfC qual (defScope st) s.heap.objs.size g cdv)) → ∃ t, PSs (cxOf CX0 P w K mg base N qual (defScope st) g cdv A outer s H E).nox (defBody st) t ∧
      ∀ (B : Hp) (M0 : List Addr) (Ps : List PP) (T : PP) (D' : Ends), R Ps T → Rt ⟨B, M0, [], Ps.map some ++ List.replicate (N.length - 1) none, []⟩ T D' → (∀ σ H', D'.nx σ H' = D'.rt .non H') → Xs ⟨B, M0, [], Ps.map some ++ List.replicate (N.length - 1) none, []⟩ t D') : CalP P w K mg base Cc f (k + 1) (spF R) := by
  obtain ⟨p, g, fd, h1, h2, h3⟩ := F.ex
  refine ⟨p, g, fd, h1, h3, ok_of h2 S hlen fun cdv A outer s H E hr => ?_⟩
  obtain ⟨t, h4, h5⟩ := hbody g cdv A outer s H E hr
  exact ⟨t, h4, fun M0 Ps T D' => h5 H M0 Ps T D'⟩
abbrev s_Country_init : Stmt := inClass (topS 25) 0
abbrev N_Country_init : List PySem.Str := ["self", "lanes", "told", "goal"]
theorem sc_Country_init : FnScope N_Country_init ["self", "lanes"] (defScope s_Country_init) := ⟨rfl, rfl, rfl, by decide +kernel, rfl, by decide +kernel, by decide +kernel⟩
def R_Country (CC : Addr) : List PP → PP → Prop := fun Ps T => ∃ nm, LineOk nm ∧ Ps = [DL ((Mir.lanesOf nm).map eLane)] ∧ T = Cy CC nm
theorem ok_Country (F : DfN K mg "Country" "Country.__init__" CC s_Country_init ["self", "lanes"]) (T : Txt K mg CC CW) (c_lanes_in : Cal P w K mg base "lanes_in" ["value"] 4 (spF R_lanes_in)) (c_ties_of : Cal P w K mg base "ties_of" ["lanes"] 1 (spF R_ties)) (c_ahead_of : Cal P w K mg base "ahead_of" ["ties", "goal"] 1 (spF R_ahead_of)) :
    CalN P w K mg base "Country" CC ["self", "lanes"] 5 (R_Country CC) := by
  refine F.ok sc_Country_init (fun Ps T ⟨nm, L, h, _⟩ => by rw [h]; rfl) fun f cdv A outer s H E hr => ⟨_,
    (pss_cons (ps_set (i := 2) sc_Country_init.nd rfl (.inl rfl) (pe_cal c_lanes_in (hr.mono (by decide)) rfl (pa_cons (pv 1) pa_nil)))
      (pss_cons (ps_if (pt_cmpR op_isN (pv 2) pe_non (nomark _)) pss_never pss_nil)
      (pss_cons (ps_fld (pv 0) (pv 2) rfl)
      (pss_cons (ps_fld (pv 0) (pe_cal c_ties_of (hr.mono (by decide)) rfl (pa_cons (pv 2) pa_nil)) rfl)
      (pss_one (ps_fld (pv 0) (pe_lc (own := [("goal", 3)]) (g := (gName 3)) (tt := tYes) (by rfl) sc_Country_init.nd (pi_range1 rfl T.range (pa_cons (pe_op op_add (pe_callB call_len (by rfl) T.len PySem.boot_len (pa_cons (pv 2) pa_nil)) pe_int) pa_nil)) (blkOk_by (own := [("goal", 3)]) (N := N_Country_init) (sc := defScope s_Country_init) (by decide +kernel)) (fun _ _ _ _ _ => (pg_name (i := 3) sc_Country_init.nd rfl (by first | exact Or.inl rfl | exact Or.inr rfl))) (fun _ _ _ _ _ => pts_nil) (fun _ _ _ _ _ => (pe_cal c_ahead_of (hr.mono (by decide)) rfl (pa_cons (pe_fldK (K := K) rfl (pv 0) rfl) (pa_cons (pv 3) pa_nil))))) rfl)))))), ?_⟩
  rintro B M0 Ps T' sx dx D' ⟨nm, L, rfl, rfl⟩ hR
  have hl := L.len
  have htl : (Mir.told (Mir.lanesOf nm)).length = nm.length - 1 := by rw [told_len, lanesOf_len]
  refine xs_seq (xs_set (xv_call (xa_cons (xv_var rfl) xa_nil) ⟨_, rfl, L.lanes, rfl⟩) (nx_x ?_))
  refine xs_seq (xs_no (xt_test (xv_op (xv_var rfl) xv_non ro_isN)) (xs_next (nx_x ?_)))
  refine xs_seq (xs_fld (k := 0) (xv_var rfl) (xp_var rfl) rfl (by simp) (by simp) T.cC T.nl (nx_x ?_))
  refine xs_seq (xs_fld (k := 0) (xv_call (xa_cons (xv_var rfl) xa_nil) ⟨_, rfl, L.tok, by omega, rfl⟩) (xp_var rfl) rfl (by show ("own_ties" : PySem.Str) ∉ [("own_lanes" : PySem.Str)]; decide) (by simp) T.cC T.nt (nx_x ?_))
  have hi0 : ((List.range nm.length).map fun g => PyData.list (eOs (lahead nm g))) = (List.range nm.length).map fun g => PyData.list (eOs (lahead nm g)) := rfl
  refine xs_fld (P := DL ((List.range nm.length).map fun g => .list (eOs (lahead nm g)))) (k := 0) (Xv.lst (xf_map (ml := []) (items := List.range nm.length) 0 (fun g => .list (eOs (lahead nm g))) ((XI.len (xi_rng1 (j := (nm.length : Nat)) (XA.eq (xa_cons (xv_op (xv_cb (xa_cons (xv_var rfl) xa_nil) (rc_lenL vl_d)) xv_int ro_i0) xa_nil) ?_) (by omega)) (by rw [List.length_range, Int.toNat_natCast]))) (fun q hq => nomatch hq) (by rw [List.length_range]; omega)
    fun i gl l acc hi => ⟨_, _, xg_name, fun j hj => hj, ?_⟩)) (xp_var rfl) rfl (by show ("own_ahead" : PySem.Str) ∉ [("own_lanes" : PySem.Str), "own_ties"]; decide) (by simp) T.cC T.na ?_
  · rw [List.length_map, htl]
    have : ((nm.length - 1 : Nat) : Int) + 1 = (nm.length : Nat) := by omega
    rw [this]
  · rw [List.length_range] at hi
    have e : (List.range nm.length).getD i 0 = i := by rw [List.getD_eq_getElem?_getD, List.getElem?_range hi]; rfl
    rw [e]
    obtain ⟨j, hj, ej⟩ := L.pos hi
    obtain ⟨t, h1, h2, h3⟩ := L.ahd j hj
    rw [ej] at h1
    have e2 : lahead nm i = t := by unfold lahead; rw [h1]; rfl
    rw [e2]
    exact xv_call (xa_cons (xv_fldM (k := 1) (xv_var rfl) rfl rfl T.cC T.nt) (xa_cons (xv_var rfl) xa_nil)) ⟨lties nm, i, t, rfl, L.tiesok, by rw [L.tlen]; omega, fun r hr => Nat.le_trans (L.row4 r hr) (by decide), by rw [L.tlen]; exact hi, h1, rfl⟩
  · intro σ H e
    exact hR σ H _ _ _ e _ List.mem_cons_self fun H v p => p
end
end K74

set_option Elab.async false
set_option linter.all false
set_option maxRecDepth 100000
set_option maxHeartbeats 4000000
namespace K74
open PySem PySem.Spec PyProof.Rows L2
theorem eLL_row {nm : List Nat} (L : LineOk nm) {x : Nat} (h : x < nm.length) : L2.atI (eLL (lties nm)) (x : Int) = some (.list (eNs (nbs nm x))) := atI_n (eLL_get (L.tget h))
theorem ahead_row {nm : List Nat} {x : Nat} (h : x < nm.length) : L2.atI ((List.range nm.length).map fun g => PyData.list (eOs (lahead nm g))) (x : Int) = some (.list (eOs (lahead nm x))) := atI_n (by rw [List.getElem?_map, List.getElem?_range h]; rfl)
theorem ahead_at {nm : List Nat} (L : LineOk nm) {i j : Nat} (hi : i < nm.length) (hj : j < nm.length) : L2.atI (eOs (lahead nm (at0 nm j))) (at0 nm i : Nat) = some (eN (at0 nm (Mir.nxt i j))) := atI_n (eOs_get (L.aget hi hj))
section
variable {P : Program} {w : World} {K : PySem.W.Frag} {mg : PySem.Str → Option Value} {base : Heap} {CC CW : Addr}
abbrev s_beside : Stmt := topS 26
abbrev N_beside : List PySem.Str := ["country", "place"]
theorem sc_beside : FnScope N_beside ["country", "place"] (defScope s_beside) := ⟨rfl, rfl, rfl, by decide +kernel, rfl, by decide +kernel, by decide +kernel⟩
def R_beside (CC : Addr) : List PP → PP → Prop := fun Ps T => ∃ nm x, LineOk nm ∧ x < nm.length ∧ Ps = [Cy CC nm, DI (x : Nat)] ∧ T = DL (eNs (nbs nm x))
theorem ok_beside (F : Df K mg "beside" s_beside ["country", "place"]) (T : Txt K mg CC CW) : Cal P w K mg base "beside" ["country", "place"] 1 (spF (R_beside CC)) := by
  refine F.ok sc_beside (fun Ps T ⟨_, _, _, _, h, _⟩ => by rw [h]; rfl) fun f cdv A outer s H E hr => ⟨_,
    (pss_one (ps_ret (pe_callTy call_list_of (by rfl) T.list boot_list (pa_cons (pe_ix ix_seq (pe_fld (pv 0) rfl) (pv 1) (fun _ _ => rfl)) pa_nil)))), ?_⟩
  rintro B M0 Ps T' D' ⟨nm, x, L, hx, rfl, rfl⟩ hR _
  exact xs_retF (T := DL (eNs (nbs nm x))) (xf_cb (xa_cons (xv_op (xv_fld (xv_var rfl) (Ob.atr rfl) T.cC T.nt) (xv_var rfl) (ro_ixL vl_d (eLL_row L hx))) xa_nil) (rcf_list vl_d)) rfl rfl (fun H v p => Fz.lst p) hR
abbrev s_yards_in : Stmt := topS 27
abbrev N_yards_in : List PySem.Str := ["country", "place", "row"]
theorem sc_yards_in : FnScope N_yards_in ["country"] (defScope s_yards_in) := ⟨rfl, rfl, rfl, by decide +kernel, rfl, by decide +kernel, by decide +kernel⟩
def R_yards_in (CC : Addr) : List PP → PP → Prop := fun Ps T => ∃ nm, LineOk nm ∧ Ps = [Cy CC nm] ∧ T = DL (eNs (yardsOf nm))
theorem rowsI {nm : List Nat} (L : LineOk nm) {C C1 : Ct} {t : TA} (h : XA C t [DL (eLL (lties nm))] C1) : XI C (iEnum K t) (List.range nm.length).length (fun i => DT [eN i, .list (eNs (nbs nm i))]) C1 [] :=
  XI.len (xi_encE (K := K) (items := lties nm) [] (fun l => .list (eNs l)) h) (by rw [L.tlen, List.length_range])
theorem range_at {n i : Nat} (h : i < n) : (List.range n).getD i 0 = i := by rw [List.getD_eq_getElem?_getD, List.getElem?_range h]; rfl
theorem ok_yards_in (F : Df K mg "yards_in" s_yards_in ["country"]) (T : Txt K mg CC CW) : Cal P w K mg base "yards_in" ["country"] 1 (spF (R_yards_in CC)) := by
  refine F.ok sc_yards_in (fun Ps T ⟨_, _, h, _⟩ => by rw [h]; rfl) fun f cdv A outer s H E hr => ⟨_,
    (pss_one (ps_ret (pe_lc (own := [("place", 1), ("row", 2)]) (g := (gTup K 2 (gCons (gName 1) (gCons (gName 2) gNil))))  (by rfl) sc_yards_in.nd (pi_enum rfl T.enumerate (pa_cons (pe_fld (pv 0) rfl) pa_nil)) (blkOk_by (own := [("place", 1), ("row", 2)]) (N := N_yards_in) (sc := defScope s_yards_in) (by decide +kernel)) (fun _ _ _ _ _ => (pg_tup rfl (pgs_cons (pg_name (i := 1) sc_yards_in.nd rfl (by first | exact Or.inl rfl | exact Or.inr rfl)) (pgs_cons (pg_name (i := 2) sc_yards_in.nd rfl (by first | exact Or.inl rfl | exact Or.inr rfl)) pgs_nil)))) (fun _ _ _ _ _ => (pts_one (pt_cmpR op_gt (pe_callB (r := rLenV K) call_len (by rfl) T.len PySem.boot_len (pa_cons (pv 2) pa_nil)) pe_int (nomark _)))) (fun _ _ _ _ _ => (pv 1))))), ?_⟩
  rintro B M0 Ps T' D' ⟨nm, L, rfl, rfl⟩ hR _
  have hl := L.len
  refine xs_retF (T := DL (eNs (yardsOf nm))) (xf_filter (ml := []) (items := List.range nm.length) 0 (fun x => decide ((nbs nm x).length > 1)) eN (rowsI L (xa_cons (xv_fld (xv_var rfl) (Ob.atr rfl) T.cC T.nt) xa_nil)) (fun q hq => nomatch hq) (by rw [List.length_range]; omega)
    fun i gl l acc hi => ⟨_, _, xg_tup (xgs_cons xg_name (xgs_cons xg_name xgs_nil)) rfl, fun j hj => hj, ?_, fun _ => ?_⟩) rfl rfl (fun H v p => Fz.lst p) hR
  · rw [List.length_range] at hi
    rw [range_at hi]
    refine (xt_test (xv_op (xv_cb (xa_cons (xv_var rfl) xa_nil) (rc_lenL vl_d)) xv_int ro_b0)).eq ?_
    rw [eNs_len]
    by_cases z : (nbs nm i).length > 1
    · rw [decide_eq_true z, decide_eq_true (by omega)]
    · rw [decide_eq_false z, decide_eq_false (by omega)]
  · rw [List.length_range] at hi
    rw [range_at hi]
    exact xv_var rfl
abbrev s_gates_in : Stmt := topS 28
abbrev N_gates_in : List PySem.Str := ["country", "place", "row"]
theorem sc_gates_in : FnScope N_gates_in ["country"] (defScope s_gates_in) := ⟨rfl, rfl, rfl, by decide +kernel, rfl, by decide +kernel, by decide +kernel⟩
def R_gates_in (CC : Addr) : List PP → PP → Prop := fun Ps T => ∃ nm, LineOk nm ∧ Ps = [Cy CC nm] ∧ T = DL [eN (at0 nm 0), eN (at0 nm (nm.length - 1))]
theorem ok_gates_in (F : Df K mg "gates_in" s_gates_in ["country"]) (T : Txt K mg CC CW) : Cal P w K mg base "gates_in" ["country"] 1 (spF (R_gates_in CC)) := by
  refine F.ok sc_gates_in (fun Ps T ⟨_, _, h, _⟩ => by rw [h]; rfl) fun f cdv A outer s H E hr => ⟨_,
    (pss_one (ps_ret (pe_lc (own := [("place", 1), ("row", 2)]) (g := (gTup K 2 (gCons (gName 1) (gCons (gName 2) gNil))))  (by rfl) sc_gates_in.nd (pi_enum rfl T.enumerate (pa_cons (pe_fld (pv 0) rfl) pa_nil)) (blkOk_by (own := [("place", 1), ("row", 2)]) (N := N_gates_in) (sc := defScope s_gates_in) (by decide +kernel)) (fun _ _ _ _ _ => (pg_tup rfl (pgs_cons (pg_name (i := 1) sc_gates_in.nd rfl (by first | exact Or.inl rfl | exact Or.inr rfl)) (pgs_cons (pg_name (i := 2) sc_gates_in.nd rfl (by first | exact Or.inl rfl | exact Or.inr rfl)) pgs_nil)))) (fun _ _ _ _ _ => (pts_one (pt_cmpR (r := rEqD K) (op_eqD hr.units) (pe_callB (r := rLenV K) call_len (by rfl) T.len PySem.boot_len (pa_cons (pv 2) pa_nil)) pe_int (nomark _)))) (fun _ _ _ _ _ => (pv 1))))), ?_⟩
  rintro B M0 Ps T' D' ⟨nm, L, rfl, rfl⟩ hR _
  have hl := L.len
  refine xs_retF (T := DL [eN (at0 nm 0), eN (at0 nm (nm.length - 1))]) (F := LF (eNs (gatesOf nm))) (xf_filter (ml := []) (items := List.range nm.length) 0 (fun x => decide ((nbs nm x).length = 1)) eN (rowsI L (xa_cons (xv_fld (xv_var rfl) (Ob.atr rfl) T.cC T.nt) xa_nil)) (fun q hq => nomatch hq) (by rw [List.length_range]; omega)
    fun i gl l acc hi => ⟨_, _, xg_tup (xgs_cons xg_name (xgs_cons xg_name xgs_nil)) rfl, fun j hj => hj, ?_, fun _ => ?_⟩) rfl rfl (fun H v p => by rw [L.gates] at p; exact Fz.lst p) hR
  · rw [List.length_range] at hi
    rw [range_at hi]
    refine (xt_test (xv_op (xv_cb (xa_cons (xv_var rfl) xa_nil) (rc_lenL vl_d)) xv_int (ro_eqD vd_d vd_d (shaped_flat rfl) (shaped_flat rfl)))).eq ?_
    rw [eNs_len]
    exact eqv_nat _ 1
  · rw [List.length_range] at hi
    rw [range_at hi]
    exact xv_var rfl
abbrev s_is_place : Stmt := topS 29
abbrev N_is_place : List PySem.Str := ["country", "value"]
theorem sc_is_place : FnScope N_is_place ["country", "value"] (defScope s_is_place) := ⟨rfl, rfl, rfl, by decide +kernel, rfl, by decide +kernel, by decide +kernel⟩
def R_is_place (CC : Addr) : List PP → PP → Prop := fun Ps T => ∃ nm x, LineOk nm ∧ x < nm.length ∧ Ps = [Cy CC nm, DI (x : Nat)] ∧ T = DB true
theorem ok_is_place (F : Df K mg "is_place" s_is_place ["country", "value"]) (T : Txt K mg CC CW) (c_is_count : Cal P w K mg base "is_count" ["value"] 2 (spF R_is_count)) : Cal P w K mg base "is_place" ["country", "value"] 3 (spF (R_is_place CC)) := by
  refine F.ok sc_is_place (fun Ps T ⟨_, _, _, _, h, _⟩ => by rw [h]; rfl) fun f cdv A outer s H E hr => ⟨_,
    (pss_one (ps_ret (pe_and (pe_cal c_is_count (hr.mono (by decide)) rfl (pa_cons (pv 1) pa_nil)) (pe_one (pe_cmpR op_lt (pv 1) (pe_callB call_len (by rfl) T.len PySem.boot_len (pa_cons (pe_fld (pv 0) rfl) pa_nil)) (nomark _)))))), ?_⟩
  rintro B M0 Ps T' D' ⟨nm, x, L, hx, rfl, rfl⟩ hR _
  refine xs_ret (T := DB true) ((xv_and (a := true) (xv_call (xa_cons (xv_var rfl) xa_nil) ⟨_, rfl, rfl, rfl⟩) fun _ => xv_op (xv_var rfl) (xv_cb (xa_cons (xv_fld (xv_var rfl) (Ob.atr rfl) T.cC T.nt) xa_nil) (rc_lenL vl_d)) ro_b0).dat ?_) rfl rfl (fun H v p => p) hR
  rw [eLL_len, L.tlen, decide_eq_true (by omega)]
  rfl
abbrev s_is_yard : Stmt := topS 30
abbrev N_is_yard : List PySem.Str := ["country", "value"]
theorem sc_is_yard : FnScope N_is_yard ["country", "value"] (defScope s_is_yard) := ⟨rfl, rfl, rfl, by decide +kernel, rfl, by decide +kernel, by decide +kernel⟩
def R_is_yard (CC : Addr) : List PP → PP → Prop := fun Ps T => ∃ nm i, LineOk nm ∧ (0 < i ∧ i < nm.length - 1) ∧ Ps = [Cy CC nm, DI (at0 nm i : Nat)] ∧ T = DB true
theorem ok_is_yard (F : Df K mg "is_yard" s_is_yard ["country", "value"]) (T : Txt K mg CC CW) (c_is_place : Cal P w K mg base "is_place" ["country", "value"] 3 (spF (R_is_place CC))) : Cal P w K mg base "is_yard" ["country", "value"] 4 (spF (R_is_yard CC)) := by
  refine F.ok sc_is_yard (fun Ps T ⟨_, _, _, _, h, _⟩ => by rw [h]; rfl) fun f cdv A outer s H E hr => ⟨_,
    (pss_one (ps_ret (pe_and (pe_cal c_is_place (hr.mono (by decide)) rfl (pa_cons (pv 0) (pa_cons (pv 1) pa_nil))) (pe_one (pe_cmpR op_gt (pe_callB call_len (by rfl) T.len PySem.boot_len (pa_cons (pe_ix ix_seq (pe_fld (pv 0) rfl) (pv 1) (fun _ _ => rfl)) pa_nil)) pe_int (nomark _)))))), ?_⟩
  rintro B M0 Ps T' D' ⟨nm, i, L, hi, rfl, rfl⟩ hR _
  have hl := L.len
  have hx : at0 nm i < nm.length := L.ltA (by omega)
  refine xs_ret (T := DB true) ((xv_and (a := true) (xv_call (xa_cons (xv_var rfl) (xa_cons (xv_var rfl) xa_nil)) ⟨nm, _, L, hx, rfl, rfl⟩) fun _ => xv_op (xv_cb (xa_cons (xv_op (xv_fld (xv_var rfl) (Ob.atr rfl) T.cC T.nt) (xv_var rfl) (ro_ixL vl_d (eLL_row L hx))) xa_nil) (rc_lenL vl_d)) xv_int ro_b0).dat ?_) rfl rfl (fun H v p => p) hR
  rw [eNs_len, L.nlen (by omega), if_neg (by omega)]
  rfl
abbrev s_want_country : Stmt := topS 31
abbrev N_want_country : List PySem.Str := ["value"]
theorem sc_want_country : FnScope N_want_country ["value"] (defScope s_want_country) := ⟨rfl, rfl, rfl, by decide +kernel, rfl, by decide +kernel, by decide +kernel⟩
def R_want_country (CC : Addr) : List PP → PP → Prop := fun Ps T => ∃ nm, Ps = [Cy CC nm] ∧ T = Cy CC nm
theorem ok_want_country (F : Df K mg "want_country" s_want_country ["value"]) (T : Txt K mg CC CW) : Cal P w K mg base "want_country" ["value"] 1 (spF (R_want_country CC)) := by
  refine F.ok sc_want_country (fun Ps T ⟨_, h, _⟩ => by rw [h]; rfl) fun f cdv A outer s H E hr => ⟨_,
    (pss_cons (ps_if (pt_not (pt_val (pe_callB (C8.call_isC T.isCCountry) (by rfl) T.isinstance boot_isinstance (pa_cons (pv 0) (pa_cons (pe_glob (v := .ref CC) rfl T.mCountry rfl) pa_nil))))) pss_never pss_nil)
      (pss_one (ps_ret (pv 0)))), ?_⟩
  rintro B M0 Ps T' D' ⟨nm, rfl, rfl⟩ hR _
  exact xs_seq (xs_no (xt_not (xt_b (xv_cb (xa_cons (xv_var rfl) (xa_cons xv_cls xa_nil)) (rc_isiC Ob.ins)))) (xs_next (nx_x (xs_ret (T := Cy CC nm) (xv_var rfl) rfl rfl (fun H v p => p) hR))))
abbrev s_step_towards : Stmt := topS 35
abbrev N_step_towards : List PySem.Str := ["country", "place", "goal"]
theorem sc_step_towards : FnScope N_step_towards ["country", "place", "goal"] (defScope s_step_towards) := ⟨rfl, rfl, rfl, by decide +kernel, rfl, by decide +kernel, by decide +kernel⟩
def R_step_towards (CC : Addr) : List PP → PP → Prop := fun Ps T => ∃ nm i j, LineOk nm ∧ i < nm.length ∧ j < nm.length ∧ Ps = [Cy CC nm, DI (at0 nm i : Nat), DI (at0 nm j : Nat)] ∧ T = DI (at0 nm (Mir.nxt i j) : Nat)
theorem ok_step_towards (F : Df K mg "step_towards" s_step_towards ["country", "place", "goal"]) (T : Txt K mg CC CW) : Cal P w K mg base "step_towards" ["country", "place", "goal"] 1 (spF (R_step_towards CC)) := by
  refine F.ok sc_step_towards (fun Ps T ⟨_, _, _, _, _, _, h, _⟩ => by rw [h]; rfl) fun f cdv A outer s H E hr => ⟨_,
    (pss_one (ps_ret (pe_ix ix_seq (pe_ix ix_seq (pe_fld (pv 0) rfl) (pv 2) (fun _ _ => rfl)) (pv 1) (fun _ _ => rfl)))), ?_⟩
  rintro B M0 Ps T' D' ⟨nm, i, j, L, hi, hj, rfl, rfl⟩ hR _
  exact xs_ret (T := DI (at0 nm (Mir.nxt i j) : Nat)) (xv_op (xv_op (xv_fld (xv_var rfl) (Ob.atr rfl) T.cC T.na) (xv_var rfl) (ro_ixL vl_d (ahead_row (L.ltA hj)))) (xv_var rfl) (ro_ixL vl_d (ahead_at L hi hj))) rfl rfl (fun H v p => p) hR
abbrev s_way_between : Stmt := topS 34
abbrev N_way_between : List PySem.Str := ["country", "start", "end", "ahead", "found"]
theorem sc_way_between : FnScope N_way_between ["country", "start", "end"] (defScope s_way_between) := ⟨rfl, rfl, rfl, by decide +kernel, rfl, by decide +kernel, by decide +kernel⟩
def R_way_between (CC : Addr) : List PP → PP → Prop := fun Ps T => ∃ nm i j, LineOk nm ∧ i < nm.length ∧ j < nm.length ∧ Ps = [Cy CC nm, DI (at0 nm i : Nat), DI (at0 nm j : Nat)] ∧ T = DL (eNs (pathN nm i j))
theorem ok_way_between (F : Df K mg "way_between" s_way_between ["country", "start", "end"]) (T : Txt K mg CC CW) : Cal P w K mg base "way_between" ["country", "start", "end"] 1 (spF (R_way_between CC)) := by
  refine F.ok sc_way_between (fun Ps T ⟨_, _, _, _, _, _, h, _⟩ => by rw [h]; rfl) fun f cdv A outer s H E hr => ⟨_,
    (pss_cons (ps_par (i := 3) (j := 4) (by rfl) sc_way_between.nd rfl rfl (by decide) rfl rfl (pa_cons (pe_ix ix_seq (pe_fld (pv 0) rfl) (pv 2) (fun _ _ => rfl)) (pa_cons (pe_lst (pa_cons (pv 1) pa_nil)) pa_nil)) (by rfl))
      (pss_cons (ps_while PassesOwn.never (pt_cmpR (op_neD hr.units) (pe_ix ix_seq (pv 4) (pe_un un_neg pe_int) (fun _ _ => rfl)) (pv 2) (nomark _)) (pss_one (ps_expr (pe_bm PySem.F.plainAttrs_list PySem.F.slot_list_append PySem.F.type_list_append mt_append (pv 4) (pa_cons (pe_ix ix_seq (pv 3) (pe_ix ix_seq (pv 4) (pe_un un_neg pe_int) (fun _ _ => rfl)) (fun _ _ => rfl)) pa_nil)))))
      (pss_one (ps_ret (pv 4))))), ?_⟩
  rintro B M0 Ps T' D' ⟨nm, i, j, L, hi, hj, rfl, rfl⟩ hR _
  have hl := L.len
  refine xs_seq (xs_parPF (xv_op (xv_fld (xv_var rfl) (Ob.atr rfl) T.cC T.na) (xv_var rfl) (ro_ixL vl_d (ahead_row (L.ltA hj)))) (xf_lst [eN (at0 nm i)] (xa_cons (xv_var rfl) xa_nil) (by show 1 ≤ 100000; decide)) fun l => nx_x ?_)
  let pre : Nat → List Nat := fun t => (List.range (t + 1)).map fun t => at0 nm (posAt i j t)
  have plen : ∀ t, (eNs (pre t)).length = t + 1 := fun t => by rw [eNs_len, List.length_map, List.length_range]
  have plast : ∀ t, (eNs (pre t))[(eNs (pre t)).length - 1]? = some (eN (at0 nm (posAt i j t))) := fun t => by
    rw [plen]
    exact eNs_get (by rw [List.getElem?_map, List.getElem?_range (by omega)]; rfl)
  let I : Nat → Ct := fun t => ⟨B, M0, [(l, LF (eNs (pre t)))], [some (Cy CC nm), some (DI (at0 nm i : Nat)), some (DI (at0 nm j : Nat)), some (DL (eOs (lahead nm (at0 nm j)))), some (Rf l)], []⟩
  have p0 : pre 0 = [at0 nm i] := by
    show [at0 nm (posAt i j 0)] = _
    have : posAt i j 0 = i := by unfold posAt; split <;> omega
    rw [this]
  refine xs_seq (xs_while I (fun t => dst i j - t) (fun t => t ≤ dst i j) 0 (Nat.zero_le _) (fun σ H e => by
    show En ⟨B, M0, [(l, LF (eNs (pre 0)))], _, []⟩ σ H
    rw [p0]
    exact e) ?_)
  intro t ht
  have hpt : posAt i j t < nm.length := posAt_lt hi hj ht
  have hla : ∀ {te : TE}, Xv (I t) te (DI (-1)) (I t) → Xv (I t) (tOp (rIx K) (tVar 4) te) (D (eN (at0 nm (posAt i j t)))) (I t) := fun h => xv_op (xv_var rfl) h (ro_ixL (vl_r (k := 0) rfl) (atI_end (plast t)))
  refine ⟨!decide (t = dst i j), I t, (xt_test (xv_op (hla (xv_un xv_int)) (xv_var rfl) (ro_neD vd_d vd_d (shaped_flat rfl) (shaped_flat rfl)))).eq ?_, fun hb => ?_, fun hb => nx_x ?_⟩
  · rw [eqv_nat]
    by_cases z : t = dst i j
    · rw [decide_eq_true z, z, posAt_end, decide_eq_true rfl]
    · rw [decide_eq_false z, decide_eq_false fun y => posAt_ne i j t (by omega) (L.inj hpt hj y)]
  · have hlt : t < dst i j := by
      have : ¬ t = dst i j := by simpa using hb
      omega
    refine xs_drop (xv_app (k := 0) (d := eN (at0 nm (Mir.nxt (posAt i j t) j))) (xv_var rfl) (xv_op (xv_var rfl) (hla (xv_un xv_int)) (ro_ixL vl_d (ahead_at L hpt hj))) rfl rfl (by rw [plen]; have := dst_lt hi hj; omega)) fun σ H e => ?_
    refine ⟨t + 1, by omega, hlt, ?_⟩
    have e2 : eNs (pre t) ++ [eN (at0 nm (Mir.nxt (posAt i j t) j))] = eNs (pre (t + 1)) := by
      rw [posAt_nxt i j t hlt]
      show eNs ((List.range (t + 1)).map _) ++ eNs [at0 nm (posAt i j (t + 1))] = eNs ((List.range (t + 1 + 1)).map _)
      rw [← eNs_append, List.range_succ (n := t + 1), List.map_append]
      rfl
    rw [e2] at e
    exact e
  · have hte : t = dst i j := by simpa using hb
    subst hte
    exact xs_retM (T := DL (eNs (pathN nm i j))) (k := 0) (xv_var rfl) rfl rfl rfl (fun H v p => Fz.lst p) hR
end
end K74

set_option Elab.async false
set_option linter.all false
set_option maxRecDepth 100000
set_option maxHeartbeats 4000000
namespace K74
open PySem PySem.Spec PyProof.Rows L2
/-! ### books of one alternative, bounds by targets -/
abbrev eBd (b : Nat × Nat) : PyData := .tuple [.none, eN b.1, eN b.2]
abbrev eAlt (p : Nat) (bs : List (Nat × Nat)) : PyData := .tuple [eN p, .list (bs.map eBd)]
structure BookOk (near : List Nat) (p : Nat) (bs : List (Nat × Nat)) : Prop where
  p1 : 1 ≤ p
  p6 : p ≤ 6
  len : bs.length ≤ 6
  bd : ∀ b ∈ bs, b.1 ∈ near ∧ 1 ≤ b.2 ∧ b.2 ≤ 6
def pairsN (near : List Nat) : List (Nat × Nat) := near.flatMap fun o => (near.filter fun t => decide (t ≠ o)).map fun t => (o, t)
section
variable {P : Program} {w : World} {K : PySem.W.Frag} {mg : PySem.Str → Option Value} {base : Heap} {CC CW : Addr}
abbrev s_pairs_at : Stmt := topS 40
abbrev N_pairs_at : List PySem.Str := ["country", "yard", "near", "found", "origin", "target"]
theorem sc_pairs_at : FnScope N_pairs_at ["country", "yard"] (defScope s_pairs_at) := ⟨rfl, rfl, rfl, by decide +kernel, rfl, by decide +kernel, by decide +kernel⟩
def R_pairs_at (CC : Addr) : List PP → PP → Prop := fun Ps T => ∃ nm x, LineOk nm ∧ x < nm.length ∧ Ps = [Cy CC nm, DI (x : Nat)] ∧ T = DL ((pairsN (nbs nm x)).map eLane)
theorem pairs_len (near : List Nat) (i : Nat) : ((near.take i).flatMap fun o => (near.filter fun t => decide (t ≠ o)).map fun t => (o, t)).length ≤ i * near.length := by
  induction i with
  | zero => simp
  | succ i ih =>
    rw [List.take_add_one, List.flatMap_append, List.length_append, Nat.add_one_mul]
    refine Nat.add_le_add ih ?_
    cases near[i]? with
    | none => simp
    | some o =>
      show (List.flatMap _ [o]).length ≤ _
      rw [List.flatMap_cons, List.flatMap_nil, List.append_nil, List.length_map]
      exact List.length_filter_le _ _
theorem ok_pairs_at (F : Df K mg "pairs_at" s_pairs_at ["country", "yard"]) (T : Txt K mg CC CW) (c_beside : Cal P w K mg base "beside" ["country", "place"] 1 (spF (R_beside CC))) : Cal P w K mg base "pairs_at" ["country", "yard"] 2 (spF (R_pairs_at CC)) := by
  refine F.ok sc_pairs_at (fun Ps T ⟨_, _, _, _, h, _⟩ => by rw [h]; rfl) fun f cdv A outer s H E hr => ⟨_,
    (pss_cons (ps_par (i := 2) (j := 3) (by rfl) sc_pairs_at.nd rfl rfl (by decide) rfl rfl (pa_cons (pe_cal c_beside (hr.mono (by decide)) rfl (pa_cons (pv 0) (pa_cons (pv 1) pa_nil))) (pa_cons (pe_lst pa_nil) pa_nil)) (by rfl))
      (pss_cons (ps_for PassesOwn.never rfl (pi_list (pv 2)) (pg_name (i := 4) sc_pairs_at.nd rfl (.inr rfl))
        (pss_one (ps_expr (pe_bm PySem.F.plainAttrs_list PySem.F.slot_list_extend PySem.F.type_list_extend mt_extend (pv 3) (pa_cons (pe_lc (own := [("target", 5)]) (g := (gName 5))  (by rfl) sc_pairs_at.nd (pi_list (pv 2)) (blkOk_by (own := [("target", 5)]) (N := N_pairs_at) (sc := defScope s_pairs_at) (by decide +kernel)) (fun _ _ _ _ _ => (pg_name (i := 5) sc_pairs_at.nd rfl (by first | exact Or.inl rfl | exact Or.inr rfl))) (fun _ _ _ _ _ => (pts_one (pt_cmpR (r := rNeD K) (op_neD hr.units) (pv 5) (pv 4) (nomark _)))) (fun _ _ _ _ _ => (pe_tup (pa_cons (pv 4) (pa_cons (pv 5) pa_nil))))) pa_nil)))))
      (pss_one (ps_ret (pv 3))))), ?_⟩
  rintro B M0 Ps T' D' ⟨nm, x, L, hx, rfl, rfl⟩ hR _
  generalize hn : nbs nm x = near at hR
  have hnl : near.length ≤ 4 := by rw [← hn]; exact L.row4 _ (List.mem_of_getElem? (L.tget hx))
  refine xs_seq (xs_parPF (xv_call (xa_cons (xv_var rfl) (xa_cons (xv_var rfl) xa_nil)) ⟨nm, x, L, hx, rfl, rfl⟩) (xf_lst [] xa_nil (by decide)) fun l => nx_x ?_)
  rw [hn]
  let fo : Nat → List (Nat × Nat) := fun i => (near.take i).flatMap fun o => (near.filter fun t => decide (t ≠ o)).map fun t => (o, t)
  refine xs_seq (xs_for (I := fun i => ⟨B, M0, [(l, LF ((fo i).map eLane))], [some (Cy CC nm), some (DI (x : Nat)), some (DL (eNs near)), some (Rf l), none, none], []⟩) (xi_encL (items := near) 0 eN (xv_var rfl)) (fun _ _ q hq => nomatch hq) (ghs_weak (wk_refl _)) (fun i gl hi => ?_) (nx_x ?_))
  · have hfl : (fo i).length ≤ i * near.length := pairs_len near i
    have e1 : fo (i + 1) = fo i ++ (near.filter fun t => decide (t ≠ near.getD i 0)).map fun t => (near.getD i 0, t) := by
      show (near.take (i + 1)).flatMap _ = _
      rw [List.take_add_one, getD_get 0 hi, List.flatMap_append]
      show _ ++ List.flatMap _ [near.getD i 0] = _
      rw [List.flatMap_cons, List.flatMap_nil, List.append_nil]
    have hil : i * near.length ≤ 16 := Nat.le_trans (Nat.mul_le_mul (show i ≤ 4 by omega) hnl) (by decide)
    refine xb_mk xg_name (xs_drop (xv_ext (k := 0) (es := ((near.filter fun t => decide (t ≠ near.getD i 0)).map fun t => eLane (near.getD i 0, t))) (xv_var rfl) (Xv.lst (xf_filter (ml := []) (items := near) 0 (fun t => decide (t ≠ near.getD i 0)) (fun t => eLane (near.getD i 0, t)) (xi_encL (items := near) 0 eN (xv_var rfl)) (fun q hq => nomatch hq) (by omega)
      fun m gl l acc hm => ⟨_, _, xg_name, fun j hj => hj, ?_, fun _ => ?_⟩)) rfl rfl ?_) fun σ H e => ?_)
    · refine (xt_test (xv_op (xv_var rfl) (xv_var rfl) (ro_neD vd_d vd_d (shaped_flat rfl) (shaped_flat rfl)))).eq ?_
      rw [eqv_nat, decide_not]
    · exact Xv.tup (xf_tup [eN (near.getD i 0), eN (near.getD m 0)] (xa_cons (xv_var rfl) (xa_cons (xv_var rfl) xa_nil)) (by show 2 ≤ 100000; decide))
    · rw [List.length_map, List.length_map]
      have := List.length_filter_le (fun t => decide (t ≠ near.getD i 0)) near
      omega
    · show En (Ct.ghs ⟨B, M0, [(l, LF ((fo (i + 1)).map eLane))], [some (Cy CC nm), some (DI (x : Nat)), some (DL (eNs near)), some (Rf l), none, none], []⟩ gl) σ H
      rw [e1, List.map_append, List.map_map]
      exact e.weak (.keep (.keep (.keep (.keep (.drop (.keep .nil)))))) fun _ z => z
  · refine xs_retM (T := DL ((pairsN near).map eLane)) (k := 0) (xv_var rfl) rfl rfl rfl (fun H v p => ?_) hR
    have e : fo near.length = pairsN near := by
      show (near.take near.length).flatMap _ = _
      rw [List.take_length]
      rfl
    rw [e] at p
    exact Fz.lst p
abbrev s_is_end_for : Stmt := topS 41
abbrev N_is_end_for : List PySem.Str := ["near", "value"]
theorem sc_is_end_for : FnScope N_is_end_for ["near", "value"] (defScope s_is_end_for) := ⟨rfl, rfl, rfl, by decide +kernel, rfl, by decide +kernel, by decide +kernel⟩
def R_is_end_for : List PP → PP → Prop := fun Ps T => ∃ near d, (d = PyData.none ∨ ∃ v, v ∈ near ∧ d = eN v) ∧ Ps = [DL (eNs near), D d] ∧ T = DB true
theorem ok_is_end_for (F : Df K mg "is_end_for" s_is_end_for ["near", "value"]) (T : Txt K mg CC CW) (c_is_count : Cal P w K mg base "is_count" ["value"] 2 (spF R_is_count)) : Cal P w K mg base "is_end_for" ["near", "value"] 3 (spF R_is_end_for) := by
  refine F.ok sc_is_end_for (fun Ps T ⟨_, _, _, h, _⟩ => by rw [h]; rfl) fun f cdv A outer s H E hr => ⟨_,
    (pss_one (ps_ret (pe_or (pe_cmpR op_isN (pv 1) pe_non (nomark _)) (pe_one (pe_and (pe_cal c_is_count (hr.mono (by decide)) rfl (pa_cons (pv 1) pa_nil)) (pe_one (pe_cmpR (op_inD (hu65 hr)) (pv 1) (pv 0) (by rfl)))))))), ?_⟩
  rintro B M0 Ps T' D' ⟨near, d, hd, rfl, rfl⟩ hR _
  refine xs_ret (T := DB true) ((xv_or (b := !isNon d) (xv_op (xv_var rfl) xv_non ro_isN) fun hz => ?_).dat ?_) rfl rfl (fun H v p => p) hR
  · rcases hd with rfl | ⟨v, hv, rfl⟩
    · cases hz
    · refine (xv_and (a := true) (xv_call (xa_cons (xv_var rfl) xa_nil) ⟨_, rfl, rfl, rfl⟩) fun _ => xv_op (xv_var rfl) (xv_var rfl) (ro_inD vd_d vd_d (shaped_flat rfl) (eNs_shaped near))).dat ?_
      rw [any_nat, decide_eq_true hv]
      rfl
  · rcases hd with rfl | ⟨v, hv, rfl⟩ <;> rfl
abbrev s_is_bound_for : Stmt := topS 42
abbrev N_is_bound_for : List PySem.Str := ["near", "value"]
theorem sc_is_bound_for : FnScope N_is_bound_for ["near", "value"] (defScope s_is_bound_for) := ⟨rfl, rfl, rfl, by decide +kernel, rfl, by decide +kernel, by decide +kernel⟩
def R_is_bound_for : List PP → PP → Prop := fun Ps T => ∃ near b, b.1 ∈ near ∧ b.2 ≤ 6 ∧ Ps = [DL (eNs near), D (eBd b)] ∧ T = DB true
theorem ok_is_bound_for (F : Df K mg "is_bound_for" s_is_bound_for ["near", "value"]) (T : Txt K mg CC CW) (c_is_count : Cal P w K mg base "is_count" ["value"] 2 (spF R_is_count)) (c_is_end_for : Cal P w K mg base "is_end_for" ["near", "value"] 3 (spF R_is_end_for)) : Cal P w K mg base "is_bound_for" ["near", "value"] 4 (spF R_is_bound_for) := by
  refine F.ok sc_is_bound_for (fun Ps T ⟨_, _, _, _, h, _⟩ => by rw [h]; rfl) fun f cdv A outer s H E hr => ⟨_,
    (pss_cons (ps_if (PW.pt (pw_or (pt_not (pt_val (pe_callB call_isi (by rfl) T.isinstance boot_isinstance (pa_cons (pv 1) (pa_cons (pe_bltn (v := .ty "tuple") rfl T.tuple boot_tuple rfl) pa_nil))))) (pw_or (pt_cmpR (op_neD hr.units) (pe_callB call_len (by rfl) T.len PySem.boot_len (pa_cons (pv 1) pa_nil)) pe_int (nomark _)) (pw_or (pt_not (pt_val (pe_cal c_is_count (hr.mono (by decide)) rfl (pa_cons (pe_ix ix_seq (pv 1) pe_int (fun _ _ => rfl)) pa_nil)))) (pw_or1 (pt_cmpR op_gt (pe_ix ix_seq (pv 1) pe_int (fun _ _ => rfl)) (pe_const T.MOST_PLACES rfl) (nomark _))))))) (pss_one (ps_ret pe_bl)) pss_nil)
      (pss_one (ps_ret (pe_and (pe_cal c_is_end_for (hr.mono (by decide)) rfl (pa_cons (pv 0) (pa_cons (pe_ix ix_seq (pv 1) pe_int (fun _ _ => rfl)) pa_nil))) (pe_and (pe_cal c_is_end_for (hr.mono (by decide)) rfl (pa_cons (pv 0) (pa_cons (pe_ix ix_seq (pv 1) pe_int (fun _ _ => rfl)) pa_nil))) (pe_one (pe_cmpR (op_neD hr.units) (pe_ix ix_seq (pv 1) pe_int (fun _ _ => rfl)) (pe_ix ix_seq (pv 1) pe_int (fun _ _ => rfl)) (nomark _)))))))), ?_⟩
  rintro B M0 Ps T' D' ⟨near, ⟨t, m⟩, ht, hm, rfl, rfl⟩ hR _
  have v0 : ∀ {C : Ct}, Vt C (D (eBd (t, m))) [.none, eN t, eN m] := vt_d
  refine xs_seq (xs_no (XT.eq (xt_or (xt_not (xt_b (xv_cb (xa_cons (xv_var rfl) (xa_cons xv_ty xa_nil)) (rc_isi (kit_tuple rfl))))) fun _ =>
    xt_or (xt_test (xv_op (xv_cb (xa_cons (xv_var rfl) xa_nil) (rc_lenT v0)) xv_int (ro_neD vd_d vd_d (shaped_flat rfl) (shaped_flat rfl)))) fun _ =>
    xt_or (xt_not (xt_b (xv_call (xa_cons (xv_op (xv_var rfl) xv_int (ro_ixT v0 rfl)) xa_nil) ⟨_, rfl, rfl, rfl⟩))) fun _ =>
    xt_test (xv_op (xv_op (xv_var rfl) xv_int (ro_ixT v0 rfl)) xv_int ro_b0)) ?_) (xs_next (nx_x ?_)))
  · have : decide ((m : Int) > 6) = false := decide_eq_false (by omega)
    rw [this]
    rfl
  · exact xs_ret (T := DB true) (xv_and (a := true) (b := true) (xv_call (xa_cons (xv_var rfl) (xa_cons (xv_op (xv_var rfl) xv_int (ro_ixT v0 rfl)) xa_nil)) ⟨near, .none, .inl rfl, rfl, rfl⟩) fun _ =>
      xv_and (a := true) (b := true) (xv_call (xa_cons (xv_var rfl) (xa_cons (xv_op (xv_var rfl) xv_int (ro_ixT v0 rfl)) xa_nil)) ⟨near, eN t, .inr ⟨t, ht, rfl⟩, rfl, rfl⟩) fun _ =>
      (xv_op (xv_op (xv_var rfl) xv_int (ro_ixT v0 rfl)) (xv_op (xv_var rfl) xv_int (ro_ixT v0 rfl)) (ro_neD vd_d vd_d (shaped_flat rfl) (shaped_flat rfl))).dat (by simp [PyData.eqv])) rfl rfl (fun H v p => p) hR
theorem bds_shaped (bs : List (Nat × Nat)) : SeqAt.shaped (.list (bs.map eBd)) = true := tups_shaped (fun b : Nat × Nat => [.none, eN b.1, eN b.2]) (fun _ => rfl) bs
abbrev s_alternative_in : Stmt := topS 43
abbrev N_alternative_in : List PySem.Str := ["near", "value", "bounds", "one"]
theorem sc_alternative_in : FnScope N_alternative_in ["near", "value"] (defScope s_alternative_in) := ⟨rfl, rfl, rfl, by decide +kernel, rfl, by decide +kernel, by decide +kernel⟩
def R_alternative_in : List PP → PP → Prop := fun Ps T => ∃ near p bs, BookOk near p bs ∧ Ps = [DL (eNs near), D (eAlt p bs)] ∧ T = D (eAlt p bs)
theorem ok_alternative_in (F : Df K mg "alternative_in" s_alternative_in ["near", "value"]) (T : Txt K mg CC CW) (c_is_list : Cal P w K mg base "is_list" ["value"] 1 (spF R_is_list)) (c_is_count : Cal P w K mg base "is_count" ["value"] 2 (spF R_is_count)) (c_is_bound_for : Cal P w K mg base "is_bound_for" ["near", "value"] 4 (spF R_is_bound_for)) : Cal P w K mg base "alternative_in" ["near", "value"] 5 (spF R_alternative_in) := by
  refine F.ok sc_alternative_in (fun Ps T ⟨_, _, _, _, h, _⟩ => by rw [h]; rfl) fun f cdv A outer s H E hr => ⟨_,
    (pss_cons (ps_if (PW.pt (pw_or (pt_not (pt_val (pe_callB call_isi (by rfl) T.isinstance boot_isinstance (pa_cons (pv 1) (pa_cons (pe_bltn (v := .ty "tuple") rfl T.tuple boot_tuple rfl) pa_nil))))) (pw_or (pt_cmpR (op_neD hr.units) (pe_callB call_len (by rfl) T.len PySem.boot_len (pa_cons (pv 1) pa_nil)) pe_int (nomark _)) (pw_or (pt_not (pt_val (pe_cal c_is_count (hr.mono (by decide)) rfl (pa_cons (pe_ix ix_seq (pv 1) pe_int (fun _ _ => rfl)) pa_nil)))) (pw_or1 (pt_not (pt_chain op_le op_le pe_int (pe_ix ix_seq (pv 1) pe_int (fun _ _ => rfl)) (pe_const T.MOST_PLACES rfl)))))))) (pss_one (ps_ret pe_non)) pss_nil)
      (pss_cons (ps_set (i := 2) sc_alternative_in.nd rfl (.inl rfl) (pe_ix ix_seq (pv 1) pe_int (fun _ _ => rfl)))
      (pss_cons (ps_if (PW.pt (pw_or (pt_not (pt_val (pe_cal c_is_list (hr.mono (by decide)) rfl (pa_cons (pv 2) pa_nil)))) (pw_or (pt_cmpR op_gt (pe_callB call_len (by rfl) T.len PySem.boot_len (pa_cons (pv 2) pa_nil)) (pe_const T.MOST_BOUNDS rfl) (nomark _)) (pw_or1 (pt_not (pt_val (pe_callB (cr_all rfl) (by rfl) T.all boot_all (pa_cons (pe_lc (own := [("one", 3)]) (g := (gName 3)) (tt := tYes) (by rfl) sc_alternative_in.nd (pi_list (pv 2)) (blkOk_by (own := [("one", 3)]) (N := N_alternative_in) (sc := defScope s_alternative_in) (by decide +kernel)) (fun _ _ _ _ _ => (pg_name (i := 3) sc_alternative_in.nd rfl (by first | exact Or.inl rfl | exact Or.inr rfl))) (fun _ _ _ _ _ => pts_nil) (fun _ _ _ _ _ => (pe_cal c_is_bound_for (hr.mono (by decide)) rfl (pa_cons (pv 0) (pa_cons (pv 3) pa_nil))))) pa_nil)))))))) (pss_one (ps_ret pe_non)) pss_nil)
      (pss_one (ps_ret (pe_tup (pa_cons (pe_ix ix_seq (pv 1) pe_int (fun _ _ => rfl)) (pa_cons (pe_callTy call_list_of (by rfl) T.list boot_list (pa_cons (pv 2) pa_nil)) pa_nil)))))))), ?_⟩
  rintro B M0 Ps T' D' ⟨near, p, bs, hb, rfl, rfl⟩ hR _
  have v0 : ∀ {C : Ct}, Vt C (D (eAlt p bs)) [eN p, .list (bs.map eBd)] := vt_d
  have hp1 := hb.p1
  have hp6 := hb.p6
  have hbl := hb.len
  refine xs_seq (xs_no (XT.eq (xt_or (xt_not (xt_b (xv_cb (xa_cons (xv_var rfl) (xa_cons xv_ty xa_nil)) (rc_isi (kit_tuple rfl))))) fun _ =>
    xt_or (xt_test (xv_op (xv_cb (xa_cons (xv_var rfl) xa_nil) (rc_lenT v0)) xv_int (ro_neD vd_d vd_d (shaped_flat rfl) (shaped_flat rfl)))) fun _ =>
    xt_or (xt_not (xt_b (xv_call (xa_cons (xv_op (xv_var rfl) xv_int (ro_ixT v0 rfl)) xa_nil) ⟨_, rfl, rfl, rfl⟩))) fun _ =>
    xt_not (xt_test (xv_chain (C3 := ⟨B, M0, [], [], []⟩) xv_int (xv_op (xv_var rfl) xv_int (ro_ixT v0 rfl)) ro_b0 (fun _ => xv_int) fun _ => ro_b0))) ?_) (xs_next (nx_x ?_)))
  · have h1 : decide ((1 : Int) ≤ (p : Nat)) = true := decide_eq_true (by omega)
    have h2 : decide (((p : Nat) : Int) ≤ 6) = true := decide_eq_true (by omega)
    rw [h1, h2]
    rfl
  refine xs_seq (xs_set (xv_op (xv_var rfl) xv_int (ro_ixT v0 rfl)) (nx_x ?_))
  refine xs_seq (xs_no (XT.eq (xt_or (xt_not (xt_b (xv_call (xa_cons (xv_var rfl) xa_nil) ⟨_, rfl, rfl, rfl⟩))) fun _ =>
    xt_or (xt_test (xv_op (xv_cb (xa_cons (xv_var rfl) xa_nil) (rc_lenL vl_d)) xv_int ro_b0)) fun _ =>
    xt_not (xt_b (xv_cb (xa_cons (Xv.lst (xf_mapB (ml := []) (items := bs) (0, 0) (fun _ => true) (xi_encL (0, 0) eBd (xv_var rfl)) (fun q hq => nomatch hq) (by omega) fun i gl l acc hi => ⟨_, _, xg_name, fun j hj => hj, xv_call (xa_cons (xv_var rfl) (xa_cons (xv_var rfl) xa_nil)) ⟨near, bs.getD i (0, 0), ?_, ?_, rfl, rfl⟩⟩)) xa_nil) (rc_all vl_d)))) ?_) (xs_next (nx_x ?_)))
  · exact (hb.bd _ (List.mem_of_getElem? (getD_get (0, 0) hi))).1
  · exact (hb.bd _ (List.mem_of_getElem? (getD_get (0, 0) hi))).2.2
  · have h1 : decide (((bs.map eBd).length : Int) > 6) = false := decide_eq_false (by rw [List.length_map]; omega)
    have h2 : ((bs.map fun _ => true).all id) = true := by rw [all_id]; exact List.all_eq_true.mpr fun _ _ => rfl
    rw [h1, h2]
    rfl
  · exact xs_ret (T := D (eAlt p bs)) (Xv.tup (xf_tup [eN p, .list (bs.map eBd)] (xa_cons (xv_op (xv_var rfl) xv_int (ro_ixT v0 rfl)) (xa_cons (Xv.lst (xf_cb (xa_cons (xv_var rfl) xa_nil) (rcf_list vl_d))) xa_nil)) (by show 2 ≤ 100000; decide))) rfl rfl (fun H v p => p) hR
end
end K74

set_option Elab.async false
set_option linter.all false
set_option maxRecDepth 100000
set_option maxHeartbeats 4000000
namespace K74
open PySem PySem.Spec PyProof.Rows L2
section
variable {P : Program} {w : World} {K : PySem.W.Frag} {mg : PySem.Str → Option Value} {base : Heap} {CC CW : Addr}
abbrev eOne (o t : Nat) : PyData := .tuple [eN o, eN t, eN 1]
abbrev s_keeps : Stmt := topS 44
abbrev N_keeps : List PySem.Str := ["bound", "load", "origin", "target", "most", "many", "start", "end", "some"]
theorem sc_keeps : FnScope N_keeps ["bound", "load"] (defScope s_keeps) := ⟨rfl, rfl, rfl, by decide +kernel, rfl, by decide +kernel, by decide +kernel⟩
def R_keeps : List PP → PP → Prop := fun Ps T => ∃ b o t, 1 ≤ b.2 ∧ Ps = [D (eBd b), DL [eOne o t]] ∧ T = DB true
theorem ok_keeps (F : Df K mg "keeps" s_keeps ["bound", "load"]) (T : Txt K mg CC CW) : Cal P w K mg base "keeps" ["bound", "load"] 1 (spF R_keeps) := by
  refine F.ok sc_keeps (fun Ps T ⟨_, _, _, _, h, _⟩ => by rw [h]; rfl) fun f cdv A outer s H E hr => ⟨_,
    (pss_cons (ps_asg (pv 0) (pg_tup rfl (pgs_cons (pg_name (i := 2) sc_keeps.nd rfl (.inl rfl)) (pgs_cons (pg_name (i := 3) sc_keeps.nd rfl (.inl rfl)) (pgs_cons (pg_name (i := 4) sc_keeps.nd rfl (.inl rfl)) pgs_nil)))))
      (pss_cons (ps_set (i := 5) sc_keeps.nd rfl (.inl rfl) pe_int)
      (pss_cons (ps_for PassesOwn.never rfl (pi_list (pv 1)) (pg_tup rfl (pgs_cons (pg_name (i := 6) sc_keeps.nd rfl (.inl rfl)) (pgs_cons (pg_name (i := 7) sc_keeps.nd rfl (.inl rfl)) (pgs_cons (pg_name (i := 8) sc_keeps.nd rfl (.inl rfl)) pgs_nil))))
        (pss_one (ps_if (PW.pt (pw_and (pt_cmpR op_in_seq (pv 2) (pe_tup (pa_cons pe_non (pa_cons (pv 6) pa_nil))) (by rfl)) (pw_and1 (pt_cmpR op_in_seq (pv 3) (pe_tup (pa_cons pe_non (pa_cons (pv 7) pa_nil))) (by rfl))))) (pss_one (ps_set (i := 5) sc_keeps.nd rfl (.inl rfl) (pe_op op_add (pv 5) (pv 8)))) pss_nil)))
      (pss_one (ps_ret (pe_cmpR op_le (pv 5) (pv 4) (nomark _))))))), ?_⟩
  rintro B M0 Ps T' D' ⟨⟨t, m⟩, o, u, hm, rfl, rfl⟩ hR _
  refine xs_seq (xs_g (xv_var rfl) (xg_tup (ds := [.none, eN t, eN m]) (xgs_cons xg_name (xgs_cons xg_name (xgs_cons xg_name xgs_nil))) rfl) (nx_x ?_))
  refine xs_seq (xs_set xv_int (nx_x ?_))
  let q : Nat → Nat := fun i => if i = 0 then 0 else if t = u then 1 else 0
  refine xs_seq (xs_for (I := fun i => ⟨B, M0, [], [some (D (eBd (t, m))), some (DL [eOne o u]), some (D .none), some (DI (t : Nat)), some (DI (m : Nat)), some (DI (q i : Nat)), none, none, none], []⟩) (xi_list (items := [eOne o u]) (xv_var rfl)) (fun _ _ q hq => nomatch hq) (ghs_weak (wk_refl _)) (fun i gl hi => ?_) (nx_x ?_))
  · have hi0 : i = 0 := by have : i < 1 := hi; omega
    subst hi0
    refine xb_mk (xg_tup (ds := [eN o, eN u, eN 1]) (xgs_cons xg_name (xgs_cons xg_name (xgs_cons xg_name xgs_nil))) rfl) (xs_if (b := decide (t = u)) (XT.eq (xt_and (a := true) (xt_test ((xv_op (xv_var rfl) (Xv.tup (xf_tup [.none, eN o] (xa_cons xv_non (xa_cons (xv_var rfl) xa_nil)) (by show 2 ≤ 100000; decide))) (ro_inT vt_d rfl rfl)).dat ?_)) fun _ =>
      xt_test (b := decide (t = u)) ((xv_op (xv_var rfl) (Xv.tup (xf_tup [.none, eN u] (xa_cons xv_non (xa_cons (xv_var rfl) xa_nil)) (by show 2 ≤ 100000; decide))) (ro_inT vt_d rfl rfl)).dat ?_)) (Bool.true_and _)) (fun hb => ?_) fun hb => ?_)
    · simp [fv, inV, eqV]
    · simp only [fv, inV, eqV, List.map_cons, List.map_nil, List.any_cons, List.any_nil]
      by_cases z : t = u
      · subst z; simp
      · have z2 : ¬ (u : Int) = (t : Int) := fun y => z (by omega)
        simp [z, z2]
    · have e : t = u := by simpa using hb
      refine xs_set (xv_op (xv_var rfl) (xv_var rfl) ro_i0) fun σ H e2 => ?_
      show En (Ct.ghs ⟨B, M0, [], [some (D (eBd (t, m))), some (DL [eOne o u]), some (D .none), some (DI (t : Nat)), some (DI (m : Nat)), some (DI (q (0 + 1) : Nat)), none, none, none], []⟩ gl) σ H
      have e3 : q (0 + 1) = 1 := by show (if 0 + 1 = 0 then 0 else if t = u then 1 else 0) = 1; simp [e]
      rw [e3]
      exact e2.weak (.keep (.keep (.keep (.keep (.keep (.keep (.drop (.drop (.drop .nil))))))))) fun _ z => z
    · have e : ¬ t = u := by simpa using hb
      refine xs_next fun σ H e2 => ?_
      show En (Ct.ghs ⟨B, M0, [], [some (D (eBd (t, m))), some (DL [eOne o u]), some (D .none), some (DI (t : Nat)), some (DI (m : Nat)), some (DI (q (0 + 1) : Nat)), none, none, none], []⟩ gl) σ H
      have e3 : q (0 + 1) = 0 := by show (if 0 + 1 = 0 then 0 else if t = u then 1 else 0) = 0; simp [e]
      rw [e3]
      exact e2.weak (.keep (.keep (.keep (.keep (.keep (.keep (.drop (.drop (.drop .nil))))))))) fun _ z => z
  · refine xs_ret (T := DB true) ((xv_op (xv_var rfl) (xv_var rfl) ro_b0).dat ?_) rfl rfl (fun H v p => p) hR
    have : q 1 ≤ 1 := by show (if 1 = 0 then 0 else if t = u then 1 else 0) ≤ 1; split; exact Nat.zero_le _; split <;> omega
    have hm' : 1 ≤ m := hm
    show PyData.bool (decide ((q 1 : Int) ≤ m)) = _
    rw [decide_eq_true (by omega)]
abbrev s_stands_by_one : Stmt := topS 45
abbrev N_stands_by_one : List PySem.Str := ["alternative", "load", "places", "bounds", "bound", "start", "end", "some"]
theorem sc_stands_by_one : FnScope N_stands_by_one ["alternative", "load"] (defScope s_stands_by_one) := ⟨rfl, rfl, rfl, by decide +kernel, rfl, by decide +kernel, by decide +kernel⟩
def R_stands_by_one : List PP → PP → Prop := fun Ps T => ∃ p bs o t, 1 ≤ p ∧ bs.length ≤ 6 ∧ (∀ b ∈ bs, 1 ≤ b.2) ∧ Ps = [D (eAlt p bs), DL [eOne o t]] ∧ T = DB true
theorem ok_stands_by_one (F : Df K mg "stands_by_one" s_stands_by_one ["alternative", "load"]) (T : Txt K mg CC CW) (c_keeps : Cal P w K mg base "keeps" ["bound", "load"] 1 (spF R_keeps)) : Cal P w K mg base "stands_by_one" ["alternative", "load"] 2 (spF R_stands_by_one) := by
  refine F.ok sc_stands_by_one (fun Ps T ⟨_, _, _, _, _, _, _, h, _⟩ => by rw [h]; rfl) fun f cdv A outer s H E hr => ⟨_,
    (pss_cons (ps_asg (pv 0) (pg_tup rfl (pgs_cons (pg_name (i := 2) sc_stands_by_one.nd rfl (.inl rfl)) (pgs_cons (pg_name (i := 3) sc_stands_by_one.nd rfl (.inl rfl)) pgs_nil))))
      (pss_cons (ps_if (pt_cmpR op_gt (pe_callB (cr_sum rfl) (by rfl) T.sum boot_sum (pa_cons (pe_lc (own := [("start", 5), ("end", 6), ("some", 7)]) (g := (gTup K 3 (gCons (gName 5) (gCons (gName 6) (gCons (gName 7) gNil))))) (tt := tYes) (by rfl) sc_stands_by_one.nd (pi_list (pv 1)) (blkOk_by (own := [("start", 5), ("end", 6), ("some", 7)]) (N := N_stands_by_one) (sc := defScope s_stands_by_one) (by decide +kernel)) (fun _ _ _ _ _ => (pg_tup rfl (pgs_cons (pg_name (i := 5) sc_stands_by_one.nd rfl (by first | exact Or.inl rfl | exact Or.inr rfl)) (pgs_cons (pg_name (i := 6) sc_stands_by_one.nd rfl (by first | exact Or.inl rfl | exact Or.inr rfl)) (pgs_cons (pg_name (i := 7) sc_stands_by_one.nd rfl (by first | exact Or.inl rfl | exact Or.inr rfl)) pgs_nil))))) (fun _ _ _ _ _ => pts_nil) (fun _ _ _ _ _ => (pv 7))) pa_nil)) (pv 2) (nomark _)) (pss_one (ps_ret pe_bl)) pss_nil)
      (pss_one (ps_ret (pe_callB (cr_all rfl) (by rfl) T.all boot_all (pa_cons (pe_lc (own := [("bound", 4)]) (g := (gName 4)) (tt := tYes) (by rfl) sc_stands_by_one.nd (pi_list (pv 3)) (blkOk_by (own := [("bound", 4)]) (N := N_stands_by_one) (sc := defScope s_stands_by_one) (by decide +kernel)) (fun _ _ _ _ _ => (pg_name (i := 4) sc_stands_by_one.nd rfl (by first | exact Or.inl rfl | exact Or.inr rfl))) (fun _ _ _ _ _ => pts_nil) (fun _ _ _ _ _ => (pe_cal c_keeps (hr.mono (by decide)) rfl (pa_cons (pv 4) (pa_cons (pv 1) pa_nil))))) pa_nil)))))), ?_⟩
  rintro B M0 Ps T' D' ⟨p, bs, o, t, hp, hl, hb, rfl, rfl⟩ hR _
  refine xs_seq (xs_g (xv_var rfl) (xg_tup (ds := [eN p, .list (bs.map eBd)]) (xgs_cons xg_name (xgs_cons xg_name xgs_nil)) rfl) (nx_x ?_))
  refine xs_seq (xs_no ((xt_test (xv_op (xv_cb (xa_cons (Xv.lst (xf_map (ml := []) (items := [(o, t)]) (0, 0) (fun _ => PyData.int 1) (xi_encL (items := [(o, t)]) (0, 0) (fun q => eOne q.1 q.2) (xv_var rfl)) (fun q hq => nomatch hq) (by show 1 ≤ 100000; decide) fun i gl l acc hi => ⟨_, _, xg_tup (ds := [eN ([(o, t)].getD i (0, 0)).1, eN ([(o, t)].getD i (0, 0)).2, eN 1]) (xgs_cons xg_name (xgs_cons xg_name (xgs_cons xg_name xgs_nil))) rfl, fun j hj => hj, xv_var rfl⟩)) xa_nil) (rc_sum (ns := [1]) vl_d)) (xv_var rfl) ro_b0)).eq ?_) (xs_next (nx_x ?_)))
  · have : ¬ (([(1 : Int)].sum) > (p : Nat)) := by
      show ¬ ((1 : Int) + 0 > (p : Nat))
      omega
    exact decide_eq_false this
  · refine xs_ret (T := DB true) (P := DB true) ((xv_cb (xa_cons (Xv.lst (xf_mapB (ml := []) (items := bs) (0, 0) (fun _ => true) (xi_encL (0, 0) eBd (xv_var rfl)) (fun q hq => nomatch hq) (by omega) fun i gl l acc hi => ⟨_, _, xg_name, fun j hj => hj, xv_call (xa_cons (xv_var rfl) (xa_cons (xv_var rfl) xa_nil)) ⟨bs.getD i (0, 0), o, t, ?_, rfl, rfl⟩⟩)) xa_nil) (rc_all vl_d)).dat ?_) rfl rfl (fun H v p => p) hR
    · rw [all_id, List.all_eq_true.mpr fun _ _ => rfl]
    · exact hb _ (List.mem_of_getElem? (getD_get (0, 0) hi))
abbrev s_stands_by : Stmt := topS 46
abbrev N_stands_by : List PySem.Str := ["book", "load", "alternative"]
theorem sc_stands_by : FnScope N_stands_by ["book", "load"] (defScope s_stands_by) := ⟨rfl, rfl, rfl, by decide +kernel, rfl, by decide +kernel, by decide +kernel⟩
def R_stands_by : List PP → PP → Prop := fun Ps T => ∃ p bs o t, 1 ≤ p ∧ bs.length ≤ 6 ∧ (∀ b ∈ bs, 1 ≤ b.2) ∧ Ps = [DL [eAlt p bs], DL [eOne o t]] ∧ T = DB true
theorem ok_stands_by (F : Df K mg "stands_by" s_stands_by ["book", "load"]) (T : Txt K mg CC CW) (c_stands_by_one : Cal P w K mg base "stands_by_one" ["alternative", "load"] 2 (spF R_stands_by_one)) : Cal P w K mg base "stands_by" ["book", "load"] 3 (spF R_stands_by) := by
  refine F.ok sc_stands_by (fun Ps T ⟨_, _, _, _, _, _, _, h, _⟩ => by rw [h]; rfl) fun f cdv A outer s H E hr => ⟨_,
    (pss_cons (ps_for PassesOwn.never rfl (pi_list (pv 0)) (pg_name (i := 2) sc_stands_by.nd rfl (.inl rfl))
        (pss_one (ps_if (pt_val (pe_cal c_stands_by_one (hr.mono (by decide)) rfl (pa_cons (pv 2) (pa_cons (pv 1) pa_nil)))) (pss_one (ps_ret pe_bl)) pss_nil)))
      (pss_one (ps_ret pe_bl))), ?_⟩
  rintro B M0 Ps T' D' ⟨p, bs, o, t, hp, hl, hb, rfl, rfl⟩ hR _
  -- the first turn returns
  refine xs_seq (xs_for (I := fun i => if i = 0 then ⟨B, M0, [], [some (DL [eAlt p bs]), some (DL [eOne o t]), none], []⟩ else ⟨B, M0, [], [some (DL [eAlt p bs]), some (DL [eOne o t]), none], [(V.non, D (.int 0))]⟩) (xi_list (items := [eAlt p bs]) (xv_var rfl)) (fun i _ q hq => nomatch hq) (ghs_weak (wk_refl _)) (fun i gl hi => ?_) (nx_x ?_))
  · have hi0 : i = 0 := by have : i < 1 := hi; omega
    subst hi0
    exact xb_mk xg_name (xs_yes (xt_b (xv_call (xa_cons (xv_var rfl) (xa_cons (xv_var rfl) xa_nil)) ⟨p, bs, o, t, hp, hl, hb, rfl, rfl⟩)) (xs_ret (T := DB true) xv_bl rfl rfl (fun H v p => p) hR))
  · -- not come to
    intro σ H e
    have := e.gh (V.non, D (.int 0)) List.mem_cons_self
    cases this
abbrev s_book_in : Stmt := topS 47
abbrev N_book_in : List PySem.Str := ["country", "yard", "value", "near", "found", "single", "one", "origin", "target"]
theorem sc_book_in : FnScope N_book_in ["country", "yard", "value"] (defScope s_book_in) := ⟨rfl, rfl, rfl, by decide +kernel, rfl, by decide +kernel, by decide +kernel⟩
def R_book_in (CC : Addr) : List PP → PP → Prop := fun Ps T => ∃ nm x p bs, LineOk nm ∧ x < nm.length ∧ BookOk (nbs nm x) p bs ∧ Ps = [Cy CC nm, DI (x : Nat), DL [eAlt p bs]] ∧ T = DL [eAlt p bs]
theorem alt_shaped (p : Nat) (bs : List (Nat × Nat)) : SeqAt.shaped (.list [eAlt p bs]) = true := by
  have h := bds_shaped bs
  have h' : (PyData.canLay0 (.list (bs.map eBd)) && decide (PyData.depth (.list (bs.map eBd)) ≤ 64)) = true := h
  rw [Bool.and_eq_true, decide_eq_true_eq] at h'
  obtain ⟨a, b⟩ := tup_all (ds := bs.map eBd) (by rw [List.all_map]; exact List.all_eq_true.mpr fun _ _ => rfl)
  refine shaped_list ?_ ?_
  · simp only [PyData.canLayAll0, PyData.canLay0, a, Bool.and_self]
  · simp only [PyData.depthAll, PyData.depth]
    omega
theorem ok_book_in (F : Df K mg "book_in" s_book_in ["country", "yard", "value"]) (T : Txt K mg CC CW) (c_is_list : Cal P w K mg base "is_list" ["value"] 1 (spF R_is_list)) (c_beside : Cal P w K mg base "beside" ["country", "place"] 1 (spF (R_beside CC))) (c_alternative_in : Cal P w K mg base "alternative_in" ["near", "value"] 5 (spF R_alternative_in)) (c_pairs_at : Cal P w K mg base "pairs_at" ["country", "yard"] 2 (spF (R_pairs_at CC))) (c_stands_by : Cal P w K mg base "stands_by" ["book", "load"] 3 (spF R_stands_by)) : Cal P w K mg base "book_in" ["country", "yard", "value"] 6 (spF (R_book_in CC)) := by
  refine F.ok sc_book_in (fun Ps T ⟨_, _, _, _, _, _, _, h, _⟩ => by rw [h]; rfl) fun f cdv A outer s H E hr => ⟨_,
    (pss_cons (ps_if (PW.pt (pw_or (pt_not (pt_val (pe_cal c_is_list (hr.mono (by decide)) rfl (pa_cons (pv 2) pa_nil)))) (pw_or1 (pt_not (pt_chain op_le op_le pe_int (pe_callB call_len (by rfl) T.len PySem.boot_len (pa_cons (pv 2) pa_nil)) (pe_const T.MOST_ALTERNATIVES rfl)))))) (pss_one (ps_ret pe_non)) pss_nil)
      (pss_cons (ps_set (i := 3) sc_book_in.nd rfl (.inr rfl) (pe_cal c_beside (hr.mono (by decide)) rfl (pa_cons (pv 0) (pa_cons (pv 1) pa_nil))))
      (pss_cons (ps_set (i := 4) sc_book_in.nd rfl (.inr rfl) (pe_lc (own := [("one", 6)]) (g := (gName 6)) (tt := tYes) (by rfl) sc_book_in.nd (pi_list (pv 2)) (blkOk_by (own := [("one", 6)]) (N := N_book_in) (sc := defScope s_book_in) (by decide +kernel)) (fun _ _ _ _ _ => (pg_name (i := 6) sc_book_in.nd rfl (by first | exact Or.inl rfl | exact Or.inr rfl))) (fun _ _ _ _ _ => pts_nil) (fun _ _ _ _ _ => (pe_cal c_alternative_in (hr.mono (by decide)) rfl (pa_cons (pv 3) (pa_cons (pv 6) pa_nil))))))
      (pss_cons (ps_if (pt_cmpR (op_inD (hu65 hr)) pe_non (pv 4) (by rfl)) (pss_one (ps_ret pe_non)) pss_nil)
      (pss_cons (ps_setLc (i := 5) (own := [("origin", 7), ("target", 8)]) (g := (gTup K 2 (gCons (gName 7) (gCons (gName 8) gNil)))) (tt := tYes) (by rfl) sc_book_in.nd rfl rfl (sw_true rfl rfl rfl (by decide +kernel)) (pi_list (pe_cal c_pairs_at (hr.mono (by decide)) rfl (pa_cons (pv 0) (pa_cons (pv 1) pa_nil)))) (blkOk_by (own := [("origin", 7), ("target", 8)]) (N := N_book_in) (sc := defScope s_book_in) (by decide +kernel)) (fun _ _ _ _ _ => (pg_tup rfl (pgs_cons (pg_name (i := 7) sc_book_in.nd rfl (by first | exact Or.inl rfl | exact Or.inr rfl)) (pgs_cons (pg_name (i := 8) sc_book_in.nd rfl (by first | exact Or.inl rfl | exact Or.inr rfl)) pgs_nil)))) (fun _ _ _ _ _ => pts_nil) (fun _ _ _ _ _ => (pe_cal c_stands_by (hr.mono (by decide)) rfl (pa_cons (pv 4) (pa_cons (pe_lst (pa_cons (pe_tup (pa_cons (pv 7) (pa_cons (pv 8) (pa_cons pe_int pa_nil)))) pa_nil)) pa_nil)))))
      (pss_one (ps_ret (pe_ifExp (pt_val (pe_callB (cr_all rfl) (by rfl) T.all boot_all (pa_cons (pv 5) pa_nil))) (pv 4) pe_non)))))))), ?_⟩
  rintro B M0 Ps T' D' ⟨nm, x, p, bs, L, hx, hb, rfl, rfl⟩ hR _
  refine xs_seq (xs_no (XT.eq (xt_or (xt_not (xt_b (xv_call (xa_cons (xv_var rfl) xa_nil) ⟨_, rfl, rfl, rfl⟩))) fun _ =>
    xt_not (xt_test (xv_chain (C3 := ⟨B, M0, [], [], []⟩) xv_int (xv_cb (xa_cons (xv_var rfl) xa_nil) (rc_lenL vl_d)) ro_b0 (fun _ => xv_int) fun _ => ro_b0))) rfl) (xs_next (nx_x ?_)))
  refine xs_seq (xs_set (xv_call (xa_cons (xv_var rfl) (xa_cons (xv_var rfl) xa_nil)) ⟨nm, x, L, hx, rfl, rfl⟩) (nx_x ?_))
  refine xs_seq (xs_set (P := DL [eAlt p bs]) (Xv.lst (xf_map (ml := []) (items := [eAlt p bs]) PyData.none (fun d => d) (xi_list (items := [eAlt p bs]) (xv_var rfl)) (fun q hq => nomatch hq) (by show 1 ≤ 100000; decide) fun i gl l acc hi => ⟨_, _, xg_name, fun j hj => hj, xv_call (xa_cons (xv_var rfl) (xa_cons (xv_var rfl) xa_nil)) ⟨nbs nm x, p, bs, hb, ?_, ?_⟩⟩)) (nx_x ?_))
  · have hi0 : i = 0 := by have : i < 1 := hi; omega
    subst hi0
    rfl
  · have hi0 : i = 0 := by have : i < 1 := hi; omega
    subst hi0
    rfl
  refine xs_seq (xs_no ((xt_test (xv_op xv_non (xv_var rfl) (ro_inD vd_d vd_d (shaped_flat rfl) (alt_shaped p bs)))).eq (by simp [PyData.eqv])) (xs_next (nx_x ?_)))
  have hpl : (pairsN (nbs nm x)).length ≤ 16 := by
    have h1 := pairs_len (nbs nm x) (nbs nm x).length
    rw [List.take_length] at h1
    have h2 := L.row4 _ (List.mem_of_getElem? (L.tget hx))
    exact Nat.le_trans h1 (Nat.le_trans (Nat.mul_le_mul h2 h2) (by decide))
  refine xs_seq (xs_set (Xv.lst (xf_mapB (ml := []) (items := pairsN (nbs nm x)) (0, 0) (fun _ => true) (xi_encL (items := pairsN (nbs nm x)) (0, 0) eLane (xv_call (xa_cons (xv_var rfl) (xa_cons (xv_var rfl) xa_nil)) ⟨nm, x, L, hx, rfl, rfl⟩)) (fun q hq => nomatch hq) (by omega) fun i gl l acc hi =>
    ⟨_, _, xg_tup (ds := [eN ((pairsN (nbs nm x)).getD i (0, 0)).1, eN ((pairsN (nbs nm x)).getD i (0, 0)).2]) (xgs_cons xg_name (xgs_cons xg_name xgs_nil)) rfl, fun j hj => hj,
      xv_call (xa_cons (xv_var rfl) (xa_cons (Xv.lst (xf_lst [eOne ((pairsN (nbs nm x)).getD i (0, 0)).1 ((pairsN (nbs nm x)).getD i (0, 0)).2] (xa_cons (Xv.tup (xf_tup [eN ((pairsN (nbs nm x)).getD i (0, 0)).1, eN ((pairsN (nbs nm x)).getD i (0, 0)).2, eN 1] (xa_cons (xv_var rfl) (xa_cons (xv_var rfl) (xa_cons xv_int xa_nil))) (by show 3 ≤ 100000; decide))) xa_nil) (by show 1 ≤ 100000; decide))) xa_nil)) ⟨p, bs, _, _, hb.p1, hb.len, fun b h => (hb.bd b h).2.1, rfl, rfl⟩⟩)) (nx_x ?_))
  refine xs_ret (T := DL [eAlt p bs]) (xv_if (b := true) ((xt_b (xv_cb (xa_cons (xv_var rfl) xa_nil) (rc_all vl_d))).eq ?_) (fun _ => xv_var rfl) fun z => by cases z) rfl rfl (fun H v p => p) hR
  rw [all_id, List.all_eq_true.mpr fun _ _ => rfl]
abbrev s_want_book : Stmt := topS 48
abbrev N_want_book : List PySem.Str := ["country", "yard", "value", "found"]
theorem sc_want_book : FnScope N_want_book ["country", "yard", "value"] (defScope s_want_book) := ⟨rfl, rfl, rfl, by decide +kernel, rfl, by decide +kernel, by decide +kernel⟩
theorem ok_want_book (F : Df K mg "want_book" s_want_book ["country", "yard", "value"]) (T : Txt K mg CC CW) (c_book_in : Cal P w K mg base "book_in" ["country", "yard", "value"] 6 (spF (R_book_in CC))) : Cal P w K mg base "want_book" ["country", "yard", "value"] 7 (spF (R_book_in CC)) := by
  refine F.ok sc_want_book (fun Ps T ⟨_, _, _, _, _, _, _, h, _⟩ => by rw [h]; rfl) fun f cdv A outer s H E hr => ⟨_,
    (pss_cons (ps_set (i := 3) sc_want_book.nd rfl (.inl rfl) (pe_cal c_book_in (hr.mono (by decide)) rfl (pa_cons (pv 0) (pa_cons (pv 1) (pa_cons (pv 2) pa_nil)))))
      (pss_cons (ps_if (pt_cmpR op_isN (pv 3) pe_non (nomark _)) pss_never pss_nil)
      (pss_one (ps_ret (pv 3))))), ?_⟩
  rintro B M0 Ps T' D' ⟨nm, x, p, bs, L, hx, hb, rfl, rfl⟩ hR _
  refine xs_seq (xs_set (xv_call (xa_cons (xv_var rfl) (xa_cons (xv_var rfl) (xa_cons (xv_var rfl) xa_nil))) ⟨nm, x, p, bs, L, hx, hb, rfl, rfl⟩) (nx_x ?_))
  exact xs_seq (xs_no (xt_test (xv_op (xv_var rfl) xv_non ro_isN)) (xs_next (nx_x (xs_ret (T := DL [eAlt p bs]) (xv_var rfl) rfl rfl (fun H v p => p) hR))))
end
end K74

set_option Elab.async false
set_option linter.all false
set_option maxRecDepth 100000
set_option maxHeartbeats 4000000
namespace K74
open PySem PySem.Spec PyProof.Rows L2
/-! ### rows: places, eastward, westward; the web of a line -/
abbrev R3 := Nat × Nat × Nat
abbrev rowAt (rows : List R3) (k : Nat) : R3 := rows.getD (k - 1) (0, 0, 0)
structure RowsOk (rows : List R3) : Prop where
  len : 1 ≤ rows.length ∧ rows.length ≤ 4
  bd : ∀ r ∈ rows, (1 ≤ r.1 ∧ r.1 ≤ 4) ∧ (1 ≤ r.2.1 ∧ r.2.1 ≤ r.1) ∧ 1 ≤ r.2.2 ∧ r.2.2 ≤ r.1
  first : (rowAt rows 1).2.2 = (rowAt rows 1).1
  last : (rowAt rows rows.length).2.1 = (rowAt rows rows.length).1
/-- a line with its rows -/
structure LR (nm : List Nat) (rows : List R3) : Prop where
  L : LineOk nm
  R : RowsOk rows
  n : nm.length = rows.length + 2
def bks (nm : List Nat) (rows : List R3) (k : Nat) : List (Nat × Nat) := (if k < rows.length then [(at0 nm (k + 1), (rowAt rows k).2.1)] else []) ++ if 1 < k then [(at0 nm (k - 1), (rowAt rows k).2.2)] else []
def bookK (nm : List Nat) (rows : List R3) (k : Nat) : PyData := .list [eAlt (rowAt rows k).1 (bks nm rows k)]
def bookD (nm : List Nat) (rows : List R3) (x : Nat) : PyData := bookK nm rows (nm.idxOf x)
def We (CC CW : Addr) (nm : List Nat) (rows : List R3) : PP := Ob CW [("own_country", Cy CC nm), ("own_books", DL ((yardsOf nm).map (bookD nm rows)))]
theorem nd_inj {α : Type} {l : List α} (h : l.Nodup) {i j : Nat} {a : α} (h1 : l[i]? = some a) (h2 : l[j]? = some a) : i = j := by
  obtain ⟨b1, e1⟩ := List.getElem?_eq_some_iff.mp h1
  obtain ⟨b2, e2⟩ := List.getElem?_eq_some_iff.mp h2
  have q := List.pairwise_iff_getElem.mp h
  rcases Nat.lt_trichotomy i j with z | z | z
  · exact absurd (e1.trans e2.symm) (q i j b1 b2 z)
  · exact z
  · exact absurd (e2.trans e1.symm) (q j i b2 b1 z)
theorem yards_nd (nm : List Nat) : (yardsOf nm).Nodup := List.nodup_range.filter _
theorem LineOk.idx {nm : List Nat} (L : LineOk nm) {i : Nat} (hi : i < nm.length) : nm.idxOf (at0 nm i) = i := by
  have hm : at0 nm i ∈ nm := List.mem_of_getElem? (getD_get 0 hi)
  have h1 : nm.idxOf (at0 nm i) < nm.length := List.idxOf_lt_length_of_mem hm
  refine L.inj h1 hi ?_
  show nm.getD (nm.idxOf (at0 nm i)) 0 = _
  rw [List.getD_eq_getElem?_getD, List.getElem?_eq_getElem h1]
  exact List.getElem_idxOf h1
section
variable {nm : List Nat} {rows : List R3} (h : LR nm rows)
include h
theorem LR.row {k : Nat} (h1 : 1 ≤ k) (h2 : k ≤ rows.length) : (1 ≤ (rowAt rows k).1 ∧ (rowAt rows k).1 ≤ 4) ∧ (1 ≤ (rowAt rows k).2.1 ∧ (rowAt rows k).2.1 ≤ (rowAt rows k).1) ∧ 1 ≤ (rowAt rows k).2.2 ∧ (rowAt rows k).2.2 ≤ (rowAt rows k).1 :=
  h.R.bd _ (List.mem_of_getElem? (getD_get (0, 0, 0) (by omega)))
theorem LR.bksOk {k : Nat} (h1 : 1 ≤ k) (h2 : k ≤ rows.length) : BookOk (nbs nm (at0 nm k)) (rowAt rows k).1 (bks nm rows k) := by
  have hn := h.n
  obtain ⟨⟨a1, a2⟩, ⟨a3, a4⟩, a5, a6⟩ := h.row h1 h2
  refine ⟨a1, by omega, ?_, fun b hb => ?_⟩
  · unfold bks
    split <;> split <;> simp
  · have hm := h.L.mid k (by omega) (by omega)
    have mem : ∀ x, x ∈ nbs nm (at0 nm k) ↔ x = at0 nm (k - 1) ∨ x = at0 nm (k + 1) := fun x => by
      rw [hm, (Mir.isort_perm _).mem_iff]
      simp
    unfold bks at hb
    rcases List.mem_append.mp hb with hb | hb
    · split at hb
      · rw [List.mem_singleton.mp hb]
        exact ⟨(mem _).mpr (.inr rfl), a3, by show (rowAt rows k).2.1 ≤ 6; omega⟩
      · cases hb
    · split at hb
      · rw [List.mem_singleton.mp hb]
        exact ⟨(mem _).mpr (.inl rfl), a5, by show (rowAt rows k).2.2 ≤ 6; omega⟩
      · cases hb
theorem LR.yard {x : Nat} (hx : x ∈ yardsOf nm) : ∃ k, 1 ≤ k ∧ k ≤ rows.length ∧ at0 nm k = x := by
  obtain ⟨i, h1, h2, e⟩ := h.L.yards_mem.mp hx
  have := h.n
  exact ⟨i, by omega, by omega, e⟩
theorem LR.mem {k : Nat} (h1 : 1 ≤ k) (h2 : k ≤ rows.length) : at0 nm k ∈ yardsOf nm := h.L.yards_mem.mpr ⟨k, by omega, by have := h.n; omega, rfl⟩
theorem LR.book {k : Nat} (h1 : 1 ≤ k) (h2 : k ≤ rows.length) : bookD nm rows (at0 nm k) = bookK nm rows k := by
  unfold bookD
  rw [h.L.idx (by have := h.n; omega)]
theorem LR.ylen : (yardsOf nm).length = rows.length := by
  rw [h.L.yards, (Mir.isort_perm _).length_eq, List.length_dropLast, List.length_drop]
  have := h.n
  omega
end
section
variable {P : Program} {w : World} {K : PySem.W.Frag} {mg : PySem.Str → Option Value} {base : Heap} {CC CW : Addr}
abbrev s_Web_init : Stmt := inClass (topS 51) 0
abbrev N_Web_init : List PySem.Str := ["self", "country", "books", "here", "yards", "yard", "book"]
theorem sc_Web_init : FnScope N_Web_init ["self", "country", "books"] (defScope s_Web_init) := ⟨rfl, rfl, rfl, by decide +kernel, rfl, by decide +kernel, by decide +kernel⟩
def R_Web (CC CW : Addr) : List PP → PP → Prop := fun Ps T => ∃ nm rows, LR nm rows ∧ Ps = [Cy CC nm, DL ((yardsOf nm).map (bookD nm rows))] ∧ T = We CC CW nm rows
theorem ok_Web (F : DfN K mg "Web" "Web.__init__" CW s_Web_init ["self", "country", "books"]) (T : Txt K mg CC CW) (c_want_country : Cal P w K mg base "want_country" ["value"] 1 (spF (R_want_country CC))) (c_yards_in : Cal P w K mg base "yards_in" ["country"] 1 (spF (R_yards_in CC))) (c_is_list : Cal P w K mg base "is_list" ["value"] 1 (spF R_is_list)) (c_want_book : Cal P w K mg base "want_book" ["country", "yard", "value"] 7 (spF (R_book_in CC))) :
    CalN P w K mg base "Web" CW ["self", "country", "books"] 8 (R_Web CC CW) := by
  refine F.ok sc_Web_init (fun Ps T ⟨nm, _, _, h, _⟩ => by rw [h]; rfl) fun f cdv A outer s H E hr => ⟨_,
    (pss_cons (ps_set (i := 3) sc_Web_init.nd rfl (.inr rfl) (pe_cal c_want_country (hr.mono (by decide)) rfl (pa_cons (pv 1) pa_nil)))
      (pss_cons (ps_set (i := 4) sc_Web_init.nd rfl (.inl rfl) (pe_cal c_yards_in (hr.mono (by decide)) rfl (pa_cons (pv 3) pa_nil)))
      (pss_cons (ps_if (PW.pt (pw_or (pt_not (pt_val (pe_cal c_is_list (hr.mono (by decide)) rfl (pa_cons (pv 2) pa_nil)))) (pw_or1 (pt_cmpR (op_neD hr.units) (pe_callB call_len (by rfl) T.len PySem.boot_len (pa_cons (pv 2) pa_nil)) (pe_callB call_len (by rfl) T.len PySem.boot_len (pa_cons (pv 4) pa_nil)) (nomark _))))) pss_never pss_nil)
      (pss_cons (ps_fld (pv 0) (pv 3) rfl)
      (pss_one (ps_fld (pv 0) (pe_lc (own := [("yard", 5), ("book", 6)]) (g := (gTup K 2 (gCons (gName 5) (gCons (gName 6) gNil)))) (tt := tYes) (by rfl) sc_Web_init.nd (pi_zip rfl T.zip (pa_cons (pv 4) (pa_cons (pv 2) pa_nil))) (blkOk_by (own := [("yard", 5), ("book", 6)]) (N := N_Web_init) (sc := defScope s_Web_init) (by decide +kernel)) (fun _ _ _ _ _ => (pg_tup rfl (pgs_cons (pg_name (i := 5) sc_Web_init.nd rfl (by first | exact Or.inl rfl | exact Or.inr rfl)) (pgs_cons (pg_name (i := 6) sc_Web_init.nd rfl (by first | exact Or.inl rfl | exact Or.inr rfl)) pgs_nil)))) (fun _ _ _ _ _ => pts_nil) (fun _ _ _ _ _ => (pe_cal c_want_book (hr.mono (by decide)) rfl (pa_cons (pv 3) (pa_cons (pv 5) (pa_cons (pv 6) pa_nil)))))) rfl)))))), ?_⟩
  rintro B M0 Ps T' sx dx D' ⟨nm, rows, h, rfl, rfl⟩ hR
  have hl := h.L.len
  have hyl := h.ylen
  have hrl := h.R.len
  refine xs_seq (xs_set (xv_call (xa_cons (xv_var rfl) xa_nil) ⟨nm, rfl, rfl⟩) (nx_x ?_))
  refine xs_seq (xs_set (xv_call (xa_cons (xv_var rfl) xa_nil) ⟨nm, h.L, rfl, rfl⟩) (nx_x ?_))
  refine xs_seq (xs_no (XT.eq (xt_or (xt_not (xt_b (xv_call (xa_cons (xv_var rfl) xa_nil) ⟨_, rfl, rfl, rfl⟩))) fun _ =>
    xt_test (xv_op (xv_cb (xa_cons (xv_var rfl) xa_nil) (rc_lenL vl_d)) (xv_cb (xa_cons (xv_var rfl) xa_nil) (rc_lenL vl_d)) (ro_neD vd_d vd_d (shaped_flat rfl) (shaped_flat rfl)))) ?_) (xs_next (nx_x ?_)))
  · rw [List.length_map, eNs_len, eqv_nat, decide_eq_true rfl]
    rfl
  refine xs_seq (xs_fld (k := 0) (xv_var rfl) (xp_var rfl) rfl (by simp) (by simp) T.cW T.nc (nx_x ?_))
  refine xs_fld (P := DL ((yardsOf nm).map (bookD nm rows))) (k := 0) (Xv.lst (xf_map (ml := []) (items := yardsOf nm) 0 (bookD nm rows) (xi_encZ (xs := yardsOf nm) (ys := yardsOf nm) 0 0 eN (bookD nm rows) (xa_cons (xv_var rfl) (xa_cons (xv_var rfl) xa_nil)) rfl) (fun q hq => nomatch hq) (by omega)
    fun i gl l acc hi => ⟨_, _, xg_tup (ds := [eN ((yardsOf nm).getD i 0), bookD nm rows ((yardsOf nm).getD i 0)]) (xgs_cons xg_name (xgs_cons xg_name xgs_nil)) rfl, fun j hj => hj, ?_⟩)) (xp_var rfl) rfl (by show ("own_books" : PySem.Str) ∉ [("own_country" : PySem.Str)]; decide) (by simp) T.cW T.nb ?_
  · obtain ⟨k, h1, h2, e⟩ := h.yard (List.mem_of_getElem? (getD_get 0 hi))
    rw [← e, h.book h1 h2]
    exact xv_call (xa_cons (xv_var rfl) (xa_cons (xv_var rfl) (xa_cons (xv_var rfl) xa_nil))) ⟨nm, at0 nm k, _, _, h.L, h.L.ltA (by have := h.n; omega), h.bksOk h1 h2, rfl, rfl⟩
  · intro σ H e
    exact hR σ H _ _ _ e _ List.mem_cons_self fun H v p => p
abbrev s_Web_country : Stmt := inClass (topS 51) 1
abbrev N_Web_country : List PySem.Str := ["self"]
theorem sc_Web_country : FnScope N_Web_country ["self"] (defScope s_Web_country) := ⟨rfl, rfl, rfl, by decide +kernel, rfl, by decide +kernel, by decide +kernel⟩
def R_wcountry (CC CW : Addr) : List PP → PP → Prop := fun Ps T => ∃ nm rows, Ps = [We CC CW nm rows] ∧ T = Cy CC nm
theorem ok_wcountry (F : DfP K CW "country" "Web.country" s_Web_country) (T : Txt K mg CC CW) : CalP P w K mg base CW "country" 1 (spF (R_wcountry CC CW)) := by
  refine F.ok sc_Web_country (fun Ps T ⟨nm, _, h, _⟩ => by rw [h]; rfl) fun f cdv A outer s H E hr => ⟨_,
    (pss_one (ps_ret (pe_fld (pv 0) rfl))), ?_⟩
  rintro B M0 Ps T' D' ⟨nm, rows, rfl, rfl⟩ hR _
  exact xs_ret (T := Cy CC nm) (xv_fld (xv_var rfl) (Ob.atr rfl) T.cW T.nc) rfl rfl (fun H v p => p) hR
abbrev s_Web_books : Stmt := inClass (topS 51) 2
abbrev N_Web_books : List PySem.Str := ["self", "book", "places", "bounds"]
theorem sc_Web_books : FnScope N_Web_books ["self"] (defScope s_Web_books) := ⟨rfl, rfl, rfl, by decide +kernel, rfl, by decide +kernel, by decide +kernel⟩
def R_wbooks (CC CW : Addr) : List PP → PP → Prop := fun Ps T => ∃ nm rows, LR nm rows ∧ Ps = [We CC CW nm rows] ∧ T = DL ((yardsOf nm).map (bookD nm rows))
theorem ok_wbooks (F : DfP K CW "books" "Web.books" s_Web_books) (T : Txt K mg CC CW) : CalP P w K mg base CW "books" 1 (spF (R_wbooks CC CW)) := by
  refine F.ok sc_Web_books (fun Ps T ⟨nm, _, _, h, _⟩ => by rw [h]; rfl) fun f cdv A outer s H E hr => ⟨_,
    (pss_one (ps_ret (pe_lc (own := [("book", 1)]) (g := (gName 1)) (tt := tYes) (by rfl) sc_Web_books.nd (pi_list (pe_fld (pv 0) rfl)) (blkOk_by (own := [("book", 1)]) (N := N_Web_books) (sc := defScope s_Web_books) (by decide +kernel)) (fun _ _ _ _ _ => (pg_name (i := 1) sc_Web_books.nd rfl (by first | exact Or.inl rfl | exact Or.inr rfl))) (fun _ _ _ _ _ => pts_nil) (fun _ _ _ _ _ => (pe_lc (own := [("places", 2), ("bounds", 3)]) (g := (gTup K 2 (gCons (gName 2) (gCons (gName 3) gNil)))) (tt := tYes) (wi := iList K (tVar 1)) (by rfl) sc_Web_books.nd (pi_list (pv 1)) (blkOk_by (own := [("places", 2), ("bounds", 3)]) (N := N_Web_books) (sc := { kind := .function, names := [(".0", .local), ("book", .local)], isGenerator := false, isCoroutine := false }) (by decide +kernel)) (fun _ _ _ _ _ => (pg_tup rfl (pgs_cons (pg_name (i := 2) sc_Web_books.nd rfl (by first | exact Or.inl rfl | exact Or.inr rfl)) (pgs_cons (pg_name (i := 3) sc_Web_books.nd rfl (by first | exact Or.inl rfl | exact Or.inr rfl)) pgs_nil)))) (fun _ _ _ _ _ => pts_nil) (fun _ _ _ _ _ => (pe_tup (pa_cons (pv 2) (pa_cons (pe_callTy (r := rListOf K) call_list_of (by rfl) T.list boot_list (pa_cons (pv 3) pa_nil)) pa_nil))))))))), ?_⟩
  rintro B M0 Ps T' D' ⟨nm, rows, h, rfl, rfl⟩ hR _
  have hrl := h.R.len
  have hyl := h.ylen
  refine xs_retF (T := DL ((yardsOf nm).map (bookD nm rows))) (xf_map (ml := []) (items := yardsOf nm) 0 (bookD nm rows) (xi_encL (items := yardsOf nm) 0 (bookD nm rows) (xv_fld (xv_var rfl) (Ob.atr rfl) T.cW T.nb)) (fun q hq => nomatch hq) (by omega) fun i gl l acc hi => ⟨_, _, xg_name, fun j hj => hj, ?_⟩) rfl rfl (fun H v p => Fz.lst p) hR
  obtain ⟨k, h1, h2, e⟩ := h.yard (List.mem_of_getElem? (getD_get 0 hi))
  rw [← e, h.book h1 h2]
  exact Xv.lst (xf_map (ml := []) (items := [((rowAt rows k).1, bks nm rows k)]) (0, []) (fun q => eAlt q.1 q.2) (xi_encL (items := [((rowAt rows k).1, bks nm rows k)]) (0, []) (fun q => eAlt q.1 q.2) (xv_var rfl)) (fun q hq => nomatch hq) (by show 1 ≤ 100000; decide)
    fun i gl l acc hi => ⟨_, _, xg_tup (ds := [eN ([((rowAt rows k).1, bks nm rows k)].getD i (0, [])).1, .list (([((rowAt rows k).1, bks nm rows k)].getD i (0, [])).2.map eBd)]) (xgs_cons xg_name (xgs_cons xg_name xgs_nil)) rfl, fun j hj => hj,
      Xv.tup (xf_tup [eN ([((rowAt rows k).1, bks nm rows k)].getD i (0, [])).1, .list (([((rowAt rows k).1, bks nm rows k)].getD i (0, [])).2.map eBd)] (xa_cons (xv_var rfl) (xa_cons (Xv.lst (xf_cb (xa_cons (xv_var rfl) xa_nil) (rcf_list vl_d))) xa_nil)) (by show 2 ≤ 100000; decide))⟩)
abbrev s_want_web : Stmt := topS 53
abbrev N_want_web : List PySem.Str := ["value"]
theorem sc_want_web : FnScope N_want_web ["value"] (defScope s_want_web) := ⟨rfl, rfl, rfl, by decide +kernel, rfl, by decide +kernel, by decide +kernel⟩
def R_want_web (CC CW : Addr) : List PP → PP → Prop := fun Ps T => ∃ nm rows, Ps = [We CC CW nm rows] ∧ T = We CC CW nm rows
theorem ok_want_web (F : Df K mg "want_web" s_want_web ["value"]) (T : Txt K mg CC CW) : Cal P w K mg base "want_web" ["value"] 1 (spF (R_want_web CC CW)) := by
  refine F.ok sc_want_web (fun Ps T ⟨_, _, h, _⟩ => by rw [h]; rfl) fun f cdv A outer s H E hr => ⟨_,
    (pss_cons (ps_if (pt_not (pt_val (pe_callB (C8.call_isC T.isCWeb) (by rfl) T.isinstance boot_isinstance (pa_cons (pv 0) (pa_cons (pe_glob (v := .ref CW) rfl T.mWeb rfl) pa_nil))))) pss_never pss_nil)
      (pss_one (ps_ret (pv 0)))), ?_⟩
  rintro B M0 Ps T' D' ⟨nm, rows, rfl, rfl⟩ hR _
  exact xs_seq (xs_no (xt_not (xt_b (xv_cb (xa_cons (xv_var rfl) (xa_cons xv_cls xa_nil)) (rc_isiC Ob.ins)))) (xs_next (nx_x (xs_ret (T := We CC CW nm rows) (xv_var rfl) rfl rfl (fun H v p => p) hR))))
abbrev s_book_at : Stmt := topS 52
abbrev N_book_at : List PySem.Str := ["web", "yard"]
theorem sc_book_at : FnScope N_book_at ["web", "yard"] (defScope s_book_at) := ⟨rfl, rfl, rfl, by decide +kernel, rfl, by decide +kernel, by decide +kernel⟩
def R_book_at (CC CW : Addr) : List PP → PP → Prop := fun Ps T => ∃ nm rows k, LR nm rows ∧ 1 ≤ k ∧ k ≤ rows.length ∧ Ps = [We CC CW nm rows, DI (at0 nm k : Nat)] ∧ T = D (bookK nm rows k)
theorem ok_book_at (F : Df K mg "book_at" s_book_at ["web", "yard"]) (T : Txt K mg CC CW) (c_yards_in : Cal P w K mg base "yards_in" ["country"] 1 (spF (R_yards_in CC))) : Cal P w K mg base "book_at" ["web", "yard"] 2 (spF (R_book_at CC CW)) := by
  refine F.ok sc_book_at (fun Ps T ⟨_, _, _, _, _, _, h, _⟩ => by rw [h]; rfl) fun f cdv A outer s H E hr => ⟨_,
    (pss_one (ps_ret (pe_ix ix_seq (pe_fld (pv 0) rfl) (pe_bm PySem.F.plainAttrs_list PySem.F.slot_list_index PySem.F.type_list_index mt_index (pe_cal c_yards_in (hr.mono (by decide)) rfl (pa_cons (pe_fld (pv 0) rfl) pa_nil)) (pa_cons (pv 1) pa_nil)) (fun _ _ => rfl)))), ?_⟩
  rintro B M0 Ps T' D' ⟨nm, rows, k, h, h1, h2, rfl, rfl⟩ hR _
  have hm := h.mem h1 h2
  have hil : (yardsOf nm).idxOf (at0 nm k) < (yardsOf nm).length := List.idxOf_lt_length_of_mem hm
  have hie : (yardsOf nm)[(yardsOf nm).idxOf (at0 nm k)]? = some (at0 nm k) := by rw [List.getElem?_eq_getElem hil, List.getElem_idxOf hil]
  refine xs_ret (T := D (bookK nm rows k)) (xv_op (xv_fld (xv_var rfl) (Ob.atr rfl) T.cW T.nb) (xv_index (ds := eNs (yardsOf nm)) (d := eN (at0 nm k)) (j := (yardsOf nm).idxOf (at0 nm k)) (xv_call (xa_cons (xv_fld (xv_var rfl) (Ob.atr rfl) T.cW T.nc) xa_nil) ⟨nm, h.L, rfl, rfl⟩) (xv_var rfl) vl_d vl_d rfl ?_ ⟨_, eNs_get hie, ?_⟩ ?_) (ro_ixL vl_d (d := bookK nm rows k) (atI_n ?_))) rfl rfl (fun H v p => p) hR
  · unfold eNs
    rw [List.map_map, List.all_map]
    exact List.all_eq_true.mpr fun _ _ => rfl
  · simp [fv, eqV]
  · intro m z hlt hz
    obtain ⟨y, hy, rfl⟩ : ∃ y, (yardsOf nm)[m]? = some y ∧ z = eN y := by
      unfold eNs at hz
      rw [List.getElem?_map] at hz
      obtain ⟨y, e1, e2⟩ := Option.map_eq_some_iff.mp hz
      exact ⟨y, e1, e2.symm⟩
    have hne : y ≠ at0 nm k := fun z => by
      subst z
      have := nd_inj (yards_nd nm) hy hie
      omega
    simp only [fv, eqV]
    have : ¬ (y : Int) = (at0 nm k : Nat) := by omega
    simpa using this
  · rw [List.getElem?_map, hie, Option.map_some, h.book h1 h2]
end
end K74

set_option Elab.async false
set_option linter.all false
set_option maxRecDepth 100000
set_option maxHeartbeats 4000000
namespace K74
open PySem PySem.Spec PyProof.Rows L2
def kv (bs : List (Nat × Nat)) : List (Int × PyData) := bs.map fun b => ((b.1 : Int), eN b.2)
theorem kv_look (bs : List (Nat × Nat)) (t : Nat) (h : ∀ b ∈ bs, b.1 ≠ t) : lookD (kv bs) (t : Int) = none := by
  unfold lookD
  rw [List.find?_eq_none.mpr]
  · rfl
  · intro p hp
    obtain ⟨b, hb, rfl⟩ := List.mem_map.mp hp
    have := h b hb
    simp only [decide_eq_true_eq]
    omega
theorem kv_put (bs : List (Nat × Nat)) (t m : Nat) (h : ∀ b ∈ bs, b.1 ≠ t) : putD (kv bs) (t : Int) (eN m) = kv (bs ++ [(t, m)]) := by
  unfold putD
  rw [if_neg]
  · unfold kv
    rw [List.map_append]
    rfl
  · intro z
    obtain ⟨p, hp, e⟩ := List.any_eq_true.mp z
    obtain ⟨b, hb, rfl⟩ := List.mem_map.mp hp
    have := h b hb
    simp only [decide_eq_true_eq] at e
    omega
theorem LR.bksD {nm : List Nat} {rows : List R3} (h : LR nm rows) {k : Nat} (h1 : 1 ≤ k) (h2 : k ≤ rows.length) : ((bks nm rows k).map (·.1)).Nodup := by
  have hn := h.n
  unfold bks
  split <;> split <;> simp
  rename_i a b
  intro z
  have := h.L.inj (i := k + 1) (j := k - 1) (by omega) (by omega) (by simpa using z)
  omega
theorem LR.bksY {nm : List Nat} {rows : List R3} (h : LR nm rows) {k : Nat} (h1 : 1 ≤ k) (h2 : k ≤ rows.length) : ∀ b ∈ bks nm rows k, (∃ i, (0 < i ∧ i < nm.length - 1) ∧ at0 nm i = b.1) ∧ 1 ≤ b.2 ∧ b.2 ≤ (rowAt rows k).1 := by
  have hn := h.n
  obtain ⟨⟨a1, a2⟩, ⟨a3, a4⟩, a5, a6⟩ := h.row h1 h2
  intro b hb
  unfold bks at hb
  rcases List.mem_append.mp hb with hb | hb
  · split at hb
    · rw [List.mem_singleton.mp hb]
      exact ⟨⟨k + 1, by omega, rfl⟩, a3, a4⟩
    · cases hb
  · split at hb
    · rw [List.mem_singleton.mp hb]
      exact ⟨⟨k - 1, by omega, rfl⟩, a5, a6⟩
    · cases hb
theorem LR.lookE {nm : List Nat} {rows : List R3} (h : LR nm rows) {k : Nat} (h1 : 1 ≤ k) (h2 : k ≤ rows.length) : (lookD (kv (bks nm rows k)) (at0 nm (k + 1) : Nat)).getD (eN (rowAt rows k).1) = eN (rowAt rows k).2.1 := by
  have hn := h.n
  by_cases z : k < rows.length
  · unfold bks
    rw [if_pos z]
    show (Option.map _ (List.find? _ ((((at0 nm (k + 1) : Nat) : Int), eN (rowAt rows k).2.1) :: _))).getD _ = _
    rw [List.find?_cons_of_pos (by simp)]
    rfl
  · have e : k = rows.length := by omega
    rw [kv_look]
    · subst e
      show eN (rowAt rows rows.length).1 = _
      rw [← h.R.last]
    · intro b hb y
      unfold bks at hb
      rw [if_neg z] at hb
      split at hb
      · rw [List.mem_singleton.mp hb] at y
        have := h.L.inj (i := k - 1) (j := k + 1) (by omega) (by omega) y
        omega
      · cases hb
theorem LR.lookW {nm : List Nat} {rows : List R3} (h : LR nm rows) {k : Nat} (h1 : 1 ≤ k) (h2 : k ≤ rows.length) : (lookD (kv (bks nm rows k)) (at0 nm (k - 1) : Nat)).getD (eN (rowAt rows k).1) = eN (rowAt rows k).2.2 := by
  have hn := h.n
  have hne : at0 nm (k + 1) ≠ at0 nm (k - 1) := fun y => by
    have := h.L.inj (i := k + 1) (j := k - 1) (by omega) (by omega) y
    omega
  have hne2 : ¬ ((at0 nm (k + 1) : Nat) : Int) = ((at0 nm (k - 1) : Nat) : Int) := by omega
  by_cases z : 1 < k
  · unfold bks kv lookD
    rw [if_pos z, List.map_append, List.find?_append]
    have e1 : (List.find? (fun p : Int × PyData => decide (p.1 = ((at0 nm (k - 1) : Nat) : Int))) ((if k < rows.length then [(at0 nm (k + 1), (rowAt rows k).2.1)] else []).map fun b => ((b.1 : Int), eN b.2))) = none := by
      rw [List.find?_eq_none]
      intro p hp
      obtain ⟨b, hb, rfl⟩ := List.mem_map.mp hp
      split at hb
      · rw [List.mem_singleton.mp hb]
        simpa using hne2
      · cases hb
    rw [e1]
    simp
  · have e : k = 1 := by omega
    rw [kv_look]
    · subst e
      show eN (rowAt rows 1).1 = _
      rw [← h.R.first]
    · intro b hb y
      unfold bks at hb
      rw [if_neg z, List.append_nil] at hb
      split at hb
      · rw [List.mem_singleton.mp hb] at y
        exact hne y
      · cases hb
section
variable {P : Program} {w : World} {K : PySem.W.Frag} {mg : PySem.Str → Option Value} {base : Heap} {CC CW : Addr}
abbrev s_bounds_told : Stmt := topS 55
abbrev N_bounds_told : List PySem.Str := ["web", "yard", "book", "places", "found", "origin", "target", "most"]
theorem sc_bounds_told : FnScope N_bounds_told ["web", "yard"] (defScope s_bounds_told) := ⟨rfl, rfl, rfl, by decide +kernel, rfl, by decide +kernel, by decide +kernel⟩
def R_bounds_told (CC CW : Addr) : List PP → PP → Prop := fun Ps T => ∃ nm rows k, LR nm rows ∧ 1 ≤ k ∧ k ≤ rows.length ∧ Ps = [We CC CW nm rows, DI (at0 nm k : Nat)] ∧ T = TP [DI ((rowAt rows k).1 : Nat), Fz (KF (kv (bks nm rows k)))]
theorem ok_bounds_told (F : Df K mg "bounds_told" s_bounds_told ["web", "yard"]) (T : Txt K mg CC CW) (c_book_at : Cal P w K mg base "book_at" ["web", "yard"] 2 (spF (R_book_at CC CW))) (c_is_yard : Cal P w K mg base "is_yard" ["country", "value"] 4 (spF (R_is_yard CC))) (cp_country : CalP P w K mg base CW "country" 1 (spF (R_wcountry CC CW))) : Cal P w K mg base "bounds_told" ["web", "yard"] 5 (spF (R_bounds_told CC CW)) := by
  refine F.ok sc_bounds_told (fun Ps T ⟨_, _, _, _, _, _, h, _⟩ => by rw [h]; rfl) fun f cdv A outer s H E hr => ⟨_,
    (pss_cons (ps_set (i := 2) sc_bounds_told.nd rfl (.inl rfl) (pe_cal c_book_at (hr.mono (by decide)) rfl (pa_cons (pv 0) (pa_cons (pv 1) pa_nil))))
      (pss_cons (ps_if (pt_cmpR (op_neD hr.units) (pe_callB call_len (by rfl) T.len PySem.boot_len (pa_cons (pv 2) pa_nil)) pe_int (nomark _)) (pss_one (ps_ret pe_non)) pss_nil)
      (pss_cons (ps_par (i := 3) (j := 4) (by rfl) sc_bounds_told.nd rfl rfl (by decide) rfl rfl (pa_cons (pe_ix ix_seq (pe_ix ix_seq (pv 2) pe_int (fun _ _ => rfl)) pe_int (fun _ _ => rfl)) (pa_cons pe_dnewK pa_nil)) (by rfl))
      (pss_cons (ps_for PassesOwn.never rfl (pi_list (pe_ix ix_seq (pe_ix ix_seq (pv 2) pe_int (fun _ _ => rfl)) pe_int (fun _ _ => rfl))) (pg_tup rfl (pgs_cons (pg_name (i := 5) sc_bounds_told.nd rfl (.inl rfl)) (pgs_cons (pg_name (i := 6) sc_bounds_told.nd rfl (.inl rfl)) (pgs_cons (pg_name (i := 7) sc_bounds_told.nd rfl (.inl rfl)) pgs_nil))))
        (pss_cons (ps_if (PW.pt (pw_or (pt_cmpR op_notN (pv 5) pe_non (nomark _)) (pw_or (pt_cmp (pc_din (hu_of hr) (pv 6) (pv 4))) (pw_or (pt_not (pt_val (pe_cal c_is_yard (hr.mono (by decide)) rfl (pa_cons (pe_pr cp_country T.cW (hr.mono (by decide)) (pv 0)) (pa_cons (pv 6) pa_nil))))) (pw_or1 (pt_not (pt_chain op_le op_le pe_int (pv 7) (pv 3)))))))) (pss_one (ps_ret pe_non)) pss_nil)
        (pss_one (ps_dput (hu_of hr) (pv 4) (pv 6) (pv 7) rfl))))
      (pss_one (ps_ret (pe_tup (pa_cons (pv 3) (pa_cons (pv 4) pa_nil))))))))), ?_⟩
  rintro B M0 Ps T' D' ⟨nm, rows, k, h, h1, h2, rfl, rfl⟩ hR _
  have hdis := h.bksD h1 h2
  have hy := h.bksY h1 h2
  have hlen := (h.bksOk h1 h2).len
  generalize hbs : bks nm rows k = bs at *
  generalize hpp : (rowAt rows k).1 = pl at *
  have hbk : bookK nm rows k = .list [eAlt pl bs] := by unfold bookK; rw [hbs, hpp]
  refine xs_seq (xs_set (xv_call (xa_cons (xv_var rfl) (xa_cons (xv_var rfl) xa_nil)) ⟨nm, rows, k, h, h1, h2, rfl, rfl⟩) (nx_x ?_))
  rw [hbk]
  refine xs_seq (xs_no (xt_test (xv_op (xv_cb (xa_cons (xv_var rfl) xa_nil) (rc_lenL vl_d)) xv_int (ro_neD vd_d vd_d (shaped_flat rfl) (shaped_flat rfl)))) (xs_next (nx_x ?_)))
  refine xs_seq (xs_parPF (xv_op (xv_op (xv_var rfl) xv_int (ro_ixL vl_d (d := eAlt pl bs) rfl)) xv_int (ro_ixT vt_d (d := eN pl) rfl)) xf_dnew fun l => nx_x ?_)
  refine xs_seq (xs_for (I := fun i => ⟨B, M0, [(l, KF (kv (bs.take i)))], [some (We CC CW nm rows), some (DI (at0 nm k : Nat)), some (D (.list [eAlt pl bs])), some (DI (pl : Nat)), some (Rf l), none, none, none], []⟩) (xi_encL (items := bs) (0, 0) eBd (xv_op (xv_op (xv_var rfl) xv_int (ro_ixL vl_d (d := eAlt pl bs) rfl)) xv_int (ro_ixT vt_d (d := .list (bs.map eBd)) rfl))) (fun _ _ q hq => nomatch hq) (ghs_weak (wk_refl _)) (fun i gl hi => ?_) (nx_x ?_))
  · have hg : bs[i]? = some (bs.getD i (0, 0)) := getD_get (0, 0) hi
    have hmem : bs.getD i (0, 0) ∈ bs := List.mem_of_getElem? hg
    obtain ⟨⟨j, hj, ej⟩, hm1, hm2⟩ := hy _ hmem
    have hno : ∀ b ∈ bs.take i, b.1 ≠ (bs.getD i (0, 0)).1 := fun b hb y => by
      obtain ⟨q, hq, e⟩ := List.getElem_of_mem hb
      rw [List.length_take] at hq
      rw [List.getElem_take] at e
      have q1 : (bs.map (·.1))[q]? = some b.1 := by rw [List.getElem?_map, List.getElem?_eq_getElem (by omega), e]; rfl
      have q2 : (bs.map (·.1))[i]? = some b.1 := by rw [List.getElem?_map, hg, y]; rfl
      have := nd_inj hdis q1 q2
      omega
    have e1 : kv (bs.take (i + 1)) = kv (bs.take i ++ [bs.getD i (0, 0)]) := by rw [List.take_add_one, hg]; rfl
    generalize hbb : bs.getD i (0, 0) = b at *
    obtain ⟨t, m⟩ := b
    refine xb_mk (xg_tup (ds := [.none, eN t, eN m]) (xgs_cons xg_name (xgs_cons xg_name (xgs_cons xg_name xgs_nil))) rfl) (xs_seq (xs_no (XT.eq (xt_or (xt_test (xv_op (xv_var rfl) xv_non ro_notN)) fun _ =>
      xt_or (xt_test (xv_din (xp_var rfl) (xp_var rfl) (vk_r (k := 0) rfl))) fun _ =>
      xt_or (a := !true) (xt_not (xt_b (xv_call (xa_cons (xv_prop (xv_var rfl) Ob.ins ⟨nm, rows, rfl, rfl⟩) (xa_cons (xv_var rfl) xa_nil)) ⟨nm, j, h.L, hj, ?_, rfl⟩))) fun _ =>
      xt_not (xt_test (xv_chain (C3 := ⟨B, M0, [], [], []⟩) xv_int (xv_var rfl) ro_b0 (fun _ => xv_var rfl) fun _ => ro_b0))) ?_) (xs_next (nx_x ?_))))
    · rw [ej]
    · rw [kv_look _ _ hno]
      have hm1' : 1 ≤ m := hm1
      have hm2' : m ≤ pl := hm2
      have q1 : decide ((1 : Int) ≤ (m : Nat)) = true := decide_eq_true (by omega)
      have q2 : decide (((m : Nat) : Int) ≤ (pl : Nat)) = true := decide_eq_true (by omega)
      rw [q1, q2]
      rfl
    · refine xs_dput (i := 0) (d := eN m) (xv_var rfl) (xp_var rfl) (xp_var rfl) rfl (by unfold kv; rw [List.length_map, List.length_take]; omega) fun σ H e => ?_
      show En (Ct.ghs ⟨B, M0, [(l, KF (kv (bs.take (i + 1))))], [some (We CC CW nm rows), some (DI (at0 nm k : Nat)), some (D (.list [eAlt pl bs])), some (DI (pl : Nat)), some (Rf l), none, none, none], []⟩ gl) σ H
      rw [e1]
      rw [kv_put _ _ _ hno] at e
      exact e.weak (.keep (.keep (.keep (.keep (.keep (.drop (.drop (.drop .nil)))))))) fun _ z => z
  · rw [List.take_length]
    refine xs_freeze (P := Fz (KF (kv bs))) (k := 0) (i := 4) rfl rfl (fun H v p => p) ?_
    exact xs_retF (T := TP [DI (pl : Nat), Fz (KF (kv bs))]) (xf_tupP (xa_cons (xv_var rfl) (xa_cons (xv_var rfl) xa_nil)) (by show 2 ≤ 100000; decide)) rfl rfl (fun H v p => p) hR
abbrev s_are_bounded : Stmt := topS 56
abbrev N_are_bounded : List PySem.Str := ["web", "yard"]
theorem sc_are_bounded : FnScope N_are_bounded ["web"] (defScope s_are_bounded) := ⟨rfl, rfl, rfl, by decide +kernel, rfl, by decide +kernel, by decide +kernel⟩
def R_are_bounded (CC CW : Addr) : List PP → PP → Prop := fun Ps T => ∃ nm rows, LR nm rows ∧ Ps = [We CC CW nm rows] ∧ T = DB true
theorem Fz.rf {F : FF} : ∀ H v, (Fz F).P H v → ∃ a, v = .ref a := fun H v ⟨l, o, e, _⟩ => ⟨l, e⟩
theorem ok_are_bounded (F : Df K mg "are_bounded" s_are_bounded ["web"]) (T : Txt K mg CC CW) (c_bounds_told : Cal P w K mg base "bounds_told" ["web", "yard"] 5 (spF (R_bounds_told CC CW))) (c_yards_in : Cal P w K mg base "yards_in" ["country"] 1 (spF (R_yards_in CC))) (cp_country : CalP P w K mg base CW "country" 1 (spF (R_wcountry CC CW))) : Cal P w K mg base "are_bounded" ["web"] 6 (spF (R_are_bounded CC CW)) := by
  refine F.ok sc_are_bounded (fun Ps T ⟨_, _, _, h, _⟩ => by rw [h]; rfl) fun f cdv A outer s H E hr => ⟨_,
    (pss_one (ps_ret (pe_callB (cr_all rfl) (by rfl) T.all boot_all (pa_cons (pe_lc (own := [("yard", 1)]) (g := (gName 1)) (tt := tYes) (by rfl) sc_are_bounded.nd (pi_list (pe_cal c_yards_in (hr.mono (by decide)) rfl (pa_cons (pe_pr cp_country T.cW (hr.mono (by decide)) (pv 0)) pa_nil))) (blkOk_by (own := [("yard", 1)]) (N := N_are_bounded) (sc := defScope s_are_bounded) (by decide +kernel)) (fun _ _ _ _ _ => (pg_name (i := 1) sc_are_bounded.nd rfl (by first | exact Or.inl rfl | exact Or.inr rfl))) (fun _ _ _ _ _ => pts_nil) (fun _ _ _ _ _ => (pe_cmpR op_notN (pe_cal c_bounds_told (hr.mono (by decide)) rfl (pa_cons (pv 0) (pa_cons (pv 1) pa_nil))) pe_non (nomark _)))) pa_nil)))), ?_⟩
  rintro B M0 Ps T' D' ⟨nm, rows, h, rfl, rfl⟩ hR _
  have hyl := h.ylen
  have hrl := h.R.len
  refine xs_ret (T := DB true) (P := DB true) ((xv_cb (xa_cons (Xv.lst (xf_mapB (ml := []) (items := yardsOf nm) 0 (fun _ => true) (xi_encL (items := yardsOf nm) 0 eN (xv_call (xa_cons (xv_prop (xv_var rfl) Ob.ins ⟨nm, rows, rfl, rfl⟩) xa_nil) ⟨nm, h.L, rfl, rfl⟩)) (fun q hq => nomatch hq) (by omega) fun i gl l acc hi => ⟨_, _, xg_name, fun j hj => hj, ?_⟩)) xa_nil) (rc_all vl_d)).dat ?_) rfl rfl (fun H v p => p) hR
  · obtain ⟨k, h1, h2, e⟩ := h.yard (List.mem_of_getElem? (getD_get 0 hi))
    rw [← e]
    exact xv_op (xv_call (xa_cons (xv_var rfl) (xa_cons (xv_var rfl) xa_nil)) ⟨nm, rows, k, h, h1, h2, rfl, rfl⟩) xv_non (ro_notNref Fz.rf)
  · rw [all_id, List.all_eq_true.mpr fun _ _ => rfl]
abbrev s_places_at : Stmt := topS 57
abbrev N_places_at : List PySem.Str := ["web", "yard"]
theorem sc_places_at : FnScope N_places_at ["web", "yard"] (defScope s_places_at) := ⟨rfl, rfl, rfl, by decide +kernel, rfl, by decide +kernel, by decide +kernel⟩
def R_places_at (CC CW : Addr) : List PP → PP → Prop := fun Ps T => ∃ nm rows k, LR nm rows ∧ 1 ≤ k ∧ k ≤ rows.length ∧ Ps = [We CC CW nm rows, DI (at0 nm k : Nat)] ∧ T = DI ((rowAt rows k).1 : Nat)
theorem ok_places_at (F : Df K mg "places_at" s_places_at ["web", "yard"]) (T : Txt K mg CC CW) (c_bounds_told : Cal P w K mg base "bounds_told" ["web", "yard"] 5 (spF (R_bounds_told CC CW))) : Cal P w K mg base "places_at" ["web", "yard"] 6 (spF (R_places_at CC CW)) := by
  refine F.ok sc_places_at (fun Ps T ⟨_, _, _, _, _, _, h, _⟩ => by rw [h]; rfl) fun f cdv A outer s H E hr => ⟨_,
    (pss_one (ps_ret (pe_ix ix_seq (pe_cal c_bounds_told (hr.mono (by decide)) rfl (pa_cons (pv 0) (pa_cons (pv 1) pa_nil))) pe_int (fun _ _ => rfl)))), ?_⟩
  rintro B M0 Ps T' D' ⟨nm, rows, k, h, h1, h2, rfl, rfl⟩ hR _
  exact xs_ret (T := DI ((rowAt rows k).1 : Nat)) (xv_op (xv_call (xa_cons (xv_var rfl) (xa_cons (xv_var rfl) xa_nil)) ⟨nm, rows, k, h, h1, h2, rfl, rfl⟩) xv_int (ro_ixTP rfl)) rfl rfl (fun H v p => p) hR
abbrev s_bound_towards : Stmt := topS 58
abbrev N_bound_towards : List PySem.Str := ["web", "yard", "target", "places", "found"]
theorem sc_bound_towards : FnScope N_bound_towards ["web", "yard", "target"] (defScope s_bound_towards) := ⟨rfl, rfl, rfl, by decide +kernel, rfl, by decide +kernel, by decide +kernel⟩
def R_bound_towards (CC CW : Addr) : List PP → PP → Prop := fun Ps T => ∃ nm rows k, LR nm rows ∧ 1 ≤ k ∧ k ≤ rows.length ∧ ((Ps = [We CC CW nm rows, DI (at0 nm k : Nat), DI (at0 nm (k + 1) : Nat)] ∧ T = DI ((rowAt rows k).2.1 : Nat)) ∨ (Ps = [We CC CW nm rows, DI (at0 nm k : Nat), DI (at0 nm (k - 1) : Nat)] ∧ T = DI ((rowAt rows k).2.2 : Nat)))
theorem ok_bound_towards (F : Df K mg "bound_towards" s_bound_towards ["web", "yard", "target"]) (T : Txt K mg CC CW) (c_bounds_told : Cal P w K mg base "bounds_told" ["web", "yard"] 5 (spF (R_bounds_told CC CW))) : Cal P w K mg base "bound_towards" ["web", "yard", "target"] 6 (spF (R_bound_towards CC CW)) := by
  refine F.ok sc_bound_towards (fun Ps T ⟨_, _, _, _, _, _, h⟩ => by rcases h with ⟨h, _⟩ | ⟨h, _⟩ <;> rw [h] <;> rfl) fun f cdv A outer s H E hr => ⟨_,
    (pss_cons (ps_asg (pe_cal c_bounds_told (hr.mono (by decide)) rfl (pa_cons (pv 0) (pa_cons (pv 1) pa_nil))) (pg_tup rfl (pgs_cons (pg_name (i := 3) sc_bound_towards.nd rfl (.inl rfl)) (pgs_cons (pg_name (i := 4) sc_bound_towards.nd rfl (.inl rfl)) pgs_nil))))
      (pss_one (ps_ret (pe_dget2 (hu_of hr) (pv 4) (pv 2) (pv 3) ⟨rfl, rfl, rfl, rfl⟩)))), ?_⟩
  rintro B M0 Ps T' D' ⟨nm, rows, k, h, h1, h2, ⟨rfl, rfl⟩ | ⟨rfl, rfl⟩⟩ hR _
  · refine xs_seq (xs_g (xv_call (xa_cons (xv_var rfl) (xa_cons (xv_var rfl) xa_nil)) ⟨nm, rows, k, h, h1, h2, rfl, rfl⟩) (xg_tupP (xgs_cons xg_name (xgs_cons xg_name xgs_nil)) rfl) (nx_x ?_))
    exact xs_ret (T := DI ((rowAt rows k).2.1 : Nat)) (xv_dget2 (xp_var rfl) (xp_var rfl) (xp_var rfl) vk_f) rfl rfl (fun H v p => by rw [h.lookE h1 h2] at p; exact p) hR
  · refine xs_seq (xs_g (xv_call (xa_cons (xv_var rfl) (xa_cons (xv_var rfl) xa_nil)) ⟨nm, rows, k, h, h1, h2, rfl, rfl⟩) (xg_tupP (xgs_cons xg_name (xgs_cons xg_name xgs_nil)) rfl) (nx_x ?_))
    exact xs_ret (T := DI ((rowAt rows k).2.2 : Nat)) (xv_dget2 (xp_var rfl) (xp_var rfl) (xp_var rfl) vk_f) rfl rfl (fun H v p => by rw [h.lookW h1 h2] at p; exact p) hR
end
end K74

set_option Elab.async false
set_option linter.all false
set_option maxRecDepth 100000
set_option maxHeartbeats 4000000
namespace K74
open PySem PySem.Spec PyProof.Rows L2
/-! ### carts of a line: position, eastward; steps -/
abbrev Crt := Nat × Bool
abbrev Stp := Option Nat × Bool
def gS (nm : List Nat) (e : Bool) : Nat := if e then at0 nm 0 else at0 nm (nm.length - 1)
def gE (nm : List Nat) (e : Bool) : Nat := if e then at0 nm (nm.length - 1) else at0 nm 0
abbrev eCart (nm : List Nat) (c : Crt) : PyData := .tuple [eN (at0 nm c.1), eN (gS nm c.2), eN (gE nm c.2)]
def eStp (nm : List Nat) : Stp → PyData
  | (none, e) => .tuple [.str "in", eN (gS nm e), eN (gE nm e)]
  | (some p, e) => .tuple [.str "on", eN (at0 nm p), eN (gS nm e), eN (gE nm e)]
def i0 (n : Nat) (e : Bool) : Nat := if e then 0 else n - 1
theorem gS_i0 (nm : List Nat) (e : Bool) : gS nm e = at0 nm (i0 nm.length e) := by cases e <;> rfl
def stepsTo (n : Nat) (c : Crt) : List Stp := (none, c.2) :: (List.range (dst (i0 n c.2) c.1 - 1)).map fun t => (some (posAt (i0 n c.2) c.1 (t + 1)), c.2)
theorem cut_in {α : Type} (f : Nat → α) (d : Nat) : cutP ((List.range (d + 1)).map f) (some 1) (some (-1)) = (List.range (d - 1)).map fun t => f (t + 1) := by
  unfold cutP
  have e1 : HT.sIx ((List.range (d + 1)).map f).length 0 (some 1) = 1 := by
    have := HT.sIx_nat ((List.range (d + 1)).map f).length 0 1
    rw [List.length_map, List.length_range] at this ⊢
    have h2 : min 1 (d + 1) = 1 := by omega
    rw [h2] at this
    exact this
  have e2 : HT.sIx ((List.range (d + 1)).map f).length ((List.range (d + 1)).map f).length (some (-1)) = d := by
    rw [List.length_map, List.length_range]
    show (if (-1 : Int) < 0 then ((-1 : Int) + ((d + 1 : Nat) : Int)).toNat else min (-1 : Int).toNat (d + 1)) = d
    rw [if_pos (by decide)]
    omega
  rw [e1, e2]
  apply List.ext_getElem?
  intro i
  rw [List.getElem?_take, List.getElem?_drop, List.getElem?_map, List.getElem?_map]
  by_cases h : i < d - 1
  · rw [if_pos h, List.getElem?_range (by omega), List.getElem?_range h]
    simp [Nat.add_comm]
  · rw [if_neg h, List.getElem?_eq_none (l := List.range (d - 1)) (by rw [List.length_range]; omega)]
    rfl
theorem cutP_pathN (nm : List Nat) (i j : Nat) : cutP (eNs (pathN nm i j)) (some 1) (some (-1)) = ((List.range (dst i j - 1)).map fun t => at0 nm (posAt i j (t + 1))).map eN := by
  unfold eNs pathN
  rw [cutP_map, cut_in]
theorem rep_flat {α : Type} (n : Nat) (a : α) : (List.replicate n [a]).flatten = List.replicate n a := by
  induction n with
  | zero => rfl
  | succ n ih => rw [List.replicate_succ, List.flatten_cons, ih]; rfl
def placed1 (A : Nat) (ws : List Nat) (i : Nat) : List Crt := (List.range i).flatMap fun t => List.replicate (ws.getD (t + 1) 0) (A + (t + 1), false)
def placed2 (A L : Nat) (es : List Nat) (i : Nat) : List Crt := (List.range i).flatMap fun t => List.replicate (es.getD (L - 2 - t) 0) (A + (L - 2 - t), true)
def placedM (A L : Nat) (es ws : List Nat) : List Crt := placed1 A ws (L - 2) ++ placed2 A L es (L - 2) ++ List.replicate (es.getD 0 0) (A, true) ++ List.replicate (ws.getD (L - 1) 0) (A + (L - 1), false)
def wayAB (nm : List Nat) (A L : Nat) : List Nat := (List.range L).map fun t => at0 nm (A + t)
theorem wayAB_at {nm : List Nat} {A L t : Nat} (h : t < L) : (eNs (wayAB nm A L))[t]? = some (eN (at0 nm (A + t))) := eNs_get (by unfold wayAB; rw [List.getElem?_map, List.getElem?_range h]; rfl)
theorem flatMap_succ {α : Type} (f : Nat → List α) (i : Nat) : (List.range (i + 1)).flatMap f = (List.range i).flatMap f ++ f i := by
  rw [List.range_succ, List.flatMap_append]
  simp
theorem flatMap_len {α : Type} (f : Nat → List α) (m : Nat) (h : ∀ i, (f i).length ≤ m) (i : Nat) : ((List.range i).flatMap f).length ≤ i * m := by
  induction i with
  | zero => simp
  | succ i ih =>
    rw [flatMap_succ, List.length_append, Nat.add_one_mul]
    exact Nat.add_le_add ih (h i)
section
variable {P : Program} {w : World} {K : PySem.W.Frag} {mg : PySem.Str → Option Value} {base : Heap} {CC CW : Addr}
abbrev s_steps_to : Stmt := topS 60
abbrev N_steps_to : List PySem.Str := ["country", "cart", "yard", "start", "end", "way", "place"]
theorem sc_steps_to : FnScope N_steps_to ["country", "cart"] (defScope s_steps_to) := ⟨rfl, rfl, rfl, by decide +kernel, rfl, by decide +kernel, by decide +kernel⟩
def R_steps_to (CC : Addr) : List PP → PP → Prop := fun Ps T => ∃ nm c, LineOk nm ∧ c.1 < nm.length ∧ Ps = [Cy CC nm, D (eCart nm c)] ∧ T = DL ((stepsTo nm.length c).map (eStp nm))
theorem ok_steps_to (F : Df K mg "steps_to" s_steps_to ["country", "cart"]) (T : Txt K mg CC CW) (c_way_between : Cal P w K mg base "way_between" ["country", "start", "end"] 1 (spF (R_way_between CC))) : Cal P w K mg base "steps_to" ["country", "cart"] 2 (spF (R_steps_to CC)) := by
  refine F.ok sc_steps_to (fun Ps T ⟨_, _, _, _, h, _⟩ => by rw [h]; rfl) fun f cdv A outer s H E hr => ⟨_,
    (pss_cons (ps_asg (pv 1) (pg_tup rfl (pgs_cons (pg_name (i := 2) sc_steps_to.nd rfl (.inl rfl)) (pgs_cons (pg_name (i := 3) sc_steps_to.nd rfl (.inr rfl)) (pgs_cons (pg_name (i := 4) sc_steps_to.nd rfl (.inr rfl)) pgs_nil)))))
      (pss_cons (ps_set (i := 5) sc_steps_to.nd rfl (.inl rfl) (pe_cal c_way_between (hr.mono (by decide)) rfl (pa_cons (pv 0) (pa_cons (pv 3) (pa_cons (pv 2) pa_nil)))))
      (pss_one (ps_ret (pe_op op_cat (pe_lst (pa_cons (pe_tup (pa_cons pe_str (pa_cons (pv 3) (pa_cons (pv 4) pa_nil)))) pa_nil)) (pe_lc (own := [("place", 6)]) (g := (gName 6)) (tt := tYes) (by rfl) sc_steps_to.nd (pi_list (pe_slice sl_list (pv 5) (po_some pe_int) (po_some (pe_un un_neg pe_int)))) (blkOk_by (own := [("place", 6)]) (N := N_steps_to) (sc := defScope s_steps_to) (by decide +kernel)) (fun _ _ _ _ _ => (pg_name (i := 6) sc_steps_to.nd rfl (by first | exact Or.inl rfl | exact Or.inr rfl))) (fun _ _ _ _ _ => pts_nil) (fun _ _ _ _ _ => (pe_tup (pa_cons pe_str (pa_cons (pv 6) (pa_cons (pv 3) (pa_cons (pv 4) pa_nil)))))))))))), ?_⟩
  rintro B M0 Ps T' D' ⟨nm, ⟨k, e⟩, L, hk, rfl, rfl⟩ hR _
  have hl := L.len
  have hk' : k < nm.length := hk
  have hi0 : i0 nm.length e < nm.length := by unfold i0; split <;> omega
  have hd := dst_lt hi0 hk'
  refine xs_seq (xs_g (xv_var rfl) (xg_tup (ds := [eN (at0 nm k), eN (gS nm e), eN (gE nm e)]) (xgs_cons xg_name (xgs_cons xg_name (xgs_cons xg_name xgs_nil))) rfl) (nx_x ?_))
  refine xs_seq (xs_set (P := DL (eNs (pathN nm (i0 nm.length e) k))) (xv_call (xa_cons (xv_var rfl) (xa_cons (xv_var rfl) (xa_cons (xv_var rfl) xa_nil))) ⟨nm, i0 nm.length e, k, L, hi0, hk', by rw [gS_i0], rfl⟩) (nx_x ?_))
  refine xs_retF (T := DL ((stepsTo nm.length (k, e)).map (eStp nm))) (xf_op (Xv.lst (xf_lst [.tuple [.str "in", eN (gS nm e), eN (gE nm e)]] (xa_cons (Xv.tup (xf_tup [.str "in", eN (gS nm e), eN (gE nm e)] (xa_cons xv_str (xa_cons (xv_var rfl) (xa_cons (xv_var rfl) xa_nil))) (by show 3 ≤ 100000; decide))) xa_nil) (by show 1 ≤ 100000; decide)))
    (Xv.lst (xf_map (ml := []) (items := (List.range (dst (i0 nm.length e) k - 1)).map fun t => at0 nm (posAt (i0 nm.length e) k (t + 1))) 0 (fun x => .tuple [.str "on", eN x, eN (gS nm e), eN (gE nm e)]) (xi_encL 0 eN (Xv.lst ((xf_slice (lo := some 1) (hi := some (-1)) (xv_var rfl) vl_d (xo_p xp_int) (xo_p (xp_un xp_int))).conv fun H v p => by rw [← cutP_pathN]; exact p))) (fun q hq => nomatch hq) (by rw [List.length_map, List.length_range]; omega)
      fun i gl l acc hi => ⟨_, _, xg_name, fun j hj => hj, Xv.tup (xf_tup [.str "on", eN _, eN (gS nm e), eN (gE nm e)] (xa_cons xv_str (xa_cons (xv_var rfl) (xa_cons (xv_var rfl) (xa_cons (xv_var rfl) xa_nil)))) (by show 4 ≤ 100000; decide))⟩)) (rf_cat vl_d vl_d ?_)) rfl rfl (fun H v p => ?_) hR
  · rw [List.length_map, List.length_map, List.length_range]
    show 1 + _ ≤ _
    omega
  · rw [List.map_map] at p
    have e1 : (stepsTo nm.length (k, e)).map (eStp nm) = [PyData.tuple [.str "in", eN (gS nm e), eN (gE nm e)]] ++ (List.range (dst (i0 nm.length e) k - 1)).map ((fun x => PyData.tuple [.str "on", eN x, eN (gS nm e), eN (gE nm e)]) ∘ fun t => at0 nm (posAt (i0 nm.length e) k (t + 1))) := by
      unfold stepsTo
      rw [List.map_cons, List.map_map]
      rfl
    rw [e1]
    exact Fz.lst p
abbrev s_end_gate : Stmt := topS 62
abbrev N_end_gate : List PySem.Str := ["country", "yard", "ahead", "gate"]
theorem sc_end_gate : FnScope N_end_gate ["country", "yard", "ahead"] (defScope s_end_gate) := ⟨rfl, rfl, rfl, by decide +kernel, rfl, by decide +kernel, by decide +kernel⟩
def R_end_gate (CC : Addr) : List PP → PP → Prop := fun Ps T => ∃ nm i j e, LineOk nm ∧ (0 < i ∧ i < nm.length - 1) ∧ j = (if e then i + 1 else i - 1) ∧ Ps = [Cy CC nm, DI (at0 nm i : Nat), DI (at0 nm j : Nat)] ∧ T = DI (gS nm e : Nat)
theorem ok_end_gate (F : Df K mg "end_gate" s_end_gate ["country", "yard", "ahead"]) (T : Txt K mg CC CW) (c_gates_in : Cal P w K mg base "gates_in" ["country"] 1 (spF (R_gates_in CC))) (c_step_towards : Cal P w K mg base "step_towards" ["country", "place", "goal"] 1 (spF (R_step_towards CC))) : Cal P w K mg base "end_gate" ["country", "yard", "ahead"] 2 (spF (R_end_gate CC)) := by
  refine F.ok sc_end_gate (fun Ps T ⟨_, _, _, _, _, _, _, h, _⟩ => by rw [h]; rfl) fun f cdv A outer s H E hr => ⟨_,
    (pss_one (ps_ret (pe_callB (cr_min rfl) (by rfl) T.min boot_min (pa_cons (pe_lc (own := [("gate", 3)]) (g := (gName 3))  (by rfl) sc_end_gate.nd (pi_list (pe_cal c_gates_in (hr.mono (by decide)) rfl (pa_cons (pv 0) pa_nil))) (blkOk_by (own := [("gate", 3)]) (N := N_end_gate) (sc := defScope s_end_gate) (by decide +kernel)) (fun _ _ _ _ _ => (pg_name (i := 3) sc_end_gate.nd rfl (by first | exact Or.inl rfl | exact Or.inr rfl))) (fun _ _ _ _ _ => (pts_one (pt_cmpR (r := rNeD K) (op_neD hr.units) (pe_cal c_step_towards (hr.mono (by decide)) rfl (pa_cons (pv 0) (pa_cons (pv 1) (pa_cons (pv 3) pa_nil)))) (pv 2) (nomark _)))) (fun _ _ _ _ _ => (pv 3))) pa_nil)))), ?_⟩
  rintro B M0 Ps T' D' ⟨nm, i, j, e, L, hi, hj, rfl, rfl⟩ hR _
  have hl := L.len
  have hfil : ([0, nm.length - 1].filter fun q => decide (at0 nm (Mir.nxt i q) ≠ at0 nm j)).map (fun q => eN (at0 nm q)) = [((gS nm e : Nat) : Int)].map PyData.int := by
    have n0 : Mir.nxt i 0 = i - 1 := by unfold Mir.nxt; rw [if_neg (by omega), if_pos (by omega)]
    have n1 : Mir.nxt i (nm.length - 1) = i + 1 := by unfold Mir.nxt; rw [if_pos (by omega)]
    have hne : at0 nm (i - 1) ≠ at0 nm (i + 1) := fun z => by
      have := L.inj (i := i - 1) (j := i + 1) (by omega) (by omega) z
      omega
    cases e with
    | true =>
      rw [if_pos rfl] at hj
      subst hj
      rw [List.filter_cons_of_pos (by rw [n0]; simpa using hne), List.filter_cons_of_neg (by rw [n1]; simp)]
      rfl
    | false =>
      rw [if_neg (by decide)] at hj
      subst hj
      rw [List.filter_cons_of_neg (by rw [n0]; simp), List.filter_cons_of_pos (by rw [n1]; simpa using hne.symm)]
      rfl
  refine xs_ret (T := DI (gS nm e : Nat)) (xv_cb (xa_cons (Xv.lst (xf_filter (ml := []) (items := [0, nm.length - 1]) 0 (fun q => decide (at0 nm (Mir.nxt i q) ≠ at0 nm j)) (fun q => eN (at0 nm q)) (xi_encL (items := [0, nm.length - 1]) 0 (fun q => eN (at0 nm q)) (xv_call (xa_cons (xv_var rfl) xa_nil) ⟨nm, L, rfl, rfl⟩)) (fun q hq => nomatch hq) (by show 2 ≤ 100000; decide) fun m gl l acc hm => ⟨_, _, xg_name, fun j hj => hj, ?_, fun _ => xv_var rfl⟩)) xa_nil) (rc_minL (ns := [((gS nm e : Nat) : Int)]) (by rw [hfil]; exact vl_d) (fun k hk _ => List.mem_singleton.mp hk) Nat.one_pos)) rfl rfl (fun H v p => p) hR
  refine (xt_test (xv_op (xv_call (xa_cons (xv_var rfl) (xa_cons (xv_var rfl) (xa_cons (xv_var rfl) xa_nil))) ⟨nm, i, [0, nm.length - 1].getD m 0, L, by omega, ?_, rfl, rfl⟩) (xv_var rfl) (ro_neD vd_d vd_d (shaped_flat rfl) (shaped_flat rfl)))).eq ?_
  · rw [eqv_nat, decide_not]
  · have hm2 : m < 2 := hm
    rcases (show m = 0 ∨ m = 1 by omega) with rfl | rfl
    · show 0 < nm.length; omega
    · show nm.length - 1 < nm.length; omega
abbrev s_script_to : Stmt := topS 64
abbrev N_script_to : List PySem.Str := ["country", "carts", "found", "cart"]
theorem sc_script_to : FnScope N_script_to ["country", "carts"] (defScope s_script_to) := ⟨rfl, rfl, rfl, by decide +kernel, rfl, by decide +kernel, by decide +kernel⟩
def R_script_to (CC : Addr) : List PP → PP → Prop := fun Ps T => ∃ (nm : List Nat) (cs : List Crt), LineOk nm ∧ (∀ c ∈ cs, c.1 < nm.length) ∧ cs.length ≤ 100 ∧ Ps = [Cy CC nm, DL (cs.map (eCart nm))] ∧ T = DL ((cs.flatMap (stepsTo nm.length)).map (eStp nm))
theorem ok_script_to (F : Df K mg "script_to" s_script_to ["country", "carts"]) (T : Txt K mg CC CW) (c_steps_to : Cal P w K mg base "steps_to" ["country", "cart"] 2 (spF (R_steps_to CC))) : Cal P w K mg base "script_to" ["country", "carts"] 3 (spF (R_script_to CC)) := by
  refine F.ok sc_script_to (fun Ps T ⟨_, _, _, _, _, h, _⟩ => by rw [h]; rfl) fun f cdv A outer s H E hr => ⟨_,
    (pss_cons (ps_set (i := 2) sc_script_to.nd rfl (.inl rfl) (pe_lst pa_nil))
      (pss_cons (ps_for PassesOwn.never rfl (pi_list (pv 1)) (pg_name (i := 3) sc_script_to.nd rfl (.inl rfl))
        (pss_one (ps_expr (pe_bm PySem.F.plainAttrs_list PySem.F.slot_list_extend PySem.F.type_list_extend mt_extend (pv 2) (pa_cons (pe_cal c_steps_to (hr.mono (by decide)) rfl (pa_cons (pv 0) (pa_cons (pv 3) pa_nil))) pa_nil)))))
      (pss_one (ps_ret (pv 2))))), ?_⟩
  rintro B M0 Ps T' D' ⟨nm, cs, L, hc, hcl, rfl, rfl⟩ hR _
  have hl := L.len
  refine xs_seq (xs_setF (xf_lst [] xa_nil (by decide)) fun l => nx_x ?_)
  let fo : Nat → List Stp := fun i => (cs.take i).flatMap (stepsTo nm.length)
  have fl : ∀ i, i ≤ cs.length → (fo i).length ≤ i * 10 ∧ ∀ c, c.1 < nm.length → (stepsTo nm.length c).length ≤ 10 := fun i hi => by
    have h1 : ∀ c : Crt, c.1 < nm.length → (stepsTo nm.length c).length ≤ 10 := fun c hc => by
      unfold stepsTo
      rw [List.length_cons, List.length_map, List.length_range]
      have := dst_lt (i := i0 nm.length c.2) (j := c.1) (n := nm.length) (by unfold i0; split <;> omega) hc
      omega
    refine ⟨?_, h1⟩
    induction i with
    | zero => simp [fo]
    | succ i ih =>
      have e1 : fo (i + 1) = fo i ++ stepsTo nm.length (cs.getD i (0, false)) := by
        show (cs.take (i + 1)).flatMap _ = _
        rw [List.take_add_one, getD_get (0, false) (show i < cs.length by omega), List.flatMap_append]
        simp [fo]
      rw [e1, List.length_append, Nat.add_one_mul]
      exact Nat.add_le_add (ih (by omega)) (h1 _ (hc _ (List.mem_of_getElem? (getD_get _ (by omega)))))
  refine xs_seq (xs_for (I := fun i => ⟨B, M0, [(l, LF ((fo i).map (eStp nm)))], [some (Cy CC nm), some (DL (cs.map (eCart nm))), some (Rf l), none], []⟩) (xi_encL (items := cs) (0, false) (eCart nm) (xv_var rfl)) (fun _ _ q hq => nomatch hq) (ghs_weak (wk_refl _)) (fun i gl hi => ?_) (nx_x ?_))
  · have hcc := hc _ (List.mem_of_getElem? (getD_get (0, false) hi))
    have h1 := (fl i (by omega)).1
    have h2 := (fl i (by omega)).2 _ hcc
    refine xb_mk xg_name (xs_drop (xv_ext (k := 0) (es := (stepsTo nm.length (cs.getD i (0, false))).map (eStp nm)) (xv_var rfl) (xv_call (xa_cons (xv_var rfl) (xa_cons (xv_var rfl) xa_nil)) ⟨nm, _, L, hcc, rfl, rfl⟩) rfl rfl (by rw [List.length_map, List.length_map]; omega)) fun σ H e => ?_)
    show En (Ct.ghs ⟨B, M0, [(l, LF ((fo (i + 1)).map (eStp nm)))], [some (Cy CC nm), some (DL (cs.map (eCart nm))), some (Rf l), none], []⟩ gl) σ H
    have e1 : fo (i + 1) = fo i ++ stepsTo nm.length (cs.getD i (0, false)) := by
      show (cs.take (i + 1)).flatMap _ = _
      rw [List.take_add_one, getD_get (0, false) hi, List.flatMap_append]
      simp [fo]
    rw [e1, List.map_append]
    exact e.weak (.keep (.keep (.keep (.drop .nil)))) fun _ z => z
  · refine xs_retM (T := DL ((cs.flatMap (stepsTo nm.length)).map (eStp nm))) (k := 0) (xv_var rfl) rfl rfl rfl (fun H v p => ?_) hR
    have e : fo cs.length = cs.flatMap (stepsTo nm.length) := by
      show (cs.take cs.length).flatMap _ = _
      rw [List.take_length]
    rw [e] at p
    exact Fz.lst p
abbrev s_placed : Stmt := topS 63
abbrev N_placed : List PySem.Str := ["country", "way", "easts", "wests", "start", "end", "found", "at"]
theorem sc_placed : FnScope N_placed ["country", "way", "easts", "wests"] (defScope s_placed) := ⟨rfl, rfl, rfl, by decide +kernel, rfl, by decide +kernel, by decide +kernel⟩
def R_placed (CC : Addr) : List PP → PP → Prop := fun Ps T => ∃ (nm : List Nat) (A L : Nat) (es ws : List Nat), LineOk nm ∧ 1 ≤ A ∧ 2 ≤ L ∧ A + L ≤ nm.length - 1 ∧ es.length = L ∧ ws.length = L ∧ (∀ e ∈ es, e ≤ 100) ∧ (∀ e ∈ ws, e ≤ 100) ∧ Ps = [Cy CC nm, DL (eNs (wayAB nm A L)), DL (eNs es), DL (eNs ws)] ∧ T = DL ((placedM A L es ws).map (eCart nm))
theorem getD_le {l : List Nat} {m : Nat} (h : ∀ e ∈ l, e ≤ m) (i : Nat) : l.getD i 0 ≤ m := by
  by_cases hi : i < l.length
  · exact h _ (List.mem_of_getElem? (getD_get 0 hi))
  · rw [List.getD_eq_getElem?_getD, List.getElem?_eq_none (by omega)]
    exact Nat.zero_le _
theorem ok_placed (F : Df K mg "placed" s_placed ["country", "way", "easts", "wests"]) (T : Txt K mg CC CW) (c_end_gate : Cal P w K mg base "end_gate" ["country", "yard", "ahead"] 2 (spF (R_end_gate CC))) : Cal P w K mg base "placed" ["country", "way", "easts", "wests"] 3 (spF (R_placed CC)) := by
  refine F.ok sc_placed (fun Ps T ⟨_, _, _, _, _, _, _, _, _, _, _, _, _, h, _⟩ => by rw [h]; rfl) fun f cdv A outer s H E hr => ⟨_,
    (pss_cons (ps_par (i := 4) (j := 5) (by rfl) sc_placed.nd rfl rfl (by decide) rfl rfl (pa_cons (pe_cal c_end_gate (hr.mono (by decide)) rfl (pa_cons (pv 0) (pa_cons (pe_ix ix_seq (pv 1) pe_int (fun _ _ => rfl)) (pa_cons (pe_ix ix_seq (pv 1) pe_int (fun _ _ => rfl)) pa_nil)))) (pa_cons (pe_cal c_end_gate (hr.mono (by decide)) rfl (pa_cons (pv 0) (pa_cons (pe_ix ix_seq (pv 1) (pe_un un_neg pe_int) (fun _ _ => rfl)) (pa_cons (pe_ix ix_seq (pv 1) (pe_un un_neg pe_int) (fun _ _ => rfl)) pa_nil)))) pa_nil)) (by rfl))
      (pss_cons (ps_set (i := 6) sc_placed.nd rfl (.inl rfl) (pe_lst pa_nil))
      (pss_cons (ps_for PassesOwn.never rfl (pi_range2 rfl T.range (pa_cons pe_int (pa_cons (pe_op op_sub (pe_callB call_len (by rfl) T.len PySem.boot_len (pa_cons (pv 1) pa_nil)) pe_int) pa_nil))) (pg_name (i := 7) sc_placed.nd rfl (.inl rfl))
        (pss_one (ps_expr (pe_bm PySem.F.plainAttrs_list PySem.F.slot_list_extend PySem.F.type_list_extend mt_extend (pv 6) (pa_cons (pe_op op_rep (pe_lst (pa_cons (pe_tup (pa_cons (pe_ix ix_seq (pv 1) (pv 7) (fun _ _ => rfl)) (pa_cons (pv 5) (pa_cons (pv 4) pa_nil)))) pa_nil)) (pe_ix ix_seq (pv 3) (pv 7) (fun _ _ => rfl))) pa_nil)))))
      (pss_cons (ps_for PassesOwn.never rfl (pi_range3 rfl T.range (pa_cons (pe_op op_sub (pe_callB call_len (by rfl) T.len PySem.boot_len (pa_cons (pv 1) pa_nil)) pe_int) (pa_cons pe_int (pa_cons (pe_un un_neg pe_int) pa_nil)))) (pg_name (i := 7) sc_placed.nd rfl (.inl rfl))
        (pss_one (ps_expr (pe_bm PySem.F.plainAttrs_list PySem.F.slot_list_extend PySem.F.type_list_extend mt_extend (pv 6) (pa_cons (pe_op op_rep (pe_lst (pa_cons (pe_tup (pa_cons (pe_ix ix_seq (pv 1) (pv 7) (fun _ _ => rfl)) (pa_cons (pv 4) (pa_cons (pv 5) pa_nil)))) pa_nil)) (pe_ix ix_seq (pv 2) (pv 7) (fun _ _ => rfl))) pa_nil)))))
      (pss_one (ps_ret (pe_op op_cat (pe_op op_cat (pv 6) (pe_op op_rep (pe_lst (pa_cons (pe_tup (pa_cons (pe_ix ix_seq (pv 1) pe_int (fun _ _ => rfl)) (pa_cons (pv 4) (pa_cons (pv 5) pa_nil)))) pa_nil)) (pe_ix ix_seq (pv 2) pe_int (fun _ _ => rfl)))) (pe_op op_rep (pe_lst (pa_cons (pe_tup (pa_cons (pe_ix ix_seq (pv 1) (pe_un un_neg pe_int) (fun _ _ => rfl)) (pa_cons (pv 5) (pa_cons (pv 4) pa_nil)))) pa_nil)) (pe_ix ix_seq (pv 3) (pe_un un_neg pe_int) (fun _ _ => rfl)))))))))), ?_⟩
  rintro B M0 Ps T' D' ⟨nm, A0, L, es, ws, hL, hA, hL2, hAL, hes, hws, be, bw, rfl, rfl⟩ hR _
  have hl := hL.len
  have wat : ∀ t, t < L → L2.atI (eNs (wayAB nm A0 L)) (t : Nat) = some (eN (at0 nm (A0 + t))) := fun t ht => atI_n (wayAB_at ht)
  have wlen : (eNs (wayAB nm A0 L)).length = L := by rw [eNs_len, wayAB, List.length_map, List.length_range]
  have wl1 : L2.atI (eNs (wayAB nm A0 L)) (-1) = some (eN (at0 nm (A0 + (L - 1)))) := atI_end (by rw [wlen]; exact wayAB_at (by omega))
  have wl2 : L2.atI (eNs (wayAB nm A0 L)) (-2) = some (eN (at0 nm (A0 + (L - 2)))) := atI_neg (k := 2) rfl (by rw [wlen]; omega) (by rw [wlen]; exact wayAB_at (by omega))
  have eat : ∀ t, t < L → L2.atI (eNs es) (t : Nat) = some (eN (es.getD t 0)) := fun t ht => atI_n (eNs_get (getD_get 0 (by omega)))
  have wst : ∀ t, t < L → L2.atI (eNs ws) (t : Nat) = some (eN (ws.getD t 0)) := fun t ht => atI_n (eNs_get (getD_get 0 (by omega)))
  have wsl : L2.atI (eNs ws) (-1) = some (eN (ws.getD (L - 1) 0)) := atI_end (by rw [eNs_len, hws]; exact eNs_get (getD_get 0 (by omega)))
  have be' : ∀ i, es.getD i 0 ≤ 100 := getD_le be
  have bw' : ∀ i, ws.getD i 0 ≤ 100 := getD_le bw
  refine xs_seq (xs_par (P := DI (gS nm true : Nat)) (R := DI (gS nm false : Nat)) (xa_cons (xv_call (xa_cons (xv_var rfl) (xa_cons (xv_op (xv_var rfl) xv_int (ro_ixL vl_d (wat 0 (by omega)))) (xa_cons (xv_op (xv_var rfl) xv_int (ro_ixL vl_d (wat 1 (by omega)))) xa_nil))) ⟨nm, A0, A0 + 1, true, hL, by omega, rfl, rfl, rfl⟩)
    (xa_cons (xv_call (xa_cons (xv_var rfl) (xa_cons (xv_op (xv_var rfl) (xv_un xv_int) (ro_ixL vl_d wl1)) (xa_cons (xv_op (xv_var rfl) (xv_un xv_int) (ro_ixL vl_d wl2)) xa_nil))) ⟨nm, A0 + (L - 1), A0 + (L - 2), false, hL, by omega, ?_, rfl, rfl⟩) xa_nil)) (nx_x ?_))
  · rw [if_neg (by decide)]; omega
  refine xs_seq (xs_setF (xf_lst [] xa_nil (by decide)) fun l => nx_x ?_)
  let ds : List (Option PP) := [some (Cy CC nm), some (DL (eNs (wayAB nm A0 L))), some (DL (eNs es)), some (DL (eNs ws)), some (DI (gS nm true : Nat)), some (DI (gS nm false : Nat)), some (Rf l), none]
  -- one item many times
  have rep : ∀ {C : Ct} {tp tk : TE} {c : Crt} {k : Nat}, Xv C tp (D (eCart nm c)) C → Xv C tk (DI (k : Nat)) C → k ≤ 100 → Xv C (tOp rRep (tLst (tCons tp tNil)) tk) (DL ((List.replicate k c).map (eCart nm))) C := fun {C tp tk c k} h1 h2 h3 => by
    have := Xv.lst (xf_op (Xv.lst (xf_lst [eCart nm c] (xa_cons h1 xa_nil) (by show 1 ≤ 100000; decide))) h2 (rf_rep vl_d (by omega) (by show 1 ≤ 10; decide)))
    rw [Int.toNat_natCast, rep_flat, ← List.map_replicate (f := eCart nm) (a := c)] at this
    exact this
  have p1l : ∀ i, (placed1 A0 ws i).length ≤ i * 100 := fun i => flatMap_len _ 100 (fun t => by rw [List.length_replicate]; exact bw' _) i
  have p2l : ∀ i, (placed2 A0 L es i).length ≤ i * 100 := fun i => flatMap_len _ 100 (fun t => by rw [List.length_replicate]; exact be' _) i
  refine xs_seq (xs_for (n := L - 2) (I := fun i => ⟨B, M0, [(l, LF ((placed1 A0 ws i).map (eCart nm)))], ds, []⟩) (((xi_rng2 (i := 1) (j := (L : Int) - 1) (XA.eq (xa_cons xv_int (xa_cons (xv_op (xv_cb (xa_cons (xv_var rfl) xa_nil) (rc_lenL vl_d)) xv_int ro_i0) xa_nil)) (by rw [wlen])) (by omega) (by omega)).len (by omega)).congr (Zs := fun m => DI ((m + 1 : Nat) : Int)) fun m _ => by rw [show (1 : Int) + (m : Nat) = ((m + 1 : Nat) : Int) by omega]) (fun _ _ q hq => nomatch hq) (ghs_weak (wk_refl _)) (fun i gl hi => ?_) (nx_x ?_))
  · have hpl := p1l i
    refine xb_mk xg_name (xs_drop (xv_ext (k := 0) (es := (List.replicate (ws.getD (i + 1) 0) (A0 + (i + 1), false)).map (eCart nm)) (xv_var rfl) (rep (Xv.tup (xf_tup [eN (at0 nm (A0 + (i + 1))), eN (gS nm false), eN (gE nm false)] (xa_cons (xv_op (xv_var rfl) (xv_var rfl) (ro_ixL vl_d (wat (i + 1) (by omega)))) (xa_cons (xv_var rfl) (xa_cons (xv_var rfl) xa_nil))) (by show 3 ≤ 100000; decide)))
      (xv_op (xv_var rfl) (xv_var rfl) (ro_ixL vl_d (wst (i + 1) (by omega)))) (bw' _)) rfl rfl ?_) fun σ H e => ?_)
    · rw [List.length_map, List.length_map, List.length_replicate]
      have := bw' (i + 1)
      omega
    · show En (Ct.ghs ⟨B, M0, [(l, LF ((placed1 A0 ws (i + 1)).map (eCart nm)))], ds, []⟩ gl) σ H
      unfold placed1
      rw [flatMap_succ, List.map_append]
      exact e.weak (.keep (.keep (.keep (.keep (.keep (.keep (.keep (.drop .nil)))))))) fun _ z => z
  refine xs_seq (xs_for (n := L - 2) (I := fun i => ⟨B, M0, [(l, LF ((placed1 A0 ws (L - 2) ++ placed2 A0 L es i).map (eCart nm)))], ds, []⟩) (((xi_rngDown (i := (L : Int) - 2) (j := 0) (XA.eq (xa_cons (xv_op (xv_cb (xa_cons (xv_var rfl) xa_nil) (rc_lenL vl_d)) xv_int ro_i0) (xa_cons xv_int (xa_cons (xv_un xv_int) xa_nil))) (by rw [wlen])) (by omega) (by omega)).len (by omega)).congr (Zs := fun m => DI ((L - 2 - m : Nat) : Int)) fun m hm => by rw [show (L : Int) - 2 - (m : Nat) = ((L - 2 - m : Nat) : Int) by omega]) (fun _ _ q hq => nomatch hq) (fun gl σ H e => by
      show En (Ct.ghs ⟨B, M0, [(l, LF ((placed1 A0 ws (L - 2) ++ placed2 A0 L es 0).map (eCart nm)))], ds, []⟩ gl) σ H
      rw [show placed2 A0 L es 0 = [] from rfl, List.append_nil]
      exact e) (fun i gl hi => ?_) (nx_x ?_))
  · have hpl := p1l (L - 2)
    have hpl2 := p2l i
    refine xb_mk xg_name (xs_drop (xv_ext (k := 0) (es := (List.replicate (es.getD (L - 2 - i) 0) (A0 + (L - 2 - i), true)).map (eCart nm)) (xv_var rfl) (rep (Xv.tup (xf_tup [eN (at0 nm (A0 + (L - 2 - i))), eN (gS nm true), eN (gE nm true)] (xa_cons (xv_op (xv_var rfl) (xv_var rfl) (ro_ixL vl_d (wat (L - 2 - i) (by omega)))) (xa_cons (xv_var rfl) (xa_cons (xv_var rfl) xa_nil))) (by show 3 ≤ 100000; decide)))
      (xv_op (xv_var rfl) (xv_var rfl) (ro_ixL vl_d (eat (L - 2 - i) (by omega)))) (be' _)) rfl rfl ?_) fun σ H e => ?_)
    · rw [List.length_map, List.length_map, List.length_replicate, List.length_append]
      have := be' (L - 2 - i)
      omega
    · show En (Ct.ghs ⟨B, M0, [(l, LF ((placed1 A0 ws (L - 2) ++ placed2 A0 L es (i + 1)).map (eCart nm)))], ds, []⟩ gl) σ H
      have e1 : placed2 A0 L es (i + 1) = placed2 A0 L es i ++ List.replicate (es.getD (L - 2 - i) 0) (A0 + (L - 2 - i), true) := by unfold placed2; rw [flatMap_succ]
      rw [e1, ← List.append_assoc, List.map_append (l₁ := placed1 A0 ws (L - 2) ++ placed2 A0 L es i)]
      exact e.weak (.keep (.keep (.keep (.keep (.keep (.keep (.keep (.drop .nil)))))))) fun _ z => z
  have hpl := p1l (L - 2)
  have hpl2 := p2l (L - 2)
  refine xs_retF (T := DL ((placedM A0 L es ws).map (eCart nm))) (xf_op (Xv.lst (xf_op (xv_var rfl) (rep (c := (A0, true)) (k := es.getD 0 0) (Xv.tup (xf_tup [eN (at0 nm A0), eN (gS nm true), eN (gE nm true)] (xa_cons (xv_op (xv_var rfl) xv_int (ro_ixL vl_d (wat 0 (by omega)))) (xa_cons (xv_var rfl) (xa_cons (xv_var rfl) xa_nil))) (by show 3 ≤ 100000; decide)))
      (xv_op (xv_var rfl) xv_int (ro_ixL vl_d (eat 0 (by omega)))) (be' _)) (rf_cat (vl_r (k := 0) rfl) vl_d ?_)))
    (rep (c := (A0 + (L - 1), false)) (k := ws.getD (L - 1) 0) (Xv.tup (xf_tup [eN (at0 nm (A0 + (L - 1))), eN (gS nm false), eN (gE nm false)] (xa_cons (xv_op (xv_var rfl) (xv_un xv_int) (ro_ixL vl_d wl1)) (xa_cons (xv_var rfl) (xa_cons (xv_var rfl) xa_nil))) (by show 3 ≤ 100000; decide)))
      (xv_op (xv_var rfl) (xv_un xv_int) (ro_ixL vl_d wsl)) (bw' _)) (rf_cat vl_d vl_d ?_)) rfl rfl (fun H v p => ?_) hR
  · have := be' 0
    rw [List.length_map, List.length_map, List.length_replicate, List.length_append]
    omega
  · have := be' 0
    have := bw' (L - 1)
    rw [List.length_append, List.length_map, List.length_map, List.length_map, List.length_replicate, List.length_replicate, List.length_append]
    omega
  · rw [← List.map_append, ← List.map_append] at p
    exact Fz.lst p
end
end K74

set_option Elab.async false
set_option linter.all false
set_option maxRecDepth 100000
set_option maxHeartbeats 4000000
namespace K74
open PySem PySem.Spec PyProof.Rows L2
/-! ### numbers of a line -/
abbrev eR (r : R3) : PyData := .tuple [eN r.1, eN r.2.1, eN r.2.2]
def hLow (r : R3) : Nat := min r.2.1 (r.1 - r.2.2)
def hLeft (r : R3) : Nat := min r.2.2 (r.1 - r.2.1)
def hAll (r : R3) : Nat := min r.1 (r.2.1 + r.2.2)
def held (r : R3) : R3 := (hLow r, hLeft r, hAll r)
theorem cutP_nat {α : Type} (xs : List α) (i j : Nat) (hi : i ≤ xs.length) (hj : j ≤ xs.length) : cutP xs (some (i : Int)) (some (j : Int)) = (xs.drop i).take (j - i) := by
  unfold cutP
  rw [HT.sIx_nat, HT.sIx_nat, Nat.min_eq_left hi, Nat.min_eq_left hj]
abbrev R6 := Nat × Nat × Nat × Nat × Nat × Nat
abbrev e6 (r : R6) : PyData := .tuple [eN r.1, eN r.2.1, eN r.2.2.1, eN r.2.2.2.1, eN r.2.2.2.2.1, eN r.2.2.2.2.2]
abbrev l6 (r : R6) : List Int := [(r.1 : Int), (r.2.1 : Int), (r.2.2.1 : Int), (r.2.2.2.1 : Int), (r.2.2.2.2.1 : Int), (r.2.2.2.2.2 : Int)]
abbrev r3At (rows : List R3) (i : Nat) : R3 := rows.getD i (0, 0, 0)
def betw (rows : List R3) (a b : Nat) : List R3 := (rows.drop (a + 1)).take (b - (a + 1))
def sOk (rows : List R3) (a b : Nat) : Bool := decide ((r3At rows a).2.1 = (r3At rows a).1) && decide ((r3At rows b).2.2 = (r3At rows b).1)
def sRow (rows : List R3) (a b : Nat) : R6 :=
  (b - a, a, b, (r3At rows a).1 + ((betw rows a b).map hLow).sum, (r3At rows b).1 + ((betw rows a b).map hLeft).sum, (r3At rows a).1 + (r3At rows b).1 + ((betw rows a b).map hAll).sum)
def sIn (rows : List R3) (a n : Nat) : List R6 := ((List.range n).filter fun t => sOk rows a (a + 1 + t)).map fun t => sRow rows a (a + 1 + t)
def stickRows (rows : List R3) : List R6 := (List.range rows.length).flatMap fun a => sIn rows a (rows.length - (a + 1))
theorem sIn_succ (rows : List R3) (a n : Nat) : sIn rows a (n + 1) = sIn rows a n ++ if sOk rows a (a + 1 + n) then [sRow rows a (a + 1 + n)] else [] := by
  unfold sIn
  rw [List.range_succ, List.filter_append, List.map_append]
  congr 1
  by_cases h : sOk rows a (a + 1 + n) = true
  · simp [h]
  · simp [h]
theorem sIn_len (rows : List R3) (a n : Nat) : (sIn rows a n).length ≤ n := by
  unfold sIn
  rw [List.length_map]
  have := List.length_filter_le (fun t => sOk rows a (a + 1 + t)) (List.range n)
  rw [List.length_range] at this
  exact this
def bd3 (rows : List R3) : Prop := ∀ r ∈ rows, r.2.1 ≤ r.1 ∧ r.2.2 ≤ r.1
section
variable {P : Program} {w : World} {K : PySem.W.Frag} {mg : PySem.Str → Option Value} {base : Heap} {CC CW : Addr}
abbrev s_are_in_line : Stmt := topS 66
abbrev N_are_in_line : List PySem.Str := ["web", "yard"]
theorem sc_are_in_line : FnScope N_are_in_line ["web"] (defScope s_are_in_line) := ⟨rfl, rfl, rfl, by decide +kernel, rfl, by decide +kernel, by decide +kernel⟩
theorem ok_are_in_line (F : Df K mg "are_in_line" s_are_in_line ["web"]) (T : Txt K mg CC CW) (c_are_bounded : Cal P w K mg base "are_bounded" ["web"] 6 (spF (R_are_bounded CC CW))) (c_yards_in : Cal P w K mg base "yards_in" ["country"] 1 (spF (R_yards_in CC))) (c_beside : Cal P w K mg base "beside" ["country", "place"] 1 (spF (R_beside CC))) (cp_country : CalP P w K mg base CW "country" 1 (spF (R_wcountry CC CW))) : Cal P w K mg base "are_in_line" ["web"] 7 (spF (R_are_bounded CC CW)) := by
  refine F.ok sc_are_in_line (fun Ps T ⟨_, _, _, h, _⟩ => by rw [h]; rfl) fun f cdv A outer s H E hr => ⟨_,
    (pss_one (ps_ret (pe_and (pe_cal c_are_bounded (hr.mono (by decide)) rfl (pa_cons (pv 0) pa_nil)) (pe_one (pe_callB (cr_all rfl) (by rfl) T.all boot_all (pa_cons (pe_lc (own := [("yard", 1)]) (g := (gName 1)) (tt := tYes) (by rfl) sc_are_in_line.nd (pi_list (pe_cal c_yards_in (hr.mono (by decide)) rfl (pa_cons (pe_pr cp_country T.cW (hr.mono (by decide)) (pv 0)) pa_nil))) (blkOk_by (own := [("yard", 1)]) (N := N_are_in_line) (sc := defScope s_are_in_line) (by decide +kernel)) (fun _ _ _ _ _ => (pg_name (i := 1) sc_are_in_line.nd rfl (by first | exact Or.inl rfl | exact Or.inr rfl))) (fun _ _ _ _ _ => pts_nil) (fun _ _ _ _ _ => (pe_cmpR (r := rEqD K) (op_eqD hr.units) (pe_callB (r := rLenV K) call_len (by rfl) T.len PySem.boot_len (pa_cons (pe_cal c_beside (hr.mono (by decide)) rfl (pa_cons (pe_pr cp_country T.cW (hr.mono (by decide)) (pv 0)) (pa_cons (pv 1) pa_nil))) pa_nil)) pe_int (nomark _)))) pa_nil)))))), ?_⟩
  rintro B M0 Ps T' D' ⟨nm, rows, h, rfl, rfl⟩ hR _
  have hyl := h.ylen
  have hrl := h.R.len
  have hn := h.n
  refine xs_ret (T := DB true) (P := DB (true && true)) (xv_and (a := true) (b := true) (xv_call (xa_cons (xv_var rfl) xa_nil) ⟨nm, rows, h, rfl, rfl⟩) fun _ => (xv_cb (xa_cons (Xv.lst (xf_mapB (ml := []) (items := yardsOf nm) 0 (fun _ => true) (xi_encL (items := yardsOf nm) 0 eN (xv_call (xa_cons (xv_prop (xv_var rfl) Ob.ins ⟨nm, rows, rfl, rfl⟩) xa_nil) ⟨nm, h.L, rfl, rfl⟩)) (fun q hq => nomatch hq) (by omega) fun i gl l acc hi => ⟨_, _, xg_name, fun j hj => hj, ?_⟩)) xa_nil) (rc_all vl_d)).dat ?_) rfl rfl (fun H v p => p) hR
  · obtain ⟨k, h1, h2, e⟩ := h.yard (List.mem_of_getElem? (getD_get 0 hi))
    rw [← e]
    refine (xv_op (xv_cb (xa_cons (xv_call (xa_cons (xv_prop (xv_var rfl) Ob.ins ⟨nm, rows, rfl, rfl⟩) (xa_cons (xv_var rfl) xa_nil)) ⟨nm, at0 nm k, h.L, h.L.ltA (by omega), rfl, rfl⟩) xa_nil) (rc_lenL vl_d)) xv_int (ro_eqD vd_d vd_d (shaped_flat rfl) (shaped_flat rfl))).dat ?_
    rw [eNs_len, h.L.nlen (by omega), if_neg (by omega)]
    rfl
  · rw [all_id, List.all_eq_true.mpr fun _ _ => rfl]
abbrev s_want_line : Stmt := topS 67
abbrev N_want_line : List PySem.Str := ["web", "found"]
theorem sc_want_line : FnScope N_want_line ["web"] (defScope s_want_line) := ⟨rfl, rfl, rfl, by decide +kernel, rfl, by decide +kernel, by decide +kernel⟩
def R_want_line (CC CW : Addr) : List PP → PP → Prop := fun Ps T => ∃ nm rows, LR nm rows ∧ Ps = [We CC CW nm rows] ∧ T = We CC CW nm rows
theorem ok_want_line (F : Df K mg "want_line" s_want_line ["web"]) (T : Txt K mg CC CW) (c_want_web : Cal P w K mg base "want_web" ["value"] 1 (spF (R_want_web CC CW))) (c_are_in_line : Cal P w K mg base "are_in_line" ["web"] 7 (spF (R_are_bounded CC CW))) : Cal P w K mg base "want_line" ["web"] 8 (spF (R_want_line CC CW)) := by
  refine F.ok sc_want_line (fun Ps T ⟨_, _, _, h, _⟩ => by rw [h]; rfl) fun f cdv A outer s H E hr => ⟨_,
    (pss_cons (ps_set (i := 1) sc_want_line.nd rfl (.inl rfl) (pe_cal c_want_web (hr.mono (by decide)) rfl (pa_cons (pv 0) pa_nil)))
      (pss_cons (ps_if (pt_not (pt_val (pe_cal c_are_in_line (hr.mono (by decide)) rfl (pa_cons (pv 1) pa_nil)))) pss_never pss_nil)
      (pss_one (ps_ret (pv 1))))), ?_⟩
  rintro B M0 Ps T' D' ⟨nm, rows, h, rfl, rfl⟩ hR _
  refine xs_seq (xs_set (xv_call (xa_cons (xv_var rfl) xa_nil) ⟨nm, rows, rfl, rfl⟩) (nx_x ?_))
  exact xs_seq (xs_no (xt_not (b := true) (xt_b (xv_call (xa_cons (xv_var rfl) xa_nil) ⟨nm, rows, h, rfl, rfl⟩))) (xs_next (nx_x (xs_ret (T := We CC CW nm rows) (xv_var rfl) rfl rfl (fun H v p => p) hR))))
abbrev s_line_yards : Stmt := topS 68
abbrev N_line_yards : List PySem.Str := ["web", "gates"]
theorem sc_line_yards : FnScope N_line_yards ["web"] (defScope s_line_yards) := ⟨rfl, rfl, rfl, by decide +kernel, rfl, by decide +kernel, by decide +kernel⟩
def R_line_yards (CC CW : Addr) : List PP → PP → Prop := fun Ps T => ∃ nm rows, LR nm rows ∧ Ps = [We CC CW nm rows] ∧ T = DL (eNs (wayAB nm 0 nm.length))
theorem path_whole (nm : List Nat) (h : 3 ≤ nm.length) : pathN nm 0 (nm.length - 1) = wayAB nm 0 nm.length := by
  unfold pathN wayAB dst posAt
  rw [if_pos (Nat.zero_le _), show nm.length - 1 - 0 + 1 = nm.length by omega]
  refine List.map_congr_left fun t _ => ?_
  rw [if_pos (Nat.zero_le _)]
theorem ok_line_yards (F : Df K mg "line_yards" s_line_yards ["web"]) (T : Txt K mg CC CW) (c_gates_in : Cal P w K mg base "gates_in" ["country"] 1 (spF (R_gates_in CC))) (c_way_between : Cal P w K mg base "way_between" ["country", "start", "end"] 1 (spF (R_way_between CC))) (cp_country : CalP P w K mg base CW "country" 1 (spF (R_wcountry CC CW))) : Cal P w K mg base "line_yards" ["web"] 3 (spF (R_line_yards CC CW)) := by
  refine F.ok sc_line_yards (fun Ps T ⟨_, _, _, h, _⟩ => by rw [h]; rfl) fun f cdv A outer s H E hr => ⟨_,
    (pss_cons (ps_set (i := 1) sc_line_yards.nd rfl (.inl rfl) (pe_cal c_gates_in (hr.mono (by decide)) rfl (pa_cons (pe_pr cp_country T.cW (hr.mono (by decide)) (pv 0)) pa_nil)))
      (pss_one (ps_ret (pe_cal c_way_between (hr.mono (by decide)) rfl (pa_cons (pe_pr cp_country T.cW (hr.mono (by decide)) (pv 0)) (pa_cons (pe_ix ix_seq (pv 1) pe_int (fun _ _ => rfl)) (pa_cons (pe_ix ix_seq (pv 1) pe_int (fun _ _ => rfl)) pa_nil))))))), ?_⟩
  rintro B M0 Ps T' D' ⟨nm, rows, h, rfl, rfl⟩ hR _
  have hl := h.L.len
  refine xs_seq (xs_set (xv_call (xa_cons (xv_prop (xv_var rfl) Ob.ins ⟨nm, rows, rfl, rfl⟩) xa_nil) ⟨nm, h.L, rfl, rfl⟩) (nx_x ?_))
  refine xs_ret (T := DL (eNs (wayAB nm 0 nm.length))) (xv_call (xa_cons (xv_prop (xv_var rfl) Ob.ins ⟨nm, rows, rfl, rfl⟩) (xa_cons (xv_op (xv_var rfl) xv_int (ro_ixL vl_d (d := eN (at0 nm 0)) rfl)) (xa_cons (xv_op (xv_var rfl) xv_int (ro_ixL vl_d (d := eN (at0 nm (nm.length - 1))) rfl)) xa_nil))) ⟨nm, 0, nm.length - 1, h.L, by omega, by omega, rfl, rfl⟩) rfl rfl (fun H v p => ?_) hR
  rw [path_whole nm hl.1] at p
  exact p
abbrev s_line_numbers : Stmt := topS 69
abbrev N_line_numbers : List PySem.Str := ["web", "way", "found", "at", "east", "west"]
theorem sc_line_numbers : FnScope N_line_numbers ["web"] (defScope s_line_numbers) := ⟨rfl, rfl, rfl, by decide +kernel, rfl, by decide +kernel, by decide +kernel⟩
def R_line_numbers (CC CW : Addr) : List PP → PP → Prop := fun Ps T => ∃ nm rows, LR nm rows ∧ Ps = [We CC CW nm rows] ∧ T = DL (rows.map eR)
theorem ok_line_numbers (F : Df K mg "line_numbers" s_line_numbers ["web"]) (T : Txt K mg CC CW) (c_line_yards : Cal P w K mg base "line_yards" ["web"] 3 (spF (R_line_yards CC CW))) (c_bound_towards : Cal P w K mg base "bound_towards" ["web", "yard", "target"] 6 (spF (R_bound_towards CC CW))) (c_places_at : Cal P w K mg base "places_at" ["web", "yard"] 6 (spF (R_places_at CC CW))) : Cal P w K mg base "line_numbers" ["web"] 7 (spF (R_line_numbers CC CW)) := by
  refine F.ok sc_line_numbers (fun Ps T ⟨_, _, _, h, _⟩ => by rw [h]; rfl) fun f cdv A outer s H E hr => ⟨_,
    (pss_cons (ps_set (i := 1) sc_line_numbers.nd rfl (.inl rfl) (pe_cal c_line_yards (hr.mono (by decide)) rfl (pa_cons (pv 0) pa_nil)))
      (pss_cons (ps_set (i := 2) sc_line_numbers.nd rfl (.inl rfl) (pe_lst pa_nil))
      (pss_cons (ps_for PassesOwn.never rfl (pi_range2 rfl T.range (pa_cons pe_int (pa_cons (pe_op op_sub (pe_callB call_len (by rfl) T.len PySem.boot_len (pa_cons (pv 1) pa_nil)) pe_int) pa_nil))) (pg_name (i := 3) sc_line_numbers.nd rfl (.inl rfl))
        (pss_cons (ps_par (i := 4) (j := 5) (by rfl) sc_line_numbers.nd rfl rfl (by decide) rfl rfl (pa_cons (pe_cal c_bound_towards (hr.mono (by decide)) rfl (pa_cons (pv 0) (pa_cons (pe_ix ix_seq (pv 1) (pv 3) (fun _ _ => rfl)) (pa_cons (pe_ix ix_seq (pv 1) (pe_op op_add (pv 3) pe_int) (fun _ _ => rfl)) pa_nil)))) (pa_cons (pe_cal c_bound_towards (hr.mono (by decide)) rfl (pa_cons (pv 0) (pa_cons (pe_ix ix_seq (pv 1) (pv 3) (fun _ _ => rfl)) (pa_cons (pe_ix ix_seq (pv 1) (pe_op op_sub (pv 3) pe_int) (fun _ _ => rfl)) pa_nil)))) pa_nil)) (by rfl))
        (pss_one (ps_expr (pe_bm PySem.F.plainAttrs_list PySem.F.slot_list_append PySem.F.type_list_append mt_append (pv 2) (pa_cons (pe_tup (pa_cons (pe_cal c_places_at (hr.mono (by decide)) rfl (pa_cons (pv 0) (pa_cons (pe_ix ix_seq (pv 1) (pv 3) (fun _ _ => rfl)) pa_nil))) (pa_cons (pv 4) (pa_cons (pv 5) pa_nil)))) pa_nil))))))
      (pss_one (ps_ret (pv 2)))))), ?_⟩
  rintro B M0 Ps T' D' ⟨nm, rows, h, rfl, rfl⟩ hR _
  have hl := h.L.len
  have hn := h.n
  have hrl := h.R.len
  have wlen : (eNs (wayAB nm 0 nm.length)).length = nm.length := by rw [eNs_len, wayAB, List.length_map, List.length_range]
  have wat : ∀ t, t < nm.length → L2.atI (eNs (wayAB nm 0 nm.length)) (t : Nat) = some (eN (at0 nm t)) := fun t ht => by
    have := atI_n (wayAB_at (nm := nm) (A := 0) ht)
    rw [Nat.zero_add] at this
    exact this
  refine xs_seq (xs_set (xv_call (xa_cons (xv_var rfl) xa_nil) ⟨nm, rows, h, rfl, rfl⟩) (nx_x ?_))
  refine xs_seq (xs_setF (xf_lst [] xa_nil (by decide)) fun l => nx_x ?_)
  let ds : List (Option PP) := [some (We CC CW nm rows), some (DL (eNs (wayAB nm 0 nm.length))), some (Rf l), none, none, none]
  refine xs_seq (xs_for (n := rows.length) (I := fun i => ⟨B, M0, [(l, LF ((rows.take i).map eR))], ds, []⟩) (((xi_rng2 (i := 1) (j := (nm.length : Int) - 1) (XA.eq (xa_cons xv_int (xa_cons (xv_op (xv_cb (xa_cons (xv_var rfl) xa_nil) (rc_lenL vl_d)) xv_int ro_i0) xa_nil)) (by rw [wlen])) (by omega) (by omega)).len (by omega)).congr (Zs := fun m => DI ((m + 1 : Nat) : Int)) fun m _ => by rw [show (1 : Int) + (m : Nat) = ((m + 1 : Nat) : Int) by omega]) (fun _ _ q hq => nomatch hq) (ghs_weak (wk_refl _)) (fun i gl hi => ?_) (nx_x ?_))
  · have hat : ∀ {C : Ct}, C.ds[1]? = some (some (DL (eNs (wayAB nm 0 nm.length)))) → C.ds[3]? = some (some (DI ((i + 1 : Nat) : Int))) → Xv C (tOp (rIx K) (tVar 1) (tVar 3)) (DI (at0 nm (i + 1) : Nat)) C := fun h1 h2 => xv_op (xv_var h1) (xv_var h2) (ro_ixL vl_d (wat (i + 1) (by omega)))
    refine xb_mk xg_name (xs_seq (xs_par (P := DI ((rowAt rows (i + 1)).2.1 : Nat)) (R := DI ((rowAt rows (i + 1)).2.2 : Nat)) (xa_cons (xv_call (xa_cons (xv_var rfl) (xa_cons (hat rfl rfl) (xa_cons (xv_op (xv_var rfl) (xv_op (xv_var rfl) xv_int ro_i0) (ro_ixL vl_d (d := eN (at0 nm (i + 1 + 1))) ?_)) xa_nil))) ⟨nm, rows, i + 1, h, by omega, by omega, .inl ⟨rfl, rfl⟩⟩)
      (xa_cons (xv_call (xa_cons (xv_var rfl) (xa_cons (hat rfl rfl) (xa_cons (xv_op (xv_var rfl) (xv_op (xv_var rfl) xv_int ro_i0) (ro_ixL vl_d (d := eN (at0 nm (i + 1 - 1))) ?_)) xa_nil))) ⟨nm, rows, i + 1, h, by omega, by omega, .inr ⟨rfl, rfl⟩⟩) xa_nil)) (nx_x
      (xs_drop (xv_app (k := 0) (d := eR (rowAt rows (i + 1))) (xv_var rfl) (Xv.tup (xf_tup [eN (rowAt rows (i + 1)).1, eN (rowAt rows (i + 1)).2.1, eN (rowAt rows (i + 1)).2.2] (xa_cons (xv_call (xa_cons (xv_var rfl) (xa_cons (hat rfl rfl) xa_nil)) ⟨nm, rows, i + 1, h, by omega, by omega, rfl, rfl⟩) (xa_cons (xv_var rfl) (xa_cons (xv_var rfl) xa_nil))) (by show 3 ≤ 100000; decide))) rfl rfl ?_) fun σ H e => ?_))))
    · have := wat (i + 1 + 1) (by omega)
      rw [show ((i + 1 : Nat) : Int) + 1 = ((i + 1 + 1 : Nat) : Int) by omega]
      exact this
    · have := wat (i + 1 - 1) (by omega)
      rw [show ((i + 1 : Nat) : Int) - 1 = ((i + 1 - 1 : Nat) : Int) by omega]
      exact this
    · rw [List.length_map, List.length_take]; omega
    · show En (Ct.ghs ⟨B, M0, [(l, LF ((rows.take (i + 1)).map eR))], ds, []⟩ gl) σ H
      have e1 : rows.take (i + 1) = rows.take i ++ [rowAt rows (i + 1)] := by rw [List.take_add_one, getD_get (0, 0, 0) hi]; rfl
      rw [e1, List.map_append]
      exact e.weak (.keep (.keep (.keep (.drop (.drop (.drop .nil)))))) fun _ z => z
  · rw [List.take_length]
    exact xs_retM (T := DL (rows.map eR)) (k := 0) (xv_var rfl) rfl rfl rfl (fun H v p => Fz.lst p) hR
abbrev s_held_between : Stmt := topS 70
abbrev N_held_between : List PySem.Str := ["number", "places", "east", "west"]
theorem sc_held_between : FnScope N_held_between ["number"] (defScope s_held_between) := ⟨rfl, rfl, rfl, by decide +kernel, rfl, by decide +kernel, by decide +kernel⟩
def R_held_between : List PP → PP → Prop := fun Ps T => ∃ r : R3, (r.2.1 ≤ r.1 ∧ r.2.2 ≤ r.1) ∧ Ps = [D (eR r)] ∧ T = D (eR (held r))
theorem ok_held_between (F : Df K mg "held_between" s_held_between ["number"]) (T : Txt K mg CC CW) : Cal P w K mg base "held_between" ["number"] 1 (spF R_held_between) := by
  refine F.ok sc_held_between (fun Ps T ⟨_, _, h, _⟩ => by rw [h]; rfl) fun f cdv A outer s H E hr => ⟨_,
    (pss_cons (ps_asg (pv 0) (pg_tup rfl (pgs_cons (pg_name (i := 1) sc_held_between.nd rfl (.inl rfl)) (pgs_cons (pg_name (i := 2) sc_held_between.nd rfl (.inl rfl)) (pgs_cons (pg_name (i := 3) sc_held_between.nd rfl (.inl rfl)) pgs_nil)))))
      (pss_one (ps_ret (pe_tup (pa_cons (pe_callB (call_min2 rfl) (by rfl) T.min boot_min (pa_cons (pv 2) (pa_cons (pe_op op_sub (pv 1) (pv 3)) pa_nil))) (pa_cons (pe_callB (call_min2 rfl) (by rfl) T.min boot_min (pa_cons (pv 3) (pa_cons (pe_op op_sub (pv 1) (pv 2)) pa_nil))) (pa_cons (pe_callB (call_min2 rfl) (by rfl) T.min boot_min (pa_cons (pv 1) (pa_cons (pe_op op_add (pv 2) (pv 3)) pa_nil))) pa_nil))))))), ?_⟩
  rintro B M0 Ps T' D' ⟨⟨p, e, v⟩, ⟨h1, h2⟩, rfl, rfl⟩ hR _
  have h1' : e ≤ p := h1
  have h2' : v ≤ p := h2
  refine xs_seq (xs_g (xv_var rfl) (xg_tup (ds := [eN p, eN e, eN v]) (xgs_cons xg_name (xgs_cons xg_name (xgs_cons xg_name xgs_nil))) rfl) (nx_x ?_))
  refine xs_ret (T := D (eR (held (p, e, v)))) (Xv.tup (xf_tup [eN (hLow (p, e, v)), eN (hLeft (p, e, v)), eN (hAll (p, e, v))] (XA.eq (xa_cons (xv_cb (xa_cons (xv_var rfl) (xa_cons (xv_op (xv_var rfl) (xv_var rfl) ro_i0) xa_nil)) rc_min2)
    (xa_cons (xv_cb (xa_cons (xv_var rfl) (xa_cons (xv_op (xv_var rfl) (xv_var rfl) ro_i0) xa_nil)) rc_min2)
    (xa_cons (xv_cb (xa_cons (xv_var rfl) (xa_cons (xv_op (xv_var rfl) (xv_var rfl) ro_i0) xa_nil)) rc_min2) xa_nil))) ?_) (by show 3 ≤ 100000; decide))) rfl rfl (fun H v p => p) hR
  show [DI (min (e : Int) (p - v)), DI (min (v : Int) (p - e)), DI (min (p : Int) (e + v))] = [DI ((min e (p - v) : Nat) : Int), DI ((min v (p - e) : Nat) : Int), DI ((min p (e + v) : Nat) : Int)]
  rw [show min (e : Int) (p - v) = ((min e (p - v) : Nat) : Int) by omega, show min (v : Int) (p - e) = ((min v (p - e) : Nat) : Int) by omega, show min (p : Int) (e + v) = ((min p (e + v) : Nat) : Int) by omega]
abbrev s_sticks_by : Stmt := topS 72
abbrev N_sticks_by : List PySem.Str := ["row", "east", "west"]
theorem sc_sticks_by : FnScope N_sticks_by ["row", "east", "west"] (defScope s_sticks_by) := ⟨rfl, rfl, rfl, by decide +kernel, rfl, by decide +kernel, by decide +kernel⟩
def stk (r : R6) (E W : Int) : Bool := decide ((r.2.2.2.1 : Int) ≤ E) && (decide ((r.2.2.2.2.1 : Int) ≤ W) && decide ((r.2.2.2.2.2 : Int) ≤ E + W))
def R_sticks_by : List PP → PP → Prop := fun Ps T => ∃ (r : R6) (E W : Int), Ps = [D (e6 r), DI E, DI W] ∧ T = DB (stk r E W)
theorem ok_sticks_by (F : Df K mg "sticks_by" s_sticks_by ["row", "east", "west"]) (T : Txt K mg CC CW) : Cal P w K mg base "sticks_by" ["row", "east", "west"] 1 (spF R_sticks_by) := by
  refine F.ok sc_sticks_by (fun Ps T ⟨_, _, _, h, _⟩ => by rw [h]; rfl) fun f cdv A outer s H E hr => ⟨_,
    (pss_one (ps_ret (pe_and (pe_cmpR op_le (pe_ix ix_seq (pv 0) pe_int (fun _ _ => rfl)) (pv 1) (nomark _)) (pe_and (pe_cmpR op_le (pe_ix ix_seq (pv 0) pe_int (fun _ _ => rfl)) (pv 2) (nomark _)) (pe_one (pe_cmpR op_le (pe_ix ix_seq (pv 0) pe_int (fun _ _ => rfl)) (pe_op op_add (pv 1) (pv 2)) (nomark _))))))), ?_⟩
  rintro B M0 Ps T' D' ⟨r, E0, W0, rfl, rfl⟩ hR _
  have v0 : ∀ {C : Ct}, Vt C (D (e6 r)) [eN r.1, eN r.2.1, eN r.2.2.1, eN r.2.2.2.1, eN r.2.2.2.2.1, eN r.2.2.2.2.2] := vt_d
  exact xs_ret (T := DB (stk r E0 W0)) (xv_and (xv_op (xv_op (xv_var rfl) xv_int (ro_ixT v0 rfl)) (xv_var rfl) ro_b0) fun _ => xv_and (xv_op (xv_op (xv_var rfl) xv_int (ro_ixT v0 rfl)) (xv_var rfl) ro_b0) fun _ => xv_op (xv_op (xv_var rfl) xv_int (ro_ixT v0 rfl)) (xv_op (xv_var rfl) (xv_var rfl) ro_i0) ro_b0) rfl rfl (fun H v p => p) hR
end
end K74

set_option Elab.async false
set_option linter.all false
set_option maxRecDepth 100000
set_option maxHeartbeats 4000000
namespace K74
open PySem PySem.Spec PyProof.Rows L2
theorem sum_cast : ∀ l : List Nat, (l.map fun n : Nat => (n : Int)).sum = ((l.sum : Nat) : Int)
  | [] => rfl
  | a :: r => by
    rw [List.map_cons, List.sum_cons, List.sum_cons, sum_cast r]
    omega
section
variable {P : Program} {w : World} {K : PySem.W.Frag} {mg : PySem.Str → Option Value} {base : Heap} {CC CW : Addr}
theorem rc_sumN {α : Type} {C : Ct} (l : List α) (f : α → Nat) : RC C (rSum K) [DL (l.map fun r => eN (f r))] (DI (((l.map f).sum : Nat) : Int)) := by
  have := rc_sum (K := K) (C := C) (P := DL (l.map fun r => eN (f r))) (ns := (l.map f).map fun n : Nat => (n : Int)) (by
    rw [List.map_map, List.map_map]
    exact vl_d)
  rw [sum_cast] at this
  exact this
abbrev s_stick_rows : Stmt := topS 71
abbrev N_stick_rows : List PySem.Str := ["numbers", "found", "a", "near", "b", "far", "held", "east", "west", "number", "one"]
theorem sc_stick_rows : FnScope N_stick_rows ["numbers"] (defScope s_stick_rows) := ⟨rfl, rfl, rfl, by decide +kernel, rfl, by decide +kernel, by decide +kernel⟩
def R_stick_rows : List PP → PP → Prop := fun Ps T => ∃ rows : List R3, rows.length ≤ 10 ∧ bd3 rows ∧ Ps = [DL (rows.map eR)] ∧ T = DL ((stickRows rows).map e6)
def accR (rows : List R3) (a : Nat) : List R6 := (List.range a).flatMap fun a => sIn rows a (rows.length - (a + 1))
theorem accR_len (rows : List R3) (a : Nat) : (accR rows a).length ≤ a * rows.length := flatMap_len _ rows.length (fun i => Nat.le_trans (sIn_len _ _ _) (by omega)) a
theorem ok_stick_rows (F : Df K mg "stick_rows" s_stick_rows ["numbers"]) (T : Txt K mg CC CW) (c_held_between : Cal P w K mg base "held_between" ["number"] 1 (spF R_held_between)) : Cal P w K mg base "stick_rows" ["numbers"] 2 (spF R_stick_rows) := by
  refine F.ok sc_stick_rows (fun Ps T ⟨_, _, _, h, _⟩ => by rw [h]; rfl) fun f cdv A outer s H E hr => ⟨_,
    (pss_cons (ps_set (i := 1) sc_stick_rows.nd rfl (.inl rfl) (pe_lst pa_nil))
      (pss_cons (ps_for PassesOwn.never rfl (pi_enum rfl T.enumerate (pa_cons (pv 0) pa_nil)) (pg_tup rfl (pgs_cons (pg_name (i := 2) sc_stick_rows.nd rfl (.inl rfl)) (pgs_cons (pg_name (i := 3) sc_stick_rows.nd rfl (.inl rfl)) pgs_nil)))
        (pss_one (ps_for PassesOwn.never rfl (pi_range2 rfl T.range (pa_cons (pe_op op_add (pv 2) pe_int) (pa_cons (pe_callB call_len (by rfl) T.len PySem.boot_len (pa_cons (pv 0) pa_nil)) pa_nil))) (pg_name (i := 4) sc_stick_rows.nd rfl (.inl rfl))
          (pss_cons (ps_set (i := 5) sc_stick_rows.nd rfl (.inl rfl) (pe_ix ix_seq (pv 0) (pv 4) (fun _ _ => rfl)))
          (pss_one (ps_if (PW.pt (pw_and (pt_cmpR (op_eqD hr.units) (pe_ix ix_seq (pv 3) pe_int (fun _ _ => rfl)) (pe_ix ix_seq (pv 3) pe_int (fun _ _ => rfl)) (nomark _)) (pw_and1 (pt_cmpR (op_eqD hr.units) (pe_ix ix_seq (pv 5) pe_int (fun _ _ => rfl)) (pe_ix ix_seq (pv 5) pe_int (fun _ _ => rfl)) (nomark _))))) (pss_cons (ps_setLc (i := 6) (own := [("number", 9)]) (g := (gName 9)) (tt := tYes) (by rfl) sc_stick_rows.nd rfl rfl (sw_true rfl rfl rfl (by decide +kernel)) (pi_list (pe_slice sl_list (pv 0) (po_some (pe_op op_add (pv 2) pe_int)) (po_some (pv 4)))) (blkOk_by (own := [("number", 9)]) (N := N_stick_rows) (sc := defScope s_stick_rows) (by decide +kernel)) (fun _ _ _ _ _ => (pg_name (i := 9) sc_stick_rows.nd rfl (by first | exact Or.inl rfl | exact Or.inr rfl))) (fun _ _ _ _ _ => pts_nil) (fun _ _ _ _ _ => (pe_cal c_held_between (hr.mono (by decide)) rfl (pa_cons (pv 9) pa_nil))))
            (pss_cons (ps_par (i := 7) (j := 8) (by rfl) sc_stick_rows.nd rfl rfl (by decide) rfl rfl (pa_cons (pe_op op_add (pe_ix ix_seq (pv 3) pe_int (fun _ _ => rfl)) (pe_callB (cr_sum rfl) (by rfl) T.sum boot_sum (pa_cons (pe_lc (own := [("one", 10)]) (g := (gName 10)) (tt := tYes) (by rfl) sc_stick_rows.nd (pi_list (pv 6)) (blkOk_by (own := [("one", 10)]) (N := N_stick_rows) (sc := defScope s_stick_rows) (by decide +kernel)) (fun _ _ _ _ _ => (pg_name (i := 10) sc_stick_rows.nd rfl (by first | exact Or.inl rfl | exact Or.inr rfl))) (fun _ _ _ _ _ => pts_nil) (fun _ _ _ _ _ => (pe_ix (r := rIx K) ix_seq (pv 10) pe_int (fun _ _ => rfl)))) pa_nil))) (pa_cons (pe_op op_add (pe_ix ix_seq (pv 5) pe_int (fun _ _ => rfl)) (pe_callB (cr_sum rfl) (by rfl) T.sum boot_sum (pa_cons (pe_lc (own := [("one", 10)]) (g := (gName 10)) (tt := tYes) (by rfl) sc_stick_rows.nd (pi_list (pv 6)) (blkOk_by (own := [("one", 10)]) (N := N_stick_rows) (sc := defScope s_stick_rows) (by decide +kernel)) (fun _ _ _ _ _ => (pg_name (i := 10) sc_stick_rows.nd rfl (by first | exact Or.inl rfl | exact Or.inr rfl))) (fun _ _ _ _ _ => pts_nil) (fun _ _ _ _ _ => (pe_ix (r := rIx K) ix_seq (pv 10) pe_int (fun _ _ => rfl)))) pa_nil))) pa_nil)) (by rfl))
            (pss_one (ps_expr (pe_bm PySem.F.plainAttrs_list PySem.F.slot_list_append PySem.F.type_list_append mt_append (pv 1) (pa_cons (pe_tup (pa_cons (pe_op op_sub (pv 4) (pv 2)) (pa_cons (pv 2) (pa_cons (pv 4) (pa_cons (pv 7) (pa_cons (pv 8) (pa_cons (pe_op op_add (pe_op op_add (pe_ix ix_seq (pv 3) pe_int (fun _ _ => rfl)) (pe_ix ix_seq (pv 5) pe_int (fun _ _ => rfl))) (pe_callB (cr_sum rfl) (by rfl) T.sum boot_sum (pa_cons (pe_lc (own := [("one", 10)]) (g := (gName 10)) (tt := tYes) (by rfl) sc_stick_rows.nd (pi_list (pv 6)) (blkOk_by (own := [("one", 10)]) (N := N_stick_rows) (sc := defScope s_stick_rows) (by decide +kernel)) (fun _ _ _ _ _ => (pg_name (i := 10) sc_stick_rows.nd rfl (by first | exact Or.inl rfl | exact Or.inr rfl))) (fun _ _ _ _ _ => pts_nil) (fun _ _ _ _ _ => (pe_ix (r := rIx K) ix_seq (pv 10) pe_int (fun _ _ => rfl)))) pa_nil))) pa_nil))))))) pa_nil)))))) pss_nil))))))
      (pss_one (ps_ret (pv 1))))), ?_⟩
  rintro B M0 Ps T' D' ⟨rows, hl, hbd, rfl, rfl⟩ hR _
  refine xs_seq (xs_setF (xf_lst [] xa_nil (by decide)) fun l => nx_x ?_)
  refine xs_seq (xs_for (I := fun a => ⟨B, M0, [(l, LF ((accR rows a).map e6))], [some (DL (rows.map eR)), some (Rf l), none, none, none, none, none, none, none, none, none], []⟩) (xi_encE (items := rows) (0, 0, 0) eR (xa_cons (xv_var rfl) xa_nil)) (fun _ _ q hq => nomatch hq) (ghs_weak (wk_refl _)) (fun a gl ha => ?_) (nx_x ?_))
  · generalize hN : r3At rows a = near at *
    have hal : (accR rows a).length ≤ 100 := Nat.le_trans (accR_len rows a) (Nat.le_trans (Nat.mul_le_mul (show a ≤ 10 by omega) hl) (by decide))
    let ds : List (Option PP) := [some (DL (rows.map eR)), some (Rf l), some (DI (a : Nat)), some (D (eR near)), none, none, none, none, none, none, none]
    have e0 : D (.tuple [eN a, eR (rows.getD a (0, 0, 0))]) = DT [eN a, eR near] := by
      have : rows.getD a (0, 0, 0) = near := hN
      rw [this]
    show Xb _ _ (D (.tuple [eN a, eR (rows.getD a (0, 0, 0))])) _ _
    rw [e0]
    refine xb_mk (xg_tup (ds := [eN a, eR near]) (xgs_cons xg_name (xgs_cons xg_name xgs_nil)) rfl) ?_
    have vn : ∀ {C : Ct}, Vt C (D (eR near)) [eN near.1, eN near.2.1, eN near.2.2] := vt_d
    refine xs_for (n := rows.length - (a + 1)) (I := fun m => ⟨B, M0, [(l, LF ((accR rows a ++ sIn rows a m).map e6))], ds, gl⟩)
      (((xi_rng2 (i := ((a + 1 : Nat) : Int)) (j := (rows.length : Nat)) (XA.eq (xa_cons (xv_op (xv_var rfl) xv_int ro_i0) (xa_cons (xv_cb (xa_cons (xv_var rfl) xa_nil) (rc_lenL vl_d)) xa_nil)) (by rw [List.length_map]; rfl)) (by omega) (by omega)).len (by omega)).congr (Zs := fun m => DI ((a + 1 + m : Nat) : Int)) fun m _ => by rw [show ((a + 1 : Nat) : Int) + (m : Nat) = ((a + 1 + m : Nat) : Int) by omega]) (fun _ _ q hq => nomatch hq) (fun gl2 σ H e => ?_) (fun m gl2 hm => ?_) (fun σ H e => ?_)
    · rw [show sIn rows a 0 = [] from rfl, List.append_nil]
      exact e.weak (wk_refl _) fun p hp => by
        rcases List.mem_append.mp hp with z | z
        · exact List.mem_append_left _ z
        · exact List.mem_append_right _ (List.mem_append_left _ z)
    · generalize hF : r3At rows (a + 1 + m) = far at *
      have hb : a + 1 + m < rows.length := by omega
      have fget : L2.atI (rows.map eR) ((a + 1 + m : Nat) : Int) = some (eR far) := atI_n (by rw [List.getElem?_map, getD_get (0, 0, 0) hb, Option.map_some]; exact congrArg (fun z => some (eR z)) hF)
      have vf : ∀ {C : Ct}, Vt C (D (eR far)) [eN far.1, eN far.2.1, eN far.2.2] := vt_d
      have hsl : (sIn rows a m).length ≤ 10 := Nat.le_trans (sIn_len _ _ _) (by omega)
      have eok : sOk rows a (a + 1 + m) = (decide (near.2.1 = near.1) && decide (far.2.2 = far.1)) := by unfold sOk; rw [hN, hF]
      refine xb_mk xg_name (xs_seq (xs_set (xv_op (xv_var rfl) (xv_var rfl) (ro_ixL vl_d fget)) (nx_x ?_)))
      refine xs_if (b := sOk rows a (a + 1 + m)) ((xt_and (xt_test (xv_op (xv_op (xv_var rfl) xv_int (ro_ixT vn rfl)) (xv_op (xv_var rfl) xv_int (ro_ixT vn rfl)) (ro_eqD vd_d vd_d (shaped_flat rfl) (shaped_flat rfl)))) fun _ => xt_test (xv_op (xv_op (xv_var rfl) xv_int (ro_ixT vf rfl)) (xv_op (xv_var rfl) xv_int (ro_ixT vf rfl)) (ro_eqD vd_d vd_d (shaped_flat rfl) (shaped_flat rfl)))).eq ?_) (fun hok => ?_) (fun hok => ?_)
      · rw [eqv_nat, eqv_nat, eok]
      · let bt := betw rows a (a + 1 + m)
        have hbt : bt.length ≤ 10 := by
          show (((rows.drop (a + 1)).take (a + 1 + m - (a + 1)))).length ≤ 10
          rw [List.length_take, List.length_drop]; omega
        have hbm : ∀ r ∈ bt, r.2.1 ≤ r.1 ∧ r.2.2 ≤ r.1 := fun r hr => hbd r (List.mem_of_mem_drop (List.mem_of_mem_take hr))
        refine xs_seq (xs_set (Xv.lst (xf_map (ml := []) (items := bt) (0, 0, 0) (fun r => eR (held r)) (xi_encL (items := bt) (0, 0, 0) eR (Xv.lst ((xf_slice (lo := some ((a + 1 : Nat) : Int)) (hi := some ((a + 1 + m : Nat) : Int)) (xv_var rfl) vl_d (xo_p (xp_op (xp_var rfl) xp_int ro_i0)) (xo_p (xp_var rfl))).conv fun H v p => ?_))) (fun q hq => nomatch hq) (by omega)
          fun i gl l acc hi => ⟨_, _, xg_name, fun j hj => hj, xv_call (xa_cons (xv_var rfl) xa_nil) ⟨bt.getD i (0, 0, 0), hbm _ (List.mem_of_getElem? (getD_get (0, 0, 0) hi)), rfl, rfl⟩⟩)) (nx_x ?_))
        · rw [cutP_map, cutP_nat _ _ _ (by omega) (by omega)] at p
          exact p
        refine xs_seq (xs_par (P := DI ((near.1 + (bt.map hLow).sum : Nat) : Int)) (R := DI ((far.1 + (bt.map hLeft).sum : Nat) : Int)) (XA.eq (xa_cons (xv_op (xv_op (xv_var rfl) xv_int (ro_ixT vn rfl)) (xv_cb (xa_cons (Xv.lst (xf_map (ml := []) (items := bt) (0, 0, 0) (fun r => eN (hLow r)) (xi_encL (items := bt) (0, 0, 0) (fun r => eR (held r)) (xv_var rfl)) (fun q hq => nomatch hq) (by omega)
            fun i gl l acc hi => ⟨_, _, xg_name, fun j hj => hj, xv_op (xv_var rfl) xv_int (ro_ixT (ds := [eN (hLow (bt.getD i (0, 0, 0))), eN (hLeft (bt.getD i (0, 0, 0))), eN (hAll (bt.getD i (0, 0, 0)))]) vt_d rfl)⟩)) xa_nil) (rc_sumN bt hLow)) ro_i0)
          (xa_cons (xv_op (xv_op (xv_var rfl) xv_int (ro_ixT vf rfl)) (xv_cb (xa_cons (Xv.lst (xf_map (ml := []) (items := bt) (0, 0, 0) (fun r => eN (hLeft r)) (xi_encL (items := bt) (0, 0, 0) (fun r => eR (held r)) (xv_var rfl)) (fun q hq => nomatch hq) (by omega)
            fun i gl l acc hi => ⟨_, _, xg_name, fun j hj => hj, xv_op (xv_var rfl) xv_int (ro_ixT (ds := [eN (hLow (bt.getD i (0, 0, 0))), eN (hLeft (bt.getD i (0, 0, 0))), eN (hAll (bt.getD i (0, 0, 0)))]) vt_d rfl)⟩)) xa_nil) (rc_sumN bt hLeft)) ro_i0) xa_nil)) rfl) (nx_x ?_))
        refine xs_drop (xv_app (k := 0) (d := e6 (sRow rows a (a + 1 + m))) (xv_var rfl) (Xv.tup (xf_tup [eN (a + 1 + m - a), eN a, eN (a + 1 + m), eN (near.1 + (bt.map hLow).sum), eN (far.1 + (bt.map hLeft).sum), eN (near.1 + far.1 + (bt.map hAll).sum)]
          (XA.eq (xa_cons (xv_op (xv_var rfl) (xv_var rfl) ro_i0) (xa_cons (xv_var rfl) (xa_cons (xv_var rfl) (xa_cons (xv_var rfl) (xa_cons (xv_var rfl) (xa_cons (xv_op (xv_op (xv_op (xv_var rfl) xv_int (ro_ixT vn rfl)) (xv_op (xv_var rfl) xv_int (ro_ixT vf rfl)) ro_i0) (xv_cb (xa_cons (Xv.lst (xf_map (ml := []) (items := bt) (0, 0, 0) (fun r => eN (hAll r)) (xi_encL (items := bt) (0, 0, 0) (fun r => eR (held r)) (xv_var rfl)) (fun q hq => nomatch hq) (by omega)
            fun i gl l acc hi => ⟨_, _, xg_name, fun j hj => hj, xv_op (xv_var rfl) xv_int (ro_ixT (ds := [eN (hLow (bt.getD i (0, 0, 0))), eN (hLeft (bt.getD i (0, 0, 0))), eN (hAll (bt.getD i (0, 0, 0)))]) vt_d rfl)⟩)) xa_nil) (rc_sumN bt hAll)) ro_i0) xa_nil)))))) ?_) (by show 6 ≤ 100000; decide)) |>.dat ?_) rfl rfl ?_) fun σ H e => ?_
        · rw [show ((a + 1 + m : Nat) : Int) - (a : Nat) = ((a + 1 + m - a : Nat) : Int) by omega]
          rfl
        · show _ = e6 (sRow rows a (a + 1 + m))
          unfold sRow
          rw [hN, hF]
        · rw [List.length_map, List.length_append]; omega
        · show En (Ct.ghs ⟨B, M0, [(l, LF ((accR rows a ++ sIn rows a (m + 1)).map e6))], ds, gl⟩ gl2) σ H
          rw [sIn_succ, if_pos hok, ← List.append_assoc, List.map_append (l₁ := accR rows a ++ sIn rows a m)]
          exact e.weak (.keep (.keep (.keep (.keep (.drop (.drop (.drop (.drop (.drop (.drop (.drop .nil))))))))))) fun _ z => z
      · refine xs_next fun σ H e => ?_
        show En (Ct.ghs ⟨B, M0, [(l, LF ((accR rows a ++ sIn rows a (m + 1)).map e6))], ds, gl⟩ gl2) σ H
        rw [sIn_succ, if_neg (by rw [hok]; decide), List.append_nil]
        exact e.weak (.keep (.keep (.keep (.keep (.drop (.drop (.drop (.drop (.drop (.drop (.drop .nil))))))))))) fun _ z => z
    · show En (Ct.ghs ⟨B, M0, [(l, LF ((accR rows (a + 1)).map e6))], [some (DL (rows.map eR)), some (Rf l), none, none, none, none, none, none, none, none, none], []⟩ gl) σ H
      have e1 : accR rows (a + 1) = accR rows a ++ sIn rows a (rows.length - (a + 1)) := by unfold accR; rw [flatMap_succ]
      rw [e1]
      exact e.weak (.keep (.keep (.drop (.drop (.keep (.keep (.keep (.keep (.keep (.keep (.keep .nil))))))))))) fun p hp => by simpa using hp
  · exact xs_retM (T := DL ((stickRows rows).map e6)) (k := 0) (xv_var rfl) rfl rfl rfl (fun H v p => Fz.lst p) hR
end
end K74

set_option Elab.async false
set_option linter.all false
set_option maxRecDepth 100000
set_option maxHeartbeats 4000000
namespace K74
open PySem PySem.Spec PyProof.Rows L2
/-! ### least pairs -/
abbrev Pr := Nat × Nat
def rowN (r : R6) : Nat := max r.2.2.2.1 (r.2.2.2.2.2 - r.2.2.2.2.1) + 1 - r.2.2.2.1
def rowPairs (r : R6) (n : Nat) : List Pr := (List.range n).map fun t => (r.2.2.2.1 + t, max r.2.2.2.2.1 (r.2.2.2.2.2 - (r.2.2.2.1 + t)))
def someP (rs : List R6) : List Pr := rs.flatMap fun r => rowPairs r (rowN r)
def insD (a : Pr) : List Pr → List Pr
  | [] => [a]
  | b :: r => if a = b then b :: r else if Mir.lexLe a b then a :: b :: r else b :: insD a r
def sortD : List Pr → List Pr
  | [] => []
  | a :: r => insD a (sortD r)
def lexLt (a b : Pr) : Prop := a.1 < b.1 ∨ (a.1 = b.1 ∧ a.2 < b.2)
theorem insD_mem (a x : Pr) : ∀ l : List Pr, x ∈ insD a l ↔ x = a ∨ x ∈ l
  | [] => by simp [insD]
  | b :: r => by
    unfold insD
    split
    · rename_i e
      subst e
      simp
    · split
      · simp
      · rw [List.mem_cons, insD_mem a x r, List.mem_cons]
        constructor
        · rintro (z | z | z)
          · exact .inr (.inl z)
          · exact .inl z
          · exact .inr (.inr z)
        · rintro (z | z | z)
          · exact .inr (.inl z)
          · exact .inl z
          · exact .inr (.inr z)
theorem sortD_mem (x : Pr) : ∀ l : List Pr, x ∈ sortD l ↔ x ∈ l
  | [] => by simp [sortD]
  | a :: r => by rw [sortD, insD_mem, sortD_mem x r, List.mem_cons]
theorem insD_lt (a : Pr) : ∀ l : List Pr, l.Pairwise lexLt → (insD a l).Pairwise lexLt
  | [], _ => by simp [insD]
  | b :: r, h => by
    unfold insD
    rw [List.pairwise_cons] at h
    split
    · exact List.pairwise_cons.mpr h
    · rename_i ne
      have hne : ¬ (a.1 = b.1 ∧ a.2 = b.2) := fun ⟨e1, e2⟩ => ne (Prod.ext e1 e2)
      split
      · rename_i hab
        rw [lexLe_iff] at hab
        refine List.pairwise_cons.mpr ⟨fun x hx => ?_, List.pairwise_cons.mpr h⟩
        rcases List.mem_cons.mp hx with e | hx
        · rw [e]
          unfold lexLt
          omega
        · have h1 := h.1 x hx
          unfold lexLt at h1 ⊢
          omega
      · rename_i hab
        rw [lexLe_iff] at hab
        refine List.pairwise_cons.mpr ⟨fun x hx => ?_, insD_lt a r h.2⟩
        rcases (insD_mem a x r).mp hx with e | hx
        · rw [e]
          unfold lexLt
          omega
        · exact h.1 x hx
theorem sortD_lt : ∀ l : List Pr, (sortD l).Pairwise lexLt
  | [] => .nil
  | a :: r => insD_lt a _ (sortD_lt r)
theorem lexLt_nd {l : List Pr} (h : l.Pairwise lexLt) : l.Nodup := h.imp fun {a b} hab e => by
  subst e
  unfold lexLt at hab
  omega
def dom (q p : Pr) : Bool := decide (q.1 ≤ p.1) && decide (q.2 ≤ p.2)
def leastStep (f : List Pr) (p : Pr) : List Pr := if (f.any fun q => dom q p) then f else f ++ [p]
def leastP (rs : List R6) : List Pr := (sortD (someP rs)).foldl leastStep []
theorem leastLen : ∀ (l f : List Pr), (l.foldl leastStep f).length ≤ f.length + l.length
  | [], f => Nat.le_refl _
  | p :: r, f => by
    rw [List.foldl_cons, List.length_cons]
    have h := leastLen r (leastStep f p)
    have h2 : (leastStep f p).length ≤ f.length + 1 := by
      unfold leastStep
      split
      · omega
      · rw [List.length_append]; simp
    omega
theorem rowPairs_succ (r : R6) (n : Nat) : rowPairs r (n + 1) = rowPairs r n ++ [(r.2.2.2.1 + n, max r.2.2.2.2.1 (r.2.2.2.2.2 - (r.2.2.2.1 + n)))] := by
  unfold rowPairs
  rw [List.range_succ, List.map_append]
  rfl
theorem sortD_len (l : List Pr) : (sortD l).length ≤ l.length := by
  induction l with
  | nil => exact Nat.le_refl _
  | cons a r ih =>
    have h : ∀ m : List Pr, (insD a m).length ≤ m.length + 1 := fun m => by
      induction m with
      | nil => exact Nat.le_refl _
      | cons b m ih2 =>
        unfold insD
        split
        · simp
        · split
          · simp
          · simp only [List.length_cons]; omega
    have h2 := h (sortD r)
    show (insD a (sortD r)).length ≤ _
    rw [List.length_cons]
    omega
section
variable {P : Program} {w : World} {K : PySem.W.Frag} {mg : PySem.Str → Option Value} {base : Heap} {CC CW : Addr}
abbrev s_least_pairs : Stmt := topS 73
abbrev N_least_pairs : List PySem.Str := ["rows", "some", "row", "east", "found", "pair", "near"]
theorem sc_least_pairs : FnScope N_least_pairs ["rows"] (defScope s_least_pairs) := ⟨rfl, rfl, rfl, by decide +kernel, rfl, by decide +kernel, by decide +kernel⟩
def R_least_pairs : List PP → PP → Prop := fun Ps T => ∃ rs : List R6, rs.length ≤ 100 ∧ (∀ r ∈ rs, r.2.2.2.1 ≤ 60 ∧ r.2.2.2.2.1 ≤ 60 ∧ r.2.2.2.2.2 ≤ 60) ∧ (someP rs).length < 64 ∧ Ps = [DL (rs.map e6)] ∧ T = DL ((leastP rs).map eLane)
theorem ok_least_pairs (F : Df K mg "least_pairs" s_least_pairs ["rows"]) (T : Txt K mg CC CW) : Cal P w K mg base "least_pairs" ["rows"] 1 (spF R_least_pairs) := by
  refine F.ok sc_least_pairs (fun Ps T ⟨_, _, _, _, h, _⟩ => by rw [h]; rfl) fun f cdv A outer s H E hr => ⟨_,
    (pss_cons (ps_set (i := 1) sc_least_pairs.nd rfl (.inl rfl) (pe_lst pa_nil))
      (pss_cons (ps_for PassesOwn.never rfl (pi_list (pv 0)) (pg_name (i := 2) sc_least_pairs.nd rfl (.inl rfl))
        (pss_one (ps_for PassesOwn.never rfl (pi_range2 rfl T.range (pa_cons (pe_ix ix_seq (pv 2) pe_int (fun _ _ => rfl)) (pa_cons (pe_op op_add (pe_callB (call_max2 rfl) (by rfl) T.max boot_max (pa_cons (pe_ix ix_seq (pv 2) pe_int (fun _ _ => rfl)) (pa_cons (pe_op op_sub (pe_ix ix_seq (pv 2) pe_int (fun _ _ => rfl)) (pe_ix ix_seq (pv 2) pe_int (fun _ _ => rfl))) pa_nil))) pe_int) pa_nil))) (pg_name (i := 3) sc_least_pairs.nd rfl (.inl rfl))
          (pss_one (ps_expr (pe_bm PySem.F.plainAttrs_list PySem.F.slot_list_append PySem.F.type_list_append mt_append (pv 1) (pa_cons (pe_tup (pa_cons (pv 3) (pa_cons (pe_callB (call_max2 rfl) (by rfl) T.max boot_max (pa_cons (pe_ix ix_seq (pv 2) pe_int (fun _ _ => rfl)) (pa_cons (pe_op op_sub (pe_ix ix_seq (pv 2) pe_int (fun _ _ => rfl)) (pv 3)) pa_nil))) pa_nil))) pa_nil)))))))
      (pss_cons (ps_set (i := 4) sc_least_pairs.nd rfl (.inl rfl) (pe_lst pa_nil))
      (pss_cons (ps_for PassesOwn.never rfl (pi_list (pe_callB (cr_sortedT rfl) (by rfl) T.sorted boot_sorted (pa_cons (pe_callTy (cr_setOfT rfl hr.units) (by rfl) T.set boot_set (pa_cons (pv 1) pa_nil)) pa_nil))) (pg_name (i := 5) sc_least_pairs.nd rfl (.inr rfl))
        (pss_one (ps_if (pt_not (pt_val (pe_callB (cr_any rfl) (by rfl) T.any boot_any (pa_cons (pe_lc (own := [("near", 6)]) (g := (gName 6)) (tt := tYes) (by rfl) sc_least_pairs.nd (pi_list (pv 4)) (blkOk_by (own := [("near", 6)]) (N := N_least_pairs) (sc := defScope s_least_pairs) (by decide +kernel)) (fun _ _ _ _ _ => (pg_name (i := 6) sc_least_pairs.nd rfl (by first | exact Or.inl rfl | exact Or.inr rfl))) (fun _ _ _ _ _ => pts_nil) (fun _ _ _ _ _ => (pe_and (pe_cmpR op_le (pe_ix (r := rIx K) ix_seq (pv 6) pe_int (fun _ _ => rfl)) (pe_ix (r := rIx K) ix_seq (pv 5) pe_int (fun _ _ => rfl)) (nomark _)) (pe_one (pe_cmpR op_le (pe_ix (r := rIx K) ix_seq (pv 6) pe_int (fun _ _ => rfl)) (pe_ix (r := rIx K) ix_seq (pv 5) pe_int (fun _ _ => rfl)) (nomark _)))))) pa_nil)))) (pss_one (ps_expr (pe_bm PySem.F.plainAttrs_list PySem.F.slot_list_append PySem.F.type_list_append mt_append (pv 4) (pa_cons (pv 5) pa_nil)))) pss_nil)))
      (pss_one (ps_ret (pv 4))))))), ?_⟩
  rintro B M0 Ps T' D' ⟨rs, hl, hbd, h64, rfl, rfl⟩ hR _
  refine xs_seq (xs_setF (xf_lst [] xa_nil (by decide)) fun l => nx_x ?_)
  let acc : Nat → List Pr := fun i => (rs.take i).flatMap fun r => rowPairs r (rowN r)
  have acs : ∀ i, i < rs.length → acc (i + 1) = acc i ++ rowPairs (rs.getD i (0, 0, 0, 0, 0, 0)) (rowN (rs.getD i (0, 0, 0, 0, 0, 0))) := fun i hi => by
    show (rs.take (i + 1)).flatMap _ = _
    rw [List.take_add_one, getD_get (0, 0, 0, 0, 0, 0) hi, List.flatMap_append]
    simp [acc]
  have rnl : ∀ r ∈ rs, rowN r ≤ 61 := fun r hr => by
    have := hbd r hr
    unfold rowN
    omega
  have acl : ∀ i, i ≤ rs.length → (acc i).length ≤ i * 61 := fun i => by
    induction i with
    | zero => intro _; exact Nat.zero_le _
    | succ i ih =>
      intro hi
      rw [acs i (by omega), List.length_append, Nat.add_one_mul]
      refine Nat.add_le_add (ih (by omega)) ?_
      unfold rowPairs
      rw [List.length_map, List.length_range]
      exact rnl _ (List.mem_of_getElem? (getD_get _ (by omega)))
  refine xs_seq (xs_for (I := fun i => ⟨B, M0, [(l, LF ((acc i).map eLane))], [some (DL (rs.map e6)), some (Rf l), none, none, none, none, none], []⟩) (xi_encL (items := rs) (0, 0, 0, 0, 0, 0) e6 (xv_var rfl)) (fun _ _ q hq => nomatch hq) (ghs_weak (wk_refl _)) (fun i gl hi => ?_) (nx_x ?_))
  · have hrm : rs.getD i (0, 0, 0, 0, 0, 0) ∈ rs := List.mem_of_getElem? (getD_get _ hi)
    have hai := acl i (by omega)
    have e1 := acs i hi
    generalize rs.getD i (0, 0, 0, 0, 0, 0) = r at *
    obtain ⟨b3, b4, b5⟩ := hbd r hrm
    have hrn := rnl r hrm
    have v0 : ∀ {C : Ct}, Vt C (D (e6 r)) [eN r.1, eN r.2.1, eN r.2.2.1, eN r.2.2.2.1, eN r.2.2.2.2.1, eN r.2.2.2.2.2] := vt_d
    let ds : List (Option PP) := [some (DL (rs.map e6)), some (Rf l), some (D (e6 r)), none, none, none, none]
    refine xb_mk xg_name ?_
    refine xs_for (n := rowN r) (I := fun m => ⟨B, M0, [(l, LF ((acc i ++ rowPairs r m).map eLane))], ds, gl⟩)
      (((xi_rng2 (i := (r.2.2.2.1 : Nat)) (j := ((max r.2.2.2.1 (r.2.2.2.2.2 - r.2.2.2.2.1) + 1 : Nat) : Int)) (XA.eq (xa_cons (xv_op (xv_var rfl) xv_int (ro_ixT v0 rfl)) (xa_cons (xv_op (xv_cb (xa_cons (xv_op (xv_var rfl) xv_int (ro_ixT v0 rfl)) (xa_cons (xv_op (xv_op (xv_var rfl) xv_int (ro_ixT v0 rfl)) (xv_op (xv_var rfl) xv_int (ro_ixT v0 rfl)) ro_i0) xa_nil)) rc_max2) xv_int ro_i0) xa_nil)) ?_) (by omega) (by omega)).len (by unfold rowN; omega)).congr (Zs := fun m => DI ((r.2.2.2.1 + m : Nat) : Int)) fun m _ => by rw [show (r.2.2.2.1 : Int) + (m : Nat) = ((r.2.2.2.1 + m : Nat) : Int) by omega]) (fun _ _ q hq => nomatch hq) (fun gl2 σ H e => ?_) (fun m gl2 hm => ?_) (fun σ H e => ?_)
    · rw [show max ((r.2.2.2.1 : Nat) : Int) (((r.2.2.2.2.2 : Nat) : Int) - ((r.2.2.2.2.1 : Nat) : Int)) + 1 = ((max r.2.2.2.1 (r.2.2.2.2.2 - r.2.2.2.2.1) + 1 : Nat) : Int) by omega]
    · rw [show rowPairs r 0 = [] from rfl, List.append_nil]
      exact e.weak (wk_refl _) fun p hp => by
        rcases List.mem_append.mp hp with z | z
        · exact List.mem_append_left _ z
        · exact List.mem_append_right _ (List.mem_append_left _ z)
    · have hpl : (rowPairs r m).length = m := by unfold rowPairs; rw [List.length_map, List.length_range]
      refine xb_mk xg_name (xs_drop (xv_app (k := 0) (d := eLane (r.2.2.2.1 + m, max r.2.2.2.2.1 (r.2.2.2.2.2 - (r.2.2.2.1 + m)))) (xv_var rfl) (Xv.tup (xf_tup [eN (r.2.2.2.1 + m), eN (max r.2.2.2.2.1 (r.2.2.2.2.2 - (r.2.2.2.1 + m)))] (XA.eq (xa_cons (xv_var rfl) (xa_cons (xv_cb (xa_cons (xv_op (xv_var rfl) xv_int (ro_ixT v0 rfl)) (xa_cons (xv_op (xv_op (xv_var rfl) xv_int (ro_ixT v0 rfl)) (xv_var rfl) ro_i0) xa_nil)) rc_max2) xa_nil)) ?_) (by show 2 ≤ 100000; decide))) rfl rfl ?_) fun σ H e => ?_)
      · rw [show max ((r.2.2.2.2.1 : Nat) : Int) (((r.2.2.2.2.2 : Nat) : Int) - ((r.2.2.2.1 + m : Nat) : Int)) = ((max r.2.2.2.2.1 (r.2.2.2.2.2 - (r.2.2.2.1 + m)) : Nat) : Int) by omega]
        rfl
      · rw [List.length_map, List.length_append, hpl]
        have : i * 61 ≤ 100 * 61 := Nat.mul_le_mul_right _ (by omega)
        omega
      · show En (Ct.ghs ⟨B, M0, [(l, LF ((acc i ++ rowPairs r (m + 1)).map eLane))], ds, gl⟩ gl2) σ H
        rw [rowPairs_succ, ← List.append_assoc, List.map_append (l₁ := acc i ++ rowPairs r m)]
        exact e.weak (.keep (.keep (.keep (.drop (.keep (.keep (.keep .nil))))))) fun _ z => z
    · show En (Ct.ghs ⟨B, M0, [(l, LF ((acc (i + 1)).map eLane))], [some (DL (rs.map e6)), some (Rf l), none, none, none, none, none], []⟩ gl) σ H
      rw [e1]
      exact e.weak (.keep (.keep (.drop (.keep (.keep (.keep (.keep .nil))))))) fun p hp => by simpa using hp
  rw [show acc rs.length = someP rs by show (rs.take rs.length).flatMap _ = _; rw [List.take_length]; rfl]
  have hb : ∀ ns ∈ (someP rs).map lL, ns.length = 2 ∧ TS.Bd 64 ns := fun ns hns => by
    obtain ⟨q, hq, rfl⟩ := List.mem_map.mp hns
    refine ⟨rfl, fun x hx => ?_⟩
    obtain ⟨r, hr, hq2⟩ := List.mem_flatMap.mp hq
    obtain ⟨t, ht, e⟩ := List.mem_map.mp hq2
    rw [List.mem_range] at ht
    obtain ⟨b3, b4, b5⟩ := hbd r hr
    unfold rowN at ht
    subst e
    simp only [lL, List.mem_cons, List.not_mem_nil, or_false] at hx
    omega
  have hsl : (sortD (someP rs)).length ≤ 63 := Nat.le_trans (sortD_len _) (by omega)
  let fo : Nat → List Pr := fun i => ((sortD (someP rs)).take i).foldl leastStep []
  have fol : ∀ i, (fo i).length ≤ 63 := fun i => by
    have := leastLen ((sortD (someP rs)).take i) []
    have h2 : ((sortD (someP rs)).take i).length ≤ (sortD (someP rs)).length := by rw [List.length_take]; omega
    exact Nat.le_trans this (by simp only [List.length_nil]; omega)
  refine xs_seq (xs_setF (xf_lst [] xa_nil (by decide)) fun l2 => nx_x ?_)
  let I : Nat → Ct := fun i => ⟨B, M0, [(l2, LF ((fo i).map eLane)), (l, LF ((someP rs).map eLane))], [some (DL (rs.map e6)), some (Rf l), none, none, some (Rf l2), none, none], []⟩
  refine xs_seq (xs_for (n := (sortD (someP rs)).length) (I := I) (xi_encL (items := sortD (someP rs)) (0, 0) eLane (Xv.lst ((xf_sortedSet (items := (someP rs).map lL) (ms := (sortD (someP rs)).map lL) (xv_var rfl) (by rw [← lanes_eT]; exact vl_r (k := 1) rfl) (by rw [List.length_map]; exact h64) (by decide) hb (sort_codeS hb (fun k => ?_) (nodup_map lL_inj (lexLt_nd (sortD_lt _))) ?_)).conv fun H v p => by rw [lanes_eT]; exact p))) (fun _ _ q hq => nomatch hq) (ghs_weak (wk_refl _)) (fun i gl hi => ?_) (nx_x ?_))
  · rw [List.mem_map, List.mem_map]
    constructor
    · rintro ⟨a, ha, e⟩; exact ⟨a, (sortD_mem a _).mp ha, e⟩
    · rintro ⟨a, ha, e⟩; exact ⟨a, (sortD_mem a _).mpr ha, e⟩
  · rw [List.pairwise_map]
    refine ((sortD_lt (someP rs)).and (List.pairwise_of_forall_mem_list (r := fun a b => a ∈ someP rs ∧ b ∈ someP rs) fun a ha b hb => ⟨(sortD_mem a _).mp ha, (sortD_mem b _).mp hb⟩)).imp ?_
    rintro ⟨a1, a2⟩ ⟨b1, b2⟩ ⟨z, za, zb⟩
    have q1 := (hb (lL (a1, a2)) (List.mem_map.mpr ⟨_, za, rfl⟩)).2 a2 (by simp [lL])
    have q2 := (hb (lL (b1, b2)) (List.mem_map.mpr ⟨_, zb, rfl⟩)).2 b2 (by simp [lL])
    unfold lexLt at z
    rw [code2, code2]
    simp only at z
    omega
  · generalize hp : (sortD (someP rs)).getD i (0, 0) = p at *
    have e1 : fo (i + 1) = leastStep (fo i) p := by
      show ((sortD (someP rs)).take (i + 1)).foldl leastStep [] = _
      rw [foldl_take _ _ _ (0, 0) hi, hp]
    have hfl := fol i
    have vp : ∀ {C : Ct}, Vt C (D (eLane p)) [eN p.1, eN p.2] := vt_d
    refine xb_mk xg_name (xs_if (b := !((fo i).any fun q => dom q p)) (xt_not (XT.eq (xt_b (xv_cb (xa_cons (Xv.lst (xf_mapB (ml := [(l2, LF ((fo i).map eLane))]) (items := fo i) (0, 0) (fun q => dom q p) (xi_encR (k := 0) (items := fo i) (0, 0) eLane (xv_var rfl) rfl) (fun q hq => by rw [List.mem_singleton.mp hq]; exact List.mem_cons_self) (by omega)
      fun m gl2 l3 acc2 hm => ⟨_, _, xg_name, fun j hj => hj, ?_⟩)) xa_nil) (rc_any vl_d))) (any_id _ _))) (fun hb2 => ?_) fun hb2 => ?_)
    · have vq : ∀ {C : Ct}, Vt C (D (eLane ((fo i).getD m (0, 0)))) [eN ((fo i).getD m (0, 0)).1, eN ((fo i).getD m (0, 0)).2] := vt_d
      refine (xv_and (xv_op (xv_op (xv_var rfl) xv_int (ro_ixT vq rfl)) (xv_op (xv_var rfl) xv_int (ro_ixT vp rfl)) ro_b0) fun _ => xv_op (xv_op (xv_var rfl) xv_int (ro_ixT vq rfl)) (xv_op (xv_var rfl) xv_int (ro_ixT vp rfl)) ro_b0).dat ?_
      unfold dom
      generalize (fo i).getD m (0, 0) = q
      have c1 : decide ((q.1 : Int) ≤ p.1) = decide (q.1 ≤ p.1) := by rw [decide_eq_decide]; omega
      have c2 : decide ((q.2 : Int) ≤ p.2) = decide (q.2 ≤ p.2) := by rw [decide_eq_decide]; omega
      rw [c1, c2]
    · refine xs_drop (xv_app (k := 0) (d := eLane p) (xv_var rfl) (xv_var rfl) rfl rfl (by rw [List.length_map]; omega)) fun σ H e => ?_
      show En (Ct.ghs (I (i + 1)) gl) σ H
      have hno : ¬ ((fo i).any fun q => dom q p) = true := by
        intro z; rw [z] at hb2; cases hb2
      have e2 : leastStep (fo i) p = fo i ++ [p] := if_neg hno
      show En ⟨B, M0, [(l2, LF ((fo (i + 1)).map eLane)), (l, LF ((someP rs).map eLane))], [some (DL (rs.map e6)), some (Rf l), none, none, some (Rf l2), none, none], gl ++ []⟩ σ H
      rw [e1, e2, List.map_append]
      exact e.weak (.keep (.keep (.keep (.keep (.keep (.drop (.keep .nil))))))) fun _ z => z
    · refine xs_next fun σ H e => ?_
      have hno : ((fo i).any fun q => dom q p) = true := by
        cases z : ((fo i).any fun q => dom q p) with
        | true => rfl
        | false => rw [z] at hb2; cases hb2
      have e2 : leastStep (fo i) p = fo i := if_pos hno
      show En ⟨B, M0, [(l2, LF ((fo (i + 1)).map eLane)), (l, LF ((someP rs).map eLane))], [some (DL (rs.map e6)), some (Rf l), none, none, some (Rf l2), none, none], gl ++ []⟩ σ H
      rw [e1, e2]
      exact e.weak (.keep (.keep (.keep (.keep (.keep (.drop (.keep .nil))))))) fun _ z => z
  · refine xs_retM (T := DL ((leastP rs).map eLane)) (k := 0) (xv_var rfl) rfl rfl rfl (fun H v p => ?_) hR
    have e : fo (sortD (someP rs)).length = leastP rs := by
      show ((sortD (someP rs)).take _).foldl leastStep [] = _
      rw [List.take_length]
      rfl
    rw [e] at p
    exact Fz.lst p
end
end K74

set_option Elab.async false
set_option linter.all false
set_option maxRecDepth 100000
set_option maxHeartbeats 4000000
namespace K74
open PySem PySem.Spec PyProof.Rows L2
/-! ### the carts of a line -/
def insK {α : Type} (key : α → Int) (a : α) : List α → List α
  | [] => [a]
  | b :: r => if key a ≤ key b then a :: b :: r else b :: insK key a r
def sortK {α : Type} (key : α → Int) : List α → List α
  | [] => []
  | a :: r => insK key a (sortK key r)
theorem insK_perm {α : Type} (key : α → Int) (a : α) : ∀ l : List α, (insK key a l).Perm (a :: l)
  | [] => .refl _
  | b :: r => by
    unfold insK
    split
    · exact .refl _
    · exact ((insK_perm key a r).cons b).trans (.swap a b r)
theorem sortK_perm {α : Type} (key : α → Int) : ∀ l : List α, (sortK key l).Perm l
  | [] => .refl _
  | a :: r => (insK_perm key a (sortK key r)).trans ((sortK_perm key r).cons a)
theorem insK_sorted {α : Type} (key : α → Int) (a : α) : ∀ l : List α, l.Pairwise (fun x y => key x ≤ key y) → (insK key a l).Pairwise (fun x y => key x ≤ key y)
  | [], _ => by simp [insK]
  | b :: r, h => by
    unfold insK
    rw [List.pairwise_cons] at h
    split
    · rename_i hab
      refine List.pairwise_cons.mpr ⟨fun x hx => ?_, List.pairwise_cons.mpr h⟩
      rcases List.mem_cons.mp hx with e | hx
      · rw [e]; exact hab
      · have := h.1 x hx
        omega
    · rename_i hab
      refine List.pairwise_cons.mpr ⟨fun x hx => ?_, insK_sorted key a r h.2⟩
      rcases List.mem_cons.mp ((insK_perm key a r).mem_iff.mp hx) with e | hx
      · rw [e]; omega
      · exact h.1 x hx
theorem sortK_sorted {α : Type} (key : α → Int) : ∀ l : List α, (sortK key l).Pairwise (fun x y => key x ≤ key y)
  | [] => .nil
  | a :: r => insK_sorted key a _ (sortK_sorted key r)
def key6 (r : R6) : Int := TS.code 64 (l6 r)
def sticking (rows : List R3) (E W : Nat) : List R6 := (sortK key6 (stickRows rows)).filter fun r => stk r E W
def planStep (st : Nat × List Nat × List Nat) (r : R3) : Nat × List Nat × List Nat :=
  (st.1 - min (min st.1 (r.2.1 - hLow r)) (hAll r - hLeft r - hLow r), st.2.1 ++ [hLow r + min (min st.1 (r.2.1 - hLow r)) (hAll r - hLeft r - hLow r)], st.2.2 ++ [hAll r - hLow r - min (min st.1 (r.2.1 - hLow r)) (hAll r - hLeft r - hLow r)])
def more0 (r : R6) (W : Nat) : Nat := r.2.2.2.2.2 - W - r.2.2.2.1
def planRun (rows : List R3) (r : R6) (W : Nat) : Nat × List Nat × List Nat := (betw rows r.2.1 r.2.2.1).foldl planStep (more0 r W, [], [])
def planE (rows : List R3) (r : R6) (W : Nat) : List Nat := [(r3At rows r.2.1).1] ++ (planRun rows r W).2.1 ++ [0]
def planW (rows : List R3) (r : R6) (W : Nat) : List Nat := [0] ++ (planRun rows r W).2.2 ++ [(r3At rows r.2.2.1).1]
def planCarts (rows : List R3) (r : R6) (W : Nat) : List Crt := placedM (r.2.1 + 1) (r.2.2.1 - r.2.1 + 1) (planE rows r W) (planW rows r W)
theorem mem_sIn {rows : List R3} {a n : Nat} {r : R6} : r ∈ sIn rows a n ↔ ∃ t, t < n ∧ sOk rows a (a + 1 + t) = true ∧ sRow rows a (a + 1 + t) = r := by
  unfold sIn
  rw [List.mem_map]
  constructor
  · rintro ⟨t, ht, e⟩
    rw [List.mem_filter, List.mem_range] at ht
    exact ⟨t, ht.1, ht.2, e⟩
  · rintro ⟨t, h1, h2, e⟩
    exact ⟨t, List.mem_filter.mpr ⟨List.mem_range.mpr h1, h2⟩, e⟩
theorem mem_stick {rows : List R3} {r : R6} : r ∈ stickRows rows ↔ ∃ a b, a < b ∧ b < rows.length ∧ sOk rows a b = true ∧ sRow rows a b = r := by
  unfold stickRows
  rw [List.mem_flatMap]
  constructor
  · rintro ⟨a, ha, h⟩
    obtain ⟨t, h1, h2, e⟩ := mem_sIn.mp h
    exact ⟨a, a + 1 + t, by omega, by omega, h2, e⟩
  · rintro ⟨a, b, h1, h2, h3, e⟩
    refine ⟨a, List.mem_range.mpr (by omega), mem_sIn.mpr ⟨b - (a + 1), by omega, ?_, ?_⟩⟩
    · rw [show a + 1 + (b - (a + 1)) = b by omega]; exact h3
    · rw [show a + 1 + (b - (a + 1)) = b by omega]; exact e
theorem betw_len {rows : List R3} {a b : Nat} (h1 : a < b) (h2 : b < rows.length) : (betw rows a b).length = b - a - 1 := by
  unfold betw
  rw [List.length_take, List.length_drop]
  omega
theorem betw_mem {rows : List R3} {a b : Nat} {r : R3} (h : r ∈ betw rows a b) : r ∈ rows := List.mem_of_mem_drop (List.mem_of_mem_take h)
theorem plan_len : ∀ (l : List R3) (st : Nat × List Nat × List Nat), (l.foldl planStep st).2.1.length = st.2.1.length + l.length ∧ (l.foldl planStep st).2.2.length = st.2.2.length + l.length
  | [], st => ⟨rfl, rfl⟩
  | r :: l, st => by
    rw [List.foldl_cons, List.length_cons]
    have := plan_len l (planStep st r)
    have e1 : (planStep st r).2.1.length = st.2.1.length + 1 := by simp [planStep]
    have e2 : (planStep st r).2.2.length = st.2.2.length + 1 := by simp [planStep]
    omega
theorem plan_le (m : Nat) : ∀ (l : List R3) (st : Nat × List Nat × List Nat), (∀ r ∈ l, r.1 ≤ m ∧ r.2.1 ≤ m) → (∀ e ∈ st.2.1, e ≤ m) → (∀ e ∈ st.2.2, e ≤ m) → (∀ e ∈ (l.foldl planStep st).2.1, e ≤ m) ∧ ∀ e ∈ (l.foldl planStep st).2.2, e ≤ m
  | [], st, _, h1, h2 => ⟨h1, h2⟩
  | r :: l, st, h, h1, h2 => by
    rw [List.foldl_cons]
    obtain ⟨b1, b2⟩ := h r List.mem_cons_self
    have q1 : hLow r ≤ r.2.1 := by unfold hLow; omega
    have q2 : hAll r ≤ r.1 := by unfold hAll; omega
    refine plan_le m l _ (fun r hr => h r (List.mem_cons_of_mem _ hr)) (fun e he => ?_) (fun e he => ?_)
    · rcases List.mem_append.mp he with z | z
      · exact h1 e z
      · rw [List.mem_singleton.mp z]; omega
    · rcases List.mem_append.mp he with z | z
      · exact h2 e z
      · rw [List.mem_singleton.mp z]; omega
theorem sum_le (m : Nat) : ∀ l : List Nat, (∀ x ∈ l, x ≤ m) → l.sum ≤ l.length * m
  | [], _ => by simp
  | a :: r, h => by
    rw [List.sum_cons, List.length_cons, Nat.add_one_mul]
    have := sum_le m r fun x hx => h x (List.mem_cons_of_mem _ hx)
    have := h a List.mem_cons_self
    omega
theorem RowsOk.at {rows : List R3} (R : RowsOk rows) {a : Nat} (h : a < rows.length) : (1 ≤ (r3At rows a).1 ∧ (r3At rows a).1 ≤ 4) ∧ (1 ≤ (r3At rows a).2.1 ∧ (r3At rows a).2.1 ≤ (r3At rows a).1) ∧ 1 ≤ (r3At rows a).2.2 ∧ (r3At rows a).2.2 ≤ (r3At rows a).1 :=
  R.bd _ (List.mem_of_getElem? (getD_get (0, 0, 0) h))
theorem stick_bd {rows : List R3} (R : RowsOk rows) {a b : Nat} (h1 : a < b) (h2 : b < rows.length) : (sRow rows a b).2.2.2.1 ≤ 12 ∧ (sRow rows a b).2.2.2.2.1 ≤ 12 ∧ (sRow rows a b).2.2.2.2.2 ≤ 16 := by
  have ra := R.at (show a < rows.length by omega)
  have rb := R.at h2
  have hl := R.len
  have hbl := betw_len h1 h2
  have s : ∀ f : R3 → Nat, (∀ r ∈ rows, f r ≤ 4) → ((betw rows a b).map f).sum ≤ (b - a - 1) * 4 := fun f hf => by
    have := sum_le 4 ((betw rows a b).map f) fun x hx => by
      obtain ⟨r, hr, rfl⟩ := List.mem_map.mp hx
      exact hf r (betw_mem hr)
    rw [List.length_map, hbl] at this
    exact this
  have s1 := s hLow fun r hr => by have := R.bd r hr; unfold hLow; omega
  have s2 := s hLeft fun r hr => by have := R.bd r hr; unfold hLeft; omega
  have s3 := s hAll fun r hr => by have := R.bd r hr; unfold hAll; omega
  unfold sRow
  refine ⟨?_, ?_, ?_⟩
  · show (r3At rows a).1 + _ ≤ 12
    omega
  · show (r3At rows b).1 + _ ≤ 12
    omega
  · show (r3At rows a).1 + (r3At rows b).1 + _ ≤ 16
    omega
theorem e6s_shaped (l : List R6) : SeqAt.shaped (.list (l.map e6)) = true := tups_shaped (fun r : R6 => [eN r.1, eN r.2.1, eN r.2.2.1, eN r.2.2.2.1, eN r.2.2.2.2.1, eN r.2.2.2.2.2]) (fun _ => rfl) l
theorem e6_eT (l : List R6) : l.map e6 = (l.map l6).map eT := by rw [List.map_map]; rfl
theorem stick_len (rows : List R3) (h : rows.length ≤ 4) : (stickRows rows).length ≤ 16 := Nat.le_trans (flatMap_len (fun a => sIn rows a (rows.length - (a + 1))) rows.length (fun i => Nat.le_trans (sIn_len _ _ _) (by omega)) rows.length) (Nat.le_trans (Nat.mul_le_mul h h) (by decide))
theorem wayAB_cut (nm : List Nat) (n i j : Nat) (hi : i ≤ j) (hj : j ≤ n) : cutP (eNs (wayAB nm 0 n)) (some (i : Int)) (some (j : Int)) = eNs (wayAB nm i (j - i)) := by
  have hl : (wayAB nm 0 n).length = n := by unfold wayAB; rw [List.length_map, List.length_range]
  unfold eNs
  rw [cutP_map, cutP_nat _ _ _ (by omega) (by omega)]
  congr 1
  apply List.ext_getElem?
  intro t
  unfold wayAB
  rw [List.getElem?_take, List.getElem?_drop, List.getElem?_map, List.getElem?_map]
  by_cases h : t < j - i
  · rw [if_pos h, List.getElem?_range (by omega), List.getElem?_range h]
    simp
  · rw [if_neg h, List.getElem?_eq_none (l := List.range (j - i)) (by rw [List.length_range]; omega)]
    rfl
section
variable {P : Program} {w : World} {K : PySem.W.Frag} {mg : PySem.Str → Option Value} {base : Heap} {CC CW : Addr}
abbrev s_line_carts : Stmt := topS 74
abbrev N_line_carts : List PySem.Str := ["web", "east", "west", "numbers", "rows", "lanes", "a", "b", "least", "other", "both", "more", "easts", "wests", "number", "low", "left", "held", "step", "way", "row"]
theorem sc_line_carts : FnScope N_line_carts ["web", "east", "west"] (defScope s_line_carts) := ⟨rfl, rfl, rfl, by decide +kernel, rfl, by decide +kernel, by decide +kernel⟩
def cartsT (nm : List Nat) (rows : List R3) (W : Nat) : List R6 → PyData
  | [] => .none
  | r :: _ => .list ((planCarts rows r W).map (eCart nm))
def R_line_carts (CC CW : Addr) : List PP → PP → Prop := fun Ps T => ∃ nm rows E W, LR nm rows ∧ E ≤ 1000 ∧ W ≤ 1000 ∧ Ps = [We CC CW nm rows, DI ((E : Nat) : Int), DI ((W : Nat) : Int)] ∧ T = D (cartsT nm rows W (sticking rows E W))
theorem ok_line_carts (F : Df K mg "line_carts" s_line_carts ["web", "east", "west"]) (T : Txt K mg CC CW) (c_line_numbers : Cal P w K mg base "line_numbers" ["web"] 7 (spF (R_line_numbers CC CW))) (c_stick_rows : Cal P w K mg base "stick_rows" ["numbers"] 2 (spF R_stick_rows)) (c_sticks_by : Cal P w K mg base "sticks_by" ["row", "east", "west"] 1 (spF R_sticks_by)) (c_held_between : Cal P w K mg base "held_between" ["number"] 1 (spF R_held_between)) (c_line_yards : Cal P w K mg base "line_yards" ["web"] 3 (spF (R_line_yards CC CW))) (c_placed : Cal P w K mg base "placed" ["country", "way", "easts", "wests"] 3 (spF (R_placed CC))) (cp_country : CalP P w K mg base CW "country" 1 (spF (R_wcountry CC CW))) : Cal P w K mg base "line_carts" ["web", "east", "west"] 8 (spF (R_line_carts CC CW)) := by
  refine F.ok sc_line_carts (fun Ps T ⟨_, _, _, _, _, _, _, h, _⟩ => by rw [h]; rfl) fun f cdv A outer s H E hr => ⟨_,
    (pss_cons (ps_set (i := 3) sc_line_carts.nd rfl (.inl rfl) (pe_cal c_line_numbers (hr.mono (by decide)) rfl (pa_cons (pv 0) pa_nil)))
      (pss_cons (ps_setLc (i := 4) (own := [("row", 20)]) (g := (gName 20))  (by rfl) sc_line_carts.nd rfl rfl (sw_true rfl rfl rfl (by decide +kernel)) (pi_list (pe_callB (cr_sortT (d := 6) (B := 64) (by decide)) (by rfl) T.sorted boot_sorted (pa_cons (pe_cal c_stick_rows (hr.mono (by decide)) rfl (pa_cons (pv 3) pa_nil)) pa_nil))) (blkOk_by (own := [("row", 20)]) (N := N_line_carts) (sc := defScope s_line_carts) (by decide +kernel)) (fun _ _ _ _ _ => (pg_name (i := 20) sc_line_carts.nd rfl (by first | exact Or.inl rfl | exact Or.inr rfl))) (fun _ _ _ _ _ => (pts_one (pt_val (pe_cal c_sticks_by (hr.mono (by decide)) rfl (pa_cons (pv 20) (pa_cons (pv 1) (pa_cons (pv 2) pa_nil))))))) (fun _ _ _ _ _ => (pv 20)))
      (pss_cons (ps_if (pt_cmpR (op_eqD hr.units) (pv 4) (pe_lst pa_nil) (nomark _)) (pss_one (ps_ret pe_non)) pss_nil)
      (pss_cons (ps_asg (pe_ix ix_seq (pv 4) pe_int (fun _ _ => rfl)) (pg_tup rfl (pgs_cons (pg_name (i := 5) sc_line_carts.nd rfl (.inl rfl)) (pgs_cons (pg_name (i := 6) sc_line_carts.nd rfl (.inl rfl)) (pgs_cons (pg_name (i := 7) sc_line_carts.nd rfl (.inl rfl)) (pgs_cons (pg_name (i := 8) sc_line_carts.nd rfl (.inl rfl)) (pgs_cons (pg_name (i := 9) sc_line_carts.nd rfl (.inl rfl)) (pgs_cons (pg_name (i := 10) sc_line_carts.nd rfl (.inl rfl)) pgs_nil))))))))
      (pss_cons (ps_par3 (i := 11) (j := 12) (l := 13) (by rfl) sc_line_carts.nd rfl rfl rfl (by decide) (by decide) (by decide) rfl rfl rfl (pa_cons (pe_callB (call_max2 rfl) (by rfl) T.max boot_max (pa_cons pe_int (pa_cons (pe_op op_sub (pe_op op_sub (pv 10) (pv 2)) (pv 8)) pa_nil))) (pa_cons (pe_lst pa_nil) (pa_cons (pe_lst pa_nil) pa_nil))) (by rfl))
      (pss_cons (ps_for PassesOwn.never rfl (pi_list (pe_slice sl_list (pv 3) (po_some (pe_op op_add (pv 6) pe_int)) (po_some (pv 7)))) (pg_name (i := 14) sc_line_carts.nd rfl (.inl rfl))
        (pss_cons (ps_asg (pe_cal c_held_between (hr.mono (by decide)) rfl (pa_cons (pv 14) pa_nil)) (pg_tup rfl (pgs_cons (pg_name (i := 15) sc_line_carts.nd rfl (.inl rfl)) (pgs_cons (pg_name (i := 16) sc_line_carts.nd rfl (.inl rfl)) (pgs_cons (pg_name (i := 17) sc_line_carts.nd rfl (.inl rfl)) pgs_nil)))))
        (pss_cons (ps_set (i := 18) sc_line_carts.nd rfl (.inl rfl) (pe_callB (call_min3Nu rfl) (by rfl) T.min boot_min (pa_cons (pv 11) (pa_cons (pe_op op_sub (pe_ix ix_seq (pv 14) pe_int (fun _ _ => rfl)) (pv 15)) (pa_cons (pe_op op_sub (pe_op op_sub (pv 17) (pv 16)) (pv 15)) pa_nil)))))
        (pss_cons (ps_set (i := 11) sc_line_carts.nd rfl (.inl rfl) (pe_op op_sub (pv 11) (pv 18)))
        (pss_cons (ps_expr (pe_bm PySem.F.plainAttrs_list PySem.F.slot_list_append PySem.F.type_list_append mt_append (pv 12) (pa_cons (pe_op op_add (pv 15) (pv 18)) pa_nil)))
        (pss_one (ps_expr (pe_bm PySem.F.plainAttrs_list PySem.F.slot_list_append PySem.F.type_list_append mt_append (pv 13) (pa_cons (pe_op op_sub (pe_op op_sub (pv 17) (pv 15)) (pv 18)) pa_nil)))))))))
      (pss_cons (ps_set (i := 19) sc_line_carts.nd rfl (.inl rfl) (pe_slice sl_list (pe_cal c_line_yards (hr.mono (by decide)) rfl (pa_cons (pv 0) pa_nil)) (po_some (pe_op op_add (pv 6) pe_int)) (po_some (pe_op op_add (pv 7) pe_int))))
      (pss_one (ps_ret (pe_cal c_placed (hr.mono (by decide)) rfl (pa_cons (pe_pr cp_country T.cW (hr.mono (by decide)) (pv 0)) (pa_cons (pv 19) (pa_cons (pe_op op_cat (pe_op op_cat (pe_lst (pa_cons (pe_ix ix_seq (pe_ix ix_seq (pv 3) (pv 6) (fun _ _ => rfl)) pe_int (fun _ _ => rfl)) pa_nil)) (pv 12)) (pe_lst (pa_cons pe_int pa_nil))) (pa_cons (pe_op op_cat (pe_op op_cat (pe_lst (pa_cons pe_int pa_nil)) (pv 13)) (pe_lst (pa_cons (pe_ix ix_seq (pe_ix ix_seq (pv 3) (pv 7) (fun _ _ => rfl)) pe_int (fun _ _ => rfl)) pa_nil))) pa_nil)))))))))))))), ?_⟩
  rintro B M0 Ps T' D' ⟨nm, rows, E0, W0, h, hE, hW, rfl, rfl⟩ hR _
  have hrl := h.R.len
  have hn := h.n
  have hbd : bd3 rows := fun r hr => by have := h.R.bd r hr; omega
  have hsl := stick_len rows hrl.2
  refine xs_seq (xs_set (xv_call (xa_cons (xv_var rfl) xa_nil) ⟨nm, rows, h, rfl, rfl⟩) (nx_x ?_))
  have hb : ∀ ns ∈ (stickRows rows).map l6, ns.length = 6 ∧ TS.Bd 64 ns := fun ns hns => by
    obtain ⟨q, hq, rfl⟩ := List.mem_map.mp hns
    refine ⟨rfl, fun x hx => ?_⟩
    obtain ⟨a, b, h1, h2, h3, e⟩ := mem_stick.mp hq
    obtain ⟨b1, b2, b3⟩ := stick_bd h.R h1 h2
    rw [e] at b1 b2 b3
    have q1 : q.1 = b - a := by rw [← e]; rfl
    have q2 : q.2.1 = a := by rw [← e]; rfl
    have q3 : q.2.2.1 = b := by rw [← e]; rfl
    simp only [l6, List.mem_cons, List.not_mem_nil, or_false] at hx
    omega
  refine xs_seq (xs_set (P := DL ((sticking rows E0 W0).map e6)) (Xv.lst (xf_filter (ml := []) (items := sortK key6 (stickRows rows)) (0, 0, 0, 0, 0, 0) (fun r => stk r E0 W0) e6 (xi_encL (items := sortK key6 (stickRows rows)) (0, 0, 0, 0, 0, 0) e6 (Xv.lst ((xf_cb (xa_cons (xv_call (xa_cons (xv_var rfl) xa_nil) ⟨rows, by omega, hbd, rfl, rfl⟩) xa_nil) (rcf_sortT (items := (stickRows rows).map l6) (ms := (sortK key6 (stickRows rows)).map l6) (by rw [← e6_eT]; exact vl_d) (by rw [List.length_map]; omega) hb (sort_code hb ((sortK_perm key6 _).map _) (by rw [List.pairwise_map]; exact sortK_sorted key6 _)))).conv fun H v p => by rw [e6_eT]; exact p))) (fun q hq => nomatch hq) (by rw [(sortK_perm _ _).length_eq]; omega)
    fun i gl l acc hi => ⟨_, _, xg_name, fun j hj => hj, xt_b (xv_call (xa_cons (xv_var rfl) (xa_cons (xv_var rfl) (xa_cons (xv_var rfl) xa_nil))) ⟨_, _, _, rfl, rfl⟩), fun _ => xv_var rfl⟩)) (nx_x ?_))
  cases hst : sticking rows E0 W0 with
  | nil =>
    rw [hst] at hR
    exact xs_seq (xs_yes (xt_test (xv_op (xv_var rfl) (Xv.lst (xf_lst [] xa_nil (by decide))) (ro_eqD vd_d vd_d (shaped_flats rfl) (shaped_flats rfl)))) (xs_ret (T := D .none) xv_non rfl rfl (fun H v p => p) hR))
  | cons r rest =>
    rw [hst] at hR
    have hr0 : r ∈ stickRows rows := (sortK_perm key6 _).mem_iff.mp (List.mem_filter.mp (show r ∈ sticking rows E0 W0 by rw [hst]; exact List.mem_cons_self)).1
    obtain ⟨a, b, h1, h2, h3, e⟩ := mem_stick.mp hr0
    obtain ⟨b1, b2, b3⟩ := stick_bd h.R h1 h2
    rw [e] at b1 b2 b3
    have q1 : r.1 = b - a := by rw [← e]; rfl
    have q2 : r.2.1 = a := by rw [← e]; rfl
    have q3 : r.2.2.1 = b := by rw [← e]; rfl
    refine xs_seq (xs_no ((xt_test (xv_op (xv_var rfl) (Xv.lst (xf_lst [] xa_nil (by decide))) (ro_eqD vd_d vd_d (e6s_shaped _) (shaped_flats rfl)))).eq (by rw [eqv_list_nil]; rfl)) (xs_next (nx_x ?_)))
    refine xs_seq (xs_g (xv_op (xv_var rfl) xv_int (ro_ixL vl_d (d := e6 r) (atI_n (j := 0) rfl))) (xg_tup (ds := [eN r.1, eN r.2.1, eN r.2.2.1, eN r.2.2.2.1, eN r.2.2.2.2.1, eN r.2.2.2.2.2]) (xgs_cons xg_name (xgs_cons xg_name (xgs_cons xg_name (xgs_cons xg_name (xgs_cons xg_name (xgs_cons xg_name xgs_nil)))))) rfl) (nx_x ?_))
    rw [q2, q3]
    refine xs_seq (xs_par3PFF (P := DI ((more0 r W0 : Nat) : Int)) (Xv.dat (xv_cb (xa_cons xv_int (xa_cons (xv_op (xv_op (xv_var rfl) (xv_var rfl) ro_i0) (xv_var rfl) ro_i0) xa_nil)) rc_max2) ?_) (xf_lst [] xa_nil (by decide)) (fun l => xf_lst [] xa_nil (by decide)) fun le lw => nx_x ?_)
    · unfold more0
      rw [show max (0 : Int) (((r.2.2.2.2.2 : Nat) : Int) - (W0 : Nat) - ((r.2.2.2.1 : Nat) : Int)) = ((r.2.2.2.2.2 - W0 - r.2.2.2.1 : Nat) : Int) by omega]
    let bt := betw rows a b
    have hbl : bt.length = b - a - 1 := betw_len h1 h2
    let st : Nat → Nat × List Nat × List Nat := fun i => (bt.take i).foldl planStep (more0 r W0, [], [])
    let ds : Nat → List (Option PP) := fun m => [some (We CC CW nm rows), some (DI ((E0 : Nat) : Int)), some (DI ((W0 : Nat) : Int)), some (DL (rows.map eR)), some (DL ((r :: rest).map e6)), some (DI ((r.1 : Nat) : Int)), some (DI ((a : Nat) : Int)), some (DI ((b : Nat) : Int)), some (DI ((r.2.2.2.1 : Nat) : Int)), some (DI ((r.2.2.2.2.1 : Nat) : Int)), some (DI ((r.2.2.2.2.2 : Nat) : Int)), some (DI ((m : Nat) : Int)), some (Rf le), some (Rf lw), none, none, none, none, none, none, none]
    refine xs_seq (xs_for (n := bt.length) (I := fun i => ⟨B, M0, [(lw, LF (eNs (st i).2.2)), (le, LF (eNs (st i).2.1))], ds (st i).1, []⟩) (xi_encL (items := bt) (0, 0, 0) eR (Xv.lst ((xf_slice (lo := some ((a + 1 : Nat) : Int)) (hi := some ((b : Nat) : Int)) (xv_var rfl) vl_d (xo_p (xp_op (xp_var rfl) xp_int ro_i0)) (xo_p (xp_var rfl))).conv fun H v p => by rw [cutP_map, cutP_nat _ _ _ (by omega) (by omega)] at p; exact p))) (fun _ _ q hq => nomatch hq) (ghs_weak (wk_refl _)) (fun i gl hi => ?_) (nx_x ?_))
    · have hg : bt[i]? = some (bt.getD i (0, 0, 0)) := getD_get _ hi
      have hm : bt.getD i (0, 0, 0) ∈ rows := betw_mem (List.mem_of_getElem? hg)
      have e1 : st (i + 1) = planStep (st i) (bt.getD i (0, 0, 0)) := foldl_take _ _ _ (0, 0, 0) hi
      have hlen := plan_len (bt.take i) (more0 r W0, [], [])
      have htl : (bt.take i).length ≤ 10 := by rw [List.length_take]; omega
      generalize bt.getD i (0, 0, 0) = u at *
      have hu := h.R.bd u hm
      have vu : ∀ {C : Ct}, Vt C (D (eR u)) [eN u.1, eN u.2.1, eN u.2.2] := vt_d
      have hlE : (st i).2.1.length ≤ 10 := by show ((bt.take i).foldl planStep _).2.1.length ≤ 10; rw [hlen.1]; simpa using htl
      have hlW : (st i).2.2.length ≤ 10 := by show ((bt.take i).foldl planStep _).2.2.length ≤ 10; rw [hlen.2]; simpa using htl
      generalize hsti : st i = sti at *
      obtain ⟨mo, ees, wws⟩ := sti
      have c1 : hLow u ≤ u.2.1 := by unfold hLow; omega
      have c2 : hLeft u + hLow u ≤ hAll u := by unfold hLeft hLow hAll; omega
      let step := min (min mo (u.2.1 - hLow u)) (hAll u - hLeft u - hLow u)
      refine xb_mk xg_name (xs_seq (xs_g (xv_call (xa_cons (xv_var rfl) xa_nil) ⟨u, by omega, rfl, rfl⟩) (xg_tup (ds := [eN (hLow u), eN (hLeft u), eN (hAll u)]) (xgs_cons xg_name (xgs_cons xg_name (xgs_cons xg_name xgs_nil))) rfl) (nx_x ?_)))
      refine xs_seq (xs_set (P := DI ((step : Nat) : Int)) (Xv.dat (xv_cb (xa_cons (xv_var rfl) (xa_cons (xv_op (xv_op (xv_var rfl) xv_int (ro_ixT vu rfl)) (xv_var rfl) ro_i0) (xa_cons (xv_op (xv_op (xv_var rfl) (xv_var rfl) ro_i0) (xv_var rfl) ro_i0) xa_nil))) rc_min3) ?_) (nx_x ?_))
      · show PyData.int (min (min ((mo : Nat) : Int) (((u.2.1 : Nat) : Int) - (hLow u : Nat))) (((hAll u : Nat) : Int) - (hLeft u : Nat) - (hLow u : Nat))) = .int ((step : Nat) : Int)
        rw [show min (min ((mo : Nat) : Int) (((u.2.1 : Nat) : Int) - (hLow u : Nat))) (((hAll u : Nat) : Int) - (hLeft u : Nat) - (hLow u : Nat)) = ((step : Nat) : Int) by show _ = ((min (min mo (u.2.1 - hLow u)) (hAll u - hLeft u - hLow u) : Nat) : Int); omega]
      have c3 : step ≤ mo := by show min (min mo (u.2.1 - hLow u)) (hAll u - hLeft u - hLow u) ≤ mo; omega
      have c4 : step + hLow u ≤ hAll u := by show min (min mo (u.2.1 - hLow u)) (hAll u - hLeft u - hLow u) + hLow u ≤ hAll u; omega
      refine xs_seq (xs_set (P := DI ((mo - step : Nat) : Int)) (Xv.dat (xv_op (xv_var rfl) (xv_var rfl) ro_i0) (by rw [show ((mo : Nat) : Int) - (step : Nat) = ((mo - step : Nat) : Int) by omega])) (nx_x ?_))
      refine xs_seq (xs_drop (xv_app (k := 1) (d := eN (hLow u + step)) (xv_var rfl) (xv_op (xv_var rfl) (xv_var rfl) ro_i0) rfl rfl (by rw [eNs_len]; exact Nat.lt_of_le_of_lt hlE (by decide))) (nx_x ?_))
      refine xs_drop (xv_app (k := 0) (d := eN (hAll u - hLow u - step)) (xv_var rfl) (Xv.dat (xv_op (xv_op (xv_var rfl) (xv_var rfl) ro_i0) (xv_var rfl) ro_i0) (by rw [show ((hAll u : Nat) : Int) - (hLow u : Nat) - (step : Nat) = ((hAll u - hLow u - step : Nat) : Int) by omega])) rfl rfl (by rw [eNs_len]; exact Nat.lt_of_le_of_lt hlW (by decide))) fun σ H e => ?_
      show En (Ct.ghs ⟨B, M0, [(lw, LF (eNs (st (i + 1)).2.2)), (le, LF (eNs (st (i + 1)).2.1))], ds (st (i + 1)).1, []⟩ gl) σ H
      rw [e1]
      show En (Ct.ghs ⟨B, M0, [(lw, LF (eNs (wws ++ [hAll u - hLow u - step]))), (le, LF (eNs (ees ++ [hLow u + step])))], ds (mo - step), []⟩ gl) σ H
      rw [eNs_append, eNs_append]
      exact e.weak (.keep (.keep (.keep (.keep (.keep (.keep (.keep (.keep (.keep (.keep (.keep (.keep (.keep (.keep (.drop (.drop (.drop (.drop (.drop (.keep (.keep .nil))))))))))))))))))))) fun _ z => z
    · have epl : st bt.length = planRun rows r W0 := by
        show (bt.take bt.length).foldl planStep _ = _
        rw [List.take_length]
        unfold planRun
        rw [q2, q3]
      rw [epl]
      have hlen := plan_len (betw rows r.2.1 r.2.2.1) (more0 r W0, [], [])
      have hle := plan_le 4 (betw rows r.2.1 r.2.2.1) (more0 r W0, [], []) (fun u hu => by have := h.R.bd u (betw_mem hu); omega) (fun e he => nomatch he) (fun e he => nomatch he)
      have hbl2 : (betw rows r.2.1 r.2.2.1).length = b - a - 1 := by rw [q2, q3]; exact hbl
      rw [hbl2] at hlen
      have hpE : (planRun rows r W0).2.1.length = b - a - 1 := hlen.1.trans (Nat.zero_add _)
      have hpW : (planRun rows r W0).2.2.length = b - a - 1 := hlen.2.trans (Nat.zero_add _)
      have ra := h.R.at (show a < rows.length by omega)
      have rb := h.R.at h2
      refine xs_seq (xs_set (P := DL (eNs (wayAB nm (a + 1) (b - a + 1)))) (Xv.lst ((xf_slice (lo := some ((a + 1 : Nat) : Int)) (hi := some ((b + 2 : Nat) : Int)) (xv_call (xa_cons (xv_var rfl) xa_nil) ⟨nm, rows, h, rfl, rfl⟩) vl_d (xo_p (xp_op (xp_var rfl) xp_int ro_i0)) (xo_p (xp_op (xp_var rfl) xp_int ro_i0))).conv fun H v p => ?_)) (nx_x ?_))
      · rw [wayAB_cut nm nm.length (a + 1) (b + 2) (by omega) (by omega), show b + 2 - (a + 1) = b - a + 1 by omega] at p
        exact p
      have aat : L2.atI (rows.map eR) ((a : Nat) : Int) = some (eR (r3At rows a)) := atI_n (by rw [List.getElem?_map, getD_get (0, 0, 0) (by omega), Option.map_some])
      have bat : L2.atI (rows.map eR) ((b : Nat) : Int) = some (eR (r3At rows b)) := atI_n (by rw [List.getElem?_map, getD_get (0, 0, 0) (by omega), Option.map_some])
      have vr : ∀ {C : Ct} {u : R3}, Vt C (D (eR u)) [eN u.1, eN u.2.1, eN u.2.2] := vt_d
      refine xs_ret (T := DL ((planCarts rows r W0).map (eCart nm))) (xv_call (xa_cons (xv_prop (xv_var rfl) Ob.ins ⟨nm, rows, rfl, rfl⟩) (xa_cons (xv_var rfl)
        (xa_cons (Xv.lst (xf_op (Xv.lst (xf_op (Xv.lst (xf_lst [eN (r3At rows a).1] (xa_cons (xv_op (xv_op (xv_var rfl) (xv_var rfl) (ro_ixL vl_d aat)) xv_int (ro_ixT vr rfl)) xa_nil) (by show 1 ≤ 100000; decide))) (xv_var rfl) (rf_cat vl_d (vl_r (k := 1) rfl) ?_))) (Xv.lst (xf_lst [eN 0] (xa_cons xv_int xa_nil) (by show 1 ≤ 100000; decide))) (rf_cat vl_d vl_d ?_)))
        (xa_cons (Xv.lst (xf_op (Xv.lst (xf_op (Xv.lst (xf_lst [eN 0] (xa_cons xv_int xa_nil) (by show 1 ≤ 100000; decide))) (xv_var rfl) (rf_cat vl_d (vl_r (k := 0) rfl) ?_))) (Xv.lst (xf_lst [eN (r3At rows b).1] (xa_cons (xv_op (xv_op (xv_var rfl) (xv_var rfl) (ro_ixL vl_d bat)) xv_int (ro_ixT vr rfl)) xa_nil) (by show 1 ≤ 100000; decide))) (rf_cat vl_d vl_d ?_))) xa_nil))))
        ⟨nm, a + 1, b - a + 1, planE rows r W0, planW rows r W0, h.L, by omega, by omega, by omega, ?_, ?_, ?_, ?_, ?_, rfl⟩) rfl rfl (fun H v p => ?_) hR
      · rw [eNs_len, hpE]; show 1 + _ ≤ _; omega
      · rw [List.length_append, eNs_len, hpE]; show 1 + _ + 1 ≤ _; omega
      · rw [eNs_len, hpW]; show 1 + _ ≤ _; omega
      · rw [List.length_append, eNs_len, hpW]; show 1 + _ + 1 ≤ _; omega
      · unfold planE
        rw [List.length_append, List.length_append, hpE]; show 1 + _ + 1 = _; omega
      · unfold planW
        rw [List.length_append, List.length_append, hpW]; show 1 + _ + 1 = _; omega
      · intro x hx
        unfold planE at hx
        rcases List.mem_append.mp hx with z | z
        · rcases List.mem_append.mp z with z | z
          · rw [List.mem_singleton.mp z, q2]; omega
          · have := hle.1 x z; omega
        · rw [List.mem_singleton.mp z]; omega
      · intro x hx
        unfold planW at hx
        rcases List.mem_append.mp hx with z | z
        · rcases List.mem_append.mp z with z | z
          · rw [List.mem_singleton.mp z]; omega
          · have := hle.2 x z; omega
        · rw [List.mem_singleton.mp z, q3]; omega
      · unfold planE planW
        rw [eNs_append, eNs_append, eNs_append, eNs_append, q2, q3]
        rfl
      · unfold planCarts
        rw [q2, q3]
        exact p
end
end K74

set_option Elab.async false
set_option linter.all false
set_option maxRecDepth 100000
set_option maxHeartbeats 4000000
namespace K74
open PySem PySem.Spec PyProof.Rows L2
theorem plan_facts {rows : List R3} (R : RowsOk rows) {r : R6} (hr0 : r ∈ stickRows rows) (W : Nat) : ∃ a b, a < b ∧ b < rows.length ∧ sOk rows a b = true ∧ sRow rows a b = r ∧ r.2.1 = a ∧ r.2.2.1 = b ∧ (planE rows r W).length = b - a + 1 ∧ (planW rows r W).length = b - a + 1 ∧ (∀ x ∈ planE rows r W, x ≤ 4) ∧ ∀ x ∈ planW rows r W, x ≤ 4 := by
  obtain ⟨a, b, h1, h2, h3, e⟩ := mem_stick.mp hr0
  have q2 : r.2.1 = a := by rw [← e]; rfl
  have q3 : r.2.2.1 = b := by rw [← e]; rfl
  have hlen := plan_len (betw rows r.2.1 r.2.2.1) (more0 r W, [], [])
  have hle := plan_le 4 (betw rows r.2.1 r.2.2.1) (more0 r W, [], []) (fun u hu => by have := R.bd u (betw_mem hu); omega) (fun e he => nomatch he) (fun e he => nomatch he)
  have hbl2 : (betw rows r.2.1 r.2.2.1).length = b - a - 1 := by rw [q2, q3]; exact betw_len h1 h2
  rw [hbl2] at hlen
  have hpE : (planRun rows r W).2.1.length = b - a - 1 := hlen.1.trans (Nat.zero_add _)
  have hpW : (planRun rows r W).2.2.length = b - a - 1 := hlen.2.trans (Nat.zero_add _)
  have ra := R.at (show a < rows.length by omega)
  have rb := R.at h2
  refine ⟨a, b, h1, h2, h3, e, q2, q3, ?_, ?_, ?_, ?_⟩
  · unfold planE
    rw [List.length_append, List.length_append, hpE]; show 1 + _ + 1 = _; omega
  · unfold planW
    rw [List.length_append, List.length_append, hpW]; show 1 + _ + 1 = _; omega
  · intro x hx
    unfold planE at hx
    rcases List.mem_append.mp hx with z | z
    · rcases List.mem_append.mp z with z | z
      · rw [List.mem_singleton.mp z, q2]; omega
      · have := hle.1 x z; omega
    · rw [List.mem_singleton.mp z]; omega
  · intro x hx
    unfold planW at hx
    rcases List.mem_append.mp hx with z | z
    · rcases List.mem_append.mp z with z | z
      · rw [List.mem_singleton.mp z]; omega
      · have := hle.2 x z; omega
    · rw [List.mem_singleton.mp z, q3]; omega
theorem placedM_pos {A L : Nat} {es ws : List Nat} (hL : 2 ≤ L) : ∀ c ∈ placedM A L es ws, A ≤ c.1 ∧ c.1 < A + L := by
  intro c hc
  unfold placedM at hc
  rcases List.mem_append.mp hc with hc | hc
  · rcases List.mem_append.mp hc with hc | hc
    · rcases List.mem_append.mp hc with hc | hc
      · obtain ⟨t, ht, h⟩ := List.mem_flatMap.mp hc
        rw [List.mem_range] at ht
        rw [(List.mem_replicate.mp h).2]
        show A ≤ A + (t + 1) ∧ A + (t + 1) < A + L
        omega
      · obtain ⟨t, ht, h⟩ := List.mem_flatMap.mp hc
        rw [List.mem_range] at ht
        rw [(List.mem_replicate.mp h).2]
        show A ≤ A + (L - 2 - t) ∧ A + (L - 2 - t) < A + L
        omega
    · rw [(List.mem_replicate.mp hc).2]
      show A ≤ A ∧ A < A + L
      omega
  · rw [(List.mem_replicate.mp hc).2]
    show A ≤ A + (L - 1) ∧ A + (L - 1) < A + L
    omega
theorem placedM_len {A L : Nat} {es ws : List Nat} (hL : L ≤ 4) (he : ∀ x ∈ es, x ≤ 4) (hw : ∀ x ∈ ws, x ≤ 4) : (placedM A L es ws).length ≤ 100 := by
  have be := getD_le he
  have bw := getD_le hw
  have h1 := flatMap_len (fun t => List.replicate (ws.getD (t + 1) 0) (A + (t + 1), false)) 4 (fun t => by rw [List.length_replicate]; exact bw _) (L - 2)
  have h2 := flatMap_len (fun t => List.replicate (es.getD (L - 2 - t) 0) (A + (L - 2 - t), true)) 4 (fun t => by rw [List.length_replicate]; exact be _) (L - 2)
  unfold placedM placed1 placed2
  rw [List.length_append, List.length_append, List.length_append, List.length_replicate, List.length_replicate]
  have := be 0
  have := bw (L - 1)
  omega
theorem stick_len6 {rows : List R3} (h : rows.length ≤ 4) : (stickRows rows).length ≤ 6 := by
  have s := fun a n => sIn_len rows a n
  unfold stickRows
  have h' : rows.length = 0 ∨ rows.length = 1 ∨ rows.length = 2 ∨ rows.length = 3 ∨ rows.length = 4 := by omega
  rcases h' with e | e | e | e | e
  · rw [e]; exact Nat.zero_le _
  · rw [e]
    have := s 0 (1 - (0 + 1))
    show (List.flatMap _ [0]).length ≤ 6
    simp only [List.flatMap_cons, List.flatMap_nil, List.append_nil]
    omega
  · rw [e]
    have := s 0 (2 - (0 + 1))
    have := s 1 (2 - (1 + 1))
    show (List.flatMap _ [0, 1]).length ≤ 6
    simp only [List.flatMap_cons, List.flatMap_nil, List.append_nil, List.length_append]
    omega
  · rw [e]
    have := s 0 (3 - (0 + 1))
    have := s 1 (3 - (1 + 1))
    have := s 2 (3 - (2 + 1))
    show (List.flatMap _ [0, 1, 2]).length ≤ 6
    simp only [List.flatMap_cons, List.flatMap_nil, List.append_nil, List.length_append]
    omega
  · rw [e]
    have := s 0 (4 - (0 + 1))
    have := s 1 (4 - (1 + 1))
    have := s 2 (4 - (2 + 1))
    have := s 3 (4 - (3 + 1))
    show (List.flatMap _ [0, 1, 2, 3]).length ≤ 6
    simp only [List.flatMap_cons, List.flatMap_nil, List.append_nil, List.length_append]
    omega
theorem rowN_le {rows : List R3} (R : RowsOk rows) {r : R6} (hr : r ∈ stickRows rows) : rowN r ≤ 9 := by
  obtain ⟨a, b, h1, h2, h3, e⟩ := mem_stick.mp hr
  have hl := R.len
  have hbl := betw_len h1 h2
  have s3 : ((betw rows a b).map hAll).sum ≤ (b - a - 1) * 4 := by
    have := sum_le 4 ((betw rows a b).map hAll) fun x hx => by
      obtain ⟨r, hr, rfl⟩ := List.mem_map.mp hx
      have := R.bd r (betw_mem hr)
      unfold hAll
      omega
    rw [List.length_map, hbl] at this
    exact this
  rw [← e]
  unfold rowN sRow
  show max ((r3At rows a).1 + _) ((r3At rows a).1 + (r3At rows b).1 + _ - ((r3At rows b).1 + _)) + 1 - ((r3At rows a).1 + _) ≤ 9
  omega
theorem fm_len {α β : Type} (f : α → List β) (m : Nat) : ∀ l : List α, (∀ x ∈ l, (f x).length ≤ m) → (l.flatMap f).length ≤ l.length * m
  | [], _ => by simp
  | a :: r, h => by
    rw [List.flatMap_cons, List.length_append, List.length_cons, Nat.add_one_mul]
    have := fm_len f m r fun x hx => h x (List.mem_cons_of_mem _ hx)
    have := h a List.mem_cons_self
    omega
theorem someP_len {rows : List R3} (R : RowsOk rows) : (someP (stickRows rows)).length < 64 := by
  have h1 := fm_len (fun r => rowPairs r (rowN r)) 9 (stickRows rows) fun r hr => by
    unfold rowPairs
    rw [List.length_map, List.length_range]
    exact rowN_le R hr
  have h2 := stick_len6 R.len.2
  have h3 : (stickRows rows).length * 9 ≤ 6 * 9 := Nat.mul_le_mul_right _ h2
  exact Nat.lt_of_le_of_lt (Nat.le_trans h1 h3) (by decide)
section
variable {P : Program} {w : World} {K : PySem.W.Frag} {mg : PySem.Str → Option Value} {base : Heap} {CC CW : Addr}
abbrev s_is_line : Stmt := topS 75
abbrev N_is_line : List PySem.Str := ["web"]
theorem sc_is_line : FnScope N_is_line ["web"] (defScope s_is_line) := ⟨rfl, rfl, rfl, by decide +kernel, rfl, by decide +kernel, by decide +kernel⟩
theorem ok_is_line (F : Df K mg "is_line" s_is_line ["web"]) (T : Txt K mg CC CW) (c_want_web : Cal P w K mg base "want_web" ["value"] 1 (spF (R_want_web CC CW))) (c_are_in_line : Cal P w K mg base "are_in_line" ["web"] 7 (spF (R_are_bounded CC CW))) : Cal P w K mg base "is_line" ["web"] 8 (spF (R_are_bounded CC CW)) := by
  refine F.ok sc_is_line (fun Ps T ⟨_, _, _, h, _⟩ => by rw [h]; rfl) fun f cdv A outer s H E hr => ⟨_,
    (pss_one (ps_ret (pe_cal c_are_in_line (hr.mono (by decide)) rfl (pa_cons (pe_cal c_want_web (hr.mono (by decide)) rfl (pa_cons (pv 0) pa_nil)) pa_nil)))), ?_⟩
  rintro B M0 Ps T' D' ⟨nm, rows, h, rfl, rfl⟩ hR _
  exact xs_ret (T := DB true) (xv_call (xa_cons (xv_call (xa_cons (xv_var rfl) xa_nil) ⟨nm, rows, rfl, rfl⟩) xa_nil) ⟨nm, rows, h, rfl, rfl⟩) rfl rfl (fun H v p => p) hR
abbrev s_stairs : Stmt := topS 76
abbrev N_stairs : List PySem.Str := ["web"]
theorem sc_stairs : FnScope N_stairs ["web"] (defScope s_stairs) := ⟨rfl, rfl, rfl, by decide +kernel, rfl, by decide +kernel, by decide +kernel⟩
def R_stairs (CC CW : Addr) : List PP → PP → Prop := fun Ps T => ∃ nm rows, LR nm rows ∧ Ps = [We CC CW nm rows] ∧ T = DL ((leastP (stickRows rows)).map eLane)
theorem ok_stairs (F : Df K mg "stairs" s_stairs ["web"]) (T : Txt K mg CC CW) (c_want_line : Cal P w K mg base "want_line" ["web"] 8 (spF (R_want_line CC CW))) (c_line_numbers : Cal P w K mg base "line_numbers" ["web"] 7 (spF (R_line_numbers CC CW))) (c_stick_rows : Cal P w K mg base "stick_rows" ["numbers"] 2 (spF R_stick_rows)) (c_least_pairs : Cal P w K mg base "least_pairs" ["rows"] 1 (spF R_least_pairs)) : Cal P w K mg base "stairs" ["web"] 9 (spF (R_stairs CC CW)) := by
  refine F.ok sc_stairs (fun Ps T ⟨_, _, _, h, _⟩ => by rw [h]; rfl) fun f cdv A outer s H E hr => ⟨_,
    (pss_one (ps_ret (pe_cal c_least_pairs (hr.mono (by decide)) rfl (pa_cons (pe_cal c_stick_rows (hr.mono (by decide)) rfl (pa_cons (pe_cal c_line_numbers (hr.mono (by decide)) rfl (pa_cons (pe_cal c_want_line (hr.mono (by decide)) rfl (pa_cons (pv 0) pa_nil)) pa_nil)) pa_nil)) pa_nil)))), ?_⟩
  rintro B M0 Ps T' D' ⟨nm, rows, h, rfl, rfl⟩ hR _
  have hrl := h.R.len
  refine xs_ret (T := DL ((leastP (stickRows rows)).map eLane)) (xv_call (xa_cons (xv_call (xa_cons (xv_call (xa_cons (xv_call (xa_cons (xv_var rfl) xa_nil) ⟨nm, rows, h, rfl, rfl⟩) xa_nil) ⟨nm, rows, h, rfl, rfl⟩) xa_nil) ⟨rows, by omega, fun r hr => by have := h.R.bd r hr; omega, rfl, rfl⟩) xa_nil) ⟨stickRows rows, Nat.le_trans (stick_len6 hrl.2) (by decide), fun r hr => ?_, someP_len h.R, rfl, rfl⟩) rfl rfl (fun H v p => p) hR
  obtain ⟨a, b, h1, h2, h3, e⟩ := mem_stick.mp hr
  have := stick_bd h.R h1 h2
  rw [e] at this
  omega
abbrev s_want_both : Stmt := topS 77
abbrev N_want_both : List PySem.Str := ["east", "west"]
theorem sc_want_both : FnScope N_want_both ["east", "west"] (defScope s_want_both) := ⟨rfl, rfl, rfl, by decide +kernel, rfl, by decide +kernel, by decide +kernel⟩
def R_want_both : List PP → PP → Prop := fun Ps T => ∃ E W : Nat, Ps = [DI ((E : Nat) : Int), DI ((W : Nat) : Int)] ∧ T = D .none
theorem ok_want_both (F : Df K mg "want_both" s_want_both ["east", "west"]) (T : Txt K mg CC CW) (c_is_count : Cal P w K mg base "is_count" ["value"] 2 (spF R_is_count)) : Cal P w K mg base "want_both" ["east", "west"] 3 (spF R_want_both) := by
  refine F.ok sc_want_both (fun Ps T ⟨_, _, h, _⟩ => by rw [h]; rfl) fun f cdv A outer s H E hr => ⟨_,
    (pss_cons (ps_if (pt_not (pt_val (pe_cal c_is_count (hr.mono (by decide)) rfl (pa_cons (pv 0) pa_nil)))) pss_never pss_nil)
      (pss_one (ps_if (pt_not (pt_val (pe_cal c_is_count (hr.mono (by decide)) rfl (pa_cons (pv 1) pa_nil)))) pss_never pss_nil))), ?_⟩
  rintro B M0 Ps T' D' ⟨E0, W0, rfl, rfl⟩ hR hnx
  refine xs_seq (xs_no (xt_not (b := true) (xt_b ((xv_call (xa_cons (xv_var rfl) xa_nil) ⟨_, rfl, rfl, rfl⟩).dat rfl))) (xs_next (nx_x ?_)))
  refine xs_no (xt_not (b := true) (xt_b ((xv_call (xa_cons (xv_var rfl) xa_nil) ⟨_, rfl, rfl, rfl⟩).dat rfl))) (xs_next fun σ H e => ?_)
  rw [hnx]
  exact hR .non H e.base .non
abbrev s_can_stick : Stmt := topS 78
abbrev N_can_stick : List PySem.Str := ["web", "east", "west", "row"]
theorem sc_can_stick : FnScope N_can_stick ["web", "east", "west"] (defScope s_can_stick) := ⟨rfl, rfl, rfl, by decide +kernel, rfl, by decide +kernel, by decide +kernel⟩
def R_can_stick (CC CW : Addr) : List PP → PP → Prop := fun Ps T => ∃ nm rows, ∃ E W : Nat, LR nm rows ∧ Ps = [We CC CW nm rows, DI ((E : Nat) : Int), DI ((W : Nat) : Int)] ∧ T = DB ((stickRows rows).any fun r => stk r E W)
theorem ok_can_stick (F : Df K mg "can_stick" s_can_stick ["web", "east", "west"]) (T : Txt K mg CC CW) (c_want_web : Cal P w K mg base "want_web" ["value"] 1 (spF (R_want_web CC CW))) (c_want_both : Cal P w K mg base "want_both" ["east", "west"] 3 (spF R_want_both)) (c_want_line : Cal P w K mg base "want_line" ["web"] 8 (spF (R_want_line CC CW))) (c_line_numbers : Cal P w K mg base "line_numbers" ["web"] 7 (spF (R_line_numbers CC CW))) (c_stick_rows : Cal P w K mg base "stick_rows" ["numbers"] 2 (spF R_stick_rows)) (c_sticks_by : Cal P w K mg base "sticks_by" ["row", "east", "west"] 1 (spF R_sticks_by)) : Cal P w K mg base "can_stick" ["web", "east", "west"] 9 (spF (R_can_stick CC CW)) := by
  refine F.ok sc_can_stick (fun Ps T ⟨_, _, _, _, _, h, _⟩ => by rw [h]; rfl) fun f cdv A outer s H E hr => ⟨_,
    (pss_cons (ps_expr (pe_cal c_want_web (hr.mono (by decide)) rfl (pa_cons (pv 0) pa_nil)))
      (pss_cons (ps_expr (pe_cal c_want_both (hr.mono (by decide)) rfl (pa_cons (pv 1) (pa_cons (pv 2) pa_nil))))
      (pss_one (ps_ret (pe_callB (cr_any rfl) (by rfl) T.any boot_any (pa_cons (pe_lc (own := [("row", 3)]) (g := (gName 3)) (tt := tYes) (by rfl) sc_can_stick.nd (pi_list (pe_cal c_stick_rows (hr.mono (by decide)) rfl (pa_cons (pe_cal c_line_numbers (hr.mono (by decide)) rfl (pa_cons (pe_cal c_want_line (hr.mono (by decide)) rfl (pa_cons (pv 0) pa_nil)) pa_nil)) pa_nil))) (blkOk_by (own := [("row", 3)]) (N := N_can_stick) (sc := defScope s_can_stick) (by decide +kernel)) (fun _ _ _ _ _ => (pg_name (i := 3) sc_can_stick.nd rfl (by first | exact Or.inl rfl | exact Or.inr rfl))) (fun _ _ _ _ _ => pts_nil) (fun _ _ _ _ _ => (pe_cal c_sticks_by (hr.mono (by decide)) rfl (pa_cons (pv 3) (pa_cons (pv 1) (pa_cons (pv 2) pa_nil)))))) pa_nil)))))), ?_⟩
  rintro B M0 Ps T' D' ⟨nm, rows, E0, W0, h, rfl, rfl⟩ hR _
  have hrl := h.R.len
  refine xs_seq (xs_drop (xv_call (xa_cons (xv_var rfl) xa_nil) ⟨nm, rows, rfl, rfl⟩) (nx_x ?_))
  refine xs_seq (xs_drop (xv_call (xa_cons (xv_var rfl) (xa_cons (xv_var rfl) xa_nil)) ⟨E0, W0, rfl, rfl⟩) (nx_x ?_))
  refine xs_ret (T := DB ((stickRows rows).any fun r => stk r E0 W0)) (xv_cb (xa_cons (Xv.lst (xf_mapB (ml := []) (items := stickRows rows) (0, 0, 0, 0, 0, 0) (fun r => stk r E0 W0) (xi_encL (items := stickRows rows) (0, 0, 0, 0, 0, 0) e6 (xv_call (xa_cons (xv_call (xa_cons (xv_call (xa_cons (xv_var rfl) xa_nil) ⟨nm, rows, h, rfl, rfl⟩) xa_nil) ⟨nm, rows, h, rfl, rfl⟩) xa_nil) ⟨rows, by omega, fun r hr => by have := h.R.bd r hr; omega, rfl, rfl⟩)) (fun q hq => nomatch hq) (Nat.le_trans (stick_len6 hrl.2) (by decide))
    fun i gl l acc hi => ⟨_, _, xg_name, fun j hj => hj, xv_call (xa_cons (xv_var rfl) (xa_cons (xv_var rfl) (xa_cons (xv_var rfl) xa_nil))) ⟨_, _, _, rfl, rfl⟩⟩)) xa_nil) (rc_any vl_d)) rfl rfl (fun H v p => by rw [any_id] at p; exact p) hR
abbrev s_line_script : Stmt := topS 79
abbrev N_line_script : List PySem.Str := ["web", "east", "west", "told", "found"]
theorem sc_line_script : FnScope N_line_script ["web", "east", "west"] (defScope s_line_script) := ⟨rfl, rfl, rfl, by decide +kernel, rfl, by decide +kernel, by decide +kernel⟩
def scriptT (nm : List Nat) (rows : List R3) (W : Nat) : List R6 → PyData
  | [] => .none
  | r :: _ => .list (((planCarts rows r W).flatMap (stepsTo nm.length)).map (eStp nm))
def R_line_script (CC CW : Addr) : List PP → PP → Prop := fun Ps T => ∃ nm rows E W, LR nm rows ∧ E ≤ 1000 ∧ W ≤ 1000 ∧ Ps = [We CC CW nm rows, DI ((E : Nat) : Int), DI ((W : Nat) : Int)] ∧ T = D (scriptT nm rows W (sticking rows E W))
theorem ok_line_script (F : Df K mg "line_script" s_line_script ["web", "east", "west"]) (T : Txt K mg CC CW) (c_want_web : Cal P w K mg base "want_web" ["value"] 1 (spF (R_want_web CC CW))) (c_want_both : Cal P w K mg base "want_both" ["east", "west"] 3 (spF R_want_both)) (c_want_line : Cal P w K mg base "want_line" ["web"] 8 (spF (R_want_line CC CW))) (c_line_carts : Cal P w K mg base "line_carts" ["web", "east", "west"] 8 (spF (R_line_carts CC CW))) (c_script_to : Cal P w K mg base "script_to" ["country", "carts"] 3 (spF (R_script_to CC))) (cp_country : CalP P w K mg base CW "country" 1 (spF (R_wcountry CC CW))) : Cal P w K mg base "line_script" ["web", "east", "west"] 9 (spF (R_line_script CC CW)) := by
  refine F.ok sc_line_script (fun Ps T ⟨_, _, _, _, _, _, _, h, _⟩ => by rw [h]; rfl) fun f cdv A outer s H E hr => ⟨_,
    (pss_cons (ps_expr (pe_cal c_want_web (hr.mono (by decide)) rfl (pa_cons (pv 0) pa_nil)))
      (pss_cons (ps_expr (pe_cal c_want_both (hr.mono (by decide)) rfl (pa_cons (pv 1) (pa_cons (pv 2) pa_nil))))
      (pss_cons (ps_set (i := 3) sc_line_script.nd rfl (.inl rfl) (pe_cal c_want_line (hr.mono (by decide)) rfl (pa_cons (pv 0) pa_nil)))
      (pss_cons (ps_set (i := 4) sc_line_script.nd rfl (.inl rfl) (pe_cal c_line_carts (hr.mono (by decide)) rfl (pa_cons (pv 3) (pa_cons (pv 1) (pa_cons (pv 2) pa_nil)))))
      (pss_one (ps_ret (pe_ifExp (pt_cmpR op_isN (pv 4) pe_non (nomark _)) pe_non (pe_cal c_script_to (hr.mono (by decide)) rfl (pa_cons (pe_pr cp_country T.cW (hr.mono (by decide)) (pv 3)) (pa_cons (pv 4) pa_nil)))))))))), ?_⟩
  rintro B M0 Ps T' D' ⟨nm, rows, E0, W0, h, hE, hW, rfl, rfl⟩ hR _
  have hrl := h.R.len
  have hn := h.n
  refine xs_seq (xs_drop (xv_call (xa_cons (xv_var rfl) xa_nil) ⟨nm, rows, rfl, rfl⟩) (nx_x ?_))
  refine xs_seq (xs_drop (xv_call (xa_cons (xv_var rfl) (xa_cons (xv_var rfl) xa_nil)) ⟨E0, W0, rfl, rfl⟩) (nx_x ?_))
  refine xs_seq (xs_set (xv_call (xa_cons (xv_var rfl) xa_nil) ⟨nm, rows, h, rfl, rfl⟩) (nx_x ?_))
  refine xs_seq (xs_set (xv_call (xa_cons (xv_var rfl) (xa_cons (xv_var rfl) (xa_cons (xv_var rfl) xa_nil))) ⟨nm, rows, E0, W0, h, hE, hW, rfl, rfl⟩) (nx_x ?_))
  cases hst : sticking rows E0 W0 with
  | nil =>
    rw [hst] at hR
    exact xs_ret (T := D .none) (xv_if (b := true) (xt_test (xv_op (xv_var rfl) xv_non ro_isN)) (fun _ => xv_non) fun z => by cases z) rfl rfl (fun H v p => p) hR
  | cons r rest =>
    rw [hst] at hR
    have hr0 : r ∈ stickRows rows := (sortK_perm key6 _).mem_iff.mp (List.mem_filter.mp (show r ∈ sticking rows E0 W0 by rw [hst]; exact List.mem_cons_self)).1
    obtain ⟨a, b, h1, h2, h3, e, q2, q3, l1, l2, b1, b2⟩ := plan_facts h.R hr0 W0
    refine xs_ret (T := D (scriptT nm rows W0 (r :: rest))) (xv_if (b := false) (xt_test (xv_op (xv_var rfl) xv_non ro_isN)) (fun z => by cases z) fun _ => xv_call (xa_cons (xv_prop (xv_var rfl) Ob.ins ⟨nm, rows, rfl, rfl⟩) (xa_cons (xv_var rfl) xa_nil)) ⟨nm, planCarts rows r W0, h.L, fun c hc => ?_, ?_, rfl, rfl⟩) rfl rfl (fun H v p => p) hR
    · have := placedM_pos (by omega) c hc
      omega
    · exact placedM_len (by omega) b1 b2
end
end K74

set_option Elab.async false
set_option linter.all false
set_option maxRecDepth 100000
set_option maxHeartbeats 2000000
namespace K74
open PySem PySem.Spec PyProof.Rows L2
/-! ### a def that writes at its first argument, a list of two numbers -/
abbrev Pot := Int × Int
abbrev potD (p : Pot) : List PyData := [.int p.1, .int p.2]
abbrev potO (p : Pot) : HO := .lst [.int p.1, .int p.2]
theorem pot_obj {H : Hp} {p : Pot} {o : HO} (h : (LF (potD p)).P H o) : o = potO p := by
  obtain ⟨xs, rfl, h2⟩ := h
  have : xs = [p.1, p.2].map V.int := DnAll.ints_inv (ns := [p.1, p.2]) h2
  rw [this]
  rfl
theorem pot_mk (H : Hp) (p : Pot) : (LF (potD p)).P H (potO p) := ⟨_, rfl, DnAll.ints [p.1, p.2]⟩
def spP (R : Pot → List PP → Pot → PP → Prop) : Sp := fun vs H Q _ => ∃ (l : Addr) (us : List V) (M0 : List Addr) (p : Pot) (Ps : List PP) (p' : Pot) (T : PP), vs = .ref l :: us ∧ R p Ps p' T ∧ H l = some (potO p) ∧ l ∉ M0 ∧ (∀ m ∈ M0, ∃ o, H m = some o) ∧ Fa (hid (l :: M0) H) Ps us ∧
  ∀ v H', Same (hid [l] H) (hid [l] H') → H' l = some (potO p') → T.P (hid (l :: M0) H') v → Q v H'
section
variable {C C1 C2 C' : Ct} {ta tb te : TE} {P P' T : PP} {F : FF} {K : PySem.W.Frag} {D' : Ends}
theorem xv_pot {R : Pot → List PP → Pot → PP → Prop} {l : Addr} {k : Nat} {p p' : Pot} {Ps : List PP} {t : TA} {E : XK} (h : XA C (tCons te t) (Rf l :: Ps) C1) (hk : C1.mm[k]? = some (l, LF (potD p))) (hR : R p Ps p' T) :
    Xv C (tCall (spP R) [] E (tCons te t)) T (C1.mut k l (LF (potD p'))) := by
  refine ⟨(Ct.mut_M hk).trans h.1, fun σ H e Q q => h.2 σ H e _ fun vs H1 s1 e1 p1 => ?_⟩
  cases p1 with
  | cons hv pr =>
    rename_i v us
    have hv' : v = .ref l := hv
    subst hv'
    have hlM : l ∈ C1.M := List.mem_append_left _ (List.mem_map.mpr ⟨(l, LF (potD p)), List.mem_of_getElem? hk, rfl⟩)
    obtain ⟨o, o1, o2⟩ := e1.mu (l, LF (potD p)) (List.mem_of_getElem? hk)
    have ho := pot_obj o2
    subst ho
    have hh : ∀ H2 : Hp, hid (l :: C1.M.filter fun a => decide (a ≠ l)) H2 = hid C1.M H2 := fun H2 => hid_mem (fun a => by
      rw [List.mem_cons, List.mem_filter, decide_eq_true_eq]
      constructor
      · rintro (z | z)
        · rw [z]; exact hlM
        · exact z.1
      · intro z
        by_cases y : a = l
        · exact .inl y
        · exact .inr ⟨z, y⟩) H2
    refine ⟨l, us ++ [], C1.M.filter fun a => decide (a ≠ l), p, Ps, p', T, rfl, hR, o1, fun z => ?_, fun m hm => e1.live m (List.mem_filter.mp hm).1, ?_, fun v2 H2 s2 g2 t2 => ?_⟩
    · have := (List.mem_filter.mp z).2
      simp at this
    · rw [hh, List.append_nil, h.1]
      exact pr
    · have sM : Same (hid C1.M H1) (hid C1.M H2) := fun a x ha => by
        by_cases y : a ∈ C1.M
        · rw [hid_in y] at ha; cases ha
        · have hal : a ∉ [l] := fun z => y (by rw [List.mem_singleton.mp z]; exact hlM)
          rw [hid_out y] at ha ⊢
          have := s2 a x (by rw [hid_out hal]; exact ha)
          rw [hid_out hal] at this
          exact this
      have e2 := e1.write (F' := LF (potD p')) (o := potO p') hk (pot_mk _ _)
      have s3 : Same (upd H1 l (potO p')) H2 := fun a x ha => by
        by_cases y : a = l
        · subst y
          rw [upd_same] at ha
          rw [g2]
          exact ha
        · rw [upd_ne y] at ha
          have hal : a ∉ [l] := fun z => y (List.mem_singleton.mp z)
          have := s2 a x (by rw [hid_out hal]; exact ha)
          rw [hid_out hal] at this
          exact this
      rw [hh] at t2
      refine q v2 H2 (s1.trans (by rw [← h.1]; exact sM)) (e2.mono s3) (by rw [← h.1]; exact t2)
def RtP (l : Addr) (B : Hp) (M0 : List Addr) (p' : Pot) (T : PP) (D' : Ends) : Prop := ∀ v H', Same B H' → H' l = some (potO p') → T.P (hid (l :: M0) H') v → D'.rt v H'
theorem xs_retP {l : Addr} {k : Nat} {p' : Pot} (h : Xv C te P C1) (hk : C1.mm[k]? = some (l, LF (potD p'))) (hB : C1.B = C.B) (hM : C1.M0 = C.M0) (hP : ∀ H v, P.P H v → T.P H v) (hr : RtP l C.B C.M0 p' T D') : Xs C (tRet te) D' := fun σ H e => h.2 σ H e _ fun v H1 s1 e1 p1 => by
  obtain ⟨o, o1, o2⟩ := e1.mu (l, LF (potD p')) (List.mem_of_getElem? hk)
  have ho := pot_obj o2
  subst ho
  refine hr v H1 (by rw [← hB]; exact e1.base) o1 (hP _ _ (P.mono (hid_sub fun a ha => ?_) p1))
  rw [← h.1]
  rcases List.mem_cons.mp ha with z | z
  · rw [z]
    exact List.mem_append_left _ (List.mem_map.mpr ⟨_, List.mem_of_getElem? hk, rfl⟩)
  · exact List.mem_append_right _ (by rw [hM]; exact z)
end
theorem ok_pot {P : Program} {w : World} {K : PySem.W.Frag} {mg : PySem.Str → Option Value} {base : Heap} {x qual : PySem.Str} {st : Stmt} {f : Addr} {fd : FuncData} {N ps : List PySem.Str} {k : Nat} {R : Pot → List PP → Pot → PP → Prop} (F : Fun K x qual st f fd) (S : FnScope N ps (defScope st))
    (hlen : ∀ p Ps p' T, R p Ps p' T → Ps.length + 1 = ps.length)
    (hbody : ∀ (cdv : Value) (A : Around) (outer : List PySem.Env) (s : Shared) (H : Hp) (E : XK), Room k (A.deeper (envOfC qual (defScope st) s.heap.objs.size f cdv)) → ∃ t, PSs (cxOf CX0 P w K mg base N qual (defScope st) f cdv A outer s H E).nox (defBody st) t ∧
      ∀ (B : Hp) (M0 : List Addr) (l : Addr) (p : Pot) (Ps : List PP) (p' : Pot) (T : PP) (D' : Ends), R p Ps p' T → RtP l B M0 p' T D' → Xs ⟨B, M0, [(l, LF (potD p))], some (Rf l) :: Ps.map some ++ List.replicate (N.length - ps.length) none, []⟩ t D') : FnOk P w K mg base CX0 (k + 1) f fd ps (spP R) := by
  refine F.ok S (fun vs H Q E h => ?_) (fun cdv A outer s H vs Q E hr h => ?_)
  · obtain ⟨l, us, M0, p, Ps, p', T, rfl, hR, _, _, _, hF, _⟩ := h
    rw [List.length_cons, hF.length, hlen p Ps p' T hR]
  · obtain ⟨l, us, M0, p, Ps, p', T, rfl, hR, ho, hlM, hM, hF, hq⟩ := h
    obtain ⟨t, ht, hx⟩ := hbody cdv A outer s H E hr
    refine ⟨t, ht, ?_⟩
    have hl : Ps.length + 1 = ps.length := hlen p Ps p' T hR
    have e := en_start (N := N) (M0 := l :: M0) (Ps := Rf l :: Ps) (vs := .ref l :: us) (H := H) (fun m hm => by
      rcases List.mem_cons.mp hm with z | z
      · rw [z]; exact ⟨_, ho⟩
      · exact hM m z) (.cons (P := Rf l) rfl hF)
    rw [show (Rf l :: Ps).length = ps.length from hl] at e
    have e2 : En ⟨hid [l] H, M0, [(l, LF (potD p))], some (Rf l) :: Ps.map some ++ List.replicate (N.length - ps.length) none, []⟩ (L2.start N (.ref l :: us)) H :=
      ⟨e.len, e.sl, (fun q hq => nomatch hq), fun q hq => by rw [List.mem_singleton.mp hq]; exact ⟨_, ho, pot_mk _ _⟩, by simp, fun a ha => by
        have : a = l := by simpa using ha
        subst this
        exact ⟨hid_in List.mem_cons_self, hlM⟩, fun m hm => by
          obtain ⟨o, h1⟩ := hM m hm
          exact ⟨o, by show hid [l] H m = some o; rw [hid_out fun z => hlM (by rw [← List.mem_singleton.mp z]; exact hm)]; exact h1⟩, hid_same⟩
    exact hx (hid [l] H) M0 l p Ps p' T { nx := fun _ H' => Q .non H', rt := Q } hR (fun v H' s g t => hq v H' (fun a x ha => by
      have hal : a ∉ [l] := fun z => by
        have hz : hid [l] H a = none := hid_in z
        rw [hz] at ha
        cases ha
      rw [hid_out hal]
      exact s a x ha) g t) _ H e2
theorem Df.pot {P : Program} {w : World} {K : PySem.W.Frag} {mg : PySem.Str → Option Value} {base : Heap} {x : PySem.Str} {st : Stmt} {N ps : List PySem.Str} {k : Nat} {R : Pot → List PP → Pot → PP → Prop} (F : Df K mg x st ps) (S : FnScope N ps (defScope st))
    (hlen : ∀ p Ps p' T, R p Ps p' T → Ps.length + 1 = ps.length)
    (hbody : ∀ (f : Addr) (cdv : Value) (A : Around) (outer : List PySem.Env) (s : Shared) (H : Hp) (E : XK), Room k (A.deeper (envOfC x (defScope st) s.heap.objs.size f cdv)) → ∃ t, PSs (cxOf CX0 P w K mg base N x (defScope st) f cdv A outer s H E).nox (defBody st) t ∧
      ∀ (B : Hp) (M0 : List Addr) (l : Addr) (p : Pot) (Ps : List PP) (p' : Pot) (T : PP) (D' : Ends), R p Ps p' T → RtP l B M0 p' T D' → Xs ⟨B, M0, [(l, LF (potD p))], some (Rf l) :: Ps.map some ++ List.replicate (N.length - ps.length) none, []⟩ t D') : Cal P w K mg base x ps (k + 1) (spP R) := by
  obtain ⟨f, fd, h1, h2, h3⟩ := F.ex
  exact ⟨f, fd, h1, h2.kp, h3, ok_pot h2 S hlen fun cdv A outer s H E hr => hbody f cdv A outer s H E hr, st, h2⟩
end K74

set_option Elab.async false
set_option linter.all false
set_option maxRecDepth 100000
set_option maxHeartbeats 4000000
namespace K74
open PySem PySem.Spec PyProof.Rows L2
/-! ### the pot, what is drawn -/
def PotOk (p : Pot) : Prop := 0 ≤ p.2 ∧ p.2 ≤ 2147483563
def potNext (p : Pot) : Int := (p.2 * 40014 + 1109) % 2147483563
def drawM (p : Pot) (m : Nat) : Nat × Pot := if 0 < p.1 then ((p.1 % (m : Int)).toNat, (p.1 / (m : Int), p.2)) else ((potNext p * potNext p % 2147483587 / 21 % (m : Int)).toNat, (p.1, potNext p))
theorem potNext_bd (p : Pot) : 0 ≤ potNext p ∧ potNext p < 2147483563 := ⟨Int.emod_nonneg _ (by decide), Int.emod_lt_of_pos _ (by decide)⟩
theorem drawM_ok {p : Pot} (h : PotOk p) (m : Nat) : PotOk (drawM p m).2 := by
  unfold drawM
  split
  · exact h
  · have := potNext_bd p
    exact ⟨this.1, by show potNext p ≤ _; omega⟩
theorem drawM_lt (p : Pot) {m : Nat} (h : 1 ≤ m) : (drawM p m).1 < m := by
  unfold drawM
  have hm : (0 : Int) < (m : Int) := by omega
  split
  · have h1 := Int.emod_nonneg p.1 (show (m : Int) ≠ 0 by omega)
    have h2 := Int.emod_lt_of_pos p.1 hm
    show (p.1 % (m : Int)).toNat < m
    omega
  · have h1 := Int.emod_nonneg (potNext p * potNext p % 2147483587 / 21) (show (m : Int) ≠ 0 by omega)
    have h2 := Int.emod_lt_of_pos (potNext p * potNext p % 2147483587 / 21) hm
    show (potNext p * potNext p % 2147483587 / 21 % (m : Int)).toNat < m
    omega
theorem atI_map' {α β : Type} (f : α → β) (l : List α) (i : Int) : L2.atI (l.map f) i = (L2.atI l i).map f := by
  unfold L2.atI
  rw [List.length_map]
  cases ixN l.length i with
  | none => rfl
  | some j => simp
def cellOf : List Int → Int
  | [] => 587
  | a :: _ => if a < 0 then -a else a
def potOf (ns : List Int) : Pot := (max 0 (cellOf ns - 10 ^ 18), (cellOf ns % 2147483549 * 41077 + 4021 * 0 + 599) % 2147483563 + 1)
theorem potOf_ok (ns : List Int) : PotOk (potOf ns) := by
  have h1 := Int.emod_nonneg (cellOf ns % 2147483549 * 41077 + 4021 * 0 + 599) (show (2147483563 : Int) ≠ 0 by decide)
  have h2 := Int.emod_lt_of_pos (cellOf ns % 2147483549 * 41077 + 4021 * 0 + 599) (show (0 : Int) < 2147483563 by decide)
  refine ⟨?_, ?_⟩
  · show 0 ≤ _ + (1 : Int)
    omega
  · show _ + (1 : Int) ≤ _
    omega
section
variable {P : Program} {w : World} {K : PySem.W.Frag} {mg : PySem.Str → Option Value} {base : Heap} {CC CW : Addr}
/-- a list of whole numbers, of one's own or of the written part -/
def Sq (K : PySem.W.Frag) (ns : List Int) : PP := ⟨fun H v => ∃ a, v = .ref a ∧ SqL K H a (ns.map V.int), fun s ⟨a, e, h⟩ => ⟨a, e, by
  rcases h with h | h
  · rcases h with h | ⟨o, h⟩
    · exact .inl (.inl (s _ _ h))
    · exact .inl (.inr ⟨o, s _ _ h⟩)
  · exact .inr h⟩⟩
theorem rc_lenQ {C : Ct} {ns : List Int} : RC C (fun xs H Q => ∃ x n, xs = [x] ∧ LenV K x H n ∧ Q (.int n) H) [Sq K ns] (DI (ns.length : Nat)) := fun σ H vs e p Q q => by
  obtain ⟨v, rfl, k⟩ := p.one_inv
  obtain ⟨a, rfl, h⟩ := (Sq K ns).mono hid_same k
  exact ⟨_, ns.length, rfl, .inl ⟨_, h, by rw [List.length_map]⟩, q _ _ (Same.refl _) (.int _)⟩
theorem ro_ixQ {C : Ct} {ns : List Int} {i j : Int} (hi : L2.atI ns i = some j) : RO C (rIx K) (Sq K ns) (DI i) (DI j) := fun σ H x y en hx hy Q q => by
  obtain ⟨a, rfl, h⟩ := (Sq K ns).mono hid_same hx
  exact .inl ⟨a, _, i, .int j, rfl, hy.int_inv, h, by rw [atI_map', hi]; rfl, q _ _ (Same.refl _) (.int j)⟩
abbrev s__law_pot : Stmt := topS 81
abbrev N__law_pot : List PySem.Str := ["_law_script", "_law_k", "_law_cell"]
theorem sc__law_pot : FnScope N__law_pot ["_law_script", "_law_k"] (defScope s__law_pot) := ⟨rfl, rfl, rfl, by decide +kernel, rfl, by decide +kernel, by decide +kernel⟩
def R__law_pot (K : PySem.W.Frag) : List PP → PP → Prop := fun Ps T => ∃ ns : List Int, Ps = [Sq K ns, DI 0] ∧ T = DL (potD (potOf ns))
theorem ok__law_pot (F : Df K mg "_law_pot" s__law_pot ["_law_script", "_law_k"]) (T : Txt K mg CC CW) : Cal P w K mg base "_law_pot" ["_law_script", "_law_k"] 1 (spF (R__law_pot K)) := by
  refine F.ok sc__law_pot (fun Ps T ⟨_, h, _⟩ => by rw [h]; rfl) fun f cdv A outer s H E hr => ⟨_,
    (pss_cons (ps_set (i := 2) sc__law_pot.nd rfl (.inl rfl) (pe_ifExp (pt_cmpR op_lt (pv 1) (pe_callB call_len (by rfl) T.len PySem.boot_len (pa_cons (pv 0) pa_nil)) (nomark _)) (pe_callB call_abs (by rfl) T.abs boot_abs (pa_cons (pe_ix ix_seq (pv 0) (pv 1) (fun _ _ => rfl)) pa_nil)) (pe_op op_add (pe_op op_mul pe_int (pv 1)) pe_int)))
      (pss_one (ps_ret (pe_lst (pa_cons (pe_callB (call_max2 rfl) (by rfl) T.max boot_max (pa_cons pe_int (pa_cons (pe_op op_sub (pv 2) (pe_op op_pow pe_int pe_int)) pa_nil))) (pa_cons (pe_op op_add (pe_op op_mod (pe_callTy call_int1 (by rfl) T.int boot_int (pa_cons (pe_op op_add (pe_op op_add (pe_op op_mul (pe_op op_mod (pe_callTy call_int1 (by rfl) T.int boot_int (pa_cons (pv 2) pa_nil)) pe_int) pe_int) (pe_op op_mul pe_int (pv 1))) pe_int) pa_nil)) pe_int) pe_int) pa_nil)))))), ?_⟩
  rintro B M0 Ps T' D' ⟨ns, rfl, rfl⟩ hR _
  refine xs_seq (xs_set (P := DI (cellOf ns)) (xv_if (C2 := ⟨B, M0, [], [some (Sq K ns), some (DI 0), none], []⟩) (b := decide ((0 : Int) < (ns.length : Nat))) (xt_test (xv_op (xv_var rfl) (xv_cb (xa_cons (xv_var rfl) xa_nil) rc_lenQ) ro_b0))
    (fun hb => ?_) (fun hb => ?_)) (nx_x ?_))
  · cases ns with
    | nil => cases hb
    | cons a r => exact xv_cb (xa_cons (xv_op (xv_var rfl) (xv_var rfl) (ro_ixQ (j := a) (atI_n (j := 0) rfl))) xa_nil) rc_abs
  · cases ns with
    | cons a r => simp at hb
    | nil => exact xv_op (xv_op xv_int (xv_var rfl) (ro_i (Or.inl ⟨by decide, by decide⟩))) xv_int ro_i0
  refine xs_retF (T := DL (potD (potOf ns))) (xf_lst (potD (potOf ns)) (XA.eq (xa_cons (xv_cb (xa_cons xv_int (xa_cons (xv_op (xv_var rfl) (xv_op xv_int xv_int (ro_i ⟨by decide, by decide, by decide⟩)) ro_i0) xa_nil)) rc_max2)
    (xa_cons (xv_op (xv_op (xv_cb (xa_cons (xv_op (xv_op (xv_op (xv_op (xv_cb (xa_cons (xv_var rfl) xa_nil) rc_int1) xv_int (ro_i (by decide))) xv_int (ro_i (Or.inr ⟨by decide, by decide⟩))) (xv_op xv_int (xv_var rfl) (ro_i (Or.inl ⟨by decide, by decide⟩))) ro_i0) xv_int ro_i0) xa_nil) rc_int1) xv_int (ro_i (by decide))) xv_int ro_i0) xa_nil)) rfl) (by show 2 ≤ 100000; decide)) rfl rfl (fun H v p => Fz.lst p) hR
abbrev s__law_draw : Stmt := topS 82
abbrev N__law_draw : List PySem.Str := ["_law_pot_here", "_law_many", "_law_digit"]
theorem sc__law_draw : FnScope N__law_draw ["_law_pot_here", "_law_many"] (defScope s__law_draw) := ⟨rfl, rfl, rfl, by decide +kernel, rfl, by decide +kernel, by decide +kernel⟩
def R__law_draw : Pot → List PP → Pot → PP → Prop := fun p Ps p' T => ∃ m : Nat, PotOk p ∧ 1 ≤ m ∧ m < 1000000 ∧ Ps = [DI (m : Nat)] ∧ p' = (drawM p m).2 ∧ T = DI (((drawM p m).1 : Nat) : Int)
theorem ok__law_draw (F : Df K mg "_law_draw" s__law_draw ["_law_pot_here", "_law_many"]) (T : Txt K mg CC CW) : Cal P w K mg base "_law_draw" ["_law_pot_here", "_law_many"] 1 (spP R__law_draw) := by
  refine F.pot sc__law_draw (fun p Ps p' T ⟨m, _, _, _, h, _⟩ => by rw [h]; rfl) fun f cdv A outer s H E hr => ⟨_,
    (pss_cons (ps_if (pt_cmpR op_gt (pe_ix ix_seq (pv 0) pe_int (fun _ _ => rfl)) pe_int (nomark _)) (pss_cons (ps_asg (pe_callB call_divmod (by rfl) T.divmod boot_divmod (pa_cons (pe_ix ix_seq (pv 0) pe_int (fun _ _ => rfl)) (pa_cons (pv 1) pa_nil))) (pg_tup rfl (pgs_cons (pg_sub (pv 0) pe_int set_list) (pgs_cons (pg_name (i := 2) sc__law_draw.nd rfl (.inl rfl)) pgs_nil))))
        (pss_one (ps_ret (pv 2)))) pss_nil)
      (pss_cons (ps_asg (pe_op op_mod (pe_callTy call_int1 (by rfl) T.int boot_int (pa_cons (pe_op op_add (pe_op op_mul (pe_ix ix_seq (pv 0) pe_int (fun _ _ => rfl)) pe_int) pe_int) pa_nil)) pe_int) (pg_sub (pv 0) pe_int set_list))
      (pss_one (ps_ret (pe_op op_mod (pe_callTy call_int1 (by rfl) T.int boot_int (pa_cons (pe_op op_fdiv (pe_op op_mod (pe_callTy call_int1 (by rfl) T.int boot_int (pa_cons (pe_op op_mul (pe_ix ix_seq (pv 0) pe_int (fun _ _ => rfl)) (pe_ix ix_seq (pv 0) pe_int (fun _ _ => rfl))) pa_nil)) pe_int) pe_int) pa_nil)) (pv 1)))))), ?_⟩
  rintro B M0 l p Ps p' T' D' ⟨m, hp, hm1, hm2, rfl, rfl, rfl⟩ hR
  have hm : (0 : Int) < (m : Int) := by omega
  have g0 : ∀ {C : Ct} {q : Pot}, C.mm[0]? = some (l, LF (potD q)) → Vl C (Rf l) (potD q) := fun h => vl_r h
  refine xs_seq (xs_if (b := decide (p.1 > 0)) (xt_test (xv_op (xv_op (xv_var rfl) xv_int (ro_ixL (g0 rfl) (d := .int p.1) rfl)) xv_int ro_b0)) (fun hb => ?_) (fun hb => xs_next (nx_x ?_)))
  · have hb' : 0 < p.1 := of_decide_eq_true hb
    have hd : drawM p m = ((p.1 % (m : Int)).toNat, (p.1 / (m : Int), p.2)) := by unfold drawM; rw [if_pos hb']
    refine xs_seq (xs_g (Xv.tup (xf_cb (xa_cons (xv_op (xv_var rfl) xv_int (ro_ixL (g0 rfl) (d := .int p.1) rfl)) (xa_cons (xv_var rfl) xa_nil)) (rcf_divmod ⟨hm, by omega⟩))) (xg_tup (ds := [.int (p.1 / (m : Int)), .int (p.1 % (m : Int))]) (xgs_cons (xg_sub (k := 0) (xv_var rfl) xv_int rfl (j := 0) rfl) (xgs_cons xg_name xgs_nil)) rfl) (nx_x ?_))
    rw [hd] at hR
    refine xs_retP (P := DI (p.1 % (m : Int))) (T := DI (((p.1 % (m : Int)).toNat : Nat) : Int)) (p' := (p.1 / (m : Int), p.2)) (k := 0) (l := l) (xv_var rfl) rfl rfl rfl (fun H v q => ?_) hR
    rw [Int.toNat_of_nonneg (Int.emod_nonneg p.1 (show (m : Int) ≠ 0 by omega))]
    exact q
  · have hb' : ¬ 0 < p.1 := of_decide_eq_false hb
    have hd : drawM p m = ((potNext p * potNext p % 2147483587 / 21 % (m : Int)).toNat, (p.1, potNext p)) := by unfold drawM; rw [if_neg hb']
    have hnx := potNext_bd p
    refine xs_seq (xs_g (P := DI (potNext p)) (xv_op (xv_cb (xa_cons (xv_op (xv_op (xv_op (xv_var rfl) xv_int (ro_ixL (g0 rfl) (d := .int p.2) rfl)) xv_int (ro_i (Or.inr ⟨by decide, by decide⟩))) xv_int ro_i0) xa_nil) rc_int1) xv_int (ro_i (by decide))) (xg_sub (k := 0) (xv_var rfl) xv_int rfl (j := 1) rfl) (nx_x ?_))
    have g1 : ∀ {C : Ct}, C.mm[0]? = some (l, LF [.int p.1, .int (potNext p)]) → Vl C (Rf l) [.int p.1, .int (potNext p)] := fun h => vl_r h
    rw [hd] at hR
    refine xs_retP (P := DI (potNext p * potNext p % 2147483587 / 21 % (m : Int))) (T := DI (((potNext p * potNext p % 2147483587 / 21 % (m : Int)).toNat : Nat) : Int)) (p' := (p.1, potNext p)) (k := 0) (l := l)
      (xv_op (xv_cb (xa_cons (xv_op (xv_op (xv_cb (xa_cons (xv_op (xv_op (xv_var rfl) xv_int (ro_ixL (g1 rfl) (d := .int (potNext p)) rfl)) (xv_op (xv_var rfl) xv_int (ro_ixL (g1 rfl) (d := .int (potNext p)) rfl)) (ro_i (Or.inl ⟨by omega, by omega⟩))) xa_nil) rc_int1) xv_int (ro_i (by decide))) xv_int (ro_i ⟨by decide, by decide⟩)) xa_nil) rc_int1) (xv_var rfl) (ro_i hm)) rfl rfl rfl (fun H v q => ?_) hR
    rw [Int.toNat_of_nonneg (Int.emod_nonneg _ (show (m : Int) ≠ 0 by omega))]
    exact q
abbrev s__law_pick : Stmt := topS 83
abbrev N__law_pick : List PySem.Str := ["_law_pot_here", "_law_some"]
theorem sc__law_pick : FnScope N__law_pick ["_law_pot_here", "_law_some"] (defScope s__law_pick) := ⟨rfl, rfl, rfl, by decide +kernel, rfl, by decide +kernel, by decide +kernel⟩
def R__law_pick : Pot → List PP → Pot → PP → Prop := fun p Ps p' T => ∃ ds : List PyData, PotOk p ∧ 1 ≤ ds.length ∧ ds.length < 1000000 ∧ Ps = [DL ds] ∧ p' = (drawM p ds.length).2 ∧ T = D (ds.getD (drawM p ds.length).1 .none)
theorem ok__law_pick (F : Df K mg "_law_pick" s__law_pick ["_law_pot_here", "_law_some"]) (T : Txt K mg CC CW) (c__law_draw : Cal P w K mg base "_law_draw" ["_law_pot_here", "_law_many"] 1 (spP R__law_draw)) : Cal P w K mg base "_law_pick" ["_law_pot_here", "_law_some"] 2 (spP R__law_pick) := by
  refine F.pot sc__law_pick (fun p Ps p' T ⟨m, _, _, _, h, _⟩ => by rw [h]; rfl) fun f cdv A outer s H E hr => ⟨_,
    (pss_one (ps_ret (pe_ix ix_seq (pv 1) (pe_cal c__law_draw (hr.mono (by decide)) rfl (pa_cons (pv 0) (pa_cons (pe_callB call_len (by rfl) T.len PySem.boot_len (pa_cons (pv 1) pa_nil)) pa_nil))) (fun _ _ => rfl)))), ?_⟩
  rintro B M0 l p Ps p' T' D' ⟨ds, hp, hm1, hm2, rfl, rfl, rfl⟩ hR
  have hlt := drawM_lt p hm1
  exact xs_retP (p' := (drawM p ds.length).2) (T := D (ds.getD (drawM p ds.length).1 .none)) (k := 0) (l := l) (xv_op (xv_var rfl) (xv_pot (k := 0) (p := p) (p' := (drawM p ds.length).2) (xa_cons (xv_var rfl) (xa_cons (xv_cb (xa_cons (xv_var rfl) xa_nil) (rc_lenL vl_d)) xa_nil)) rfl ⟨ds.length, hp, hm1, hm2, rfl, rfl, rfl⟩) (ro_ixL vl_d (atI_n (getD_get .none hlt)))) rfl rfl rfl (fun H v q => q) hR
end
end K74

set_option Elab.async false
set_option linter.all false
set_option maxRecDepth 100000
set_option maxHeartbeats 4000000
namespace K74
open PySem PySem.Spec PyProof.Rows L2
/-! ### drawn rows -/
def rowStep (st : Pot × List R3) : Pot × List R3 :=
  let d1 := drawM st.1 4
  let d2 := drawM d1.2 (1 + d1.1)
  let d3 := drawM d2.2 (1 + d1.1)
  let d4 := drawM d3.2 2
  let d5 := drawM d4.2 2
  (d5.2, st.2 ++ [(1 + d1.1, if d4.1 = 0 then 1 + d1.1 else 1 + d2.1, if d5.1 = 0 then 1 + d1.1 else 1 + d3.1)])
def rowIt : Nat → Pot × List R3 → Pot × List R3
  | 0, st => st
  | n + 1, st => rowStep (rowIt n st)
def fixA (rs : List R3) : List R3 := rs.set 0 ((r3At rs 0).1, (r3At rs 0).2.1, (r3At rs 0).1)
def fixB (rs : List R3) (z : R3) : List R3 := rs.set (rs.length - 1) (z.1, z.1, if rs.length = 1 then z.1 else z.2.2)
def rowsRaw (p : Pot) : Pot × List R3 := rowIt (1 + (drawM p 4).1) ((drawM p 4).2, [])
def rowsM (p : Pot) : List R3 × Pot := (fixB (fixA (rowsRaw p).2) (r3At (rowsRaw p).2 ((rowsRaw p).2.length - 1)), (rowsRaw p).1)
theorem rowStep_ok {st : Pot × List R3} (h : PotOk st.1) : PotOk (rowStep st).1 := drawM_ok (drawM_ok (drawM_ok (drawM_ok (drawM_ok h _) _) _) _) _
theorem rowIt_ok {st : Pot × List R3} (h : PotOk st.1) : ∀ n, PotOk (rowIt n st).1
  | 0 => h
  | n + 1 => rowStep_ok (rowIt_ok h n)
theorem rowIt_len {st : Pot × List R3} : ∀ n, (rowIt n st).2.length = st.2.length + n
  | 0 => rfl
  | n + 1 => by
    show ((rowIt n st).2 ++ [_]).length = _
    rw [List.length_append, rowIt_len n]
    rfl
theorem ite_bd {c : Prop} [Decidable c] {a b m : Nat} (h1 : 1 ≤ a ∧ a ≤ m) (h2 : 1 ≤ b ∧ b ≤ m) : 1 ≤ (if c then a else b) ∧ (if c then a else b) ≤ m := by
  split
  · exact h1
  · exact h2
def goodR (r : R3) : Prop := (1 ≤ r.1 ∧ r.1 ≤ 4) ∧ (1 ≤ r.2.1 ∧ r.2.1 ≤ r.1) ∧ 1 ≤ r.2.2 ∧ r.2.2 ≤ r.1
theorem rowIt_good {st : Pot × List R3} (h : ∀ r ∈ st.2, goodR r) : ∀ n, ∀ r ∈ (rowIt n st).2, goodR r
  | 0, r, hr => h r hr
  | n + 1, r, hr => by
    rcases List.mem_append.mp hr with z | z
    · exact rowIt_good h n r z
    · rw [List.mem_singleton.mp z]
      have h1 := drawM_lt (rowIt n st).1 (m := 4) (by decide)
      have h2 := drawM_lt (drawM (rowIt n st).1 4).2 (m := 1 + (drawM (rowIt n st).1 4).1) (by omega)
      have h3 := drawM_lt (drawM (drawM (rowIt n st).1 4).2 (1 + (drawM (rowIt n st).1 4).1)).2 (m := 1 + (drawM (rowIt n st).1 4).1) (by omega)
      unfold goodR
      exact ⟨⟨by show 1 ≤ 1 + _; omega, by show 1 + (drawM (rowIt n st).1 4).1 ≤ 4; omega⟩, ite_bd ⟨by omega, Nat.le_refl _⟩ ⟨by omega, by omega⟩, ite_bd ⟨by omega, Nat.le_refl _⟩ ⟨by omega, by omega⟩⟩
theorem rowsRaw_len (p : Pot) : 1 ≤ (rowsRaw p).2.length ∧ (rowsRaw p).2.length ≤ 4 := by
  unfold rowsRaw
  rw [rowIt_len]
  have := drawM_lt p (m := 4) (by decide)
  show 1 ≤ 0 + _ ∧ 0 + _ ≤ 4
  omega
theorem rowsRaw_good (p : Pot) : ∀ r ∈ (rowsRaw p).2, goodR r := rowIt_good (st := ((drawM p 4).2, [])) (fun r hr => by cases hr) _
theorem rowsM_len (p : Pot) : (rowsM p).1.length = (rowsRaw p).2.length := by
  unfold rowsM fixB fixA
  rw [List.length_set, List.length_set]
theorem rowsM_pot {p : Pot} (h : PotOk p) : PotOk (rowsM p).2 := rowIt_ok (drawM_ok h _) _
theorem rowsM_ok (p : Pot) : RowsOk (rowsM p).1 := by
  have hl := rowsRaw_len p
  have hl2 := rowsM_len p
  have hg := rowsRaw_good p
  have e : (rowsM p).1 = fixB (fixA (rowsRaw p).2) (r3At (rowsRaw p).2 ((rowsRaw p).2.length - 1)) := rfl
  generalize (rowsRaw p).2 = rs at *
  have g0 : goodR (r3At rs 0) := hg _ (List.mem_of_getElem? (getD_get _ (by omega)))
  have gz : goodR (r3At rs (rs.length - 1)) := hg _ (List.mem_of_getElem? (getD_get _ (by omega)))
  have fl : (fixA rs).length = rs.length := by unfold fixA; rw [List.length_set]
  have at_ : ∀ i, i < rs.length → r3At (rowsM p).1 i = if i = rs.length - 1 then ((r3At rs (rs.length - 1)).1, (r3At rs (rs.length - 1)).1, if rs.length = 1 then (r3At rs (rs.length - 1)).1 else (r3At rs (rs.length - 1)).2.2) else if i = 0 then ((r3At rs 0).1, (r3At rs 0).2.1, (r3At rs 0).1) else r3At rs i := fun i hi => by
    rw [e]
    unfold fixB fixA r3At
    rw [List.length_set]
    simp only [List.getD_eq_getElem?_getD, List.getElem?_set, List.length_set]
    by_cases h1 : i = rs.length - 1
    · rw [if_pos h1.symm, if_pos (by omega), if_pos h1]
      rfl
    · rw [if_neg (fun z => h1 z.symm), if_neg h1]
      by_cases h0 : i = 0
      · subst h0
        rw [if_pos rfl, if_pos (by omega), if_pos rfl]
        rfl
      · rw [if_neg (fun z => h0 z.symm), if_neg h0]
  refine ⟨by omega, fun r hr => ?_, ?_, ?_⟩
  · obtain ⟨i, hi, er⟩ := List.getElem_of_mem hr
    have hi' : i < rs.length := by omega
    have er2 : r = r3At (rowsM p).1 i := by
      rw [r3At, List.getD_eq_getElem?_getD, List.getElem?_eq_getElem hi, er]; rfl
    rw [er2, at_ i hi']
    unfold goodR at g0 gz
    split
    · split
      · exact ⟨gz.1, ⟨gz.1.1, Nat.le_refl _⟩, gz.1.1, Nat.le_refl _⟩
      · exact ⟨gz.1, ⟨gz.1.1, Nat.le_refl _⟩, gz.2.2⟩
    · split
      · exact ⟨g0.1, g0.2.1, g0.1.1, Nat.le_refl _⟩
      · exact hg _ (List.mem_of_getElem? (getD_get _ hi'))
  · show (r3At (rowsM p).1 0).2.2 = (r3At (rowsM p).1 0).1
    rw [at_ 0 (by omega)]
    split
    · rw [if_pos (by omega)]
    · rw [if_pos rfl]
  · show (r3At (rowsM p).1 ((rowsM p).1.length - 1)).2.1 = (r3At (rowsM p).1 ((rowsM p).1.length - 1)).1
    rw [hl2, at_ (rs.length - 1) (by omega), if_pos rfl]
section
variable {P : Program} {w : World} {K : PySem.W.Frag} {mg : PySem.Str → Option Value} {base : Heap} {CC CW : Addr}
abbrev s__law_rows : Stmt := topS 84
abbrev N__law_rows : List PySem.Str := ["_law_pot_here", "_law_most", "_law_wide", "_law_found", "_law_turn", "_law_places", "_law_east", "_law_west", "_law_last"]
theorem sc__law_rows : FnScope N__law_rows ["_law_pot_here", "_law_most", "_law_wide"] (defScope s__law_rows) := ⟨rfl, rfl, rfl, by decide +kernel, rfl, by decide +kernel, by decide +kernel⟩
def R__law_rows : Pot → List PP → Pot → PP → Prop := fun p Ps p' T => PotOk p ∧ Ps = [DI 4, DI 4] ∧ p' = (rowsM p).2 ∧ T = DL ((rowsM p).1.map eR)
theorem ok__law_rows (F : Df K mg "_law_rows" s__law_rows ["_law_pot_here", "_law_most", "_law_wide"]) (T : Txt K mg CC CW) (c__law_draw : Cal P w K mg base "_law_draw" ["_law_pot_here", "_law_many"] 1 (spP R__law_draw)) : Cal P w K mg base "_law_rows" ["_law_pot_here", "_law_most", "_law_wide"] 2 (spP R__law_rows) := by
  refine F.pot sc__law_rows (fun p Ps p' T ⟨_, h, _⟩ => by rw [h]; rfl) fun f cdv A outer s H E hr => ⟨_,
    (pss_cons (ps_set (i := 3) sc__law_rows.nd rfl (.inl rfl) (pe_lst pa_nil))
      (pss_cons (ps_for PassesOwn.never rfl (pi_range1 rfl T.range (pa_cons (pe_op op_add pe_int (pe_cal c__law_draw (hr.mono (by decide)) rfl (pa_cons (pv 0) (pa_cons (pv 1) pa_nil)))) pa_nil)) (pg_name (i := 4) sc__law_rows.nd rfl (.inl rfl))
        (pss_cons (ps_set (i := 5) sc__law_rows.nd rfl (.inl rfl) (pe_op op_add pe_int (pe_cal c__law_draw (hr.mono (by decide)) rfl (pa_cons (pv 0) (pa_cons (pv 2) pa_nil)))))
        (pss_cons (ps_par (i := 6) (j := 7) (by rfl) sc__law_rows.nd rfl rfl (by decide) rfl rfl (pa_cons (pe_op op_add pe_int (pe_cal c__law_draw (hr.mono (by decide)) rfl (pa_cons (pv 0) (pa_cons (pv 5) pa_nil)))) (pa_cons (pe_op op_add pe_int (pe_cal c__law_draw (hr.mono (by decide)) rfl (pa_cons (pv 0) (pa_cons (pv 5) pa_nil)))) pa_nil)) (by rfl))
        (pss_one (ps_expr (pe_bm PySem.F.plainAttrs_list PySem.F.slot_list_append PySem.F.type_list_append mt_append (pv 3) (pa_cons (pe_tup (pa_cons (pv 5) (pa_cons (pe_ifExp (pt_cmpR (op_eqD hr.units) (pe_cal c__law_draw (hr.mono (by decide)) rfl (pa_cons (pv 0) (pa_cons pe_int pa_nil))) pe_int (nomark _)) (pv 5) (pv 6)) (pa_cons (pe_ifExp (pt_cmpR (op_eqD hr.units) (pe_cal c__law_draw (hr.mono (by decide)) rfl (pa_cons (pv 0) (pa_cons pe_int pa_nil))) pe_int (nomark _)) (pv 5) (pv 7)) pa_nil)))) pa_nil)))))))
      (pss_cons (ps_asg (pe_tup (pa_cons (pe_tup (pa_cons (pe_ix ix_seq (pe_ix ix_seq (pv 3) pe_int (fun _ _ => rfl)) pe_int (fun _ _ => rfl)) (pa_cons (pe_ix ix_seq (pe_ix ix_seq (pv 3) pe_int (fun _ _ => rfl)) pe_int (fun _ _ => rfl)) (pa_cons (pe_ix ix_seq (pe_ix ix_seq (pv 3) pe_int (fun _ _ => rfl)) pe_int (fun _ _ => rfl)) pa_nil)))) (pa_cons (pe_ix ix_seq (pv 3) (pe_un un_neg pe_int) (fun _ _ => rfl)) pa_nil))) (pg_tup rfl (pgs_cons (pg_sub (pv 3) pe_int set_list) (pgs_cons (pg_name (i := 8) sc__law_rows.nd rfl (.inl rfl)) pgs_nil))))
      (pss_cons (ps_asg (pe_tup (pa_cons (pe_ix ix_seq (pv 8) pe_int (fun _ _ => rfl)) (pa_cons (pe_ix ix_seq (pv 8) pe_int (fun _ _ => rfl)) (pa_cons (pe_ifExp (pt_cmpR (op_eqD hr.units) (pe_callB call_len (by rfl) T.len PySem.boot_len (pa_cons (pv 3) pa_nil)) pe_int (nomark _)) (pe_ix ix_seq (pv 8) pe_int (fun _ _ => rfl)) (pe_ix ix_seq (pv 8) pe_int (fun _ _ => rfl))) pa_nil)))) (pg_sub (pv 3) (pe_un un_neg pe_int) set_list))
      (pss_one (ps_ret (pv 3))))))), ?_⟩
  rintro B M0 l p Ps p' T' D' ⟨hp, rfl, rfl, rfl⟩ hR
  have hd0 := drawM_lt p (m := 4) (by decide)
  have hlen := rowsRaw_len p
  refine xs_seq (xs_setF (xf_lst [] xa_nil (by decide)) fun lf => nx_x ?_)
  let st : Nat → Pot × List R3 := fun i => rowIt i ((drawM p 4).2, [])
  have sto : ∀ i, PotOk (st i).1 := fun i => rowIt_ok (drawM_ok hp _) i
  have stl : ∀ i, (st i).2.length = i := fun i => by show (rowIt i _).2.length = i; rw [rowIt_len]; show 0 + i = i; omega
  -- a draw
  have dr : ∀ {C C1 : Ct} {te tm : TE} {E : XK} {q : Pot} {m : Nat}, XA C (tCons te (tCons tm tNil)) [Rf l, DI (m : Nat)] C1 → C1.mm[1]? = some (l, LF (potD q)) → PotOk q → 1 ≤ m → m < 1000000 → Xv C (tCall (spP R__law_draw) [] E (tCons te (tCons tm tNil))) (DI (((drawM q m).1 : Nat) : Int)) (C1.mut 1 l (LF (potD (drawM q m).2))) := fun h1 h2 h3 h4 h5 => xv_pot (k := 1) h1 h2 ⟨_, h3, h4, h5, rfl, rfl, rfl⟩
  refine xs_seq (xs_for (n := 1 + (drawM p 4).1) (I := fun i => ⟨B, M0, [(lf, LF ((st i).2.map eR)), (l, LF (potD (st i).1))], [some (Rf l), some (DI 4), some (DI 4), some (Rf lf), none, none, none, none, none], []⟩)
    (((xi_rng1 (j := ((1 + (drawM p 4).1 : Nat) : Int)) (XA.eq (xa_cons (xv_op xv_int (dr (m := 4) (xa_cons (xv_var rfl) (xa_cons (xv_var rfl) xa_nil)) rfl hp (by decide) (by decide)) ro_i0) xa_nil) (by rw [show (1 : Int) + ((drawM p 4).1 : Nat) = ((1 + (drawM p 4).1 : Nat) : Int) by omega])) (by omega)).len (by omega)))
    (fun _ _ q hq => nomatch hq) (ghs_weak (wk_refl _)) (fun i gl hi => ?_) (nx_x ?_))
  · have hsi : rowStep (st i) = st (i + 1) := rfl
    have ho := sto i
    have hli := stl i
    generalize st (i + 1) = st1 at *
    generalize st i = st0 at *
    obtain ⟨q, rs⟩ := st0
    subst hsi
    have o1 := drawM_ok ho 4
    have b1 := drawM_lt q (m := 4) (by decide)
    refine xb_mk xg_name (xs_seq (xs_set (P := DI ((1 + (drawM q 4).1 : Nat) : Int)) ((xv_op xv_int (dr (m := 4) (xa_cons (xv_var rfl) (xa_cons (xv_var rfl) xa_nil)) rfl ho (by decide) (by decide)) ro_i0).dat (by rw [show (1 : Int) + ((drawM q 4).1 : Nat) = ((1 + (drawM q 4).1 : Nat) : Int) by omega])) (nx_x ?_)))
    have e1 : rowStep (q, rs) = ((drawM (drawM (drawM (drawM (drawM q 4).2 (1 + (drawM q 4).1)).2 (1 + (drawM q 4).1)).2 2).2 2).2, rs ++ [(1 + (drawM q 4).1, if (drawM (drawM (drawM (drawM q 4).2 (1 + (drawM q 4).1)).2 (1 + (drawM q 4).1)).2 2).1 = 0 then 1 + (drawM q 4).1 else 1 + (drawM (drawM q 4).2 (1 + (drawM q 4).1)).1, if (drawM (drawM (drawM (drawM (drawM q 4).2 (1 + (drawM q 4).1)).2 (1 + (drawM q 4).1)).2 2).2 2).1 = 0 then 1 + (drawM q 4).1 else 1 + (drawM (drawM (drawM q 4).2 (1 + (drawM q 4).1)).2 (1 + (drawM q 4).1)).1)]) := rfl
    rw [e1]
    generalize (drawM q 4).1 = n1 at *
    generalize (drawM q 4).2 = q1 at *
    have o2 := drawM_ok o1 (1 + n1)
    generalize hd2 : drawM q1 (1 + n1) = d2 at *
    obtain ⟨n2, q2⟩ := d2
    have o3 := drawM_ok o2 (1 + n1)
    generalize hd3 : drawM q2 (1 + n1) = d3 at *
    obtain ⟨n3, q3⟩ := d3
    have o4 := drawM_ok o3 2
    generalize hd4 : drawM q3 2 = d4 at *
    obtain ⟨n4, q4⟩ := d4
    have o5 := drawM_ok o4 2
    generalize hd5 : drawM q4 2 = d5 at *
    obtain ⟨n5, q5⟩ := d5
    have dr' : ∀ {C C1 : Ct} {te tm : TE} {E : XK} {q : Pot} {m : Nat} {d : Nat × Pot}, XA C (tCons te (tCons tm tNil)) [Rf l, DI (m : Nat)] C1 → C1.mm[1]? = some (l, LF (potD q)) → PotOk q → 1 ≤ m → m < 1000000 → drawM q m = d → Xv C (tCall (spP R__law_draw) [] E (tCons te (tCons tm tNil))) (DI ((d.1 : Nat) : Int)) (C1.mut 1 l (LF (potD d.2))) := fun h1 h2 h3 h4 h5 e => e ▸ dr h1 h2 h3 h4 h5
    refine xs_seq (xs_par (P := DI ((1 + n2 : Nat) : Int)) (R := DI ((1 + n3 : Nat) : Int)) (XA.eq (xa_cons (xv_op xv_int (dr' (q := q1) (m := 1 + n1) (d := (n2, q2)) (xa_cons (xv_var rfl) (xa_cons (xv_var rfl) xa_nil)) rfl o1 (by omega) (by omega) hd2) ro_i0)
      (xa_cons (xv_op xv_int (dr' (q := q2) (m := 1 + n1) (d := (n3, q3)) (xa_cons (xv_var rfl) (xa_cons (xv_var rfl) xa_nil)) rfl o2 (by omega) (by omega) hd3) ro_i0) xa_nil)) (by
        rw [show (1 : Int) + (n2 : Nat) = ((1 + n2 : Nat) : Int) by omega, show (1 : Int) + (n3 : Nat) = ((1 + n3 : Nat) : Int) by omega])) (nx_x ?_))
    refine xs_drop (xv_app (k := 0) (d := eR (1 + n1, if n4 = 0 then 1 + n1 else 1 + n2, if n5 = 0 then 1 + n1 else 1 + n3)) (xv_var rfl) (Xv.tup (xf_tup [eN (1 + n1), eN (if n4 = 0 then 1 + n1 else 1 + n2), eN (if n5 = 0 then 1 + n1 else 1 + n3)] (xa_cons (xv_var rfl)
      (xa_cons (xv_if (b := decide (n4 = 0)) ((xt_test (xv_op (dr' (q := q3) (m := 2) (d := (n4, q4)) (xa_cons (xv_var rfl) (xa_cons xv_int xa_nil)) rfl o3 (by decide) (by decide) hd4) xv_int (ro_eqD vd_d vd_d (shaped_flat rfl) (shaped_flat rfl)))).eq (eqv_nat n4 0)) (fun hb => (xv_var rfl).dat (by rw [if_pos (of_decide_eq_true hb)])) (fun hb => (xv_var rfl).dat (by rw [if_neg (of_decide_eq_false hb)])))
      (xa_cons (xv_if (b := decide (n5 = 0)) ((xt_test (xv_op (dr' (q := q4) (m := 2) (d := (n5, q5)) (xa_cons (xv_var rfl) (xa_cons xv_int xa_nil)) rfl o4 (by decide) (by decide) hd5) xv_int (ro_eqD vd_d vd_d (shaped_flat rfl) (shaped_flat rfl)))).eq (eqv_nat n5 0)) (fun hb => (xv_var rfl).dat (by rw [if_pos (of_decide_eq_true hb)])) (fun hb => (xv_var rfl).dat (by rw [if_neg (of_decide_eq_false hb)]))) xa_nil))) (by show 3 ≤ 100000; decide))) rfl rfl ?_) fun σ H e => ?_
    · have : rs.length = i := hli
      rw [List.length_map]
      omega
    · show En (Ct.ghs ⟨B, M0, [(lf, LF ((rs ++ [(1 + n1, if n4 = 0 then 1 + n1 else 1 + n2, if n5 = 0 then 1 + n1 else 1 + n3)]).map eR)), (l, LF (potD q5))], [some (Rf l), some (DI 4), some (DI 4), some (Rf lf), none, none, none, none, none], []⟩ gl) σ H
      rw [List.map_append]
      exact e.weak (.keep (.keep (.keep (.keep (.drop (.drop (.drop (.drop (.keep .nil))))))))) fun _ z => z
  · have er : st (1 + (drawM p 4).1) = rowsRaw p := rfl
    rw [er]
    have eM : rowsM p = (fixB (fixA (rowsRaw p).2) (r3At (rowsRaw p).2 ((rowsRaw p).2.length - 1)), (rowsRaw p).1) := rfl
    rw [eM] at hR
    generalize (rowsRaw p).1 = q at *
    generalize (rowsRaw p).2 = rs at *
    have g0 : L2.atI (rs.map eR) 0 = some (eR (r3At rs 0)) := atI_n (j := 0) (by rw [List.getElem?_map, getD_get (0, 0, 0) (by omega), Option.map_some])
    have gz : L2.atI (rs.map eR) (-1) = some (eR (r3At rs (rs.length - 1))) := atI_end (by rw [List.length_map, List.getElem?_map, getD_get (0, 0, 0) (by omega), Option.map_some])
    have vr : ∀ {C : Ct} {u : R3}, Vt C (D (eR u)) [eN u.1, eN u.2.1, eN u.2.2] := vt_d
    have i0e : ixN (rs.map eR).length 0 = some 0 := ixN_n (j := 0) (by rw [List.length_map]; omega)
    refine xs_seq (xs_g (Xv.tup (xf_tup [eR ((r3At rs 0).1, (r3At rs 0).2.1, (r3At rs 0).1), eR (r3At rs (rs.length - 1))] (xa_cons (Xv.tup (xf_tup [eN (r3At rs 0).1, eN (r3At rs 0).2.1, eN (r3At rs 0).1] (xa_cons (xv_op (xv_op (xv_var rfl) xv_int (ro_ixL (vl_r (k := 0) rfl) g0)) xv_int (ro_ixT vr rfl)) (xa_cons (xv_op (xv_op (xv_var rfl) xv_int (ro_ixL (vl_r (k := 0) rfl) g0)) xv_int (ro_ixT vr rfl)) (xa_cons (xv_op (xv_op (xv_var rfl) xv_int (ro_ixL (vl_r (k := 0) rfl) g0)) xv_int (ro_ixT vr rfl)) xa_nil))) (by show 3 ≤ 100000; decide)))
      (xa_cons (xv_op (xv_var rfl) (xv_un xv_int) (ro_ixL (vl_r (k := 0) rfl) gz)) xa_nil)) (by show 2 ≤ 100000; decide))) (xg_tup (ds := [eR ((r3At rs 0).1, (r3At rs 0).2.1, (r3At rs 0).1), eR (r3At rs (rs.length - 1))]) (xgs_cons (xg_sub (k := 0) (xv_var rfl) xv_int rfl i0e) (xgs_cons xg_name xgs_nil)) rfl) (nx_x ?_))
    rw [show (rs.map eR).set 0 (eR ((r3At rs 0).1, (r3At rs 0).2.1, (r3At rs 0).1)) = (fixA rs).map eR by unfold fixA; rw [List.map_set]]
    generalize r3At rs (rs.length - 1) = z at *
    have fl : (fixA rs).length = rs.length := by unfold fixA; rw [List.length_set]
    generalize fixA rs = ra at *
    have ie : ixN (ra.map eR).length (-1) = some (ra.length - 1) := by
      unfold ixN
      rw [if_neg (by decide), List.length_map, if_pos (by omega)]
      have : (-1 + (ra.length : Int)).toNat = ra.length - 1 := by omega
      rw [this]
    refine xs_seq (xs_g (P := D (eR (z.1, z.1, if ra.length = 1 then z.1 else z.2.2))) (Xv.tup (xf_tup [eN z.1, eN z.1, eN (if ra.length = 1 then z.1 else z.2.2)] (xa_cons (xv_op (xv_var rfl) xv_int (ro_ixT vr rfl)) (xa_cons (xv_op (xv_var rfl) xv_int (ro_ixT vr rfl))
      (xa_cons (xv_if (b := decide (ra.length = 1)) ((xt_test (xv_op (xv_cb (xa_cons (xv_var rfl) xa_nil) (rc_lenL (vl_r (k := 0) rfl))) xv_int (ro_eqD vd_d vd_d (shaped_flat rfl) (shaped_flat rfl)))).eq (by rw [List.length_map]; exact eqv_nat _ 1)) (fun hb => (xv_op (xv_var rfl) xv_int (ro_ixT vr rfl)).dat (by rw [if_pos (of_decide_eq_true hb)])) (fun hb => (xv_op (xv_var rfl) xv_int (ro_ixT vr rfl)).dat (by rw [if_neg (of_decide_eq_false hb)]))) xa_nil))) (by show 3 ≤ 100000; decide)))
      (xg_sub (k := 0) (xv_var rfl) (xv_un xv_int) rfl ie) (nx_x ?_))
    rw [show (ra.map eR).set (ra.length - 1) (eR (z.1, z.1, if ra.length = 1 then z.1 else z.2.2)) = (fixB ra z).map eR by unfold fixB; rw [List.map_set]]
    refine xs_freeze (P := DL ((fixB ra z).map eR)) (k := 0) (i := 3) rfl rfl (fun _ _ p => Fz.lst p) ?_
    exact xs_retP (p' := q) (T := DL ((fixB ra z).map eR)) (k := 0) (l := l) (xv_var rfl) rfl rfl rfl (fun H v q => q) hR
end
end K74

set_option Elab.async false
set_option linter.all false
set_option maxRecDepth 100000
set_option maxHeartbeats 4000000
namespace K74
open PySem PySem.Spec PyProof.Rows L2
/-! ### drawn names -/
abbrev NSt := Pot × List Nat × List Nat
def nameStep (st : NSt) : NSt := ((drawM st.1 st.2.1.length).2, st.2.1.eraseIdx (drawM st.1 st.2.1.length).1, st.2.2 ++ [st.2.1.getD (drawM st.1 st.2.1.length).1 0])
def nameIt : Nat → NSt → NSt
  | 0, st => st
  | n + 1, st => nameIt n (nameStep st)
def namesM (p : Pot) (n : Nat) : List Nat × Pot := (Mir.turnUp (nameIt n (p, List.range n, [])).2.2, (nameIt n (p, List.range n, [])).1)
theorem nameIt_ok : ∀ (n : Nat) {st : NSt}, PotOk st.1 → PotOk (nameIt n st).1
  | 0, _, h => h
  | n + 1, st, h => nameIt_ok n (drawM_ok h _)
theorem erase_perm {l : List Nat} {i : Nat} (h : i < l.length) : (l.getD i 0 :: l.eraseIdx i).Perm l := by
  rw [List.getD_eq_getElem?_getD, List.getElem?_eq_getElem h, List.eraseIdx_eq_take_drop_succ]
  have e : l = l.take i ++ l[i] :: l.drop (i + 1) := by rw [← List.drop_eq_getElem_cons h, List.take_append_drop]
  have := List.perm_middle (a := l[i]) (l₁ := l.take i) (l₂ := l.drop (i + 1))
  exact this.symm.trans (by rw [← e])
theorem nameIt_perm : ∀ (n : Nat) (st : NSt), st.2.1.length = n → ((nameIt n st).2.2).Perm (st.2.2 ++ st.2.1)
  | 0, st, h => by
    have : st.2.1 = [] := List.length_eq_zero_iff.mp h
    rw [this, List.append_nil]
    exact .refl _
  | n + 1, st, h => by
    have hd := drawM_lt st.1 (m := st.2.1.length) (by omega)
    have h1 := nameIt_perm n (nameStep st) (by
      show (st.2.1.eraseIdx _).length = n
      rw [List.length_eraseIdx, if_pos hd]
      omega)
    refine h1.trans ?_
    show (st.2.2 ++ [_] ++ st.2.1.eraseIdx _).Perm _
    rw [List.append_assoc]
    exact (erase_perm hd).append_left _
section
variable {P : Program} {w : World} {K : PySem.W.Frag} {mg : PySem.Str → Option Value} {base : Heap} {CC CW : Addr}
abbrev s__law_names : Stmt := topS 86
abbrev N__law_names : List PySem.Str := ["_law_pot_here", "_law_many", "_law_left", "_law_found"]
theorem sc__law_names : FnScope N__law_names ["_law_pot_here", "_law_many"] (defScope s__law_names) := ⟨rfl, rfl, rfl, by decide +kernel, rfl, by decide +kernel, by decide +kernel⟩
def R__law_names : Pot → List PP → Pot → PP → Prop := fun p Ps p' T => ∃ n : Nat, PotOk p ∧ 1 ≤ n ∧ n ≤ 10 ∧ Ps = [DI (n : Nat)] ∧ p' = (namesM p n).2 ∧ T = DL (eNs (namesM p n).1)
theorem ok__law_names (F : Df K mg "_law_names" s__law_names ["_law_pot_here", "_law_many"]) (T : Txt K mg CC CW) (c__law_draw : Cal P w K mg base "_law_draw" ["_law_pot_here", "_law_many"] 1 (spP R__law_draw)) : Cal P w K mg base "_law_names" ["_law_pot_here", "_law_many"] 2 (spP R__law_names) := by
  refine F.pot sc__law_names (fun p Ps p' T ⟨_, _, _, _, h, _⟩ => by rw [h]; rfl) fun f cdv A outer s H E hr => ⟨_,
    (pss_cons (ps_par (i := 2) (j := 3) (by rfl) sc__law_names.nd rfl rfl (by decide) rfl rfl (pa_cons (pe_listRg rfl rfl T.list (prg_1 rfl T.range (pv 1))) (pa_cons (pe_lst pa_nil) pa_nil)) (by rfl))
      (pss_cons (ps_while PassesOwn.never (pt_cmpR (op_neD hr.units) (pv 2) (pe_lst pa_nil) (nomark _)) (pss_one (ps_expr (pe_bm PySem.F.plainAttrs_list PySem.F.slot_list_append PySem.F.type_list_append mt_append (pv 3) (pa_cons (pe_bm PySem.F.plainAttrs_list PySem.F.slot_list_pop PySem.F.type_list_pop mt_popAt (pv 2) (pa_cons (pe_cal c__law_draw (hr.mono (by decide)) rfl (pa_cons (pv 0) (pa_cons (pe_callB call_len (by rfl) T.len PySem.boot_len (pa_cons (pv 2) pa_nil)) pa_nil))) pa_nil)) pa_nil)))))
      (pss_one (ps_ret (pe_ifExp (pt_cmpR op_lt (pe_ix ix_seq (pv 3) pe_int (fun _ _ => rfl)) (pe_ix ix_seq (pv 3) (pe_un un_neg pe_int) (fun _ _ => rfl)) (nomark _)) (pv 3) (pe_revL (pv 3))))))), ?_⟩
  rintro B M0 l p Ps p' T' D' ⟨n, hp, hn1, hn2, rfl, rfl, rfl⟩ hR
  refine xs_seq (xs_parFF (xf_listRg (xv_var rfl) (by omega)) (fun l => xf_lst [] xa_nil (by decide)) fun ll lf => nx_x ?_)
  let fin := nameIt n (p, List.range n, [])
  let I : NSt → Ct := fun st => ⟨B, M0, [(lf, LF (eNs st.2.2)), (ll, LF (eNs st.2.1)), (l, LF (potD st.1))], [some (Rf l), some (DI ((n : Nat) : Int)), some (Rf ll), some (Rf lf)], []⟩
  refine xs_seq (xs_while I (fun st => st.2.1.length) (fun st => PotOk st.1 ∧ nameIt st.2.1.length st = fin ∧ st.2.1.length + st.2.2.length = n) (p, List.range n, []) ⟨hp, by show nameIt (List.range n).length _ = _; rw [List.length_range], by simp⟩ (fun σ H e => by
    show En ⟨B, M0, [(lf, LF (eNs [])), (ll, LF (eNs (List.range n))), (l, LF (potD p))], _, _⟩ σ H
    have : eNs (List.range n) = (List.range n).map fun i => PyData.int (i : Nat) := rfl
    rw [this]
    exact e) ?_)
  rintro ⟨q, left, fo⟩ ⟨ho, hit, hlen⟩
  have ho' : PotOk q := ho
  have hlen' : left.length + fo.length = n := hlen
  refine ⟨!left.isEmpty, I (q, left, fo), (xt_test (xv_op (xv_var rfl) (Xv.lst (xf_lst [] xa_nil (by decide))) (ro_neD (vd_r (k := 1) rfl) vd_d (eNs_shaped left) (shaped_flats rfl)))).eq (by rw [eqv_list_nil]; cases left <;> rfl), fun hb => ?_, fun hb => nx_x ?_⟩
  · have hne : 1 ≤ left.length := by
      cases left with
      | nil => cases hb
      | cons a r => simp
    have hd := drawM_lt q (m := left.length) hne
    have hg : (eNs left)[(drawM q left.length).1]? = some (eN (left.getD (drawM q left.length).1 0)) := eNs_get (getD_get 0 hd)
    refine xs_drop (xv_app (k := 0) (d := eN (left.getD (drawM q left.length).1 0)) (xv_var rfl) (xv_popAt (k := 1) (i := ((drawM q left.length).1 : Nat)) (j := (drawM q left.length).1) (xv_var rfl) (xv_pot (k := 2) (p := q) (p' := (drawM q left.length).2) (xa_cons (xv_var rfl) (xa_cons (xv_cb (xa_cons (xv_var rfl) xa_nil) (rc_lenL (vl_r (k := 1) rfl))) xa_nil)) rfl ⟨left.length, ho', hne, by omega, by rw [eNs_len], rfl, rfl⟩) rfl rfl (by omega) (by omega) hg) rfl rfl (by rw [eNs_len]; omega)) fun σ H e => ?_
    refine ⟨nameStep (q, left, fo), ?_, ⟨drawM_ok ho' _, ?_, ?_⟩, ?_⟩
    · show (left.eraseIdx _).length < left.length
      rw [List.length_eraseIdx, if_pos hd]; omega
    · rw [← hit]
      show nameIt (left.eraseIdx _).length (nameStep (q, left, fo)) = nameIt left.length (q, left, fo)
      rw [List.length_eraseIdx, if_pos hd]
      obtain ⟨k, hk⟩ : ∃ k, left.length = k + 1 := ⟨left.length - 1, by omega⟩
      rw [hk]
      rfl
    · show (left.eraseIdx _).length + (fo ++ [_]).length = n
      rw [List.length_eraseIdx, if_pos hd, List.length_append]
      simp only [List.length_cons, List.length_nil]
      omega
    · show En ⟨B, M0, [(lf, LF (eNs (fo ++ [left.getD (drawM q left.length).1 0]))), (ll, LF (eNs (left.eraseIdx (drawM q left.length).1))), (l, LF (potD (drawM q left.length).2))], [some (Rf l), some (DI ((n : Nat) : Int)), some (Rf ll), some (Rf lf)], []⟩ σ H
      rw [eNs_append, show eNs (left.eraseIdx (drawM q left.length).1) = (eNs left).eraseIdx (drawM q left.length).1 from (map_eraseIdxG eN left _)]
      exact e
  · cases left with
    | cons a r => cases hb
    | nil =>
      have hfin : (q, ([] : List Nat), fo) = fin := hit
      have e1 : (namesM p n).1 = Mir.turnUp fo := by show Mir.turnUp fin.2.2 = _; rw [← hfin]
      have e2 : (namesM p n).2 = q := by show fin.1 = _; rw [← hfin]
      rw [e1, e2] at hR
      have hfl : fo.length = n := by simpa using hlen'
      refine xs_freeze (P := DL (eNs fo)) (k := 0) (i := 3) rfl rfl (fun _ _ p => Fz.lst p) ?_
      have g0 : L2.atI (eNs fo) 0 = some (eN (fo.getD 0 0)) := atI_n (j := 0) (eNs_get (getD_get 0 (by omega)))
      have gz : L2.atI (eNs fo) (-1) = some (eN (fo.getD (fo.length - 1) 0)) := atI_end (by rw [eNs_len]; exact eNs_get (getD_get 0 (by omega)))
      refine xs_retP (p' := q) (T := DL (eNs (Mir.turnUp fo))) (k := 1) (l := l) (xv_if (b := decide (fo.getD 0 0 < fo.getD (fo.length - 1) 0)) ((xt_test (xv_op (xv_op (xv_var rfl) xv_int (ro_ixL vl_d g0)) (xv_op (xv_var rfl) (xv_un xv_int) (ro_ixL vl_d gz)) ro_b0)).eq ?_) (fun hb => (xv_var rfl).dat ?_) (fun hb => (Xv.lst (xf_rev (xv_var rfl) vl_d)).dat ?_)) rfl rfl rfl (fun H v p => p) hR
      · rw [decide_eq_decide]
        omega
      · unfold Mir.turnUp
        rw [if_pos (of_decide_eq_true hb)]
      · unfold Mir.turnUp
        rw [if_neg (of_decide_eq_false hb)]
        show PyData.list (fo.map eN).reverse = .list (fo.reverse.map eN)
        rw [List.map_reverse]
end
end K74

set_option Elab.async false
set_option linter.all false
set_option maxRecDepth 100000
set_option maxHeartbeats 4000000
namespace K74
open PySem PySem.Spec PyProof.Rows L2
section
variable {C C1 C2 C3 C' : Ct} {ta tb te : TE} {P P' R T : PP} {F : FF} {K : PySem.W.Frag} {D' : Ends} {tu tw tz : TS} {g : TG}
theorem xs_ifC {t : TT} {b : Bool} (h : XT C t b C1) (h1 : b = true → ∀ D2, Nx C2 D2 → Xs C1 tu D2) (h2 : b = false → ∀ D2, Nx C2 D2 → Xs C1 tw D2) (k : Nx C2 D') : Xs C (tIfS t tu tw) D' := xs_if h (fun hb => h1 hb D' k) fun hb => h2 hb D' k
/-- a, d = (P, a new object) -/
theorem xs_tupPF {i j : Nat} (h1 : Xv C ta P C1) (h2 : Xf C1 tb F C2) (k : ∀ l, Nx (((C2.new l F).put i P).put j (Rf l)) D') : Xs C (tAsg (tTup (tCons ta (tCons tb tNil))) (gTup K 2 (gCons (gName i) (gCons (gName j) gNil)))) D' := fun σ H e => h1.2 σ H e _ fun v H1 s1 e1 p1 => h2.2 σ H1 e1 _ fun l H2 s2 e2 => by
  refine ⟨by show 2 ≤ sizeLine; decide, fun p hp => ?_⟩
  have hM : C1.M = C.M := h1.1
  have hM2 : C2.M = C1.M := h2.1
  have e3 := e2.mono (same_upd (o := .tup [v, .ref l]) hp)
  have hpM : p ∉ (C2.new l F).M := e2.fresh hp
  have hv : P.P (hid (C2.new l F).M (upd H2 p (.tup [v, .ref l]))) v := by
    have q1 : P.P (hid C1.M H1) v := by rw [hM]; exact p1
    have q2 := P.mono s2 q1
    have eM : (l :: C1.M) = (C2.new l F).M := by
      show l :: C1.M = l :: C2.M
      rw [hM2]
    rw [eM] at q2
    exact P.mono (hid_mono (same_upd hp)) q2
  have hT : (TP [P, Rf l]).P (hid (C2.new l F).M (upd H2 p (.tup [v, .ref l]))) (.ref p) := ⟨p, _, rfl, by rw [hid_out hpM, upd_same], _, rfl, .cons hv (.cons (P := Rf l) rfl .nil)⟩
  exact (xg_tupP (K := K) (C := C2.new l F) (Ps := [P, Rf l]) (xgs_cons xg_name (xgs_cons xg_name xgs_nil)) rfl).2 σ _ (.ref p) e3 hT _ fun σ2 H4 _ e4 _ _ => k l σ2 H4 e4
end
/-! ### the law's web -/
def bkv (nm : List Nat) (rows : List R3) (i : Nat) : List (Int × PyData) := (List.range i).map fun j => (((at0 nm (j + 1) : Nat) : Int), bookK nm rows (j + 1))
theorem bkv_succ (nm : List Nat) (rows : List R3) (i : Nat) : bkv nm rows (i + 1) = bkv nm rows i ++ [(((at0 nm (i + 1) : Nat) : Int), bookK nm rows (i + 1))] := by
  unfold bkv
  rw [List.range_succ, List.map_append]
  rfl
theorem LR.bkv_put {nm : List Nat} {rows : List R3} (h : LR nm rows) {i : Nat} (hi : i < rows.length) : putD (bkv nm rows i) ((at0 nm (i + 1) : Nat) : Int) (bookK nm rows (i + 1)) = bkv nm rows (i + 1) := by
  have hn := h.n
  rw [bkv_succ]
  unfold putD
  rw [if_neg]
  intro z
  obtain ⟨p, hp, e⟩ := List.any_eq_true.mp z
  obtain ⟨j, hj, rfl⟩ := List.mem_map.mp hp
  rw [List.mem_range] at hj
  simp only [decide_eq_true_eq] at e
  have := h.L.inj (i := j + 1) (j := i + 1) (by omega) (by omega) (by omega)
  omega
theorem look_find {α : Type} (key : α → Int) (val : α → PyData) (a : α) : ∀ l : List α, a ∈ l → (∀ b ∈ l, key b = key a → b = a) → lookD (l.map fun b => (key b, val b)) (key a) = some (val a)
  | [], h, _ => by cases h
  | b :: r, h, hk => by
    unfold lookD
    rw [List.map_cons]
    by_cases z : key b = key a
    · rw [List.find?_cons_of_pos (by simpa using z)]
      have := hk b List.mem_cons_self z
      subst this
      rfl
    · rw [List.find?_cons_of_neg (by simpa using z)]
      have ha : a ∈ r := by
        rcases List.mem_cons.mp h with y | y
        · subst y; exact absurd rfl z
        · exact y
      exact look_find key val a r ha fun c hc => hk c (List.mem_cons_of_mem _ hc)
theorem LR.bkv_look {nm : List Nat} {rows : List R3} (h : LR nm rows) {k : Nat} (h1 : 1 ≤ k) (h2 : k ≤ rows.length) : lookD (bkv nm rows rows.length) ((at0 nm k : Nat) : Int) = some (bookK nm rows k) := by
  have hn := h.n
  have := look_find (fun j => ((at0 nm (j + 1) : Nat) : Int)) (fun j => bookK nm rows (j + 1)) (k - 1) (List.range rows.length) (List.mem_range.mpr (by omega)) (fun b hb e => by
    rw [List.mem_range] at hb
    have := h.L.inj (i := b + 1) (j := k - 1 + 1) (by omega) (by omega) (by
      have e' : ((at0 nm (b + 1) : Nat) : Int) = ((at0 nm (k - 1 + 1) : Nat) : Int) := e
      omega)
    omega)
  rw [show k - 1 + 1 = k by omega] at this
  exact this
theorem inner_eq {nm : List Nat} {m : Nat} (h : nm.length = m + 2) : (List.range m).map (fun j => at0 nm (j + 1)) = (nm.drop 1).dropLast := by
  rw [List.dropLast_eq_take, List.length_drop]
  apply List.ext_getElem?
  intro i
  rw [List.getElem?_map, List.getElem?_take, List.getElem?_drop]
  by_cases hi : i < m
  · rw [List.getElem?_range hi, if_pos (by omega), show 1 + i = i + 1 by omega, getD_get 0 (show i + 1 < nm.length by omega)]
    rfl
  · rw [List.getElem?_eq_none (by rw [List.length_range]; omega), if_neg (by omega)]
    rfl
theorem lanesOf_map (nm : List Nat) : (Mir.lanesOf nm).map eLane = (List.range (nm.length - 1)).map fun i => eLane (at0 nm i, at0 nm (i + 1)) := by
  unfold Mir.lanesOf
  rw [List.map_map]
  rfl
section
variable {P : Program} {w : World} {K : PySem.W.Frag} {mg : PySem.Str → Option Value} {base : Heap} {CC CW : Addr}
abbrev s__law_web : Stmt := topS 85
abbrev N__law_web : List PySem.Str := ["_law_rows_here", "_law_names_here", "_law_at", "_law_lanes", "_law_books", "_law_row", "_law_bounds", "_law_yard"]
theorem sc__law_web : FnScope N__law_web ["_law_rows_here", "_law_names_here"] (defScope s__law_web) := ⟨rfl, rfl, rfl, by decide +kernel, rfl, by decide +kernel, by decide +kernel⟩
def R__law_web (CC CW : Addr) : List PP → PP → Prop := fun Ps T => ∃ nm rows, LR nm rows ∧ Ps = [DL (rows.map eR), DL (eNs nm)] ∧ T = We CC CW nm rows
theorem ok__law_web (F : Df K mg "_law_web" s__law_web ["_law_rows_here", "_law_names_here"]) (T : Txt K mg CC CW) (c_Country : CalN P w K mg base "Country" CC ["self", "lanes"] 5 (R_Country CC)) (c_Web : CalN P w K mg base "Web" CW ["self", "country", "books"] 8 (R_Web CC CW)) : Cal P w K mg base "_law_web" ["_law_rows_here", "_law_names_here"] 10 (spF (R__law_web CC CW)) := by
  refine F.ok sc__law_web (fun Ps T ⟨_, _, _, h, _⟩ => by rw [h]; rfl) fun f cdv A outer s H E hr => ⟨_,
    (pss_cons (ps_asg (pe_tup (pa_cons (pe_lc (own := [("_law_at", 2)]) (g := (gName 2)) (tt := tYes) (by rfl) sc__law_web.nd (pi_range1 rfl T.range (pa_cons (pe_op op_add (pe_callB call_len (by rfl) T.len PySem.boot_len (pa_cons (pv 0) pa_nil)) pe_int) pa_nil)) (blkOk_by (own := [("_law_at", 2)]) (N := N__law_web) (sc := defScope s__law_web) (by decide +kernel)) (fun _ _ _ _ _ => (pg_name (i := 2) sc__law_web.nd rfl (by first | exact Or.inl rfl | exact Or.inr rfl))) (fun _ _ _ _ _ => pts_nil) (fun _ _ _ _ _ => (pe_tup (pa_cons (pe_ix (r := rIx K) ix_seq (pv 1) (pv 2) (fun _ _ => rfl)) (pa_cons (pe_ix (r := rIx K) ix_seq (pv 1) (pe_op op_add (pv 2) pe_int) (fun _ _ => rfl)) pa_nil))))) (pa_cons pe_dnewK pa_nil))) (pg_tup rfl (pgs_cons (pg_name (i := 3) sc__law_web.nd rfl (.inl rfl)) (pgs_cons (pg_name (i := 4) sc__law_web.nd rfl (.inr rfl)) pgs_nil))))
      (pss_cons (ps_for PassesOwn.never rfl (pi_enum rfl T.enumerate (pa_cons (pv 0) pa_nil)) (pg_tup rfl (pgs_cons (pg_name (i := 2) sc__law_web.nd rfl (.inl rfl)) (pgs_cons (pg_name (i := 5) sc__law_web.nd rfl (.inl rfl)) pgs_nil)))
        (pss_cons (ps_set (i := 6) sc__law_web.nd rfl (.inl rfl) (pe_lst pa_nil))
        (pss_cons (ps_if (pt_cmpR op_lt (pe_op op_add (pv 2) pe_int) (pe_callB call_len (by rfl) T.len PySem.boot_len (pa_cons (pv 0) pa_nil)) (nomark _)) (pss_one (ps_expr (pe_bm PySem.F.plainAttrs_list PySem.F.slot_list_append PySem.F.type_list_append mt_append (pv 6) (pa_cons (pe_tup (pa_cons pe_non (pa_cons (pe_ix ix_seq (pv 1) (pe_op op_add (pv 2) pe_int) (fun _ _ => rfl)) (pa_cons (pe_ix ix_seq (pv 5) pe_int (fun _ _ => rfl)) pa_nil)))) pa_nil)))) pss_nil)
        (pss_cons (ps_if (pt_cmpR op_gt (pv 2) pe_int (nomark _)) (pss_one (ps_expr (pe_bm PySem.F.plainAttrs_list PySem.F.slot_list_append PySem.F.type_list_append mt_append (pv 6) (pa_cons (pe_tup (pa_cons pe_non (pa_cons (pe_ix ix_seq (pv 1) (pv 2) (fun _ _ => rfl)) (pa_cons (pe_ix ix_seq (pv 5) pe_int (fun _ _ => rfl)) pa_nil)))) pa_nil)))) pss_nil)
        (pss_one (ps_dput (hu_of hr) (pv 4) (pe_ix ix_seq (pv 1) (pe_op op_add (pv 2) pe_int) (fun _ _ => rfl)) (pe_lst (pa_cons (pe_tup (pa_cons (pe_ix ix_seq (pv 5) pe_int (fun _ _ => rfl)) (pa_cons (pv 6) pa_nil))) pa_nil)) rfl))))))
      (pss_one (ps_ret (pe_new c_Web (hr.mono (by decide)) rfl (pa_cons (pe_new c_Country (hr.mono (by decide)) rfl (pa_cons (pv 3) pa_nil)) (pa_cons (pe_lc (own := [("_law_yard", 7)]) (g := (gName 7)) (tt := tYes) (by rfl) sc__law_web.nd (pi_list (pe_callB (call_sortedDI rfl) (by rfl) T.sorted boot_sorted (pa_cons (pv 4) pa_nil))) (blkOk_by (own := [("_law_yard", 7)]) (N := N__law_web) (sc := defScope s__law_web) (by decide +kernel)) (fun _ _ _ _ _ => (pg_name (i := 7) sc__law_web.nd rfl (by first | exact Or.inl rfl | exact Or.inr rfl))) (fun _ _ _ _ _ => pts_nil) (fun _ _ _ _ _ => (pe_dget (hu_of hr) (pv 4) (pv 7) (fun _ _ => rfl)))) pa_nil))))))), ?_⟩
  rintro B M0 Ps T' D' ⟨nm, rows, h, rfl, rfl⟩ hR _
  have hn := h.n
  have hrl := h.R.len
  have nat_ : ∀ i, i < nm.length → L2.atI (eNs nm) ((i : Nat) : Int) = some (eN (at0 nm i)) := fun i hi => atI_n (eNs_get (getD_get 0 hi))
  have vr : ∀ {C : Ct} {u : R3}, Vt C (D (eR u)) [eN u.1, eN u.2.1, eN u.2.2] := vt_d
  refine xs_seq (xs_tupPF (P := DL ((Mir.lanesOf nm).map eLane)) (Xv.dat (Xv.lst (xf_map (ml := []) (items := List.range (nm.length - 1)) 0 (fun i => eLane (at0 nm i, at0 nm (i + 1))) ((XI.len (xi_rng1 (j := ((nm.length - 1 : Nat) : Int)) (XA.eq (xa_cons (xv_op (xv_cb (xa_cons (xv_var rfl) xa_nil) (rc_lenL vl_d)) xv_int ro_i0) xa_nil) ?_) (by omega)) (by rw [List.length_range, Int.toNat_natCast]))) (fun q hq => nomatch hq) (by rw [List.length_range]; omega)
    fun i gl l acc hi => ⟨_, _, xg_name, fun j hj => hj, ?_⟩)) (by rw [lanesOf_map])) xf_dnew fun lb => nx_x ?_)
  · rw [List.length_map, show ((rows.length : Nat) : Int) + 1 = ((nm.length - 1 : Nat) : Int) by omega]
  · rw [List.length_range] at hi
    rw [range_at hi]
    refine Xv.tup (xf_tup [eN (at0 nm i), eN (at0 nm (i + 1))] (xa_cons (xv_op (xv_var rfl) (xv_var rfl) (ro_ixL vl_d (nat_ i (by omega)))) (xa_cons (xv_op (xv_var rfl) (xv_op (xv_var rfl) xv_int ro_i0) (ro_ixL vl_d ?_)) xa_nil)) (by show 2 ≤ 100000; decide))
    rw [show ((i : Nat) : Int) + 1 = ((i + 1 : Nat) : Int) by omega]
    exact nat_ (i + 1) (by omega)
  refine xs_seq (xs_for (I := fun i => ⟨B, M0, [(lb, KF (bkv nm rows i))], [some (DL (rows.map eR)), some (DL (eNs nm)), none, some (DL ((Mir.lanesOf nm).map eLane)), some (Rf lb), none, none, none], []⟩) (xi_encE (items := rows) (0, 0, 0) eR (xa_cons (xv_var rfl) xa_nil)) (fun _ _ q hq => nomatch hq) (ghs_weak (wk_refl _)) (fun i gl hi => ?_) (nx_x ?_))
  · have ek : rows.getD i (0, 0, 0) = rowAt rows (i + 1) := rfl
    show Xb _ _ (DT [eN i, eR (rowAt rows (i + 1))]) _ _
    generalize hrw : rowAt rows (i + 1) = r at *
    refine xb_mk (xg_tup (ds := [eN i, eR r]) (xgs_cons xg_name (xgs_cons xg_name xgs_nil)) rfl) ?_
    refine xs_seq (xs_setF (xf_lst [] xa_nil (by decide)) fun lq => nx_x ?_)
    let b1 : List (Nat × Nat) := if i + 1 < rows.length then [(at0 nm (i + 1 + 1), r.2.1)] else []
    let b2 : List (Nat × Nat) := if 1 < i + 1 then [(at0 nm (i + 1 - 1), r.2.2)] else []
    have ebk : bks nm rows (i + 1) = b1 ++ b2 := by unfold bks; rw [hrw]
    have hb1 : b1.length ≤ 1 := by show (if _ then _ else _ : List (Nat × Nat)).length ≤ 1; split <;> simp
    refine xs_seq (xs_ifC (b := decide (i + 1 < rows.length)) (C2 := ⟨B, M0, [(lq, LF (b1.map eBd)), (lb, KF (bkv nm rows i))], [some (DL (rows.map eR)), some (DL (eNs nm)), some (DI ((i : Nat) : Int)), some (DL ((Mir.lanesOf nm).map eLane)), some (Rf lb), some (D (eR r)), some (Rf lq), none], gl⟩) ((xt_test (xv_op (xv_op (xv_var rfl) xv_int ro_i0) (xv_cb (xa_cons (xv_var rfl) xa_nil) (rc_lenL vl_d)) ro_b0)).eq ?_) (fun hb D2 kk => ?_) (fun hb D2 kk => ?_) (nx_x ?_))
    · rw [List.length_map, decide_eq_decide]; omega
    · have hlt : i + 1 < rows.length := of_decide_eq_true hb
      have eb : b1 = [(at0 nm (i + 1 + 1), r.2.1)] := if_pos hlt
      refine xs_drop (xv_app (k := 0) (d := eBd (at0 nm (i + 1 + 1), r.2.1)) (xv_var rfl) (Xv.tup (xf_tup [.none, eN (at0 nm (i + 1 + 1)), eN r.2.1] (xa_cons xv_non (xa_cons (xv_op (xv_var rfl) (xv_op (xv_var rfl) xv_int ro_i0) (ro_ixL vl_d ?_)) (xa_cons (xv_op (xv_var rfl) xv_int (ro_ixT vr rfl)) xa_nil))) (by show 3 ≤ 100000; decide))) rfl rfl (by show 0 < 100000; decide)) fun σ H e => kk σ H (by rw [eb]; exact e.weak (wk_refl _) fun p hp => by simpa using hp)
      rw [show ((i : Nat) : Int) + 2 = ((i + 1 + 1 : Nat) : Int) by omega]
      exact nat_ (i + 1 + 1) (by omega)
    · have hlt : ¬ i + 1 < rows.length := of_decide_eq_false hb
      have eb : b1 = [] := if_neg hlt
      exact xs_next fun σ H e => kk σ H (by rw [eb]; exact e.weak (wk_refl _) fun p hp => by simpa using hp)
    refine xs_seq (xs_ifC (b := decide (1 < i + 1)) (C2 := ⟨B, M0, [(lq, LF ((b1 ++ b2).map eBd)), (lb, KF (bkv nm rows i))], [some (DL (rows.map eR)), some (DL (eNs nm)), some (DI ((i : Nat) : Int)), some (DL ((Mir.lanesOf nm).map eLane)), some (Rf lb), some (D (eR r)), some (Rf lq), none], gl⟩) ((xt_test (xv_op (xv_var rfl) xv_int ro_b0)).eq ?_) (fun hb D2 kk => ?_) (fun hb D2 kk => ?_) (nx_x ?_))
    · rw [decide_eq_decide]; omega
    · have hlt : 1 < i + 1 := of_decide_eq_true hb
      have eb : b2 = [(at0 nm (i + 1 - 1), r.2.2)] := if_pos hlt
      refine xs_drop (xv_app (k := 0) (d := eBd (at0 nm (i + 1 - 1), r.2.2)) (xv_var rfl) (Xv.tup (xf_tup [.none, eN (at0 nm (i + 1 - 1)), eN r.2.2] (xa_cons xv_non (xa_cons (xv_op (xv_var rfl) (xv_var rfl) (ro_ixL vl_d ?_)) (xa_cons (xv_op (xv_var rfl) xv_int (ro_ixT vr rfl)) xa_nil))) (by show 3 ≤ 100000; decide))) rfl rfl (by rw [List.length_map]; omega)) fun σ H e => kk σ H (by rw [eb, List.map_append]; exact e)
      exact nat_ (i + 1 - 1) (by omega)
    · have hlt : ¬ 1 < i + 1 := of_decide_eq_false hb
      have eb : b2 = [] := if_neg hlt
      exact xs_next fun σ H e => kk σ H (by rw [eb, List.append_nil]; exact e)
    rw [← ebk]
    refine xs_freeze (P := DL ((bks nm rows (i + 1)).map eBd)) (k := 0) (i := 6) rfl rfl (fun _ _ p => Fz.lst p) ?_
    have ebook : bookK nm rows (i + 1) = .list [eAlt r.1 (bks nm rows (i + 1))] := by unfold bookK; rw [hrw]
    refine xs_dput (i := 0) (d := bookK nm rows (i + 1)) (k := ((at0 nm (i + 1) : Nat) : Int)) (Xv.dat (Xv.lst (xf_lst [eAlt r.1 (bks nm rows (i + 1))] (xa_cons (Xv.tup (xf_tup [eN r.1, .list ((bks nm rows (i + 1)).map eBd)] (xa_cons (xv_op (xv_var rfl) xv_int (ro_ixT vr rfl)) (xa_cons (xv_var rfl) xa_nil)) (by show 2 ≤ 100000; decide))) xa_nil) (by show 1 ≤ 100000; decide))) ebook.symm) (xp_var rfl) (xp_op (xp_var rfl) (xp_op (xp_var rfl) xp_int ro_i0) (ro_ixL vl_d ?_)) rfl (by unfold bkv; rw [List.length_map, List.length_range]; omega) fun σ H e => ?_
    · rw [show ((i : Nat) : Int) + 1 = ((i + 1 : Nat) : Int) by omega]
      exact nat_ (i + 1) (by omega)
    · show En (Ct.ghs ⟨B, M0, [(lb, KF (bkv nm rows (i + 1)))], [some (DL (rows.map eR)), some (DL (eNs nm)), none, some (DL ((Mir.lanesOf nm).map eLane)), some (Rf lb), none, none, none], []⟩ gl) σ H
      rw [← h.bkv_put hi]
      exact e.weak (.keep (.keep (.drop (.keep (.keep (.drop (.drop (.keep .nil)))))))) fun p hp => by simpa using hp
  · have hyl := h.ylen
    have hkeys : (bkv nm rows rows.length).map (·.1) = ((List.range rows.length).map (fun j => at0 nm (j + 1))).map fun n : Nat => (n : Int) := by
      unfold bkv
      rw [List.map_map, List.map_map]
      rfl
    have hsr : ∀ k : List Int, k.Perm ((bkv nm rows rows.length).map (·.1)) → k.Pairwise (· ≤ ·) → k = (yardsOf nm).map fun n : Nat => (n : Int) := fun k h1 h2 => by
      rw [hkeys] at h1
      rw [sorted_int h1 h2, h.L.yards, inner_eq h.n]
    refine xs_ret (T := We CC CW nm rows) (xv_make (xa_cons (xv_make (xa_cons (xv_var rfl) xa_nil) ⟨nm, h.L, rfl, rfl⟩) (xa_cons (Xv.lst (xf_map (ml := []) (items := yardsOf nm) 0 (bookD nm rows) (xi_encL (items := yardsOf nm) 0 eN (Xv.lst ((xf_cb (xa_cons (xv_var rfl) xa_nil) (rcf_sortedDI (ms := (yardsOf nm).map fun n : Nat => (n : Int)) (vk_r (k := 0) rfl) (by unfold bkv; rw [List.length_map, List.length_range]; omega) hsr)).conv fun H v p => by rw [← eNs_map, eNs_ints]; exact p))) (fun q hq => nomatch hq) (by omega)
      fun i gl l acc hi => ⟨_, _, xg_name, fun j hj => hj, ?_⟩)) xa_nil)) ⟨nm, rows, h, rfl, rfl⟩) rfl rfl (fun H v p => p) hR
    obtain ⟨k, h1, h2, e⟩ := h.yard (List.mem_of_getElem? (getD_get 0 hi))
    rw [← e, h.book h1 h2]
    exact xv_dget (xp_var rfl) (xp_var rfl) (vk_r (k := 1) rfl) (h.bkv_look h1 h2)
end
end K74

set_option Elab.async false
set_option linter.all false
set_option maxRecDepth 100000
set_option maxHeartbeats 4000000
namespace K74
open PySem PySem.Spec PyProof.Rows L2
/-- a fact kept as a ghost -/
def Pu (p : Prop) : PP := ⟨fun _ _ => p, fun _ h => h⟩
section
variable {C C1 C2 C3 C' : Ct} {ta tb te : TE} {P P' R T : PP} {F : FF} {K : PySem.W.Frag} {D' : Ends} {tu tw tz : TS} {g : TG}
theorem xs_pure {p : Prop} (h : (V.non, Pu p) ∈ C.gs) (k : p → Xs C tu D') : Xs C tu D' := fun σ H e => k (e.gh _ h) σ H e
/-- l.index(x) of different numbers -/
theorem xv_idxN {l : List Nat} {x j : Nat} (ho : Xv C ta P C1) (he : Xv C1 te (DI (x : Nat)) C2) (hv : Vl C1 P (eNs l)) (hv2 : Vl C2 P (eNs l)) (hn : l.Nodup) (hx : l[j]? = some x) : Xv C (tBM K "list" (rIndex K) ta (tCons te tNil)) (DI (j : Nat)) C2 := by
  refine xv_index (ds := eNs l) (d := eN x) ho he hv hv2 rfl ?_ ⟨_, eNs_get hx, ?_⟩ ?_
  · unfold eNs
    rw [List.map_map, List.all_map]
    exact List.all_eq_true.mpr fun _ _ => rfl
  · simp [fv, eqV]
  · intro m z hlt hz
    obtain ⟨y, hy, rfl⟩ : ∃ y, l[m]? = some y ∧ z = eN y := by
      unfold eNs at hz
      rw [List.getElem?_map] at hz
      obtain ⟨y, e1, e2⟩ := Option.map_eq_some_iff.mp hz
      exact ⟨y, e1, e2.symm⟩
    have hne : y ≠ x := fun z => by
      subst z
      have := nd_inj hn hy hx
      omega
    simp only [fv, eqV]
    have : ¬ (y : Int) = (x : Nat) := by omega
    simpa using this
end
def wayD (nm : List Nat) (e : Bool) : List Nat := if e then nm else nm.reverse
def idxD (nm : List Nat) (e : Bool) (k : Nat) : Nat := if e then k else nm.length - 1 - k
theorem wayD_get {nm : List Nat} (e : Bool) {k : Nat} (h : k < nm.length) : (wayD nm e)[idxD nm e k]? = some (at0 nm k) := by
  unfold wayD idxD
  cases e with
  | true => exact getD_get 0 h
  | false =>
    rw [if_neg (by decide), if_neg (by decide), List.getElem?_reverse (by omega), show nm.length - 1 - (nm.length - 1 - k) = k by omega]
    exact getD_get 0 h
theorem wayD_nd {nm : List Nat} (h : nm.Nodup) (e : Bool) : (wayD nm e).Nodup := by
  unfold wayD
  cases e with
  | true => exact h
  | false => exact List.pairwise_reverse.mpr (h.imp fun z => z.symm)
/-- the place before, the place behind -/
def bef (k : Nat) (e : Bool) : Nat := if e then k - 1 else k + 1
def aft (k : Nat) (e : Bool) : Nat := if e then k + 1 else k - 1
abbrev pairK (nm : List Nat) (k : Nat) (e : Bool) : Nat × Nat := (at0 nm (bef k e), at0 nm (aft k e))
def loadM (nm : List Nat) (cs : List Crt) (k : Nat) : List (Nat × Nat) := (cs.filter fun c => decide (c.1 = k)).map fun c => pairK nm k c.2
def standM (p : Nat) (bs : List (Nat × Nat)) (pairs : List (Nat × Nat)) : Bool := decide (pairs.length ≤ p) && bs.all fun b => decide ((pairs.filter fun q => decide (q.2 = b.1)).length ≤ b.2)
theorem LineOk.way {nm : List Nat} (L : LineOk nm) (e : Bool) : Mir.lwayRun (lties nm) (gE nm e) 10 [[gS nm e]] = some (wayD nm e) := by
  cases e
  · exact L.w2
  · exact L.w1
theorem LineOk.gS_lt {nm : List Nat} (L : LineOk nm) (e : Bool) : gS nm e < nm.length := by
  have := L.len
  unfold gS
  split <;> exact L.ltA (by omega)
theorem LineOk.gE_lt {nm : List Nat} (L : LineOk nm) (e : Bool) : gE nm e < nm.length := by
  have := L.len
  unfold gE
  split <;> exact L.ltA (by omega)
theorem LineOk.wayLen {nm : List Nat} (e : Bool) : (wayD nm e).length = nm.length := by
  unfold wayD
  split
  · rfl
  · rw [List.length_reverse]
section
variable {P : Program} {w : World} {K : PySem.W.Frag} {mg : PySem.Str → Option Value} {base : Heap} {CC CW : Addr}
abbrev s__law_way : Stmt := topS 88
abbrev N__law_way : List PySem.Str := ["_law_ties_here", "_law_start", "_law_end", "_law_ways", "_law_here", "_law_place"]
theorem sc__law_way : FnScope N__law_way ["_law_ties_here", "_law_start", "_law_end"] (defScope s__law_way) := ⟨rfl, rfl, rfl, by decide +kernel, rfl, by decide +kernel, by decide +kernel⟩
def R__law_way : List PP → PP → Prop := fun Ps T => ∃ nm e, LineOk nm ∧ Ps = [DL (eLL (lties nm)), DI (gS nm e : Nat), DI (gE nm e : Nat)] ∧ T = DL (eNs (wayD nm e))
theorem ok__law_way (F : Df K mg "_law_way" s__law_way ["_law_ties_here", "_law_start", "_law_end"]) (T : Txt K mg CC CW) : Cal P w K mg base "_law_way" ["_law_ties_here", "_law_start", "_law_end"] 1 (spF R__law_way) := by
  refine F.ok sc__law_way (fun Ps T ⟨_, _, _, h, _⟩ => by rw [h]; rfl) fun f cdv A outer s H E hr => ⟨_,
    (pss_cons (ps_set (i := 3) sc__law_way.nd rfl (.inl rfl) (pe_lst (pa_cons (pe_lst (pa_cons (pv 1) pa_nil)) pa_nil)))
      (pss_cons (ps_while PassesOwn.never (pt_cmpR (op_neD hr.units) (pe_ix ix_seq (pe_ix ix_seq (pv 3) pe_int (fun _ _ => rfl)) (pe_un un_neg pe_int) (fun _ _ => rfl)) (pv 2) (nomark _)) (pss_cons (ps_set (i := 4) sc__law_way.nd rfl (.inr rfl) (pe_bm PySem.F.plainAttrs_list PySem.F.slot_list_pop PySem.F.type_list_pop mt_popAt (pv 3) (pa_cons pe_int pa_nil)))
        (pss_one (ps_expr (pe_bm PySem.F.plainAttrs_list PySem.F.slot_list_extend PySem.F.type_list_extend mt_extend (pv 3) (pa_cons (pe_lc (own := [("_law_place", 5)]) (g := (gName 5))  (by rfl) sc__law_way.nd (pi_list (pe_ix ix_seq (pv 0) (pe_ix ix_seq (pv 4) (pe_un un_neg pe_int) (fun _ _ => rfl)) (fun _ _ => rfl))) (blkOk_by (own := [("_law_place", 5)]) (N := N__law_way) (sc := defScope s__law_way) (by decide +kernel)) (fun _ _ _ _ _ => (pg_name (i := 5) sc__law_way.nd rfl (by first | exact Or.inl rfl | exact Or.inr rfl))) (fun _ _ _ _ _ => (pts_one (pt_cmpR (r := rNotInD K) (op_notInD (hu65 hr)) (pv 5) (pv 4) (by rfl)))) (fun _ _ _ _ _ => (pe_op op_cat (pv 4) (pe_lst (pa_cons (pv 5) pa_nil))))) pa_nil))))))
      (pss_one (ps_ret (pe_ix ix_seq (pv 3) pe_int (fun _ _ => rfl)))))), ?_⟩
  rintro B M0 Ps T' D' ⟨nm, e0, L, rfl, rfl⟩ hR _
  have hrun := L.way e0
  have hrow := L.row4
  have htl := L.tlen
  have hl := L.len
  have hsl := L.gS_lt e0
  have htok := L.tiesok
  generalize gS nm e0 = s0 at *
  generalize gE nm e0 = goal at *
  generalize wayD nm e0 = res at *
  generalize lties nm = ties at *
  refine xs_seq (xs_setF (xf_lst [.list (eNs [s0])] (xa_cons (Xv.lst (xf_lst [eN s0] (xa_cons (xv_var rfl) xa_nil) (by show 1 ≤ 100000; decide))) xa_nil) (by show 1 ≤ 100000; decide)) fun l => nx_x ?_)
  let I : List (List Nat) × Nat → Ct := fun x => ⟨B, M0, [(l, LF (eLL x.1))], [some (DL (eLL ties)), some (DI (s0 : Nat)), some (DI (goal : Nat)), some (Rf l), none, none], []⟩
  refine xs_seq (xs_while I (fun x => x.2) (fun x => Mir.lwayRun ties goal x.2 x.1 = some res ∧ (∀ w ∈ x.1, w ≠ [] ∧ (∀ y ∈ w, y < ties.length) ∧ w.length + x.2 ≤ 50) ∧ x.1.length + 4 * x.2 ≤ 100) ([[s0]], 10) ⟨hrun, fun w hw => by
    rw [List.mem_singleton.mp hw]
    exact ⟨by simp, fun y hy => by rw [List.mem_singleton.mp hy]; omega, Nat.le_of_ble_eq_true rfl⟩, Nat.le_of_ble_eq_true rfl⟩ (fun σ H e => e) ?_)
  rintro ⟨ways, n⟩ ⟨hr0, hw, hz⟩
  have hz : ways.length + 4 * n ≤ 100 := hz
  cases ways with
  | nil => cases n <;> cases hr0
  | cons wy r =>
    have hwy := hw wy List.mem_cons_self
    obtain ⟨wne, wlt, wln⟩ := hwy
    have wln : wy.length + n ≤ 50 := wln
    have wpos : 0 < wy.length := List.length_pos_iff.mpr wne
    let x := wy.getD (wy.length - 1) 0
    have hx : wy[wy.length - 1]? = some x := getD_get 0 (by omega)
    have hlast : L2.atI (eNs wy) (-1) = some (eN x) := atI_end (by rw [eNs_len]; exact eNs_get hx)
    have hxl : x < ties.length := wlt x (List.mem_of_getElem? hx)
    have hfirst : L2.atI (eLL (wy :: r)) 0 = some (.list (eNs wy)) := atI_n (j := 0) rfl
    refine ⟨!decide (x = goal), I (wy :: r, n), (xt_test (xv_op (xv_op (xv_op (xv_var rfl) xv_int (ro_ixL (vl_r (k := 0) rfl) hfirst)) (xv_un xv_int) (ro_ixL vl_d hlast)) (xv_var rfl) (ro_neD vd_d vd_d (shaped_flat rfl) (shaped_flat rfl)))).eq (by rw [eqv_nat]), fun hb => ?_, fun hb => nx_x ?_⟩
    · have hne : ¬ x = goal := by simpa using hb
      cases n with
      | zero =>
        exfalso
        have : (if x = goal then some wy else none) = some res := hr0
        rw [if_neg hne] at this
        cases this
      | succ n =>
        have hr1 : Mir.lwayRun ties goal n (r ++ Mir.wayTurn ties wy) = some res := by
          have : (if x = goal then some wy else Mir.lwayRun ties goal n (r ++ Mir.wayTurn ties wy)) = some res := hr0
          rw [if_neg hne] at this
          exact this
        let row := ties.getD x []
        have hrow2 : ties[x]? = some row := getD_get [] hxl
        have hrl : row.length ≤ 4 := hrow row (List.mem_of_getElem? hrow2)
        have hrb : ∀ p ∈ row, p < ties.length := fun p hp => by
          have h1 := List.all_eq_true.mp htok row (List.mem_of_getElem? hrow2)
          have h2 := List.all_eq_true.mp h1 p hp
          simpa using h2
        have hfl := List.length_filter_le (fun p => decide (p ∉ wy)) row
        have ewt : eLL (Mir.wayTurn ties wy) = (row.filter fun p => decide (p ∉ wy)).map fun p => .list (eNs (wy ++ [p])) := by
          show ((row.filter fun p => decide (p ∉ wy)).map fun p => wy ++ [p]).map _ = _
          rw [List.map_map]
          rfl
        refine xs_seq (xs_set (xv_popAt (k := 0) (i := 0) (j := 0) (d := .list (eNs wy)) (xv_var rfl) xv_int rfl rfl (by decide) rfl rfl) (nx_x ?_))
        refine xs_drop (xv_ext (k := 0) (es := (row.filter fun p => decide (p ∉ wy)).map fun p => .list (eNs (wy ++ [p]))) (xv_var rfl) (Xv.lst (xf_filter (ml := []) (items := row) 0 (fun p => decide (p ∉ wy)) (fun p => .list (eNs (wy ++ [p]))) (xi_encL (items := row) 0 eN (xv_op (xv_var rfl) (xv_op (xv_var rfl) (xv_un xv_int) (ro_ixL vl_d hlast)) (ro_ixL vl_d (atI_n (eLL_get hrow2))))) (fun q hq => nomatch hq) (by omega)
          fun m gl l acc hm => ⟨_, _, xg_name, fun j hj => hj, (xt_test (xv_op (xv_var rfl) (xv_var rfl) (ro_notInD vd_d vd_d (shaped_flat rfl) (eNs_shaped wy)))).eq ?_, fun _ => ?_⟩)) rfl rfl ?_) fun σ H e => ?_
        · rw [any_nat, decide_not]
        · refine (Xv.lst (xf_op (xv_var rfl) (Xv.lst (xf_lst [eN (row.getD m 0)] (xa_cons (xv_var rfl) xa_nil) (by show 1 ≤ 100000; decide))) (rf_cat vl_d vl_d ?_))).dat ?_
          · rw [eNs_len]; show _ + 1 ≤ _; omega
          · rw [eNs_append]; rfl
        · show (eLL r).length + _ ≤ _
          rw [eLL_len, List.length_map]
          have : (wy :: r).length = r.length + 1 := rfl
          omega
        · refine ⟨(r ++ Mir.wayTurn ties wy, n), Nat.lt_succ_self n, ⟨hr1, fun w hw2 => ?_, ?_⟩, ?_⟩
          · rcases List.mem_append.mp hw2 with z | z
            · obtain ⟨a, b, c⟩ := hw w (List.mem_cons_of_mem _ z)
              have c : w.length + (n + 1) ≤ 50 := c
              exact ⟨a, b, by show w.length + n ≤ 50; omega⟩
            · obtain ⟨p, hp, rfl⟩ := List.mem_map.mp (show w ∈ (row.filter fun p => decide (p ∉ wy)).map fun p => wy ++ [p] from z)
              refine ⟨by simp, fun y hy => ?_, ?_⟩
              · rcases List.mem_append.mp hy with q | q
                · exact wlt y q
                · rw [List.mem_singleton.mp q]; exact hrb p (List.mem_filter.mp hp).1
              · show (wy ++ [p]).length + n ≤ 50
                rw [List.length_append]
                simp only [List.length_cons, List.length_nil]
                omega
          · show (r ++ Mir.wayTurn ties wy).length + 4 * n ≤ 100
            have e1 : (Mir.wayTurn ties wy).length ≤ 4 := by
              show ((row.filter fun p => decide (p ∉ wy)).map fun p => wy ++ [p]).length ≤ 4
              rw [List.length_map]; omega
            rw [List.length_append]
            have : (wy :: r).length = r.length + 1 := rfl
            omega
          · show En ⟨B, M0, [(l, LF (eLL (r ++ Mir.wayTurn ties wy)))], [some (DL (eLL ties)), some (DI (s0 : Nat)), some (DI (goal : Nat)), some (Rf l), none, none], []⟩ σ H
            have e2 : eLL (r ++ Mir.wayTurn ties wy) = eLL r ++ (row.filter fun p => decide (p ∉ wy)).map fun p => .list (eNs (wy ++ [p])) := by
              rw [← ewt]
              unfold eLL
              rw [List.map_append]
            rw [e2]
            exact e.weak (.keep (.keep (.keep (.keep (.drop (.keep .nil)))))) fun _ z => z
    · have heq : x = goal := by simpa using hb
      have hres : wy = res := by
        cases n with
        | zero =>
          have : (if x = goal then some wy else none) = some res := hr0
          rw [if_pos heq] at this
          exact Option.some.inj this
        | succ n =>
          have : (if x = goal then some wy else Mir.lwayRun ties goal n (r ++ Mir.wayTurn ties wy)) = some res := hr0
          rw [if_pos heq] at this
          exact Option.some.inj this
      rw [← hres] at hR
      exact xs_ret (T := DL (eNs wy)) (xv_op (xv_var rfl) xv_int (ro_ixL (vl_r (k := 0) rfl) hfirst)) rfl rfl (fun H v p => p) hR
abbrev s__law_load : Stmt := topS 89
abbrev N__law_load : List PySem.Str := ["_law_ties_here", "_law_carts", "_law_yard", "_law_found", "_law_place", "_law_start", "_law_end", "_law_way_here", "_law_at"]
theorem sc__law_load : FnScope N__law_load ["_law_ties_here", "_law_carts", "_law_yard"] (defScope s__law_load) := ⟨rfl, rfl, rfl, by decide +kernel, rfl, by decide +kernel, by decide +kernel⟩
def R__law_load : List PP → PP → Prop := fun Ps T => ∃ (nm : List Nat) (cs : List Crt) (k : Nat), LineOk nm ∧ 1 ≤ k ∧ k < nm.length - 1 ∧ (∀ c ∈ cs, c.1 < nm.length) ∧ cs.length ≤ 1000 ∧ Ps = [DL (eLL (lties nm)), DL (cs.map (eCart nm)), DI (at0 nm k : Nat)] ∧ T = DL ((loadM nm cs k).map eLane)
theorem ok__law_load (F : Df K mg "_law_load" s__law_load ["_law_ties_here", "_law_carts", "_law_yard"]) (T : Txt K mg CC CW) (c__law_way : Cal P w K mg base "_law_way" ["_law_ties_here", "_law_start", "_law_end"] 1 (spF R__law_way)) : Cal P w K mg base "_law_load" ["_law_ties_here", "_law_carts", "_law_yard"] 2 (spF R__law_load) := by
  refine F.ok sc__law_load (fun Ps T ⟨_, _, _, _, _, _, _, _, h, _⟩ => by rw [h]; rfl) fun f cdv A outer s H E hr => ⟨_,
    (pss_cons (ps_set (i := 3) sc__law_load.nd rfl (.inl rfl) (pe_lst pa_nil))
      (pss_cons (ps_for PassesOwn.never rfl (pi_list (pv 1)) (pg_tup rfl (pgs_cons (pg_name (i := 4) sc__law_load.nd rfl (.inl rfl)) (pgs_cons (pg_name (i := 5) sc__law_load.nd rfl (.inl rfl)) (pgs_cons (pg_name (i := 6) sc__law_load.nd rfl (.inl rfl)) pgs_nil))))
        (pss_one (ps_if (pt_cmpR (op_eqD hr.units) (pv 4) (pv 2) (nomark _)) (pss_cons (ps_set (i := 7) sc__law_load.nd rfl (.inl rfl) (pe_cal c__law_way (hr.mono (by decide)) rfl (pa_cons (pv 0) (pa_cons (pv 5) (pa_cons (pv 6) pa_nil)))))
          (pss_cons (ps_set (i := 8) sc__law_load.nd rfl (.inl rfl) (pe_bm PySem.F.plainAttrs_list PySem.F.slot_list_index PySem.F.type_list_index mt_index (pv 7) (pa_cons (pv 2) pa_nil)))
          (pss_one (ps_expr (pe_bm PySem.F.plainAttrs_list PySem.F.slot_list_append PySem.F.type_list_append mt_append (pv 3) (pa_cons (pe_tup (pa_cons (pe_ix ix_seq (pv 7) (pe_op op_sub (pv 8) pe_int) (fun _ _ => rfl)) (pa_cons (pe_ix ix_seq (pv 7) (pe_op op_add (pv 8) pe_int) (fun _ _ => rfl)) pa_nil))) pa_nil)))))) pss_nil)))
      (pss_one (ps_ret (pv 3))))), ?_⟩
  rintro B M0 Ps T' D' ⟨nm, cs, k, L, hk1, hk2, hc, hcl, rfl, rfl⟩ hR _
  have hl := L.len
  refine xs_seq (xs_setF (xf_lst [] xa_nil (by decide)) fun l => nx_x ?_)
  let fo : Nat → List (Nat × Nat) := fun i => loadM nm (cs.take i) k
  have fl : ∀ i, (fo i).length ≤ 1000 := fun i => by
    show (((cs.take i).filter _).map _).length ≤ 1000
    rw [List.length_map]
    have h1 := List.length_filter_le (fun c : Crt => decide (c.1 = k)) (cs.take i)
    have h2 : (cs.take i).length ≤ cs.length := by rw [List.length_take]; omega
    omega
  refine xs_seq (xs_for (I := fun i => ⟨B, M0, [(l, LF ((fo i).map eLane))], [some (DL (eLL (lties nm))), some (DL (cs.map (eCart nm))), some (DI (at0 nm k : Nat)), some (Rf l), none, none, none, none, none], []⟩) (xi_encL (items := cs) (0, false) (eCart nm) (xv_var rfl)) (fun _ _ q hq => nomatch hq) (ghs_weak (wk_refl _)) (fun i gl hi => ?_) (nx_x ?_))
  · have hg : cs[i]? = some (cs.getD i (0, false)) := getD_get _ hi
    have hcp := hc _ (List.mem_of_getElem? hg)
    have e1 : fo (i + 1) = fo i ++ loadM nm [cs.getD i (0, false)] k := by
      show loadM nm (cs.take (i + 1)) k = _
      rw [List.take_add_one, hg]
      unfold loadM
      rw [List.filter_append, List.map_append]
      rfl
    have hfl := fl i
    generalize hcc : cs.getD i (0, false) = c at *
    obtain ⟨p, e0⟩ := c
    have hcp' : p < nm.length := hcp
    refine xb_mk (xg_tup (ds := [eN (at0 nm p), eN (gS nm e0), eN (gE nm e0)]) (xgs_cons xg_name (xgs_cons xg_name (xgs_cons xg_name xgs_nil))) rfl) ?_
    refine xs_if (b := decide (p = k)) ((xt_test (xv_op (xv_var rfl) (xv_var rfl) (ro_eqD vd_d vd_d (shaped_flat rfl) (shaped_flat rfl)))).eq ?_) (fun hb => ?_) fun hb => ?_
    · rw [eqv_nat, decide_eq_decide]
      exact ⟨fun z => L.inj hcp' (by omega) z, fun z => by rw [z]⟩
    · have hpk : p = k := of_decide_eq_true hb
      have g1 := wayD_get (nm := nm) e0 (k := k) (by omega)
      have gb := wayD_get (nm := nm) e0 (k := bef k e0) (by unfold bef; split <;> omega)
      have ga := wayD_get (nm := nm) e0 (k := aft k e0) (by unfold aft; split <;> omega)
      have ib : ((idxD nm e0 k : Nat) : Int) - 1 = ((idxD nm e0 (bef k e0) : Nat) : Int) := by unfold idxD bef; cases e0 <;> simp <;> omega
      have ia : ((idxD nm e0 k : Nat) : Int) + 1 = ((idxD nm e0 (aft k e0) : Nat) : Int) := by unfold idxD aft; cases e0 <;> simp <;> omega
      refine xs_seq (xs_set (xv_call (xa_cons (xv_var rfl) (xa_cons (xv_var rfl) (xa_cons (xv_var rfl) xa_nil))) ⟨nm, e0, L, rfl, rfl⟩) (nx_x ?_))
      refine xs_seq (xs_set (xv_idxN (xv_var rfl) (xv_var rfl) vl_d vl_d (wayD_nd L.nd e0) g1) (nx_x ?_))
      refine xs_drop (xv_app (k := 0) (d := eLane (pairK nm k e0)) (xv_var rfl) (Xv.tup (xf_tup [eN (at0 nm (bef k e0)), eN (at0 nm (aft k e0))] (xa_cons (xv_op (xv_var rfl) (xv_op (xv_var rfl) xv_int ro_i0) (ro_ixL vl_d (by rw [ib]; exact atI_n (eNs_get gb)))) (xa_cons (xv_op (xv_var rfl) (xv_op (xv_var rfl) xv_int ro_i0) (ro_ixL vl_d (by rw [ia]; exact atI_n (eNs_get ga)))) xa_nil)) (by show 2 ≤ 100000; decide))) rfl rfl (by rw [List.length_map]; omega)) fun σ H e => ?_
      show En (Ct.ghs ⟨B, M0, [(l, LF ((fo (i + 1)).map eLane))], [some (DL (eLL (lties nm))), some (DL (cs.map (eCart nm))), some (DI (at0 nm k : Nat)), some (Rf l), none, none, none, none, none], []⟩ gl) σ H
      have e2 : loadM nm [(p, e0)] k = [pairK nm k e0] := by unfold loadM; rw [List.filter_cons_of_pos (by simpa using hpk)]; rfl
      rw [e1, e2, List.map_append]
      exact e.weak (.keep (.keep (.keep (.keep (.drop (.drop (.drop (.drop (.drop .nil))))))))) fun _ z => z
    · have hpk : ¬ p = k := of_decide_eq_false hb
      refine xs_next fun σ H e => ?_
      show En (Ct.ghs ⟨B, M0, [(l, LF ((fo (i + 1)).map eLane))], [some (DL (eLL (lties nm))), some (DL (cs.map (eCart nm))), some (DI (at0 nm k : Nat)), some (Rf l), none, none, none, none, none], []⟩ gl) σ H
      have e2 : loadM nm [(p, e0)] k = [] := by unfold loadM; rw [List.filter_cons_of_neg (by simpa using hpk)]; rfl
      rw [e1, e2, List.append_nil]
      exact e.weak (.keep (.keep (.keep (.keep (.drop (.drop (.drop (.keep (.keep .nil))))))))) fun _ z => z
  · refine xs_retM (T := DL ((loadM nm cs k).map eLane)) (k := 0) (xv_var rfl) rfl rfl rfl (fun H v p => ?_) hR
    have e : fo cs.length = loadM nm cs k := by show loadM nm (cs.take cs.length) k = _; rw [List.take_length]
    rw [e] at p
    exact Fz.lst p
abbrev s__law_stands : Stmt := topS 90
abbrev N__law_stands : List PySem.Str := ["_law_book", "_law_pairs", "_law_places", "_law_bounds", "_law_is_so", "_law_origin", "_law_target", "_law_most", "_law_of_it", "_law_pair"]
theorem sc__law_stands : FnScope N__law_stands ["_law_book", "_law_pairs"] (defScope s__law_stands) := ⟨rfl, rfl, rfl, by decide +kernel, rfl, by decide +kernel, by decide +kernel⟩
def R__law_stands : List PP → PP → Prop := fun Ps T => ∃ (p : Nat) (bs pairs : List (Nat × Nat)), bs.length ≤ 10 ∧ pairs.length ≤ 1000 ∧ Ps = [DL [eAlt p bs], DL (pairs.map eLane)] ∧ T = DB (standM p bs pairs)
theorem ok__law_stands (F : Df K mg "_law_stands" s__law_stands ["_law_book", "_law_pairs"]) (T : Txt K mg CC CW) : Cal P w K mg base "_law_stands" ["_law_book", "_law_pairs"] 1 (spF R__law_stands) := by
  refine F.ok sc__law_stands (fun Ps T ⟨_, _, _, _, _, h, _⟩ => by rw [h]; rfl) fun f cdv A outer s H E hr => ⟨_,
    (pss_cons (ps_for PassesOwn.never rfl (pi_list (pv 0)) (pg_tup rfl (pgs_cons (pg_name (i := 2) sc__law_stands.nd rfl (.inl rfl)) (pgs_cons (pg_name (i := 3) sc__law_stands.nd rfl (.inl rfl)) pgs_nil)))
        (pss_cons (ps_set (i := 4) sc__law_stands.nd rfl (.inl rfl) (pe_cmpR op_le (pe_callB call_len (by rfl) T.len PySem.boot_len (pa_cons (pv 1) pa_nil)) (pv 2) (nomark _)))
        (pss_cons (ps_for PassesOwn.never rfl (pi_list (pv 3)) (pg_tup rfl (pgs_cons (pg_name (i := 5) sc__law_stands.nd rfl (.inr rfl)) (pgs_cons (pg_name (i := 6) sc__law_stands.nd rfl (.inr rfl)) (pgs_cons (pg_name (i := 7) sc__law_stands.nd rfl (.inl rfl)) pgs_nil))))
          (pss_cons (ps_setLc (i := 8) (own := [("_law_pair", 9)]) (g := (gName 9))  (by rfl) sc__law_stands.nd rfl rfl (sw_true rfl rfl rfl (by decide +kernel)) (pi_list (pv 1)) (blkOk_by (own := [("_law_pair", 9)]) (N := N__law_stands) (sc := defScope s__law_stands) (by decide +kernel)) (fun _ _ _ _ _ => (pg_name (i := 9) sc__law_stands.nd rfl (by first | exact Or.inl rfl | exact Or.inr rfl))) (fun _ _ _ _ _ => (pts_one (PW.pt (pw_and (pt_cmpR (r := rIn K false) op_in_seq (pv 5) (pe_tup (pa_cons pe_non (pa_cons (pe_ix (r := rIx K) ix_seq (pv 9) pe_int (fun _ _ => rfl)) pa_nil))) (by rfl)) (pw_and1 (pt_cmpR (r := rIn K false) op_in_seq (pv 6) (pe_tup (pa_cons pe_non (pa_cons (pe_ix (r := rIx K) ix_seq (pv 9) pe_int (fun _ _ => rfl)) pa_nil))) (by rfl))))))) (fun _ _ _ _ _ => (pv 9)))
          (pss_one (ps_set (i := 4) sc__law_stands.nd rfl (.inl rfl) (pe_and (pv 4) (pe_one (pe_cmpR op_le (pe_callB call_len (by rfl) T.len PySem.boot_len (pa_cons (pv 8) pa_nil)) (pv 7) (nomark _))))))))
        (pss_one (ps_if (pt_val (pv 4)) (pss_one (ps_ret pe_bl)) pss_nil)))))
      (pss_one (ps_ret pe_bl))), ?_⟩
  rintro B M0 Ps T' D' ⟨p, bs, pairs, hbl, hpl, rfl, rfl⟩ hR _
  let gs : Nat → List (V × PP) := fun i => if i = 0 then [] else [(V.non, Pu (standM p bs pairs = false))]
  refine xs_seq (xs_for (I := fun i => ⟨B, M0, [], [some (DL [eAlt p bs]), some (DL (pairs.map eLane)), none, none, none, none, none, none, none, none], gs i⟩) (xi_encL (items := [(p, bs)]) (0, []) (fun q => eAlt q.1 q.2) (xv_var rfl)) (fun _ _ q hq => nomatch hq) (ghs_weak (wk_refl _)) (fun i gl hi => ?_) (nx_x ?_))
  · have hi0 : i = 0 := by have : i < 1 := hi; omega
    subst hi0
    refine xb_mk (xg_tup (ds := [eN p, .list (bs.map eBd)]) (xgs_cons xg_name (xgs_cons xg_name xgs_nil)) rfl) ?_
    refine xs_seq (xs_set (P := DB (decide (pairs.length ≤ p))) (Xv.dat (xv_op (xv_cb (xa_cons (xv_var rfl) xa_nil) (rc_lenL vl_d)) (xv_var rfl) ro_b0) ?_) (nx_x ?_))
    · rw [List.length_map]
      congr 1
      rw [decide_eq_decide]
      omega
    let so : Nat → Bool := fun i => decide (pairs.length ≤ p) && (bs.take i).all fun b => decide ((pairs.filter fun q => decide (q.2 = b.1)).length ≤ b.2)
    refine xs_seq (xs_for (I := fun i => ⟨B, M0, [], [some (DL [eAlt p bs]), some (DL (pairs.map eLane)), some (DI (p : Nat)), some (DL (bs.map eBd)), some (DB (so i)), none, none, none, none, none], gl⟩) (xi_encL (items := bs) (0, 0) eBd (xv_var rfl)) (fun _ _ q hq => nomatch hq) (fun gl2 σ H e => ?_) (fun j gl2 hj => ?_) (nx_x ?_))
    · have e0 : so 0 = decide (pairs.length ≤ p) := by show (_ && List.all (bs.take 0) _) = _; simp
      show En ⟨B, M0, [], [some (DL [eAlt p bs]), some (DL (pairs.map eLane)), some (DI (p : Nat)), some (DL (bs.map eBd)), some (DB (so 0)), none, none, none, none, none], gl2 ++ gl⟩ σ H
      rw [e0]
      exact e.weak (wk_refl _) fun p hp => by
        rcases List.mem_append.mp hp with z | z
        · exact List.mem_append_left _ z
        · exact List.mem_append_right _ (List.mem_append_left _ z)
    · have hg : bs[j]? = some (bs.getD j (0, 0)) := getD_get _ hj
      have e1 : so (j + 1) = (so j && decide ((pairs.filter fun q => decide (q.2 = (bs.getD j (0, 0)).1)).length ≤ (bs.getD j (0, 0)).2)) := by
        show (_ && List.all (bs.take (j + 1)) _) = _
        rw [List.take_add_one, hg, List.all_append]
        simp [so, Bool.and_assoc]
      generalize bs.getD j (0, 0) = b at *
      obtain ⟨t, m⟩ := b
      have e1 : so (j + 1) = (so j && decide ((pairs.filter fun q => decide (q.2 = t)).length ≤ m)) := e1
      refine xb_mk (xg_tup (ds := [.none, eN t, eN m]) (xgs_cons xg_name (xgs_cons xg_name (xgs_cons xg_name xgs_nil))) rfl) ?_
      refine xs_seq (xs_set (Xv.lst (xf_filter (ml := []) (items := pairs) (0, 0) (fun q => decide (q.2 = t)) eLane (xi_encL (items := pairs) (0, 0) eLane (xv_var rfl)) (fun q hq => nomatch hq) (by omega)
        fun i gl l acc hi => ⟨_, _, xg_name, fun j hj => hj, ?_, fun _ => xv_var rfl⟩)) (nx_x ?_))
      · generalize pairs.getD i (0, 0) = q
        have vq : ∀ {C : Ct}, Vt C (D (eLane q)) [eN q.1, eN q.2] := vt_d
        refine XT.eq (xt_and (a := true) (b := decide (q.2 = t)) (xt_test ((xv_op (xv_var rfl) (Xv.tup (xf_tup [.none, eN q.1] (xa_cons xv_non (xa_cons (xv_op (xv_var rfl) xv_int (ro_ixT vq rfl)) xa_nil)) (by show 2 ≤ 100000; decide))) (ro_inT vt_d rfl rfl)).dat ?_)) fun _ =>
          xt_test ((xv_op (xv_var rfl) (Xv.tup (xf_tup [.none, eN q.2] (xa_cons xv_non (xa_cons (xv_op (xv_var rfl) xv_int (ro_ixT vq rfl)) xa_nil)) (by show 2 ≤ 100000; decide))) (ro_inT vt_d rfl rfl)).dat ?_)) (Bool.true_and _)
        · simp [fv, inV, eqV]
        · simp only [fv, inV, eqV, List.map_cons, List.map_nil, List.any_cons, List.any_nil]
          by_cases z : q.2 = t
          · rw [z]; simp
          · have z2 : ¬ (q.2 : Int) = (t : Int) := fun y => z (by omega)
            simp [z, z2]
      refine xs_set (P := DB (so (j + 1))) (Xv.dat (xv_and (xv_var rfl) fun _ => xv_op (xv_cb (xa_cons (xv_var rfl) xa_nil) (rc_lenL vl_d)) (xv_var rfl) ro_b0) ?_) fun σ H e => ?_
      · rw [e1, List.length_map]
        congr 2
        rw [decide_eq_decide]
        omega
      · exact e.weak (.keep (.keep (.keep (.keep (.keep (.drop (.drop (.drop (.drop (.keep .nil)))))))))) fun _ z => z
    · have es : so bs.length = standM p bs pairs := by show (_ && List.all (bs.take bs.length) _) = _; rw [List.take_length]; rfl
      rw [es]
      refine xs_if (b := standM p bs pairs) (xt_b (xv_var rfl)) (fun hb => ?_) fun hb => ?_
      · rw [hb] at hR
        exact xs_ret (T := DB true) xv_bl rfl rfl (fun H v p => p) hR
      · refine xs_next fun σ H e => ?_
        have e2 := e.ghost (v := V.non) (P := Pu (standM p bs pairs = false)) hb
        show En ⟨B, M0, [], [some (DL [eAlt p bs]), some (DL (pairs.map eLane)), none, none, none, none, none, none, none, none], gl ++ [(V.non, Pu (standM p bs pairs = false))]⟩ σ H
        exact e2.weak (.keep (.keep (.drop (.drop (.drop (.keep (.keep (.keep (.keep (.keep .nil)))))))))) fun p hp => by
          rcases List.mem_append.mp hp with z | z
          · exact List.mem_cons_of_mem _ z
          · rw [List.mem_singleton.mp z]; exact List.mem_cons_self
  · refine xs_pure (p := standM p bs pairs = false) (show (V.non, Pu (standM p bs pairs = false)) ∈ gs 1 from List.mem_cons_self) fun hf => ?_
    rw [hf] at hR
    exact xs_ret (T := DB false) xv_bl rfl rfl (fun H v p => p) hR
end
end K74

set_option Elab.async false
set_option linter.all false
set_option maxRecDepth 100000
set_option maxHeartbeats 4000000
namespace K74
open PySem PySem.Spec PyProof.Rows L2
section
variable {C C1 C2 C3 C' : Ct} {ta tb te : TE} {P P' R T : PP} {F : FF} {K : PySem.W.Frag} {D' : Ends} {tu tw tz : TS} {g : TG}
theorem xs_ifR {t : TT} {b : Bool} (h : XT C t b C1) (h1 : b = true → ∀ D2 : Ends, D2.rt = D'.rt → Nx C2 D2 → Xs C1 tu D2) (h2 : b = false → ∀ D2 : Ends, D2.rt = D'.rt → Nx C2 D2 → Xs C1 tw D2) (k : Nx C2 D') : Xs C (tIfS t tu tw) D' := xs_if h (fun hb => h1 hb D' rfl k) fun hb => h2 hb D' rfl k
end
/-! ### steps by the law's own look -/
def bookKV (nm : List Nat) (rows : List R3) : List (Int × PyData) := (yardsOf nm).map fun x => (((x : Nat) : Int), bookD nm rows x)
theorem LR.look {nm : List Nat} {rows : List R3} (h : LR nm rows) {k : Nat} (h1 : 1 ≤ k) (h2 : k ≤ rows.length) : lookD (bookKV nm rows) ((at0 nm k : Nat) : Int) = some (bookK nm rows k) := by
  have := look_find (fun x : Nat => ((x : Nat) : Int)) (bookD nm rows) (at0 nm k) (yardsOf nm) (h.mem h1 h2) fun b _ e => by
    have e' : ((b : Nat) : Int) = ((at0 nm k : Nat) : Int) := e
    omega
  rw [h.book h1 h2] at this
  exact this
def nextP (n : Nat) : Stp → Nat
  | (none, e) => if e then 1 else n - 2
  | (some p, e) => aft p e
theorem nextP_in (n : Nat) (e : Bool) : nextP n (none, e) = if e then 1 else n - 2 := rfl
theorem nextP_on (n p : Nat) (e : Bool) : nextP n (some p, e) = if e then p + 1 else p - 1 := rfl
theorem shaped_str (x : PySem.Str) (h : PyData.strOk x = true) : SeqAt.shaped (.str x) = true := by
  show (PyData.canLay0 (.str x) && decide (PyData.depth (.str x) ≤ 64)) = true
  simp [PyData.canLay0, PyData.depth, h]
def endP (n : Nat) (e : Bool) : Nat := if e then n - 1 else 0
def leftM (cs : List Crt) : Stp → Option (List Crt)
  | (none, _) => some cs
  | (some p, e) => if (p, e) ∈ cs then some (cs.erase (p, e)) else none
theorem leftM_some (cs : List Crt) (p : Nat) (e : Bool) : leftM cs (some p, e) = if (p, e) ∈ cs then some (cs.erase (p, e)) else none := rfl
def comeM (nm : List Nat) (rows : List R3) (l : List Crt) (q : Nat) (e : Bool) : Option (List Crt) :=
  if q = endP nm.length e then some l else if standM (rowAt rows q).1 (bks nm rows q) (loadM nm (l ++ [(q, e)]) q) = true then some (l ++ [(q, e)]) else none
def stepM (nm : List Nat) (rows : List R3) (cs : List Crt) (s : Stp) : Option (List Crt) := (leftM cs s).bind fun l => comeM nm rows l (nextP nm.length s) s.2
def optT (nm : List Nat) : Option (List Crt) → PyData
  | none => .none
  | some cs => .list (cs.map (eCart nm))
theorem LineOk.gne {nm : List Nat} (L : LineOk nm) : gS nm true ≠ gS nm false := by
  have := L.ends
  show at0 nm 0 ≠ at0 nm (nm.length - 1)
  omega
theorem LineOk.eqv {nm : List Nat} (L : LineOk nm) {c d : Crt} (hc : c.1 < nm.length) (hd : d.1 < nm.length) : PyData.eqv (eCart nm c) (eCart nm d) = decide (c = d) := by
  obtain ⟨p, e⟩ := c
  obtain ⟨q, f⟩ := d
  have hp : p < nm.length := hc
  have hq : q < nm.length := hd
  have e1 : PyData.eqv (eCart nm (p, e)) (eCart nm (q, f)) = (PyData.eqv (eN (at0 nm p)) (eN (at0 nm q)) && (PyData.eqv (eN (gS nm e)) (eN (gS nm f)) && (PyData.eqv (eN (gE nm e)) (eN (gE nm f)) && true))) := by simp only [PyData.eqv, PyData.eqvAll]
  rw [e1, eqv_nat, eqv_nat, eqv_nat]
  have hne := L.gne
  by_cases h1 : p = q
  · subst h1
    by_cases h2 : e = f
    · subst h2; simp
    · have : gS nm e ≠ gS nm f := by
        cases e <;> cases f
        · exact absurd rfl h2
        · exact hne.symm
        · exact hne
        · exact absurd rfl h2
      simp [this, h2]
  · have : at0 nm p ≠ at0 nm q := fun z => h1 (L.inj hp hq z)
    rw [decide_eq_false this]
    simp [h1]
theorem cart_any {nm : List Nat} (L : LineOk nm) {c : Crt} (hc : c.1 < nm.length) : ∀ (cs : List Crt), (∀ d ∈ cs, d.1 < nm.length) → ((cs.map (eCart nm)).any fun z => PyData.eqv z (eCart nm c)) = decide (c ∈ cs)
  | [], _ => by simp
  | d :: r, h => by
    rw [List.map_cons, List.any_cons, cart_any L hc r fun d hd => h d (List.mem_cons_of_mem _ hd), L.eqv (h d List.mem_cons_self) hc]
    by_cases z : d = c
    · subst z; simp
    · have : ¬ c = d := fun y => z y.symm
      simp [z, this]
theorem cart_find {nm : List Nat} (L : LineOk nm) {c : Crt} (hc : c.1 < nm.length) : ∀ (cs : List Crt), (∀ d ∈ cs, d.1 < nm.length) → c ∈ cs → ∃ j, SeqAt.dataPlace (cs.map (eCart nm)) (eCart nm c) = some j ∧ (cs.map (eCart nm)).eraseIdx j = (cs.erase c).map (eCart nm)
  | [], _, h => by cases h
  | d :: r, h, hm => by
    have hd := L.eqv (h d List.mem_cons_self) hc
    by_cases z : d = c
    · subst z
      refine ⟨0, ?_, ?_⟩
      · unfold SeqAt.dataPlace
        rw [List.map_cons, List.findIdx?_cons, hd]
        simp
      · rw [List.erase_cons_head]
        rfl
    · have hr : c ∈ r := by
        rcases List.mem_cons.mp hm with y | y
        · exact absurd y.symm z
        · exact y
      obtain ⟨j, h1, h2⟩ := cart_find L hc r (fun d hd => h d (List.mem_cons_of_mem _ hd)) hr
      refine ⟨j + 1, ?_, ?_⟩
      · unfold SeqAt.dataPlace at h1 ⊢
        rw [List.map_cons, List.findIdx?_cons, hd, decide_eq_false z, h1]
        rfl
      · rw [List.erase_cons_tail (by simpa using z), List.map_cons, List.map_cons, List.eraseIdx_cons_succ, h2]
theorem carts_shaped (nm : List Nat) (cs : List Crt) : SeqAt.shaped (.list (cs.map (eCart nm))) = true := tups_shaped (fun c : Crt => [eN (at0 nm c.1), eN (gS nm c.2), eN (gE nm c.2)]) (fun _ => rfl) cs
section
variable {P : Program} {w : World} {K : PySem.W.Frag} {mg : PySem.Str → Option Value} {base : Heap} {CC CW : Addr}
abbrev s__law_stepped : Stmt := topS 91
abbrev N__law_stepped : List PySem.Str := ["_law_ties_here", "_law_books", "_law_carts", "_law_step", "_law_start", "_law_end", "_law_way_here", "_law_left", "_law_at"]
theorem sc__law_stepped : FnScope N__law_stepped ["_law_ties_here", "_law_books", "_law_carts", "_law_step"] (defScope s__law_stepped) := ⟨rfl, rfl, rfl, by decide +kernel, rfl, by decide +kernel, by decide +kernel⟩
def R__law_stepped : List PP → PP → Prop := fun Ps T => ∃ (nm : List Nat) (rows : List R3) (cs : List Crt) (s : Stp), LR nm rows ∧ (∀ c ∈ cs, c.1 < nm.length) ∧ cs.length ≤ 500 ∧ (∀ p, s.1 = some p → 1 ≤ p ∧ p ≤ rows.length) ∧ Ps = [DL (eLL (lties nm)), Fz (KF (bookKV nm rows)), DL (cs.map (eCart nm)), D (eStp nm s)] ∧ T = D (optT nm (stepM nm rows cs s))
theorem ok__law_stepped (F : Df K mg "_law_stepped" s__law_stepped ["_law_ties_here", "_law_books", "_law_carts", "_law_step"]) (T : Txt K mg CC CW) (c__law_way : Cal P w K mg base "_law_way" ["_law_ties_here", "_law_start", "_law_end"] 1 (spF R__law_way)) (c__law_load : Cal P w K mg base "_law_load" ["_law_ties_here", "_law_carts", "_law_yard"] 2 (spF R__law_load)) (c__law_stands : Cal P w K mg base "_law_stands" ["_law_book", "_law_pairs"] 1 (spF R__law_stands)) : Cal P w K mg base "_law_stepped" ["_law_ties_here", "_law_books", "_law_carts", "_law_step"] 3 (spF R__law_stepped) := by
  refine F.ok sc__law_stepped (fun Ps T ⟨_, _, _, _, _, _, _, _, h, _⟩ => by rw [h]; rfl) fun f cdv A outer s H E hr => ⟨_,
    (pss_cons (ps_par (i := 4) (j := 5) (by rfl) sc__law_stepped.nd rfl rfl (by decide) rfl rfl (pa_cons (pe_ix ix_seq (pv 3) (pe_un un_neg pe_int) (fun _ _ => rfl)) (pa_cons (pe_ix ix_seq (pv 3) (pe_un un_neg pe_int) (fun _ _ => rfl)) pa_nil)) (by rfl))
      (pss_cons (ps_par (i := 6) (j := 7) (by rfl) sc__law_stepped.nd rfl rfl (by decide) rfl rfl (pa_cons (pe_cal c__law_way (hr.mono (by decide)) rfl (pa_cons (pv 0) (pa_cons (pv 4) (pa_cons (pv 5) pa_nil)))) (pa_cons (pe_callTy call_list_of (by rfl) T.list boot_list (pa_cons (pv 2) pa_nil)) pa_nil)) (by rfl))
      (pss_cons (ps_set (i := 8) sc__law_stepped.nd rfl (.inl rfl) pe_int)
      (pss_cons (ps_if (pt_cmpR (op_eqD hr.units) (pe_ix ix_seq (pv 3) pe_int (fun _ _ => rfl)) pe_str (nomark _)) (pss_cons (ps_if (pt_cmpR (op_notInD (hu65 hr)) (pe_tup (pa_cons (pe_ix ix_seq (pv 3) pe_int (fun _ _ => rfl)) (pa_cons (pv 4) (pa_cons (pv 5) pa_nil)))) (pv 7) (by rfl)) (pss_one (ps_ret pe_non)) pss_nil)
        (pss_cons (ps_expr (pe_bm PySem.F.plainAttrs_list PySem.F.slot_list_remove PySem.F.type_list_remove (mt_removeD (hu65 hr)) (pv 7) (pa_cons (pe_tup (pa_cons (pe_ix ix_seq (pv 3) pe_int (fun _ _ => rfl)) (pa_cons (pv 4) (pa_cons (pv 5) pa_nil)))) pa_nil)))
        (pss_one (ps_set (i := 8) sc__law_stepped.nd rfl (.inl rfl) (pe_op op_add (pe_bm PySem.F.plainAttrs_list PySem.F.slot_list_index PySem.F.type_list_index mt_index (pv 6) (pa_cons (pe_ix ix_seq (pv 3) pe_int (fun _ _ => rfl)) pa_nil)) pe_int))))) pss_nil)
      (pss_cons (ps_if (pt_cmpR (op_eqD hr.units) (pe_ix ix_seq (pv 6) (pv 8) (fun _ _ => rfl)) (pv 5) (nomark _)) (pss_one (ps_ret (pv 7))) pss_nil)
      (pss_cons (ps_expr (pe_bm PySem.F.plainAttrs_list PySem.F.slot_list_append PySem.F.type_list_append mt_append (pv 7) (pa_cons (pe_tup (pa_cons (pe_ix ix_seq (pv 6) (pv 8) (fun _ _ => rfl)) (pa_cons (pv 4) (pa_cons (pv 5) pa_nil)))) pa_nil)))
      (pss_one (ps_ret (pe_ifExp (pt_val (pe_cal c__law_stands (hr.mono (by decide)) rfl (pa_cons (pe_dget (hu_of hr) (pv 1) (pe_ix ix_seq (pv 6) (pv 8) (fun _ _ => rfl)) (fun _ _ => rfl)) (pa_cons (pe_cal c__law_load (hr.mono (by decide)) rfl (pa_cons (pv 0) (pa_cons (pv 7) (pa_cons (pe_ix ix_seq (pv 6) (pv 8) (fun _ _ => rfl)) pa_nil)))) pa_nil)))) (pv 7) pe_non))))))))), ?_⟩
  rintro B M0 Ps T' D' ⟨nm, rows, cs, ⟨so, e0⟩, h, hc, hcl, hso, rfl, rfl⟩ hR _
  have hl := h.L.len
  have hn := h.n
  have hrl := h.R.len
  obtain ⟨sd, hsd, hs1, hs2⟩ : ∃ sd, eStp nm (so, e0) = .tuple sd ∧ L2.atI sd (-2) = some (eN (gS nm e0)) ∧ L2.atI sd (-1) = some (eN (gE nm e0)) := by
    cases so with
    | none => exact ⟨_, rfl, rfl, rfl⟩
    | some p => exact ⟨_, rfl, rfl, rfl⟩
  have vs : ∀ {C : Ct}, Vt C (D (eStp nm (so, e0))) sd := by intro C; rw [hsd]; exact vt_d
  refine xs_seq (xs_par (P := DI (gS nm e0 : Nat)) (R := DI (gE nm e0 : Nat)) (xa_cons (xv_op (xv_var rfl) (xv_un xv_int) (ro_ixT vs hs1)) (xa_cons (xv_op (xv_var rfl) (xv_un xv_int) (ro_ixT vs hs2)) xa_nil)) (nx_x ?_))
  refine xs_seq (xs_parPF (xv_call (xa_cons (xv_var rfl) (xa_cons (xv_var rfl) (xa_cons (xv_var rfl) xa_nil))) ⟨nm, e0, h.L, rfl, rfl⟩) (xf_cb (xa_cons (xv_var rfl) xa_nil) (rcf_list vl_d)) fun l => nx_x ?_)
  refine xs_seq (xs_set xv_int (nx_x ?_))
  let ds : Int → List (Option PP) := fun a => [some (DL (eLL (lties nm))), some (Fz (KF (bookKV nm rows))), some (DL (cs.map (eCart nm))), some (D (eStp nm (so, e0))), some (DI (gS nm e0 : Nat)), some (DI (gE nm e0 : Nat)), some (DL (eNs (wayD nm e0))), some (Rf l), some (DI a)]
  -- the cart leaves its yard
  by_cases hno : ∃ p, so = some p ∧ (p, e0) ∉ cs
  · obtain ⟨p, rfl, hp⟩ := hno
    have hT : stepM nm rows cs (some p, e0) = none := by unfold stepM; rw [leftM_some, if_neg hp]; rfl
    rw [hT] at hR
    obtain ⟨hp1, hp2⟩ := hso p rfl
    have v4 : ∀ {C : Ct}, Vt C (D (eStp nm (some p, e0))) [.str "on", eN (at0 nm p), eN (gS nm e0), eN (gE nm e0)] := vt_d
    refine xs_seq (xs_yes ((xt_test (xv_op (xv_op (xv_var rfl) xv_int (ro_ixT v4 rfl)) xv_str (ro_eqD vd_d vd_d (shaped_str _ (by decide +kernel)) (shaped_str _ (by decide +kernel))))).eq (by simp [PyData.eqv])) ?_)
    refine xs_seq (xs_yes ((xt_test (xv_op (Xv.tup (xf_tup [eN (at0 nm p), eN (gS nm e0), eN (gE nm e0)] (xa_cons (xv_op (xv_var rfl) xv_int (ro_ixT v4 rfl)) (xa_cons (xv_var rfl) (xa_cons (xv_var rfl) xa_nil))) (by show 3 ≤ 100000; decide))) (xv_var rfl) (ro_notInD (vd_d (d := eCart nm (p, e0))) (vd_r (k := 0) rfl) (shaped_tup rfl) (carts_shaped nm cs)))).eq ?_) (xs_ret (T := D .none) xv_non rfl rfl (fun H v p => p) hR))
    rw [cart_any h.L (show (p, e0).1 < nm.length by show p < _; omega) cs hc, decide_eq_false hp]
    rfl
  · obtain ⟨l0, hl0⟩ : ∃ l0, leftM cs (so, e0) = some l0 := by
      cases so with
      | none => exact ⟨cs, rfl⟩
      | some p =>
        have hp : (p, e0) ∈ cs := Classical.byContradiction fun z => hno ⟨p, rfl, z⟩
        exact ⟨cs.erase (p, e0), by rw [leftM_some, if_pos hp]⟩
    have hT : stepM nm rows cs (so, e0) = comeM nm rows l0 (nextP nm.length (so, e0)) e0 := by unfold stepM; rw [hl0]; rfl
    have hq : nextP nm.length (so, e0) < nm.length := by
      cases so with
      | none => rw [nextP_in]; split <;> omega
      | some p => have := hso p rfl; rw [nextP_on]; split <;> omega
    have hl0c : (∀ c ∈ l0, c.1 < nm.length) ∧ l0.length ≤ 500 := by
      cases so with
      | none =>
        have := Option.some.inj hl0
        subst this
        exact ⟨hc, hcl⟩
      | some p =>
        rw [leftM_some] at hl0
        split at hl0
        · have := Option.some.inj hl0
          subst this
          refine ⟨fun c hcc => hc c (List.mem_of_mem_erase hcc), ?_⟩
          have := List.length_erase_le (a := (p, e0)) (l := cs)
          omega
        · cases hl0
    refine xs_seq (xs_ifR (b := so.isSome) (C1 := ⟨B, M0, [(l, LF (cs.map (eCart nm)))], ds 1, []⟩) (C2 := ⟨B, M0, [(l, LF (l0.map (eCart nm)))], ds ((idxD nm e0 (nextP nm.length (so, e0)) : Nat) : Int), []⟩) ?_ (fun hb D2 hrt kk => ?_) (fun hb D2 hrt kk => ?_) (nx_x ?_))
    · cases so with
      | none =>
        have v3 : ∀ {C : Ct}, Vt C (D (eStp nm (none, e0))) [.str "in", eN (gS nm e0), eN (gE nm e0)] := vt_d
        exact (xt_test (xv_op (xv_op (xv_var rfl) xv_int (ro_ixT v3 rfl)) xv_str (ro_eqD vd_d vd_d (shaped_str _ (by decide +kernel)) (shaped_str _ (by decide +kernel))))).eq (by simp [PyData.eqv]; decide)
      | some p =>
        have v4 : ∀ {C : Ct}, Vt C (D (eStp nm (some p, e0))) [.str "on", eN (at0 nm p), eN (gS nm e0), eN (gE nm e0)] := vt_d
        exact (xt_test (xv_op (xv_op (xv_var rfl) xv_int (ro_ixT v4 rfl)) xv_str (ro_eqD vd_d vd_d (shaped_str _ (by decide +kernel)) (shaped_str _ (by decide +kernel))))).eq (by simp [PyData.eqv])
    · cases so with
      | none => cases hb
      | some p =>
        obtain ⟨hp1, hp2⟩ := hso p rfl
        have hp : (p, e0) ∈ cs := Classical.byContradiction fun z => hno ⟨p, rfl, z⟩
        have v4 : ∀ {C : Ct}, Vt C (D (eStp nm (some p, e0))) [.str "on", eN (at0 nm p), eN (gS nm e0), eN (gE nm e0)] := vt_d
        have htup : ∀ {C : Ct}, C.ds[3]? = some (some (D (eStp nm (some p, e0)))) → C.ds[4]? = some (some (DI (gS nm e0 : Nat))) → C.ds[5]? = some (some (DI (gE nm e0 : Nat))) → Xv C (tTup (tCons (tOp (rIx K) (tVar 3) (tC (.int 1))) (tCons (tVar 4) (tCons (tVar 5) tNil)))) (D (eCart nm (p, e0))) C := fun a b c => Xv.tup (xf_tup [eN (at0 nm p), eN (gS nm e0), eN (gE nm e0)] (xa_cons (xv_op (xv_var a) xv_int (ro_ixT v4 rfl)) (xa_cons (xv_var b) (xa_cons (xv_var c) xa_nil))) (by show 3 ≤ 100000; decide))
        obtain ⟨j, hj1, hj2⟩ := cart_find h.L (show (p, e0).1 < nm.length by show p < _; omega) cs hc hp
        have el0 : l0 = cs.erase (p, e0) := by
          rw [leftM_some, if_pos hp] at hl0
          exact (Option.some.inj hl0).symm
        refine xs_seq (xs_no ((xt_test (xv_op (htup rfl rfl rfl) (xv_var rfl) (ro_notInD vd_d (vd_r (k := 0) rfl) (shaped_tup rfl) (carts_shaped nm cs)))).eq ?_) (xs_next (nx_x ?_)))
        · rw [cart_any h.L (show (p, e0).1 < nm.length by show p < _; omega) cs hc, decide_eq_true hp]
          rfl
        refine xs_seq (xs_drop (xv_removeD (k := 0) (xv_var rfl) (htup rfl rfl rfl) rfl rfl (carts_shaped nm cs) (shaped_tup rfl) hj1) (nx_x ?_))
        refine xs_set (xv_op (xv_idxN (xv_var rfl) (xv_op (xv_var rfl) xv_int (ro_ixT v4 rfl)) vl_d vl_d (wayD_nd h.L.nd e0) (wayD_get e0 (k := p) (by omega))) xv_int ro_i0) fun σ H e => kk σ H ?_
        show En ⟨B, M0, [(l, LF (l0.map (eCart nm)))], ds ((idxD nm e0 (nextP nm.length (some p, e0)) : Nat) : Int), []⟩ σ H
        rw [el0, ← hj2, show ((idxD nm e0 (nextP nm.length (some p, e0)) : Nat) : Int) = ((idxD nm e0 p : Nat) : Int) + 1 by rw [nextP_on]; unfold idxD; cases e0 <;> simp <;> omega]
        exact e
    · cases so with
      | some p => cases hb
      | none =>
        refine xs_next fun σ H e => kk σ H ?_
        have el0 : l0 = cs := (Option.some.inj hl0).symm
        show En ⟨B, M0, [(l, LF (l0.map (eCart nm)))], ds ((idxD nm e0 (nextP nm.length (none, e0)) : Nat) : Int), []⟩ σ H
        rw [el0, show ((idxD nm e0 (nextP nm.length (none, e0)) : Nat) : Int) = 1 by rw [nextP_in]; unfold idxD; cases e0 <;> simp <;> omega]
        exact e
    -- it comes
    rw [hT] at hR
    obtain ⟨hc0, hcl0⟩ := hl0c
    have hqe : nextP nm.length (so, e0) ≠ endP nm.length e0 → 1 ≤ nextP nm.length (so, e0) ∧ nextP nm.length (so, e0) ≤ rows.length := fun hne => by
      cases so with
      | none => rw [nextP_in] at hne ⊢; unfold endP at hne; cases e0 <;> simp at hne ⊢ <;> omega
      | some p => have := hso p rfl; rw [nextP_on] at hne ⊢; unfold endP at hne; cases e0 <;> simp at hne ⊢ <;> omega
    have hge : gE nm e0 = at0 nm (endP nm.length e0) := by unfold gE endP; cases e0 <;> rfl
    have hel : endP nm.length e0 < nm.length := by unfold endP; split <;> omega
    generalize nextP nm.length (so, e0) = q at *
    have hwq := wayD_get (nm := nm) e0 hq
    have hat : ∀ {C : Ct}, C.ds[6]? = some (some (DL (eNs (wayD nm e0)))) → C.ds[8]? = some (some (DI ((idxD nm e0 q : Nat) : Int))) → Xv C (tOp (rIx K) (tVar 6) (tVar 8)) (DI (at0 nm q : Nat)) C := fun a b => xv_op (xv_var a) (xv_var b) (ro_ixL vl_d (atI_n (eNs_get hwq)))
    by_cases hend : q = endP nm.length e0
    · have hcm : comeM nm rows l0 q e0 = some l0 := by unfold comeM; rw [if_pos hend]
      rw [hcm] at hR
      exact xs_seq (xs_yes ((xt_test (xv_op (hat rfl rfl) (xv_var rfl) (ro_eqD vd_d vd_d (shaped_flat rfl) (shaped_flat rfl)))).eq (by rw [eqv_nat, hge, hend]; simp)) (xs_retM (T := DL (l0.map (eCart nm))) (k := 0) (xv_var rfl) rfl rfl rfl (fun H v p => Fz.lst p) hR))
    · obtain ⟨hq1, hq2⟩ := hqe hend
      refine xs_seq (xs_no ((xt_test (xv_op (hat rfl rfl) (xv_var rfl) (ro_eqD vd_d vd_d (shaped_flat rfl) (shaped_flat rfl)))).eq ?_) (xs_next (nx_x ?_)))
      · rw [eqv_nat, hge]
        exact decide_eq_false fun z => hend (h.L.inj hq hel z)
      refine xs_seq (xs_drop (xv_app (k := 0) (d := eCart nm (q, e0)) (xv_var rfl) (Xv.tup (xf_tup [eN (at0 nm q), eN (gS nm e0), eN (gE nm e0)] (xa_cons (hat rfl rfl) (xa_cons (xv_var rfl) (xa_cons (xv_var rfl) xa_nil))) (by show 3 ≤ 100000; decide))) rfl rfl (by rw [List.length_map]; omega)) (nx_x ?_))
      refine xs_freeze (P := DL ((l0 ++ [(q, e0)]).map (eCart nm))) (k := 0) (i := 7) rfl rfl (fun _ _ p => by rw [List.map_append]; exact Fz.lst p) ?_
      have hpl : (loadM nm (l0 ++ [(q, e0)]) q).length ≤ 1000 := by
        unfold loadM
        rw [List.length_map]
        have h1 := List.length_filter_le (fun c : Crt => decide (c.1 = q)) (l0 ++ [(q, e0)])
        rw [List.length_append] at h1
        simp only [List.length_cons, List.length_nil] at h1
        omega
      have hbk : (bks nm rows q).length ≤ 10 := Nat.le_trans (h.bksOk hq1 hq2).len (by decide)
      refine xs_ret (T := D (optT nm (comeM nm rows l0 q e0))) (xv_if (b := standM (rowAt rows q).1 (bks nm rows q) (loadM nm (l0 ++ [(q, e0)]) q)) (xt_b (xv_call (xa_cons (xv_dget (xp_var rfl) (xp_op (xp_var rfl) (xp_var rfl) (ro_ixL vl_d (atI_n (eNs_get hwq)))) vk_f (h.look hq1 hq2)) (xa_cons (xv_call (xa_cons (xv_var rfl) (xa_cons (xv_var rfl) (xa_cons (hat rfl rfl) xa_nil))) ⟨nm, l0 ++ [(q, e0)], q, h.L, hq1, by omega, fun c hcc => ?_, ?_, rfl, rfl⟩) xa_nil)) ⟨(rowAt rows q).1, bks nm rows q, loadM nm (l0 ++ [(q, e0)]) q, hbk, hpl, rfl, rfl⟩)) (fun hb => (xv_var rfl).dat ?_) (fun hb => xv_non.dat ?_)) rfl rfl (fun H v p => p) hR
      · rcases List.mem_append.mp hcc with z | z
        · exact hc0 c z
        · rw [List.mem_singleton.mp z]; exact hq
      · rw [List.length_append]; simp only [List.length_cons, List.length_nil]; omega
      · unfold comeM
        rw [if_neg hend, if_pos hb]
        rfl
      · unfold comeM
        rw [if_neg hend, if_neg (by rw [hb]; decide)]
        rfl
end
end K74

set_option Elab.async false
set_option linter.all false
set_option maxRecDepth 100000
set_option maxHeartbeats 4000000
namespace K74
open PySem PySem.Spec PyProof.Rows L2
def dd {α : Type} [DecidableEq α] : List α → List α
  | [] => []
  | a :: r => if a ∈ dd r then dd r else a :: dd r
theorem dd_mem {α : Type} [DecidableEq α] (x : α) : ∀ l : List α, x ∈ dd l ↔ x ∈ l
  | [] => by simp [dd]
  | a :: r => by
    unfold dd
    have ih := dd_mem x r
    split
    · rename_i h
      rw [List.mem_cons, ih]
      constructor
      · exact .inr
      · rintro (z | z)
        · subst z; exact ih.mp h
        · exact z
    · rw [List.mem_cons, List.mem_cons, ih]
theorem dd_nd {α : Type} [DecidableEq α] : ∀ l : List α, (dd l).Nodup
  | [] => List.nodup_nil
  | a :: r => by
    unfold dd
    split
    · exact dd_nd r
    · rename_i h
      exact List.nodup_cons.mpr ⟨h, dd_nd r⟩
theorem dd_len {α : Type} [DecidableEq α] : ∀ l : List α, (dd l).length ≤ l.length
  | [] => Nat.le_refl _
  | a :: r => by
    unfold dd
    have := dd_len r
    split
    · simp only [List.length_cons]; omega
    · simp only [List.length_cons]; omega
theorem nodup_mapOn {α β : Type} {f : α → β} : ∀ {l : List α}, (∀ a ∈ l, ∀ b ∈ l, f a = f b → a = b) → l.Nodup → (l.map f).Nodup
  | [], _, _ => List.nodup_nil
  | a :: r, hf, h => by
    rw [List.nodup_cons] at h
    rw [List.map_cons, List.nodup_cons]
    refine ⟨fun z => ?_, nodup_mapOn (fun a ha b hb => hf a (List.mem_cons_of_mem _ ha) b (List.mem_cons_of_mem _ hb)) h.2⟩
    obtain ⟨b, hb, e⟩ := List.mem_map.mp z
    rw [hf b (List.mem_cons_of_mem _ hb) a List.mem_cons_self e] at hb
    exact h.1 hb
def lC (nm : List Nat) (c : Crt) : List Int := [((at0 nm c.1 : Nat) : Int), ((gS nm c.2 : Nat) : Int), ((gE nm c.2 : Nat) : Int)]
theorem carts_eT (nm : List Nat) (l : List Crt) : l.map (eCart nm) = (l.map (lC nm)).map eT := by rw [List.map_map]; rfl
theorem lC_inj {nm : List Nat} (L : LineOk nm) {a b : Crt} (ha : a.1 < nm.length) (hb : b.1 < nm.length) (h : lC nm a = lC nm b) : a = b := by
  obtain ⟨p, e⟩ := a
  obtain ⟨q, f⟩ := b
  simp only [lC, List.cons.injEq, and_true] at h
  obtain ⟨h1, h2, h3⟩ := h
  have e1 : p = q := L.inj ha hb (by omega)
  have hne := L.gne
  have e2 : e = f := by
    cases e <;> cases f
    · rfl
    · exfalso; exact hne (by omega)
    · exfalso; exact hne (by omega)
    · rfl
  rw [e1, e2]
theorem all_congr_mem {α : Type} {p : α → Bool} {l m : List α} (h : ∀ x, x ∈ l ↔ x ∈ m) : l.all p = m.all p := by
  cases z : m.all p with
  | true =>
    rw [List.all_eq_true] at z ⊢
    exact fun x hx => z x ((h x).mp hx)
  | false =>
    rw [List.all_eq_false] at z ⊢
    obtain ⟨x, hx, y⟩ := z
    exact ⟨x, (h x).mpr hx, y⟩
section
variable {P : Program} {w : World} {K : PySem.W.Frag} {mg : PySem.Str → Option Value} {base : Heap} {CC CW : Addr}
abbrev s__law_is_stuck : Stmt := topS 92
abbrev N__law_is_stuck : List PySem.Str := ["_law_ties_here", "_law_books", "_law_carts", "_law_cart"]
theorem sc__law_is_stuck : FnScope N__law_is_stuck ["_law_ties_here", "_law_books", "_law_carts"] (defScope s__law_is_stuck) := ⟨rfl, rfl, rfl, by decide +kernel, rfl, by decide +kernel, by decide +kernel⟩
def stuckM (nm : List Nat) (rows : List R3) (cs : List Crt) : Bool := !cs.isEmpty && cs.all fun c => (stepM nm rows cs (some c.1, c.2)).isNone
def R__law_is_stuck : List PP → PP → Prop := fun Ps T => ∃ (nm : List Nat) (rows : List R3) (cs : List Crt), LR nm rows ∧ (∀ c ∈ cs, 1 ≤ c.1 ∧ c.1 ≤ rows.length) ∧ cs.length < 64 ∧ Ps = [DL (eLL (lties nm)), Fz (KF (bookKV nm rows)), DL (cs.map (eCart nm))] ∧ T = DB (stuckM nm rows cs)
theorem isNon_opt (nm : List Nat) (o : Option (List Crt)) : isNon (optT nm o) = o.isNone := by cases o <;> rfl
theorem ok__law_is_stuck (F : Df K mg "_law_is_stuck" s__law_is_stuck ["_law_ties_here", "_law_books", "_law_carts"]) (T : Txt K mg CC CW) (c__law_stepped : Cal P w K mg base "_law_stepped" ["_law_ties_here", "_law_books", "_law_carts", "_law_step"] 3 (spF R__law_stepped)) : Cal P w K mg base "_law_is_stuck" ["_law_ties_here", "_law_books", "_law_carts"] 4 (spF R__law_is_stuck) := by
  refine F.ok sc__law_is_stuck (fun Ps T ⟨_, _, _, _, _, _, h, _⟩ => by rw [h]; rfl) fun f cdv A outer s H E hr => ⟨_,
    (pss_one (ps_ret (pe_and (pe_cmpR (op_neD hr.units) (pv 2) (pe_lst pa_nil) (nomark _)) (pe_one (pe_callB (cr_all rfl) (by rfl) T.all boot_all (pa_cons (pe_lc (own := [("_law_cart", 3)]) (g := (gName 3)) (tt := tYes) (by rfl) sc__law_is_stuck.nd (pi_list (pe_callB (cr_sortedT rfl) (by rfl) T.sorted boot_sorted (pa_cons (pe_callTy (cr_setOfT rfl hr.units) (by rfl) T.set boot_set (pa_cons (pv 2) pa_nil)) pa_nil))) (blkOk_by (own := [("_law_cart", 3)]) (N := N__law_is_stuck) (sc := defScope s__law_is_stuck) (by decide +kernel)) (fun _ _ _ _ _ => (pg_name (i := 3) sc__law_is_stuck.nd rfl (by first | exact Or.inl rfl | exact Or.inr rfl))) (fun _ _ _ _ _ => pts_nil) (fun _ _ _ _ _ => (pe_cmpR op_isN (pe_cal c__law_stepped (hr.mono (by decide)) rfl (pa_cons (pv 0) (pa_cons (pv 1) (pa_cons (pv 2) (pa_cons (pe_op (r := rCatT K) op_catT (pe_tup (pa_cons pe_str pa_nil)) (pv 3)) pa_nil))))) pe_non (nomark _)))) pa_nil)))))), ?_⟩
  rintro B M0 Ps T' D' ⟨nm, rows, cs, h, hc, hcl, rfl, rfl⟩ hR _
  have hl := h.L.len
  have hn := h.n
  have hc2 : ∀ c ∈ cs, c.1 < nm.length := fun c hcc => by have := hc c hcc; omega
  have hb : ∀ ns ∈ cs.map (lC nm), ns.length = 3 ∧ TS.Bd 64 ns := fun ns hns => by
    obtain ⟨c, hcc, rfl⟩ := List.mem_map.mp hns
    refine ⟨rfl, fun x hx => ?_⟩
    have h1 := h.L.ltA (hc2 c hcc)
    have h2 := h.L.gS_lt c.2
    have h3 := h.L.gE_lt c.2
    simp only [lC, List.mem_cons, List.not_mem_nil, or_false] at hx
    omega
  let srt := sortK (fun c => TS.code 64 (lC nm c)) (dd cs)
  have hsm : ∀ x, x ∈ srt ↔ x ∈ cs := fun x => ((sortK_perm _ _).mem_iff).trans (dd_mem x cs)
  have hsl : srt.length < 64 := by
    show (sortK _ (dd cs)).length < 64
    rw [(sortK_perm _ _).length_eq]
    exact Nat.lt_of_le_of_lt (dd_len cs) hcl
  refine xs_ret (T := DB (stuckM nm rows cs)) (xv_and (a := !cs.isEmpty) (b := cs.all fun c => (stepM nm rows cs (some c.1, c.2)).isNone) ((xv_op (xv_var rfl) (Xv.lst (xf_lst [] xa_nil (by decide))) (ro_neD vd_d vd_d (carts_shaped nm cs) (shaped_flats rfl))).dat ?_) fun _ =>
    (xv_cb (xa_cons (Xv.lst (xf_mapB (ml := []) (items := srt) (0, false) (fun c => (stepM nm rows cs (some c.1, c.2)).isNone) (xi_encL (items := srt) (0, false) (eCart nm) (Xv.lst ((xf_sortedSet (items := cs.map (lC nm)) (ms := srt.map (lC nm)) (xv_var rfl) (by rw [← carts_eT]; exact vl_d) (by rw [List.length_map]; exact hcl) (by decide) hb (sort_codeS hb (fun k => ?_) ?_ ?_)).conv fun H v p => by rw [carts_eT]; exact p))) (fun q hq => nomatch hq) (by omega)
      fun i gl l acc hi => ⟨_, _, xg_name, fun j hj => hj, ?_⟩)) xa_nil) (rc_all vl_d)).dat ?_) rfl rfl (fun H v p => p) hR
  · rw [eqv_list_nil]
    cases cs <;> rfl
  · rw [List.mem_map, List.mem_map]
    constructor
    · rintro ⟨a, ha, e⟩; exact ⟨a, (hsm a).mp ha, e⟩
    · rintro ⟨a, ha, e⟩; exact ⟨a, (hsm a).mpr ha, e⟩
  · exact nodup_mapOn (fun a ha b hb e => lC_inj h.L (hc2 a ((hsm a).mp ha)) (hc2 b ((hsm b).mp hb)) e) (((sortK_perm _ _).nodup_iff).mpr (dd_nd cs))
  · rw [List.pairwise_map]
    exact sortK_sorted _ _
  · have hcc := hc _ ((hsm _).mp (List.mem_of_getElem? (getD_get (0, false) hi)))
    generalize srt.getD i (0, false) = c at *
    refine (xv_op (xv_call (xa_cons (xv_var rfl) (xa_cons (xv_var rfl) (xa_cons (xv_var rfl) (xa_cons (Xv.tup (xf_op (Xv.tup (xf_tup [.str "on"] (xa_cons xv_str xa_nil) (by show 1 ≤ 100000; decide))) (xv_var rfl) (rf_catT vt_d (vt_d (ds := [eN (at0 nm c.1), eN (gS nm c.2), eN (gE nm c.2)])) (by simp) (by simp) (by show 1 + 3 ≤ 100000; decide)))) xa_nil)))) ⟨nm, rows, cs, (some c.1, c.2), h, hc2, by omega, fun p hp => by cases hp; exact hcc, rfl, rfl⟩) xv_non ro_isN).dat ?_
    rw [isNon_opt]
  · rw [all_id]
    exact congrArg _ (all_congr_mem hsm)
abbrev s__law_enough : Stmt := topS 93
abbrev N__law_enough : List PySem.Str := ["_law_rows_here", "_law_east", "_law_west", "_law_a", "_law_near", "_law_b", "_law_far", "_law_held", "_law_least", "_law_other", "_law_both", "_law_places", "_law_on", "_law_back"]
theorem sc__law_enough : FnScope N__law_enough ["_law_rows_here", "_law_east", "_law_west"] (defScope s__law_enough) := ⟨rfl, rfl, rfl, by decide +kernel, rfl, by decide +kernel, by decide +kernel⟩
def enoughM (rows : List R3) (E W : Int) : Bool := (stickRows rows).any fun r => stk r E W
def R__law_enough : List PP → PP → Prop := fun Ps T => ∃ (rows : List R3) (E W : Int), rows.length ≤ 10 ∧ bd3 rows ∧ Ps = [DL (rows.map eR), DI E, DI W] ∧ T = DB (enoughM rows E W)
theorem ok__law_enough (F : Df K mg "_law_enough" s__law_enough ["_law_rows_here", "_law_east", "_law_west"]) (T : Txt K mg CC CW) : Cal P w K mg base "_law_enough" ["_law_rows_here", "_law_east", "_law_west"] 1 (spF R__law_enough) := by
  refine F.ok sc__law_enough (fun Ps T ⟨_, _, _, _, _, h, _⟩ => by rw [h]; rfl) fun f cdv A outer s H E hr => ⟨_,
    (pss_cons (ps_for PassesOwn.never rfl (pi_enum rfl T.enumerate (pa_cons (pv 0) pa_nil)) (pg_tup rfl (pgs_cons (pg_name (i := 3) sc__law_enough.nd rfl (.inl rfl)) (pgs_cons (pg_name (i := 4) sc__law_enough.nd rfl (.inl rfl)) pgs_nil)))
        (pss_one (ps_for PassesOwn.never rfl (pi_range2 rfl T.range (pa_cons (pe_op op_add (pv 3) pe_int) (pa_cons (pe_callB call_len (by rfl) T.len PySem.boot_len (pa_cons (pv 0) pa_nil)) pa_nil))) (pg_name (i := 5) sc__law_enough.nd rfl (.inl rfl))
          (pss_cons (ps_set (i := 6) sc__law_enough.nd rfl (.inl rfl) (pe_ix ix_seq (pv 0) (pv 5) (fun _ _ => rfl)))
          (pss_one (ps_if (PW.pt (pw_and (pt_cmpR (op_eqD hr.units) (pe_ix ix_seq (pv 4) pe_int (fun _ _ => rfl)) (pe_ix ix_seq (pv 4) pe_int (fun _ _ => rfl)) (nomark _)) (pw_and1 (pt_cmpR (op_eqD hr.units) (pe_ix ix_seq (pv 6) pe_int (fun _ _ => rfl)) (pe_ix ix_seq (pv 6) pe_int (fun _ _ => rfl)) (nomark _))))) (pss_cons (ps_set (i := 7) sc__law_enough.nd rfl (.inl rfl) (pe_slice sl_list (pv 0) (po_some (pe_op op_add (pv 3) pe_int)) (po_some (pv 5))))
            (pss_cons (ps_set (i := 8) sc__law_enough.nd rfl (.inl rfl) (pe_op op_add (pe_ix ix_seq (pv 4) pe_int (fun _ _ => rfl)) (pe_callB (cr_sum rfl) (by rfl) T.sum boot_sum (pa_cons (pe_lc (own := [("_law_places", 11), ("_law_on", 12), ("_law_back", 13)]) (g := (gTup K 3 (gCons (gName 11) (gCons (gName 12) (gCons (gName 13) gNil))))) (tt := tYes) (by rfl) sc__law_enough.nd (pi_list (pv 7)) (blkOk_by (own := [("_law_places", 11), ("_law_on", 12), ("_law_back", 13)]) (N := N__law_enough) (sc := defScope s__law_enough) (by decide +kernel)) (fun _ _ _ _ _ => (pg_tup rfl (pgs_cons (pg_name (i := 11) sc__law_enough.nd rfl (by first | exact Or.inl rfl | exact Or.inr rfl)) (pgs_cons (pg_name (i := 12) sc__law_enough.nd rfl (by first | exact Or.inl rfl | exact Or.inr rfl)) (pgs_cons (pg_name (i := 13) sc__law_enough.nd rfl (by first | exact Or.inl rfl | exact Or.inr rfl)) pgs_nil))))) (fun _ _ _ _ _ => pts_nil) (fun _ _ _ _ _ => (pe_callB (call_min2 rfl) (by rfl) T.min boot_min (pa_cons (pv 12) (pa_cons (pe_op op_sub (pv 11) (pv 13)) pa_nil))))) pa_nil))))
            (pss_cons (ps_set (i := 9) sc__law_enough.nd rfl (.inl rfl) (pe_op op_add (pe_ix ix_seq (pv 6) pe_int (fun _ _ => rfl)) (pe_callB (cr_sum rfl) (by rfl) T.sum boot_sum (pa_cons (pe_lc (own := [("_law_places", 11), ("_law_on", 12), ("_law_back", 13)]) (g := (gTup K 3 (gCons (gName 11) (gCons (gName 12) (gCons (gName 13) gNil))))) (tt := tYes) (by rfl) sc__law_enough.nd (pi_list (pv 7)) (blkOk_by (own := [("_law_places", 11), ("_law_on", 12), ("_law_back", 13)]) (N := N__law_enough) (sc := defScope s__law_enough) (by decide +kernel)) (fun _ _ _ _ _ => (pg_tup rfl (pgs_cons (pg_name (i := 11) sc__law_enough.nd rfl (by first | exact Or.inl rfl | exact Or.inr rfl)) (pgs_cons (pg_name (i := 12) sc__law_enough.nd rfl (by first | exact Or.inl rfl | exact Or.inr rfl)) (pgs_cons (pg_name (i := 13) sc__law_enough.nd rfl (by first | exact Or.inl rfl | exact Or.inr rfl)) pgs_nil))))) (fun _ _ _ _ _ => pts_nil) (fun _ _ _ _ _ => (pe_callB (call_min2 rfl) (by rfl) T.min boot_min (pa_cons (pv 13) (pa_cons (pe_op op_sub (pv 11) (pv 12)) pa_nil))))) pa_nil))))
            (pss_cons (ps_set (i := 10) sc__law_enough.nd rfl (.inl rfl) (pe_op op_add (pe_op op_add (pe_ix ix_seq (pv 4) pe_int (fun _ _ => rfl)) (pe_ix ix_seq (pv 6) pe_int (fun _ _ => rfl))) (pe_callB (cr_sum rfl) (by rfl) T.sum boot_sum (pa_cons (pe_lc (own := [("_law_places", 11), ("_law_on", 12), ("_law_back", 13)]) (g := (gTup K 3 (gCons (gName 11) (gCons (gName 12) (gCons (gName 13) gNil))))) (tt := tYes) (by rfl) sc__law_enough.nd (pi_list (pv 7)) (blkOk_by (own := [("_law_places", 11), ("_law_on", 12), ("_law_back", 13)]) (N := N__law_enough) (sc := defScope s__law_enough) (by decide +kernel)) (fun _ _ _ _ _ => (pg_tup rfl (pgs_cons (pg_name (i := 11) sc__law_enough.nd rfl (by first | exact Or.inl rfl | exact Or.inr rfl)) (pgs_cons (pg_name (i := 12) sc__law_enough.nd rfl (by first | exact Or.inl rfl | exact Or.inr rfl)) (pgs_cons (pg_name (i := 13) sc__law_enough.nd rfl (by first | exact Or.inl rfl | exact Or.inr rfl)) pgs_nil))))) (fun _ _ _ _ _ => pts_nil) (fun _ _ _ _ _ => (pe_callB (call_min2 rfl) (by rfl) T.min boot_min (pa_cons (pv 11) (pa_cons (pe_op op_add (pv 12) (pv 13)) pa_nil))))) pa_nil))))
            (pss_one (ps_if (PW.pt (pw_and (pt_cmpR op_le (pv 8) (pv 1) (nomark _)) (pw_and (pt_cmpR op_le (pv 9) (pv 2) (nomark _)) (pw_and1 (pt_cmpR op_le (pv 10) (pe_op op_add (pv 1) (pv 2)) (nomark _)))))) (pss_one (ps_ret pe_bl)) pss_nil)))))) pss_nil))))))
      (pss_one (ps_ret pe_bl))), ?_⟩
  rintro B M0 Ps T' D' ⟨rows, E0, W0, hl, hbd, rfl, rfl⟩ hR _
  let no : List R6 → Prop := fun l => (l.any fun r => stk r E0 W0) = false
  let ds0 : List (Option PP) := [some (DL (rows.map eR)), some (DI E0), some (DI W0), none, none, none, none, none, none, none, none, none, none, none]
  refine xs_seq (xs_for (I := fun a => ⟨B, M0, [], ds0, [(V.non, Pu (no (accR rows a)))]⟩) (xi_encE (items := rows) (0, 0, 0) eR (xa_cons (xv_var rfl) xa_nil)) (fun _ _ q hq => nomatch hq) (fun gl σ H e => ?_) (fun a gl ha => ?_) (nx_x ?_))
  · exact (e.ghost (v := V.non) (P := Pu (no (accR rows 0))) rfl).weak (wk_refl _) fun p hp => by
      rcases List.mem_append.mp hp with z | z
      · exact List.mem_cons_of_mem _ (List.mem_append_left _ z)
      · rw [List.mem_singleton.mp z]; exact List.mem_cons_self
  · generalize hN : r3At rows a = near at *
    show Xb _ _ (DT [eN a, eR (r3At rows a)]) _ _
    rw [hN]
    have vn : ∀ {C : Ct}, Vt C (D (eR near)) [eN near.1, eN near.2.1, eN near.2.2] := vt_d
    let ds : List (Option PP) := [some (DL (rows.map eR)), some (DI E0), some (DI W0), some (DI (a : Nat)), some (D (eR near)), none, none, none, none, none, none, none, none, none]
    refine xb_mk (xg_tup (ds := [eN a, eR near]) (xgs_cons xg_name (xgs_cons xg_name xgs_nil)) rfl) ?_
    refine xs_for (n := rows.length - (a + 1)) (I := fun m => ⟨B, M0, [], ds, (V.non, Pu (no (accR rows a ++ sIn rows a m))) :: gl⟩)
      (((xi_rng2 (i := ((a + 1 : Nat) : Int)) (j := (rows.length : Nat)) (XA.eq (xa_cons (xv_op (xv_var rfl) xv_int ro_i0) (xa_cons (xv_cb (xa_cons (xv_var rfl) xa_nil) (rc_lenL vl_d)) xa_nil)) (by rw [List.length_map]; rfl)) (by omega) (by omega)).len (by omega)).congr (Zs := fun m => DI ((a + 1 + m : Nat) : Int)) fun m _ => by rw [show ((a + 1 : Nat) : Int) + (m : Nat) = ((a + 1 + m : Nat) : Int) by omega]) (fun _ _ q hq => nomatch hq) (fun gl2 σ H e => ?_) (fun m gl2 hm => ?_) (fun σ H e => ?_)
    · show En ⟨B, M0, [], ds, gl2 ++ (V.non, Pu (no (accR rows a ++ sIn rows a 0))) :: gl⟩ σ H
      rw [show sIn rows a 0 = [] from rfl, List.append_nil]
      exact e.weak (wk_refl _) fun p hp => by
        rcases List.mem_append.mp hp with z | z
        · exact List.mem_append_left _ z
        · rcases List.mem_cons.mp z with z | z
          · rw [z]; exact List.mem_append_right _ (List.mem_append_right _ List.mem_cons_self)
          · exact List.mem_append_right _ (List.mem_append_left _ z)
    · generalize hF : r3At rows (a + 1 + m) = far at *
      have hb : a + 1 + m < rows.length := by omega
      have fget : L2.atI (rows.map eR) ((a + 1 + m : Nat) : Int) = some (eR far) := atI_n (by rw [List.getElem?_map, getD_get (0, 0, 0) hb, Option.map_some]; exact congrArg (fun z => some (eR z)) hF)
      have vf : ∀ {C : Ct}, Vt C (D (eR far)) [eN far.1, eN far.2.1, eN far.2.2] := vt_d
      have eok : sOk rows a (a + 1 + m) = (decide (near.2.1 = near.1) && decide (far.2.2 = far.1)) := by unfold sOk; rw [hN, hF]
      refine xb_mk xg_name (xs_pure (p := no (accR rows a ++ sIn rows a m)) (List.mem_append_right _ List.mem_cons_self) fun hno => ?_)
      -- what is left behind a turn
      have done : ∀ {es : List (Option PP)} {σ : L2.St} {H : Hp}, no (accR rows a ++ sIn rows a (m + 1)) → Wk es ds → En ⟨B, M0, [], es, gl2 ++ (V.non, Pu (no (accR rows a ++ sIn rows a m))) :: gl⟩ σ H → En (Ct.ghs ⟨B, M0, [], ds, (V.non, Pu (no (accR rows a ++ sIn rows a (m + 1)))) :: gl⟩ gl2) σ H := fun hn hw e =>
        (e.ghost (v := V.non) (P := Pu (no (accR rows a ++ sIn rows a (m + 1)))) hn).weak hw fun p hp => by
          rcases List.mem_append.mp hp with z | z
          · exact List.mem_cons_of_mem _ (List.mem_append_left _ z)
          · rcases List.mem_cons.mp z with z | z
            · rw [z]; exact List.mem_cons_self
            · exact List.mem_cons_of_mem _ (List.mem_append_right _ (List.mem_cons_of_mem _ z))
      refine xs_seq (xs_set (xv_op (xv_var rfl) (xv_var rfl) (ro_ixL vl_d fget)) (nx_x ?_))
      refine xs_if (b := sOk rows a (a + 1 + m)) ((xt_and (xt_test (xv_op (xv_op (xv_var rfl) xv_int (ro_ixT vn rfl)) (xv_op (xv_var rfl) xv_int (ro_ixT vn rfl)) (ro_eqD vd_d vd_d (shaped_flat rfl) (shaped_flat rfl)))) fun _ => xt_test (xv_op (xv_op (xv_var rfl) xv_int (ro_ixT vf rfl)) (xv_op (xv_var rfl) xv_int (ro_ixT vf rfl)) (ro_eqD vd_d vd_d (shaped_flat rfl) (shaped_flat rfl)))).eq ?_) (fun hok => ?_) (fun hok => ?_)
      · rw [eqv_nat, eqv_nat, eok]
      · let bt := betw rows a (a + 1 + m)
        have hbt : bt.length ≤ 10 := by
          show (((rows.drop (a + 1)).take (a + 1 + m - (a + 1)))).length ≤ 10
          rw [List.length_take, List.length_drop]; omega
        have hbm : ∀ r ∈ bt, r.2.1 ≤ r.1 ∧ r.2.2 ≤ r.1 := fun r hr => hbd r (List.mem_of_mem_drop (List.mem_of_mem_take hr))
        have hbi : ∀ i, i < bt.length → (bt.getD i (0, 0, 0)).2.1 ≤ (bt.getD i (0, 0, 0)).1 ∧ (bt.getD i (0, 0, 0)).2.2 ≤ (bt.getD i (0, 0, 0)).1 := fun i hi => hbm _ (List.mem_of_getElem? (getD_get (0, 0, 0) hi))
        refine xs_seq (xs_set (P := DL (bt.map eR)) (Xv.lst ((xf_slice (lo := some ((a + 1 : Nat) : Int)) (hi := some ((a + 1 + m : Nat) : Int)) (xv_var rfl) vl_d (xo_p (xp_op (xp_var rfl) xp_int ro_i0)) (xo_p (xp_var rfl))).conv fun H v p => ?_)) (nx_x ?_))
        · rw [cutP_map, cutP_nat _ _ _ (by omega) (by omega)] at p
          exact p
        have tg : ∀ {C : Ct} {i : Nat}, XG C (gTup K 3 (gCons (gName 11) (gCons (gName 12) (gCons (gName 13) gNil)))) (D (eR (bt.getD i (0, 0, 0)))) (((C.put 11 (DI ((bt.getD i (0, 0, 0)).1 : Nat))).put 12 (DI ((bt.getD i (0, 0, 0)).2.1 : Nat))).put 13 (DI ((bt.getD i (0, 0, 0)).2.2 : Nat))) [11, 12, 13] := xg_tup (ds := [eN (bt.getD _ (0, 0, 0)).1, eN (bt.getD _ (0, 0, 0)).2.1, eN (bt.getD _ (0, 0, 0)).2.2]) (xgs_cons xg_name (xgs_cons xg_name (xgs_cons xg_name xgs_nil))) rfl
        refine xs_seq (xs_set (P := DI ((near.1 + (bt.map hLow).sum : Nat) : Int)) (xv_op (xv_op (xv_var rfl) xv_int (ro_ixT vn rfl)) (xv_cb (xa_cons (Xv.lst (xf_map (ml := []) (items := bt) (0, 0, 0) (fun r => eN (hLow r)) (xi_encL (items := bt) (0, 0, 0) eR (xv_var rfl)) (fun q hq => nomatch hq) (by omega)
          fun i gl l acc hi => ⟨_, _, tg, fun j hj => hj, Xv.dat (xv_cb (xa_cons (xv_var rfl) (xa_cons (xv_op (xv_var rfl) (xv_var rfl) ro_i0) xa_nil)) rc_min2) ?_⟩)) xa_nil) (rc_sumN bt hLow)) ro_i0) (nx_x ?_))
        · have := hbi i hi
          unfold hLow
          exact congrArg PyData.int (by omega)
        refine xs_seq (xs_set (P := DI ((far.1 + (bt.map hLeft).sum : Nat) : Int)) (xv_op (xv_op (xv_var rfl) xv_int (ro_ixT vf rfl)) (xv_cb (xa_cons (Xv.lst (xf_map (ml := []) (items := bt) (0, 0, 0) (fun r => eN (hLeft r)) (xi_encL (items := bt) (0, 0, 0) eR (xv_var rfl)) (fun q hq => nomatch hq) (by omega)
          fun i gl l acc hi => ⟨_, _, tg, fun j hj => hj, Xv.dat (xv_cb (xa_cons (xv_var rfl) (xa_cons (xv_op (xv_var rfl) (xv_var rfl) ro_i0) xa_nil)) rc_min2) ?_⟩)) xa_nil) (rc_sumN bt hLeft)) ro_i0) (nx_x ?_))
        · have := hbi i hi
          unfold hLeft
          exact congrArg PyData.int (by omega)
        refine xs_seq (xs_set (P := DI ((near.1 + far.1 + (bt.map hAll).sum : Nat) : Int)) (xv_op (xv_op (xv_op (xv_var rfl) xv_int (ro_ixT vn rfl)) (xv_op (xv_var rfl) xv_int (ro_ixT vf rfl)) ro_i0) (xv_cb (xa_cons (Xv.lst (xf_map (ml := []) (items := bt) (0, 0, 0) (fun r => eN (hAll r)) (xi_encL (items := bt) (0, 0, 0) eR (xv_var rfl)) (fun q hq => nomatch hq) (by omega)
          fun i gl l acc hi => ⟨_, _, tg, fun j hj => hj, Xv.dat (xv_cb (xa_cons (xv_var rfl) (xa_cons (xv_op (xv_var rfl) (xv_var rfl) ro_i0) xa_nil)) rc_min2) ?_⟩)) xa_nil) (rc_sumN bt hAll)) ro_i0) (nx_x ?_))
        · unfold hAll
          exact congrArg PyData.int (by omega)
        have esr : sRow rows a (a + 1 + m) = (a + 1 + m - a, a, a + 1 + m, near.1 + (bt.map hLow).sum, far.1 + (bt.map hLeft).sum, near.1 + far.1 + (bt.map hAll).sum) := by unfold sRow; rw [hN, hF]
        refine xs_if (b := stk (sRow rows a (a + 1 + m)) E0 W0) ((xt_and (xt_test (xv_op (xv_var rfl) (xv_var rfl) ro_b0)) fun _ => xt_and (xt_test (xv_op (xv_var rfl) (xv_var rfl) ro_b0)) fun _ => xt_test (xv_op (xv_var rfl) (xv_op (xv_var rfl) (xv_var rfl) ro_i0) ro_b0)).eq ?_) (fun hs => ?_) (fun hs => ?_)
        · rw [esr]; rfl
        · have hT : enoughM rows E0 W0 = true := List.any_eq_true.mpr ⟨_, mem_stick.mpr ⟨a, a + 1 + m, by omega, hb, hok, rfl⟩, hs⟩
          rw [hT] at hR
          exact xs_ret (T := DB true) xv_bl rfl rfl (fun H v p => p) hR
        · refine xs_next fun σ H e => done ?_ (.keep (.keep (.keep (.keep (.keep (.drop (.drop (.drop (.drop (.drop (.drop (.drop (.drop (.drop .nil)))))))))))))) e
          show List.any _ _ = false
          rw [sIn_succ, if_pos hok, ← List.append_assoc, List.any_append, show List.any (accR rows a ++ sIn rows a m) _ = false from hno]
          simp [hs]
      · refine xs_next fun σ H e => done ?_ (.keep (.keep (.keep (.keep (.keep (.drop (.drop (.drop (.drop (.drop (.drop (.drop (.drop (.drop .nil)))))))))))))) e
        show List.any _ _ = false
        rw [sIn_succ, if_neg (by rw [hok]; decide), List.append_nil]
        exact hno
    · show En ⟨B, M0, [], ds0, gl ++ [(V.non, Pu (no (accR rows (a + 1))))]⟩ σ H
      have e1 : accR rows (a + 1) = accR rows a ++ sIn rows a (rows.length - (a + 1)) := by unfold accR; rw [flatMap_succ]
      rw [e1]
      exact e.weak (.keep (.keep (.keep (.drop (.drop (.keep (.keep (.keep (.keep (.keep (.keep (.keep (.keep (.keep .nil)))))))))))))) fun p hp => by
        rcases List.mem_append.mp hp with z | z
        · exact List.mem_cons_of_mem _ z
        · rw [List.mem_singleton.mp z]; exact List.mem_cons_self
  · refine xs_pure (p := no (accR rows rows.length)) List.mem_cons_self fun hno => ?_
    have hT : enoughM rows E0 W0 = false := hno
    rw [hT] at hR
    exact xs_ret (T := DB false) xv_bl rfl rfl (fun H v p => p) hR
end
end K74

set_option Elab.async false
set_option linter.all false
set_option maxRecDepth 100000
set_option maxHeartbeats 4000000
namespace K74
open PySem PySem.Spec PyProof.Rows L2
/-! ### a script by the law's own steps -/
def runM (nm : List Nat) (rows : List R3) (l : List Stp) : Option (List Crt) := l.foldl (fun o s => o.bind fun cs => stepM nm rows cs s) (some [])
structure ScriptOk (nm : List Nat) (rows : List R3) (script : List Stp) (E W : Nat) : Prop where
  run : ∀ i, i ≤ script.length → ∃ cs, runM nm rows (script.take i) = some cs ∧ (∀ c ∈ cs, 1 ≤ c.1 ∧ c.1 ≤ rows.length) ∧ cs.length < 64 ∧ (cs.filter (·.2)).length ≤ E ∧ cs.length ≤ W + (cs.filter (·.2)).length
  pos : ∀ s ∈ script, ∀ p, s.1 = some p → 1 ≤ p ∧ p ≤ rows.length
  fin : ∀ cs, runM nm rows script = some cs → stuckM nm rows cs = true
  len : script.length ≤ 10000
def scriptM (nm : List Nat) (rows : List R3) (r : R6) (W : Nat) : List Stp := (planCarts rows r W).flatMap (stepsTo nm.length)
section
variable {P : Program} {w : World} {K : PySem.W.Frag} {mg : PySem.Str → Option Value} {base : Heap} {CC CW : Addr}
abbrev s__law_script_right : Stmt := topS 94
abbrev N__law_script_right : List PySem.Str := ["_law_web_here", "_law_names_here", "_law_books", "_law_pair", "_law_carts", "_law_script", "_law_ties_here", "_law_step", "_law_easts", "_law_at", "_law_cart"]
theorem sc__law_script_right : FnScope N__law_script_right ["_law_web_here", "_law_names_here", "_law_books", "_law_pair"] (defScope s__law_script_right) := ⟨rfl, rfl, rfl, by decide +kernel, rfl, by decide +kernel, by decide +kernel⟩
def R__law_script_right (CC CW : Addr) : List PP → PP → Prop := fun Ps T => ∃ (nm : List Nat) (rows : List R3) (E W : Nat) (r : R6) (rest : List R6), LR nm rows ∧ E ≤ 1000 ∧ W ≤ 1000 ∧ sticking rows E W = r :: rest ∧ ScriptOk nm rows (scriptM nm rows r W) E W ∧ Ps = [We CC CW nm rows, DL (eNs nm), Fz (KF (bookKV nm rows)), D (eLane (E, W))] ∧ T = DB true
theorem ok__law_script_right (F : Df K mg "_law_script_right" s__law_script_right ["_law_web_here", "_law_names_here", "_law_books", "_law_pair"]) (T : Txt K mg CC CW) (c_line_script : Cal P w K mg base "line_script" ["web", "east", "west"] 9 (spF (R_line_script CC CW))) (c__law_ties : Cal P w K mg base "_law_ties" ["_law_lanes"] 1 (spF R_ties)) (c__law_stepped : Cal P w K mg base "_law_stepped" ["_law_ties_here", "_law_books", "_law_carts", "_law_step"] 3 (spF R__law_stepped)) (c__law_is_stuck : Cal P w K mg base "_law_is_stuck" ["_law_ties_here", "_law_books", "_law_carts"] 4 (spF R__law_is_stuck)) : Cal P w K mg base "_law_script_right" ["_law_web_here", "_law_names_here", "_law_books", "_law_pair"] 10 (spF (R__law_script_right CC CW)) := by
  refine F.ok sc__law_script_right (fun Ps T ⟨_, _, _, _, _, _, _, _, _, _, _, h, _⟩ => by rw [h]; rfl) fun f cdv A outer s H E hr => ⟨_,
    (pss_cons (ps_par (i := 4) (j := 5) (by rfl) sc__law_script_right.nd rfl rfl (by decide) rfl rfl (pa_cons (pe_lst pa_nil) (pa_cons (pe_cal c_line_script (hr.mono (by decide)) rfl (pa_cons (pv 0) (pa_cons (pe_ix ix_seq (pv 3) pe_int (fun _ _ => rfl)) (pa_cons (pe_ix ix_seq (pv 3) pe_int (fun _ _ => rfl)) pa_nil)))) pa_nil)) (by rfl))
      (pss_cons (ps_set (i := 6) sc__law_script_right.nd rfl (.inl rfl) (pe_cal c__law_ties (hr.mono (by decide)) rfl (pa_cons (pe_lc (own := [("_law_at", 9)]) (g := (gName 9)) (tt := tYes) (by rfl) sc__law_script_right.nd (pi_range1 rfl T.range (pa_cons (pe_op op_sub (pe_callB call_len (by rfl) T.len PySem.boot_len (pa_cons (pv 1) pa_nil)) pe_int) pa_nil)) (blkOk_by (own := [("_law_at", 9)]) (N := N__law_script_right) (sc := defScope s__law_script_right) (by decide +kernel)) (fun _ _ _ _ _ => (pg_name (i := 9) sc__law_script_right.nd rfl (by first | exact Or.inl rfl | exact Or.inr rfl))) (fun _ _ _ _ _ => pts_nil) (fun _ _ _ _ _ => (pe_tup (pa_cons (pe_ix (r := rIx K) ix_seq (pv 1) (pv 9) (fun _ _ => rfl)) (pa_cons (pe_ix (r := rIx K) ix_seq (pv 1) (pe_op op_add (pv 9) pe_int) (fun _ _ => rfl)) pa_nil))))) pa_nil)))
      (pss_cons (ps_for PassesOwn.never rfl (pi_list (pv 5)) (pg_name (i := 7) sc__law_script_right.nd rfl (.inl rfl))
        (pss_cons (ps_set (i := 4) sc__law_script_right.nd rfl (.inl rfl) (pe_cal c__law_stepped (hr.mono (by decide)) rfl (pa_cons (pv 6) (pa_cons (pv 2) (pa_cons (pv 4) (pa_cons (pv 7) pa_nil))))))
        (pss_cons (ps_if (pt_cmpR op_isN (pv 4) pe_non (nomark _)) (pss_one (ps_ret pe_bl)) pss_nil)
        (pss_cons (ps_set (i := 8) sc__law_script_right.nd rfl (.inl rfl) (pe_callB call_len (by rfl) T.len PySem.boot_len (pa_cons (pe_lc (own := [("_law_cart", 10)]) (g := (gName 10))  (by rfl) sc__law_script_right.nd (pi_list (pv 4)) (blkOk_by (own := [("_law_cart", 10)]) (N := N__law_script_right) (sc := defScope s__law_script_right) (by decide +kernel)) (fun _ _ _ _ _ => (pg_name (i := 10) sc__law_script_right.nd rfl (by first | exact Or.inl rfl | exact Or.inr rfl))) (fun _ _ _ _ _ => (pts_one (pt_cmpR (r := rEqD K) (op_eqD hr.units) (pe_ix (r := rIx K) ix_seq (pv 10) pe_int (fun _ _ => rfl)) (pe_ix (r := rIx K) ix_seq (pv 1) pe_int (fun _ _ => rfl)) (nomark _)))) (fun _ _ _ _ _ => (pv 10))) pa_nil)))
        (pss_one (ps_if (PW.pt (pw_or (pt_cmpR op_gt (pv 8) (pe_ix ix_seq (pv 3) pe_int (fun _ _ => rfl)) (nomark _)) (pw_or1 (pt_cmpR op_gt (pe_op op_sub (pe_callB call_len (by rfl) T.len PySem.boot_len (pa_cons (pv 4) pa_nil)) (pv 8)) (pe_ix ix_seq (pv 3) pe_int (fun _ _ => rfl)) (nomark _))))) (pss_one (ps_ret pe_bl)) pss_nil))))))
      (pss_one (ps_ret (pe_cal c__law_is_stuck (hr.mono (by decide)) rfl (pa_cons (pv 6) (pa_cons (pv 2) (pa_cons (pv 4) pa_nil))))))))), ?_⟩
  rintro B M0 Ps T' D' ⟨nm, rows, E0, W0, r, rest, h, hE, hW, hst, hs, rfl, rfl⟩ hR _
  have hl := h.L.len
  have hn := h.n
  have nat_ : ∀ i, i < nm.length → L2.atI (eNs nm) ((i : Nat) : Int) = some (eN (at0 nm i)) := fun i hi => atI_n (eNs_get (getD_get 0 hi))
  have vp : ∀ {C : Ct}, Vt C (D (eLane (E0, W0))) [eN E0, eN W0] := vt_d
  have hsT : scriptT nm rows W0 (sticking rows E0 W0) = .list ((scriptM nm rows r W0).map (eStp nm)) := by rw [hst]; rfl
  generalize scriptM nm rows r W0 = script at *
  refine xs_seq (xs_parFP (P := DL (script.map (eStp nm))) (xf_lst [] xa_nil (by decide)) (fun l => (xv_call (xa_cons (xv_var rfl) (xa_cons (xv_op (xv_var rfl) xv_int (ro_ixT vp rfl)) (xa_cons (xv_op (xv_var rfl) xv_int (ro_ixT vp rfl)) xa_nil))) ⟨nm, rows, E0, W0, h, hE, hW, rfl, rfl⟩).dat hsT) fun l => nx_x ?_)
  refine xs_freeze (P := DL []) (k := 0) (i := 4) rfl rfl (fun _ _ p => Fz.lst p) ?_
  refine xs_seq (xs_set (P := DL (eLL (lties nm))) ((xv_call (xa_cons (Xv.dat (Xv.lst (xf_map (ml := []) (items := List.range (nm.length - 1)) 0 (fun i => eLane (at0 nm i, at0 nm (i + 1))) ((XI.len (xi_rng1 (j := ((nm.length - 1 : Nat) : Int)) (XA.eq (xa_cons (xv_op (xv_cb (xa_cons (xv_var rfl) xa_nil) (rc_lenL vl_d)) xv_int ro_i0) xa_nil) ?_) (by omega)) (by rw [List.length_range, Int.toNat_natCast]))) (fun q hq => nomatch hq) (by rw [List.length_range]; omega)
    fun i gl l acc hi => ⟨_, _, xg_name, fun j hj => hj, ?_⟩)) (by rw [← lanesOf_map])) xa_nil) ⟨Mir.lanesOf nm, rfl, h.L.lok, by rw [lanesOf_len]; omega, rfl⟩).eq (by rw [h.L.same])) (nx_x ?_))
  · rw [eNs_len, show ((nm.length : Nat) : Int) - 1 = ((nm.length - 1 : Nat) : Int) by omega]
  · rw [List.length_range] at hi
    rw [range_at hi]
    refine Xv.tup (xf_tup [eN (at0 nm i), eN (at0 nm (i + 1))] (xa_cons (xv_op (xv_var rfl) (xv_var rfl) (ro_ixL vl_d (nat_ i (by omega)))) (xa_cons (xv_op (xv_var rfl) (xv_op (xv_var rfl) xv_int ro_i0) (ro_ixL vl_d ?_)) xa_nil)) (by show 2 ≤ 100000; decide))
    rw [show ((i : Nat) : Int) + 1 = ((i + 1 : Nat) : Int) by omega]
    exact nat_ (i + 1) (by omega)
  let cs : Nat → List Crt := fun i => (runM nm rows (script.take i)).getD []
  have hcs : ∀ i, i ≤ script.length → runM nm rows (script.take i) = some (cs i) ∧ (∀ c ∈ cs i, 1 ≤ c.1 ∧ c.1 ≤ rows.length) ∧ (cs i).length < 64 ∧ ((cs i).filter (·.2)).length ≤ E0 ∧ (cs i).length ≤ W0 + ((cs i).filter (·.2)).length := fun i hi => by
    obtain ⟨c, h1, h2⟩ := hs.run i hi
    have e : cs i = c := by show (runM nm rows (script.take i)).getD [] = c; rw [h1]; rfl
    rw [e]
    exact ⟨h1, h2⟩
  refine xs_seq (xs_for (I := fun i => ⟨B, M0, [], [some (We CC CW nm rows), some (DL (eNs nm)), some (Fz (KF (bookKV nm rows))), some (D (eLane (E0, W0))), some (DL ((cs i).map (eCart nm))), some (DL (script.map (eStp nm))), some (DL (eLL (lties nm))), none, none, none, none], []⟩) (xi_encL (items := script) (none, false) (eStp nm) (xv_var rfl)) (fun _ _ q hq => nomatch hq) (ghs_weak (wk_refl _)) (fun i gl hi => ?_) (nx_x ?_))
  · have hg : script[i]? = some (script.getD i (none, false)) := getD_get _ hi
    obtain ⟨r0, p0, l0, _, _⟩ := hcs i (by omega)
    obtain ⟨r1, p1, l1, ce, cw⟩ := hcs (i + 1) hi
    have hpos := hs.pos _ (List.mem_of_getElem? hg)
    have hstep : stepM nm rows (cs i) (script.getD i (none, false)) = some (cs (i + 1)) := by
      rw [← r1]
      have : script.take (i + 1) = script.take i ++ [script.getD i (none, false)] := by rw [List.take_add_one, hg]; rfl
      rw [this]
      unfold runM at r0 ⊢
      rw [List.foldl_append, r0]
      rfl
    generalize script.getD i (none, false) = st at *
    generalize cs i = c0 at *
    generalize hc1 : cs (i + 1) = c1 at *
    refine xb_mk xg_name (xs_seq (xs_set (P := DL (c1.map (eCart nm))) ((xv_call (xa_cons (xv_var rfl) (xa_cons (xv_var rfl) (xa_cons (xv_var rfl) (xa_cons (xv_var rfl) xa_nil)))) ⟨nm, rows, c0, st, h, fun c hc => by have := p0 c hc; omega, by omega, hpos, rfl, rfl⟩).eq (by rw [hstep]; rfl)) (nx_x ?_)))
    refine xs_seq (xs_no (xt_test (xv_op (xv_var rfl) xv_non ro_isN)) (xs_next (nx_x ?_)))
    refine xs_seq (xs_set (P := DI (((c1.filter (·.2)).length : Nat) : Int)) ((xv_cb (xa_cons (Xv.lst (xf_filter (ml := []) (items := c1) (0, false) (·.2) (eCart nm) (xi_encL (items := c1) (0, false) (eCart nm) (xv_var rfl)) (fun q hq => nomatch hq) (by omega) fun i gl l acc hi => ⟨_, _, xg_name, fun j hj => hj, ?_, fun _ => xv_var rfl⟩)) xa_nil) (rc_lenL vl_d)).dat ?_) (nx_x ?_))
    · generalize c1.getD i (0, false) = c
      have vc : ∀ {C : Ct}, Vt C (D (eCart nm c)) [eN (at0 nm c.1), eN (gS nm c.2), eN (gE nm c.2)] := vt_d
      refine (xt_test (xv_op (xv_op (xv_var rfl) xv_int (ro_ixT vc rfl)) (xv_op (xv_var rfl) xv_int (ro_ixL vl_d (nat_ 0 (by omega)))) (ro_eqD vd_d vd_d (shaped_flat rfl) (shaped_flat rfl)))).eq ?_
      rw [eqv_nat]
      have hne := h.L.gne
      cases z : c.2
      · exact decide_eq_false fun y => hne y.symm
      · exact decide_eq_true rfl
    · rw [List.length_map]
    refine xs_no (XT.eq (xt_or (xt_test (xv_op (xv_var rfl) (xv_op (xv_var rfl) xv_int (ro_ixT vp rfl)) ro_b0)) fun _ => xt_test (xv_op (xv_op (xv_cb (xa_cons (xv_var rfl) xa_nil) (rc_lenL vl_d)) (xv_var rfl) ro_i0) (xv_op (xv_var rfl) xv_int (ro_ixT vp rfl)) ro_b0)) ?_) (xs_next fun σ H e => ?_)
    · rw [List.length_map, Bool.or_eq_false_iff]
      exact ⟨decide_eq_false (by omega), decide_eq_false (by omega)⟩
    · show En (Ct.ghs ⟨B, M0, [], [some (We CC CW nm rows), some (DL (eNs nm)), some (Fz (KF (bookKV nm rows))), some (D (eLane (E0, W0))), some (DL (c1.map (eCart nm))), some (DL (script.map (eStp nm))), some (DL (eLL (lties nm))), none, none, none, none], []⟩ gl) σ H
      exact e.weak (.keep (.keep (.keep (.keep (.keep (.keep (.keep (.drop (.drop (.keep (.keep .nil))))))))))) fun _ z => z
  · obtain ⟨r1, p1, l1, ce, cw⟩ := hcs script.length (Nat.le_refl _)
    rw [List.take_length] at r1
    have hfin := hs.fin _ r1
    exact xs_ret (T := DB true) ((xv_call (xa_cons (xv_var rfl) (xa_cons (xv_var rfl) (xa_cons (xv_var rfl) xa_nil))) ⟨nm, rows, cs script.length, h, p1, l1, rfl, rfl⟩).eq (by rw [hfin])) rfl rfl (fun H v p => p) hR
end
end K74

set_option Elab.async false
set_option linter.all false
set_option maxRecDepth 100000
set_option maxHeartbeats 4000000
namespace K74
open PySem PySem.Spec PyProof.Rows L2
/-! ### what is shown -/
theorem shown_small : ∀ n : Nat, n < 64 → (PyData.shown (.int ((n : Nat) : Int))).length ≤ 8 := by
  have h : (List.range 64).all (fun n => decide ((PyData.shown (.int ((n : Nat) : Int))).length ≤ 8)) = true := by decide +kernel
  intro n hn
  have := List.all_eq_true.mp h n (List.mem_range.mpr hn)
  simpa using this
theorem pairs_shown : ∀ l : List Pr, (∀ p ∈ l, p.1 < 64 ∧ p.2 < 64) → PyData.leavesShortAll 8 (l.map eLane) = true ∧ PyData.bulkAll (l.map eLane) = 3 * l.length ∧ PyData.showableAll (l.map eLane) = true ∧ PyData.hasDictAll (l.map eLane) = false ∧ PyData.depthAll (l.map eLane) ≤ 1
  | [], _ => by simp [PyData.leavesShortAll, PyData.bulkAll, PyData.showableAll, PyData.hasDictAll, PyData.depthAll]
  | p :: r, h => by
    obtain ⟨h1, h2, h3, h4, h5⟩ := pairs_shown r fun q hq => h q (List.mem_cons_of_mem _ hq)
    obtain ⟨b1, b2⟩ := h p List.mem_cons_self
    have s1 := shown_small p.1 b1
    have s2 := shown_small p.2 b2
    have g1 : (((p.1 : Nat) : Int).natAbs).log2 < 1920 := by
      have : (((p.1 : Nat) : Int).natAbs).log2 ≤ ((p.1 : Nat) : Int).natAbs := Nat.log2_le_self _
      omega
    have g2 : (((p.2 : Nat) : Int).natAbs).log2 < 1920 := by
      have : (((p.2 : Nat) : Int).natAbs).log2 ≤ ((p.2 : Nat) : Int).natAbs := Nat.log2_le_self _
      omega
    refine ⟨?_, ?_, ?_, ?_, ?_⟩
    · simp only [List.map_cons, eLane, PyData.leavesShortAll, PyData.leavesShort, h1, decide_eq_true s1, decide_eq_true s2, Bool.and_true]
    · simp only [List.map_cons, eLane, PyData.bulkAll, PyData.bulk, h2, List.length_cons]
      omega
    · simp only [List.map_cons, eLane, PyData.showableAll, PyData.showable, h3, decide_eq_true g1, decide_eq_true g2, Bool.and_true]
    · simp only [List.map_cons, eLane, PyData.hasDictAll, PyData.hasDict, h4, Bool.or_false]
    · simp only [List.map_cons, eLane, PyData.depthAll, PyData.depth]
      omega
theorem pairs_repr {l : List Pr} (h : ∀ p ∈ l, p.1 < 64 ∧ p.2 < 64) (hl : l.length ≤ 1000) : (PyData.list (l.map eLane)).showable = true ∧ (PyData.list (l.map eLane)).hasDict = false ∧ (PyData.list (l.map eLane)).depth ≤ 60 ∧ (PyData.list (l.map eLane)).shown.length ≤ sizeLine := by
  obtain ⟨h1, h2, h3, h4, h5⟩ := pairs_shown l h
  refine ⟨by simp only [PyData.showable, h3], by simp only [PyData.hasDict, h4], by simp only [PyData.depth]; omega, ?_⟩
  have := PyData.shown_le_bulk 8 (Nat.le_refl _) (.list (l.map eLane)) (by simp only [PyData.leavesShort, h1])
  simp only [PyData.bulk, h2] at this
  exact Nat.le_trans this (by show (8 + 2) * (3 * l.length) + 8 ≤ 2 ^ 24; omega)
theorem bools_repr (b : Bool) : (PyData.list [.bool b, .bool b]).showable = true ∧ (PyData.list [.bool b, .bool b]).hasDict = false ∧ (PyData.list [.bool b, .bool b]).depth ≤ 60 ∧ (PyData.list [.bool b, .bool b]).shown.length ≤ sizeLine := by
  refine ⟨by simp [PyData.showable, PyData.showableAll], by simp [PyData.hasDict, PyData.hasDictAll], by simp [PyData.depth, PyData.depthAll], ?_⟩
  have := PyData.shown_le_bulk 8 (Nat.le_refl _) (.list [.bool b, .bool b]) (by simp [PyData.leavesShort, PyData.leavesShortAll])
  simp only [PyData.bulk, PyData.bulkAll] at this
  exact Nat.le_trans this (by decide)
theorem eqv_shaped {d : PyData} (h : SeqAt.shaped d = true) : PyData.eqv d d = true := by
  have h' : (PyData.canLay0 d && decide (PyData.depth d ≤ 64)) = true := h
  rw [Bool.and_eq_true] at h'
  exact SeqAt.eqv_refl_plain _ (PyData.plain_of_canLay0 d h'.1)
theorem eqv_pairs (l : List Pr) : PyData.eqv (.list (l.map eLane)) (.list (l.map eLane)) = true := eqv_shaped (lanes_shaped l)
end K74

set_option Elab.async false
set_option linter.all false
set_option maxRecDepth 100000
set_option maxHeartbeats 4000000
namespace K74
open PySem PySem.Spec PyProof.Rows L2
/-! ### what is wanted of the numbers -/
def pt (rows : List R3) (e w : Nat) : Bool := enoughM rows (e : Int) (w : Int) && (!enoughM rows ((e : Int) - 1) (w : Int) && !enoughM rows (e : Int) ((w : Int) - 1))
def gridRow (rows : List R3) (e j : Nat) : List Pr := ((List.range j).filter fun w => pt rows e w).map fun w => (e, w)
def grid (rows : List R3) (i : Nat) : List Pr := (List.range i).flatMap fun e => gridRow rows e 13
def turnR (r : R3) : R3 := (r.1, r.2.2, r.2.1)
def turnRs (rows : List R3) : List R3 := rows.reverse.map turnR
def swp (p : Pr) : Pr := (p.2, p.1)
structure Math : Prop where
  names : ∀ (p : Pot) (n : Nat), 3 ≤ n → n ≤ 6 → LineOk (namesM p n).1 ∧ (namesM p n).1.length = n
  told : ∀ rows, RowsOk rows → grid rows 13 = (leastP (stickRows rows)).filter fun p => decide (max p.1 p.2 < 13)
  srt : ∀ rows, RowsOk rows → (leastP (stickRows rows)).Pairwise lexLt
  pts : ∀ rows, RowsOk rows → ∀ p ∈ leastP (stickRows rows), pt rows p.1 p.2 = true
  bd : ∀ rows, RowsOk rows → (leastP (stickRows rows)).length < 64 ∧ ∀ p ∈ leastP (stickRows rows), p.1 < 60 ∧ p.2 < 60
  turn : ∀ rows, RowsOk rows → RowsOk (turnRs rows) ∧ (leastP (stickRows (turnRs rows))).Perm ((leastP (stickRows rows)).map swp)
  empty : ∀ rows, RowsOk rows → leastP (stickRows rows) = [] → sticking rows 30 30 = []
  script : ∀ nm rows, LR nm rows → ∀ p ∈ leastP (stickRows rows), ∀ d1 d2, d1 < 3 → d2 < 3 → ∃ r rest, sticking rows (p.1 + d1) (p.2 + d2) = r :: rest ∧ ScriptOk nm rows (scriptM nm rows r (p.2 + d2)) (p.1 + d1) (p.2 + d2)
theorem enough_no {rows : List R3} {E W : Nat} (h : enoughM rows (E : Int) (W : Int) = false) : sticking rows E W = [] := by
  unfold sticking
  rw [List.filter_eq_nil_iff]
  intro r hr
  have := List.any_eq_false.mp h r ((sortK_perm _ _).mem_iff.mp hr)
  exact this
theorem pairs_code {l : List Pr} (hb : ∀ p ∈ l, p.1 < 60 ∧ p.2 < 60) (h : l.Pairwise lexLt) : (l.map lL).Pairwise fun x y => TS.code 64 x ≤ TS.code 64 y := by
  rw [List.pairwise_map]
  refine (h.and (List.pairwise_of_forall_mem_list (r := fun a b => a ∈ l ∧ b ∈ l) fun a ha b hb => ⟨ha, hb⟩)).imp ?_
  rintro ⟨a1, a2⟩ ⟨b1, b2⟩ ⟨z, za, zb⟩
  have q1 := hb _ za
  have q2 := hb _ zb
  unfold lexLt at z
  rw [code2, code2]
  simp only at z q1 q2
  omega
theorem pairs_bd {l : List Pr} (hb : ∀ p ∈ l, p.1 < 60 ∧ p.2 < 60) : ∀ ns ∈ l.map lL, ns.length = 2 ∧ TS.Bd 64 ns := fun ns hns => by
  obtain ⟨q, hq, rfl⟩ := List.mem_map.mp hns
  have := hb q hq
  refine ⟨rfl, fun x hx => ?_⟩
  simp only [lL, List.mem_cons, List.not_mem_nil, or_false] at hx
  omega
theorem ro_neS {C : Ct} {a : PySem.Str} : RO C rNe (D (.str a)) (D (.str a)) (DB false) := fun σ H x y en hx hy Q q => by
  have h1 := Dn.str_inv hx
  have h2 := Dn.str_inv hy
  subst h1 h2
  refine ⟨rfl, ?_⟩
  rw [decide_eq_true rfl]
  exact q _ _ (Same.refl _) (.bl _)
theorem cut_nm {nm : List Nat} (h : 2 ≤ nm.length) : cutP (eNs nm) (some 1) (some (-1)) = eNs ((List.range (nm.length - 2)).map fun j => at0 nm (j + 1)) := by
  have e : nm = (List.range (nm.length - 1 + 1)).map (at0 nm) := by
    apply List.ext_getElem?
    intro i
    rw [List.getElem?_map]
    by_cases hi : i < nm.length
    · rw [List.getElem?_range (by omega), getD_get 0 hi]; rfl
    · rw [List.getElem?_eq_none (by omega), List.getElem?_eq_none (by rw [List.length_range]; omega)]; rfl
  have := cut_in (at0 nm) (nm.length - 1)
  rw [← e] at this
  unfold eNs
  rw [cutP_map, this]
  rfl
def bk2 (nm : List Nat) (rows : List R3) (i : Nat) : List (Int × PyData) := ((yardsOf nm).take i).map fun x => (((x : Nat) : Int), bookD nm rows x)
theorem bk2_put {nm : List Nat} {rows : List R3} {i : Nat} (hi : i < (yardsOf nm).length) : putD (bk2 nm rows i) (((yardsOf nm).getD i 0 : Nat) : Int) (bookD nm rows ((yardsOf nm).getD i 0)) = bk2 nm rows (i + 1) := by
  have hg : (yardsOf nm)[i]? = some ((yardsOf nm).getD i 0) := getD_get 0 hi
  unfold putD
  rw [if_neg]
  · unfold bk2
    rw [List.take_add_one, hg, List.map_append]
    rfl
  · intro z
    obtain ⟨p, hp, e⟩ := List.any_eq_true.mp z
    obtain ⟨x, hx, rfl⟩ := List.mem_map.mp hp
    simp only [decide_eq_true_eq] at e
    obtain ⟨j, hj, ej⟩ := List.getElem_of_mem hx
    rw [List.length_take] at hj
    rw [List.getElem_take] at ej
    have h1 : (yardsOf nm)[j]? = some ((yardsOf nm).getD i 0) := by
      rw [List.getElem?_eq_getElem (by omega), ej]
      exact congrArg some (by omega)
    have := nd_inj (yards_nd nm) h1 hg
    omega
def RtQ (D' : Ends) : Prop := ∀ H', D'.rt (.bl true) H'
theorem xs_retQ {C C1 : Ct} {te : TE} {D' : Ends} (h : Xv C te (DB true) C1) (hr : RtQ D') : Xs C (tRet te) D' := fun σ H e => h.2 σ H e _ fun v H1 s1 e1 p1 => by
  have hv : v = .bl true := Dn.bl_inv p1
  subst hv
  exact hr H1
def sp_right : Sp := fun vs H Q _ => ∃ (l : Addr) (p : Pot), vs = [.ref l] ∧ H l = some (potO p) ∧ PotOk p ∧ ∀ H', Q (.bl true) H'
/-- keywords put in their places -/
def kRev {α : Type} : List α → List α → List α
  | [], zs => zs.reverse
  | _ :: _, _ => []
def kSw {α : Type} : List α → List α → List α
  | [], [a, b, c] => [a, c, b]
  | _, _ => []
def potTurn (p : Pot) : Pot := (drawM (drawM p 10).2 10).2
def potIt : Nat → Pot → Pot
  | 0, p => p
  | n + 1, p => potTurn (potIt n p)
theorem potIt_ok {p : Pot} (h : PotOk p) : ∀ n, PotOk (potIt n p)
  | 0 => h
  | n + 1 => drawM_ok (drawM_ok (potIt_ok h n) _) _
theorem gridRow_succ (rows : List R3) (e j : Nat) : gridRow rows e (j + 1) = gridRow rows e j ++ if pt rows e j then [(e, j)] else [] := by
  unfold gridRow
  rw [List.range_succ, List.filter_append, List.map_append]
  congr 1
  by_cases h : pt rows e j = true
  · simp [h]
  · simp [h]
theorem gridRow_len (rows : List R3) (e j : Nat) : (gridRow rows e j).length ≤ j := by
  unfold gridRow
  rw [List.length_map]
  have := List.length_filter_le (fun w => pt rows e w) (List.range j)
  rw [List.length_range] at this
  exact this
section
variable {P : Program} {w : World} {K : PySem.W.Frag} {mg : PySem.Str → Option Value} {base : Heap} {CC CW : Addr}
abbrev s__law_right : Stmt := topS 95
abbrev N__law_right : List PySem.Str := ["_law_pot_here", "_law_rows_here", "_law_names_here", "_law_web_here", "_law_told", "_law_east", "_law_west", "_law_found", "_law_turn", "_law_is_so", "_law_turned", "_law_books", "_law_yard", "_law_book", "_law_places", "_law_on", "_law_back", "_law_pair"]
theorem sc__law_right : FnScope N__law_right ["_law_pot_here"] (defScope s__law_right) := ⟨rfl, rfl, rfl, by decide +kernel, rfl, by decide +kernel, by decide +kernel⟩
theorem ok__law_right {f : Addr} {fd : FuncData} (F : Fun K "_law_right" "_law_right" s__law_right f fd) (M : Math) (T : Txt K mg CC CW) (ck_can_stick : CalK P w K mg base "can_stick" ["web", "east", "west"] ["west", "east", "web"] kRev 9 (spF (R_can_stick CC CW))) (ck_line_script : CalK P w K mg base "line_script" ["web", "east", "west"] ["web", "west", "east"] kSw 9 (spF (R_line_script CC CW))) (ck_stairs : CalK P w K mg base "stairs" ["web"] ["web"] kRev 9 (spF (R_stairs CC CW)))
    (cp_books : CalP P w K mg base CW "books" 1 (spF (R_wbooks CC CW))) (c__law_draw : Cal P w K mg base "_law_draw" ["_law_pot_here", "_law_many"] 1 (spP R__law_draw)) (c__law_enough : Cal P w K mg base "_law_enough" ["_law_rows_here", "_law_east", "_law_west"] 1 (spF R__law_enough)) (c__law_names : Cal P w K mg base "_law_names" ["_law_pot_here", "_law_many"] 2 (spP R__law_names)) (c__law_pick : Cal P w K mg base "_law_pick" ["_law_pot_here", "_law_some"] 2 (spP R__law_pick)) (c__law_rows : Cal P w K mg base "_law_rows" ["_law_pot_here", "_law_most", "_law_wide"] 2 (spP R__law_rows))
    (c__law_script_right : Cal P w K mg base "_law_script_right" ["_law_web_here", "_law_names_here", "_law_books", "_law_pair"] 10 (spF (R__law_script_right CC CW))) (c__law_web : Cal P w K mg base "_law_web" ["_law_rows_here", "_law_names_here"] 10 (spF (R__law_web CC CW))) (c_can_stick : Cal P w K mg base "can_stick" ["web", "east", "west"] 9 (spF (R_can_stick CC CW))) (c_is_line : Cal P w K mg base "is_line" ["web"] 8 (spF (R_are_bounded CC CW))) (c_line_script : Cal P w K mg base "line_script" ["web", "east", "west"] 9 (spF (R_line_script CC CW))) (c_stairs : Cal P w K mg base "stairs" ["web"] 9 (spF (R_stairs CC CW))) :
    FnG P w K mg base 11 f ["_law_pot_here"] fd sp_right := by
  refine FnG.of F sc__law_right (fun vs H Q E ⟨l, p, h, _⟩ => by rw [h]; rfl) fun cdv A outer s H E hgd0 hr => ?_
  have hgd : (A.deeper (envOfC "_law_right" (defScope s__law_right) s.heap.objs.size f cdv)).guards = some [] := hgd0
  refine ⟨_,
    PSs.nox (pss_cons (ps_set (i := 1) sc__law_right.nd rfl (.inr rfl) (pe_cal c__law_rows (hr.mono (by decide)) rfl (pa_cons (pv 0) (pa_cons pe_int (pa_cons pe_int pa_nil)))))
      (pss_cons (ps_set (i := 2) sc__law_right.nd rfl (.inl rfl) (pe_cal c__law_names (hr.mono (by decide)) rfl (pa_cons (pv 0) (pa_cons (pe_op op_add (pe_callB call_len (by rfl) T.len PySem.boot_len (pa_cons (pv 1) pa_nil)) pe_int) pa_nil))))
      (pss_cons (ps_par (i := 3) (j := 4) (by rfl) sc__law_right.nd rfl rfl (by decide) rfl rfl (pa_cons (pe_cal c__law_web (hr.mono (by decide)) rfl (pa_cons (pv 1) (pa_cons (pv 2) pa_nil))) (pa_cons (pe_lst pa_nil) pa_nil)) (by rfl))
      (pss_cons (ps_for PassesOwn.never rfl (pi_range1 rfl T.range (pa_cons pe_int pa_nil)) (pg_name (i := 5) sc__law_right.nd rfl (.inl rfl))
        (pss_one (ps_for PassesOwn.never rfl (pi_range1 rfl T.range (pa_cons pe_int pa_nil)) (pg_name (i := 6) sc__law_right.nd rfl (.inl rfl))
          (pss_one (ps_if (PW.pt (pw_and (pt_val (pe_cal c__law_enough (hr.mono (by decide)) rfl (pa_cons (pv 1) (pa_cons (pv 5) (pa_cons (pv 6) pa_nil))))) (pw_and (pt_not (pt_val (pe_cal c__law_enough (hr.mono (by decide)) rfl (pa_cons (pv 1) (pa_cons (pe_op op_sub (pv 5) pe_int) (pa_cons (pv 6) pa_nil)))))) (pw_and1 (pt_not (pt_val (pe_cal c__law_enough (hr.mono (by decide)) rfl (pa_cons (pv 1) (pa_cons (pv 5) (pa_cons (pe_op op_sub (pv 6) pe_int) pa_nil)))))))))) (pss_one (ps_expr (pe_bm PySem.F.plainAttrs_list PySem.F.slot_list_append PySem.F.type_list_append mt_append (pv 4) (pa_cons (pe_tup (pa_cons (pv 5) (pa_cons (pv 6) pa_nil))) pa_nil)))) pss_nil)))))
      (pss_cons (ps_set (i := 7) sc__law_right.nd rfl (.inl rfl) (pe_calK ck_stairs (hr.mono (by decide)) rfl (pk_cons (pv 3) pk_nil)))
      (pss_cons (ps_if (PW.pt (pw_or (pt_cmpR op_notBl (pe_cal c_is_line (hr.mono (by decide)) rfl (pa_cons (pv 3) pa_nil)) pe_bl (nomark _)) (pw_or (pt_cmpR op_ne (pe_callB (cr_reprD hgd hr.units) (by rfl) T.repr boot_repr (pa_cons (pe_lc (own := [("_law_pair", 17)]) (g := (gName 17))  (by rfl) sc__law_right.nd (pi_list (pv 7)) (blkOk_by (own := [("_law_pair", 17)]) (N := N__law_right) (sc := defScope s__law_right) (by decide +kernel)) (fun _ _ _ _ _ => (pg_name (i := 17) sc__law_right.nd rfl (by first | exact Or.inl rfl | exact Or.inr rfl))) (fun _ _ _ _ _ => (pts_one (pt_cmpR op_lt (pe_callB (r := rMaxT K) (cr_maxT rfl) (by rfl) T.max boot_max (pa_cons (pv 17) pa_nil)) pe_int (nomark _)))) (fun _ _ _ _ _ => (pv 17))) pa_nil)) (pe_callB (cr_reprD hgd hr.units) (by rfl) T.repr boot_repr (pa_cons (pv 4) pa_nil)) (nomark _)) (pw_or1 (pt_cmpR (op_neD hr.units) (pv 7) (pe_callB (cr_sortT (d := 2) (B := 64) (by decide)) (by rfl) T.sorted boot_sorted (pa_cons (pv 7) pa_nil)) (nomark _)))))) (pss_one (ps_ret pe_bl)) pss_nil)
      (pss_cons (ps_if (pt_not (pt_val (pe_callB (cr_all rfl) (by rfl) T.all boot_all (pa_cons (pe_lc (own := [("_law_east", 5), ("_law_west", 6)]) (g := (gTup K 2 (gCons (gName 5) (gCons (gName 6) gNil)))) (tt := tYes) (by rfl) sc__law_right.nd (pi_list (pv 7)) (blkOk_by (own := [("_law_east", 5), ("_law_west", 6)]) (N := N__law_right) (sc := defScope s__law_right) (by decide +kernel)) (fun _ _ _ _ _ => (pg_tup rfl (pgs_cons (pg_name (i := 5) sc__law_right.nd rfl (by first | exact Or.inl rfl | exact Or.inr rfl)) (pgs_cons (pg_name (i := 6) sc__law_right.nd rfl (by first | exact Or.inl rfl | exact Or.inr rfl)) pgs_nil)))) (fun _ _ _ _ _ => pts_nil) (fun _ _ _ _ _ => (pe_and (pe_cal c__law_enough (hr.mono (by decide)) rfl (pa_cons (pv 1) (pa_cons (pv 5) (pa_cons (pv 6) pa_nil)))) (pe_and (pe_not (pe_cal c__law_enough (hr.mono (by decide)) rfl (pa_cons (pv 1) (pa_cons (pe_op op_sub (pv 5) pe_int) (pa_cons (pv 6) pa_nil))))) (pe_one (pe_not (pe_cal c__law_enough (hr.mono (by decide)) rfl (pa_cons (pv 1) (pa_cons (pv 5) (pa_cons (pe_op op_sub (pv 6) pe_int) pa_nil)))))))))) pa_nil)))) (pss_one (ps_ret pe_bl)) pss_nil)
      (pss_cons (ps_for PassesOwn.never rfl (pi_range1 rfl T.range (pa_cons pe_int pa_nil)) (pg_name (i := 8) sc__law_right.nd rfl (.inl rfl))
        (pss_cons (ps_par (i := 5) (j := 6) (by rfl) sc__law_right.nd rfl rfl (by decide) rfl rfl (pa_cons (pe_cal c__law_draw (hr.mono (by decide)) rfl (pa_cons (pv 0) (pa_cons pe_int pa_nil))) (pa_cons (pe_cal c__law_draw (hr.mono (by decide)) rfl (pa_cons (pv 0) (pa_cons pe_int pa_nil))) pa_nil)) (by rfl))
        (pss_cons (ps_set (i := 9) sc__law_right.nd rfl (.inl rfl) (pe_cal c__law_enough (hr.mono (by decide)) rfl (pa_cons (pv 1) (pa_cons (pv 5) (pa_cons (pv 6) pa_nil)))))
        (pss_cons (ps_if (pt_cmpR op_ne (pe_callB (cr_reprD hgd hr.units) (by rfl) T.repr boot_repr (pa_cons (pe_lst (pa_cons (pe_cal c_can_stick (hr.mono (by decide)) rfl (pa_cons (pv 3) (pa_cons (pv 5) (pa_cons (pv 6) pa_nil)))) (pa_cons (pe_calK ck_can_stick (hr.mono (by decide)) rfl (pk_cons (pv 6) (pk_cons (pv 5) (pk_cons (pv 3) pk_nil)))) pa_nil))) pa_nil)) (pe_callB (cr_reprD hgd hr.units) (by rfl) T.repr boot_repr (pa_cons (pe_lst (pa_cons (pv 9) (pa_cons (pv 9) pa_nil))) pa_nil)) (nomark _)) (pss_one (ps_ret pe_bl)) pss_nil)
        (pss_one (ps_if (PW.pt (pw_and (pt_not (pt_val (pv 9))) (pw_and1 (pt_cmpR op_notN (pe_calK ck_line_script (hr.mono (by decide)) rfl (pk_cons (pv 3) (pk_cons (pv 6) (pk_cons (pv 5) pk_nil)))) pe_non (nomark _))))) (pss_one (ps_ret pe_bl)) pss_nil))))))
      (pss_cons (ps_setLc (i := 10) (own := [("_law_places", 14), ("_law_on", 15), ("_law_back", 16)]) (g := (gTup K 3 (gCons (gName 14) (gCons (gName 15) (gCons (gName 16) gNil))))) (tt := tYes) (by rfl) sc__law_right.nd rfl rfl (sw_true rfl rfl rfl (by decide +kernel)) (pi_list (pe_revL (pv 1))) (blkOk_by (own := [("_law_places", 14), ("_law_on", 15), ("_law_back", 16)]) (N := N__law_right) (sc := defScope s__law_right) (by decide +kernel)) (fun _ _ _ _ _ => (pg_tup rfl (pgs_cons (pg_name (i := 14) sc__law_right.nd rfl (by first | exact Or.inl rfl | exact Or.inr rfl)) (pgs_cons (pg_name (i := 15) sc__law_right.nd rfl (by first | exact Or.inl rfl | exact Or.inr rfl)) (pgs_cons (pg_name (i := 16) sc__law_right.nd rfl (by first | exact Or.inl rfl | exact Or.inr rfl)) pgs_nil))))) (fun _ _ _ _ _ => pts_nil) (fun _ _ _ _ _ => (pe_tup (pa_cons (pv 14) (pa_cons (pv 16) (pa_cons (pv 15) pa_nil))))))
      (pss_cons (ps_if (pt_cmpR (op_neD hr.units) (pe_cal c_stairs (hr.mono (by decide)) rfl (pa_cons (pe_cal c__law_web (hr.mono (by decide)) rfl (pa_cons (pv 10) (pa_cons (pv 2) pa_nil))) pa_nil)) (pe_callB (cr_sortT (d := 2) (B := 64) (by decide)) (by rfl) T.sorted boot_sorted (pa_cons (pe_lc (own := [("_law_east", 5), ("_law_west", 6)]) (g := (gTup K 2 (gCons (gName 5) (gCons (gName 6) gNil)))) (tt := tYes) (by rfl) sc__law_right.nd (pi_list (pv 7)) (blkOk_by (own := [("_law_east", 5), ("_law_west", 6)]) (N := N__law_right) (sc := defScope s__law_right) (by decide +kernel)) (fun _ _ _ _ _ => (pg_tup rfl (pgs_cons (pg_name (i := 5) sc__law_right.nd rfl (by first | exact Or.inl rfl | exact Or.inr rfl)) (pgs_cons (pg_name (i := 6) sc__law_right.nd rfl (by first | exact Or.inl rfl | exact Or.inr rfl)) pgs_nil)))) (fun _ _ _ _ _ => pts_nil) (fun _ _ _ _ _ => (pe_tup (pa_cons (pv 6) (pa_cons (pv 5) pa_nil))))) pa_nil)) (nomark _)) (pss_one (ps_ret pe_bl)) pss_nil)
      (pss_cons (ps_set (i := 11) sc__law_right.nd rfl (.inl rfl) pe_dnewK)
      (pss_cons (ps_for PassesOwn.never rfl (pi_zip rfl T.zip (pa_cons (pe_callB cr_sortedI (by rfl) T.sorted boot_sorted (pa_cons (pe_slice sl_list (pv 2) (po_some pe_int) (po_some (pe_un un_neg pe_int))) pa_nil)) (pa_cons (pe_pr cp_books T.cW (hr.mono (by decide)) (pv 3)) pa_nil))) (pg_tup rfl (pgs_cons (pg_name (i := 12) sc__law_right.nd rfl (.inl rfl)) (pgs_cons (pg_name (i := 13) sc__law_right.nd rfl (.inl rfl)) pgs_nil)))
        (pss_one (ps_dput (hu_of hr) (pv 11) (pv 12) (pv 13) rfl)))
      (pss_cons (ps_if (pt_cmpR (op_eqD hr.units) (pv 7) (pe_lst pa_nil) (nomark _)) (pss_one (ps_ret (pe_cmpR op_isN (pe_cal c_line_script (hr.mono (by decide)) rfl (pa_cons (pv 3) (pa_cons pe_int (pa_cons pe_int pa_nil)))) pe_non (nomark _)))) pss_nil)
      (pss_cons (ps_asg (pe_cal c__law_pick (hr.mono (by decide)) rfl (pa_cons (pv 0) (pa_cons (pv 7) pa_nil))) (pg_tup rfl (pgs_cons (pg_name (i := 5) sc__law_right.nd rfl (.inl rfl)) (pgs_cons (pg_name (i := 6) sc__law_right.nd rfl (.inl rfl)) pgs_nil))))
      (pss_one (ps_ret (pe_cal c__law_script_right (hr.mono (by decide)) rfl (pa_cons (pv 3) (pa_cons (pv 2) (pa_cons (pv 11) (pa_cons (pe_tup (pa_cons (pe_op op_add (pv 5) (pe_cal c__law_draw (hr.mono (by decide)) rfl (pa_cons (pv 0) (pa_cons pe_int pa_nil)))) (pa_cons (pe_op op_add (pv 6) (pe_cal c__law_draw (hr.mono (by decide)) rfl (pa_cons (pv 0) (pa_cons pe_int pa_nil)))) pa_nil))) pa_nil))))))))))))))))))))), ?_⟩
  rintro vs Q ⟨l, p, rfl, ho, hp, hq⟩
  have hR : RtQ { nx := fun _ H' => Q .non H', rt := Q } := hq
  generalize ({ nx := fun _ H' => Q .non H', rt := Q } : Ends) = D' at *
  have en : En ⟨hid [l] H, [], [(l, LF (potD p))], [some (Rf l), none, none, none, none, none, none, none, none, none, none, none, none, none, none, none, none, none], []⟩ (L2.start N__law_right [.ref l]) H := by
    have e := en_start (N := N__law_right) (M0 := [l]) (Ps := [Rf l]) (vs := [.ref l]) (H := H) (fun m hm => by rw [List.mem_singleton.mp hm]; exact ⟨_, ho⟩) (.cons (P := Rf l) rfl .nil)
    exact ⟨e.len, e.sl, (fun q hq => nomatch hq), fun q hq => by rw [List.mem_singleton.mp hq]; exact ⟨_, ho, pot_mk _ _⟩, by simp, fun a ha => by
      have : a = l := by simpa using ha
      subst this
      exact ⟨hid_in List.mem_cons_self, List.not_mem_nil⟩, (fun m hm => nomatch hm), hid_same⟩
  refine (?_ : Xs _ _ D') _ H en
  generalize hid [l] H = B
  -- rows and names
  refine xs_seq (xs_set (xv_pot (k := 0) (p := p) (p' := (rowsM p).2) (xa_cons (xv_var rfl) (xa_cons xv_int (xa_cons xv_int xa_nil))) rfl ⟨hp, rfl, rfl, rfl⟩) (nx_x ?_))
  have hrows := rowsM_ok p
  have hp1 := rowsM_pot hp
  generalize (rowsM p).2 = p1 at *
  generalize (rowsM p).1 = rows at *
  have hrl := hrows.len
  have hbd3 : bd3 rows := fun r hr => by have := hrows.bd r hr; omega
  obtain ⟨hL, hnl⟩ := M.names p1 (rows.length + 2) (by omega) (by omega)
  refine xs_seq (xs_set (xv_pot (k := 0) (p := p1) (p' := (namesM p1 (rows.length + 2)).2) (xa_cons (xv_var rfl) (XA.eq (xa_cons (xv_op (xv_cb (xa_cons (xv_var rfl) xa_nil) (rc_lenL vl_d)) xv_int ro_i0) xa_nil) (by rw [List.length_map, show ((rows.length : Nat) : Int) + 2 = ((rows.length + 2 : Nat) : Int) by omega]))) rfl ⟨rows.length + 2, hp1, by omega, by omega, rfl, rfl, rfl⟩) (nx_x ?_))
  have hp2 : PotOk (namesM p1 (rows.length + 2)).2 := nameIt_ok _ hp1
  generalize (namesM p1 (rows.length + 2)).2 = p2 at *
  generalize (namesM p1 (rows.length + 2)).1 = nm at *
  have h : LR nm rows := ⟨hL, hrows, hnl⟩
  have hsrt := M.srt rows hrows
  have htold := M.told rows hrows
  have hpts := M.pts rows hrows
  obtain ⟨hfl, hfb⟩ := M.bd rows hrows
  obtain ⟨htr, htp⟩ := M.turn rows hrows
  have hemp := M.empty rows hrows
  have hscr := M.script nm rows h
  generalize hfo : leastP (stickRows rows) = fo at *
  -- the told pairs
  refine xs_seq (xs_parPF (xv_call (xa_cons (xv_var rfl) (xa_cons (xv_var rfl) xa_nil)) ⟨nm, rows, h, rfl, rfl⟩) (xf_lst [] xa_nil (by decide)) fun lt => nx_x ?_)
  have enT : ∀ {C C1 : Ct} {t : TA} {E : XK} {e w : Int}, XA C t [DL (rows.map eR), DI e, DI w] C1 → Xv C (tCall (spF R__law_enough) [] E t) (DB (enoughM rows e w)) C1 := fun hx => xv_call hx ⟨rows, _, _, by omega, hbd3, rfl, rfl⟩
  let ds1 : List (Option PP) := [some (Rf l), some (DL (rows.map eR)), some (DL (eNs nm)), some (We CC CW nm rows), some (Rf lt), none, none, none, none, none, none, none, none, none, none, none, none, none]
  refine xs_seq (xs_for (n := 13) (I := fun i => ⟨B, [], [(lt, LF ((grid rows i).map eLane)), (l, LF (potD p2))], ds1, []⟩) ((xi_rng1 (j := 13) (xa_cons xv_int xa_nil) (by decide)).len rfl) (fun _ _ q hq => nomatch hq) (ghs_weak (wk_refl _)) (fun i gl hi => ?_) (nx_x ?_))
  · refine xb_mk xg_name ?_
    have hgl : (grid rows i).length ≤ 13 * 13 := Nat.le_trans (flatMap_len _ 13 (fun e => gridRow_len rows e 13) i) (Nat.mul_le_mul_right _ (by omega))
    let ds2 : List (Option PP) := [some (Rf l), some (DL (rows.map eR)), some (DL (eNs nm)), some (We CC CW nm rows), some (Rf lt), some (DI (i : Nat)), none, none, none, none, none, none, none, none, none, none, none, none]
    refine xs_for (n := 13) (I := fun j => ⟨B, [], [(lt, LF ((grid rows i ++ gridRow rows i j).map eLane)), (l, LF (potD p2))], ds2, gl⟩) ((xi_rng1 (j := 13) (xa_cons xv_int xa_nil) (by decide)).len rfl) (fun _ _ q hq => nomatch hq) (fun gl2 σ H e => ?_) (fun j gl2 hj => ?_) (fun σ H e => ?_)
    · show En ⟨B, [], [(lt, LF ((grid rows i ++ gridRow rows i 0).map eLane)), (l, LF (potD p2))], ds2, gl2 ++ gl⟩ σ H
      rw [show gridRow rows i 0 = [] from rfl, List.append_nil]
      exact e.weak (wk_refl _) fun p hp => by
        rcases List.mem_append.mp hp with z | z
        · exact List.mem_append_left _ z
        · exact List.mem_append_right _ (List.mem_append_left _ z)
    · have hrl2 := gridRow_len rows i j
      refine xb_mk xg_name (xs_if (b := pt rows i j) (xt_and (xt_b (enT (xa_cons (xv_var rfl) (xa_cons (xv_var rfl) (xa_cons (xv_var rfl) xa_nil))))) fun _ => xt_and (xt_not (xt_b (enT (xa_cons (xv_var rfl) (xa_cons (xv_op (xv_var rfl) xv_int ro_i0) (xa_cons (xv_var rfl) xa_nil)))))) fun _ => xt_not (xt_b (enT (xa_cons (xv_var rfl) (xa_cons (xv_var rfl) (xa_cons (xv_op (xv_var rfl) xv_int ro_i0) xa_nil)))))) (fun hb => ?_) fun hb => ?_)
      · refine xs_drop (xv_app (k := 0) (d := eLane (i, j)) (xv_var rfl) (Xv.tup (xf_tup [eN i, eN j] (xa_cons (xv_var rfl) (xa_cons (xv_var rfl) xa_nil)) (by show 2 ≤ 100000; decide))) rfl rfl (by rw [List.length_map, List.length_append]; omega)) fun σ H e => ?_
        show En (Ct.ghs ⟨B, [], [(lt, LF ((grid rows i ++ gridRow rows i (j + 1)).map eLane)), (l, LF (potD p2))], ds2, gl⟩ gl2) σ H
        rw [gridRow_succ, if_pos hb, ← List.append_assoc, List.map_append (l₁ := grid rows i ++ gridRow rows i j)]
        exact e.weak (.keep (.keep (.keep (.keep (.keep (.keep (.drop (.keep (.keep (.keep (.keep (.keep (.keep (.keep (.keep (.keep (.keep (.keep .nil)))))))))))))))))) fun _ z => z
      · refine xs_next fun σ H e => ?_
        show En (Ct.ghs ⟨B, [], [(lt, LF ((grid rows i ++ gridRow rows i (j + 1)).map eLane)), (l, LF (potD p2))], ds2, gl⟩ gl2) σ H
        rw [gridRow_succ, if_neg (by rw [hb]; decide), List.append_nil]
        exact e.weak (.keep (.keep (.keep (.keep (.keep (.keep (.drop (.keep (.keep (.keep (.keep (.keep (.keep (.keep (.keep (.keep (.keep (.keep .nil)))))))))))))))))) fun _ z => z
    · show En ⟨B, [], [(lt, LF ((grid rows (i + 1)).map eLane)), (l, LF (potD p2))], ds1, gl ++ []⟩ σ H
      have e1 : grid rows (i + 1) = grid rows i ++ gridRow rows i 13 := by unfold grid; rw [flatMap_succ]
      rw [e1]
      exact e.weak (.keep (.keep (.keep (.keep (.keep (.drop (.keep (.keep (.keep (.keep (.keep (.keep (.keep (.keep (.keep (.keep (.keep (.keep .nil)))))))))))))))))) fun p hp => by simpa using hp
  rw [htold]
  -- the stairs
  refine xs_seq (xs_set (P := DL (fo.map eLane)) ((xv_callK (Ps' := [We CC CW nm rows]) (xa_cons (xv_var rfl) xa_nil) (fun H vs hv => by obtain ⟨v, rfl, q⟩ := hv.one_inv; exact .cons q .nil) ⟨nm, rows, h, rfl, rfl⟩).eq (by rw [hfo])) (nx_x ?_))
  have hb13 : ∀ q ∈ fo.filter (fun p => decide (max p.1 p.2 < 13)), q.1 < 64 ∧ q.2 < 64 := fun q hq => by have := hfb q (List.mem_filter.mp hq).1; omega
  have hl13 : (fo.filter fun p => decide (max p.1 p.2 < 13)).length ≤ 1000 := by have := List.length_filter_le (fun p : Pr => decide (max p.1 p.2 < 13)) fo; omega
  obtain ⟨s1, s2, s3, s4⟩ := pairs_repr hb13 hl13
  refine xs_seq (xs_no (XT.eq (xt_or (xt_test (xv_op (xv_call (xa_cons (xv_var rfl) xa_nil) ⟨nm, rows, h, rfl, rfl⟩) xv_bl ro_notBl)) fun _ =>
    xt_or (xt_test (xv_op (xv_cb (xa_cons (Xv.lst (xf_filter (ml := []) (items := fo) (0, 0) (fun p => decide (max p.1 p.2 < 13)) eLane (xi_encL (items := fo) (0, 0) eLane (xv_var rfl)) (fun q hq => nomatch hq) (by omega) fun i gl l acc hi => ⟨_, _, xg_name, fun j hj => hj, ?_, fun _ => xv_var rfl⟩)) xa_nil) (rc_reprD vl_d s1 s2 s3 s4)) (xv_cb (xa_cons (xv_var rfl) xa_nil) (rc_reprD (vl_r (k := 0) rfl) s1 s2 s3 s4)) ro_neS)) fun _ =>
    xt_test (xv_op (xv_var rfl) (Xv.lst ((xf_cb (xa_cons (xv_var rfl) xa_nil) (rcf_sortT (items := fo.map lL) (ms := fo.map lL) (by rw [← lanes_eT]; exact vl_d) (by rw [List.length_map]; exact hfl) (pairs_bd hfb) (sort_code (pairs_bd hfb) (.refl _) (pairs_code hfb hsrt)))).conv fun H v p => by rw [lanes_eT]; exact p)) (ro_neD vd_d vd_d (lanes_shaped fo) (lanes_shaped fo)))) ?_) (xs_next (nx_x ?_)))
  · generalize fo.getD i (0, 0) = q
    refine (xt_test (xv_op (xv_cb (xa_cons (xv_var rfl) xa_nil) (rc_maxT (ns := [((q.1 : Nat) : Int), ((q.2 : Nat) : Int)]) (m := ((max q.1 q.2 : Nat) : Int)) (fun k hk hm => ?_) Nat.two_pos)) xv_int ro_b0)).eq ?_
    · have h1 := hm ((q.1 : Nat) : Int) (by simp)
      have h2 := hm ((q.2 : Nat) : Int) (by simp)
      simp only [List.mem_cons, List.not_mem_nil, or_false] at hk
      omega
    · rw [decide_eq_decide]; omega
  · rw [eqv_pairs]
    rfl
  refine xs_seq (xs_no ((xt_not (xt_b (xv_cb (xa_cons (Xv.lst (xf_mapB (ml := []) (items := fo) (0, 0) (fun q => pt rows q.1 q.2) (xi_encL (items := fo) (0, 0) eLane (xv_var rfl)) (fun q hq => nomatch hq) (by omega) fun i gl l acc hi => ⟨_, _, xg_tup (ds := [eN (fo.getD i (0, 0)).1, eN (fo.getD i (0, 0)).2]) (xgs_cons xg_name (xgs_cons xg_name xgs_nil)) rfl, fun j hj => hj,
    xv_and (enT (xa_cons (xv_var rfl) (xa_cons (xv_var rfl) (xa_cons (xv_var rfl) xa_nil)))) fun _ => xv_and (xv_not (enT (xa_cons (xv_var rfl) (xa_cons (xv_op (xv_var rfl) xv_int ro_i0) (xa_cons (xv_var rfl) xa_nil))))) fun _ => xv_not (enT (xa_cons (xv_var rfl) (xa_cons (xv_var rfl) (xa_cons (xv_op (xv_var rfl) xv_int ro_i0) xa_nil))))⟩)) xa_nil) (rc_all vl_d)))).eq (by rw [all_id, List.all_eq_true.mpr fun q hq => hpts q hq]; rfl)) (xs_next (nx_x ?_)))
  -- three turns
  let ds3 : List (Option PP) := [some (Rf l), some (DL (rows.map eR)), some (DL (eNs nm)), some (We CC CW nm rows), some (Rf lt), none, none, some (DL (fo.map eLane)), none, none, none, none, none, none, none, none, none, none]
  refine xs_seq (xs_for (n := 3) (I := fun i => ⟨B, [], [(lt, LF ((fo.filter fun p => decide (max p.1 p.2 < 13)).map eLane)), (l, LF (potD (potIt i p2)))], ds3, []⟩) ((xi_rng1 (j := 3) (xa_cons xv_int xa_nil) (by decide)).len rfl) (fun _ _ q hq => nomatch hq) (ghs_weak (wk_refl _)) (fun i gl hi => ?_) (nx_x ?_))
  · have hpi := potIt_ok hp2 i
    have ei : potIt (i + 1) p2 = (drawM (drawM (potIt i p2) 10).2 10).2 := rfl
    rw [ei]
    generalize potIt i p2 = q at *
    have b1 := drawM_lt q (m := 10) (by decide)
    have b2 := drawM_lt (drawM q 10).2 (m := 10) (by decide)
    refine xb_mk xg_name (xs_seq (xs_par (xa_cons (xv_pot (k := 1) (p := q) (p' := (drawM q 10).2) (xa_cons (xv_var rfl) (xa_cons xv_int xa_nil)) rfl ⟨10, hpi, by decide, by decide, rfl, rfl, rfl⟩) (xa_cons (xv_pot (k := 1) (p := (drawM q 10).2) (p' := (drawM (drawM q 10).2 10).2) (xa_cons (xv_var rfl) (xa_cons xv_int xa_nil)) rfl ⟨10, drawM_ok hpi _, by decide, by decide, rfl, rfl, rfl⟩) xa_nil)) (nx_x ?_)))
    generalize (drawM q 10).1 = dE at *
    generalize (drawM (drawM q 10).2 10).1 = dW at *
    refine xs_seq (xs_set (enT (xa_cons (xv_var rfl) (xa_cons (xv_var rfl) (xa_cons (xv_var rfl) xa_nil)))) (nx_x ?_))
    obtain ⟨r1, r2, r3, r4⟩ := bools_repr (enoughM rows (dE : Int) (dW : Int))
    refine xs_seq (xs_no (xt_test (xv_op (xv_cb (xa_cons (Xv.lst (xf_lst [.bool (enoughM rows (dE : Int) (dW : Int)), .bool (enoughM rows (dE : Int) (dW : Int))] (xa_cons (xv_call (xa_cons (xv_var rfl) (xa_cons (xv_var rfl) (xa_cons (xv_var rfl) xa_nil))) ⟨nm, rows, dE, dW, h, rfl, rfl⟩) (xa_cons (xv_callK (Ps' := [We CC CW nm rows, DI (dE : Nat), DI (dW : Nat)]) (xa_cons (xv_var rfl) (xa_cons (xv_var rfl) (xa_cons (xv_var rfl) xa_nil))) (fun H vs hv => by obtain ⟨a, b, c, rfl, q1, q2, q3⟩ := hv.three_inv; exact .cons q3 (.cons q2 (.cons q1 .nil))) ⟨nm, rows, dE, dW, h, rfl, rfl⟩) xa_nil)) (by show 2 ≤ 100000; decide))) xa_nil) (rc_reprD vl_d r1 r2 r3 r4))
      (xv_cb (xa_cons (Xv.lst (xf_lst [.bool (enoughM rows (dE : Int) (dW : Int)), .bool (enoughM rows (dE : Int) (dW : Int))] (xa_cons (xv_var rfl) (xa_cons (xv_var rfl) xa_nil)) (by show 2 ≤ 100000; decide))) xa_nil) (rc_reprD vl_d r1 r2 r3 r4)) ro_neS)) (xs_next (nx_x ?_)))
    refine xs_no (XT.eq (xt_and (xt_not (xt_b (xv_var rfl))) fun _ => xt_test (xv_op (xv_callK (Ps' := [We CC CW nm rows, DI (dE : Nat), DI (dW : Nat)]) (xa_cons (xv_var rfl) (xa_cons (xv_var rfl) (xa_cons (xv_var rfl) xa_nil))) (fun H vs hv => by obtain ⟨a, b, c, rfl, q1, q2, q3⟩ := hv.three_inv; exact .cons q1 (.cons q3 (.cons q2 .nil))) ⟨nm, rows, dE, dW, h, by omega, by omega, rfl, rfl⟩) xv_non ro_notN)) ?_) (xs_next fun σ H e => ?_)
    · cases z : enoughM rows (dE : Int) (dW : Int) with
      | true => rfl
      | false => rw [enough_no z]; rfl
    · exact e.weak (.keep (.keep (.keep (.keep (.keep (.drop (.drop (.keep (.drop (.drop (.keep (.keep (.keep (.keep (.keep (.keep (.keep (.keep .nil)))))))))))))))))) fun _ z => z
  have hp3 : PotOk (potIt 3 p2) := potIt_ok hp2 3
  generalize potIt 3 p2 = p3 at *
  -- the other end
  refine xs_seq (xs_set (P := DL ((turnRs rows).map eR)) (Xv.dat (Xv.lst (xf_map (ml := []) (items := rows.reverse) (0, 0, 0) (fun r => eR (turnR r)) (xi_encL (items := rows.reverse) (0, 0, 0) eR ((Xv.lst (xf_rev (xv_var rfl) vl_d)).dat (by rw [List.map_reverse]))) (fun q hq => nomatch hq) (by rw [List.length_reverse]; omega)
    fun i gl l acc hi => ⟨_, _, xg_tup (ds := [eN (rows.reverse.getD i (0, 0, 0)).1, eN (rows.reverse.getD i (0, 0, 0)).2.1, eN (rows.reverse.getD i (0, 0, 0)).2.2]) (xgs_cons xg_name (xgs_cons xg_name (xgs_cons xg_name xgs_nil))) rfl, fun j hj => hj,
      Xv.tup (xf_tup [eN (rows.reverse.getD i (0, 0, 0)).1, eN (rows.reverse.getD i (0, 0, 0)).2.2, eN (rows.reverse.getD i (0, 0, 0)).2.1] (xa_cons (xv_var rfl) (xa_cons (xv_var rfl) (xa_cons (xv_var rfl) xa_nil))) (by show 3 ≤ 100000; decide))⟩)) (by unfold turnRs; rw [List.map_map]; rfl)) (nx_x ?_))
  have h2 : LR nm (turnRs rows) := ⟨hL, htr, by unfold turnRs; rw [List.length_map, List.length_reverse]; exact hnl⟩
  obtain ⟨hfl2, hfb2⟩ := M.bd _ htr
  have hsrt2 := M.srt _ htr
  generalize hfo2 : leastP (stickRows (turnRs rows)) = fo2 at *
  have hfbs : ∀ q ∈ fo.map swp, q.1 < 60 ∧ q.2 < 60 := fun q hq => by
    obtain ⟨a, ha, rfl⟩ := List.mem_map.mp hq
    have := hfb a ha
    exact ⟨this.2, this.1⟩
  refine xs_seq (xs_no ((xt_test (xv_op ((xv_call (xa_cons (xv_call (xa_cons (xv_var rfl) (xa_cons (xv_var rfl) xa_nil)) ⟨nm, turnRs rows, h2, rfl, rfl⟩) xa_nil) ⟨nm, turnRs rows, h2, rfl, rfl⟩).eq (by rw [hfo2]))
    (Xv.lst ((xf_cb (xa_cons (Xv.lst (xf_map (ml := []) (items := fo) (0, 0) (fun q => eLane (swp q)) (xi_encL (items := fo) (0, 0) eLane (xv_var rfl)) (fun q hq => nomatch hq) (by omega) fun i gl l acc hi => ⟨_, _, xg_tup (ds := [eN (fo.getD i (0, 0)).1, eN (fo.getD i (0, 0)).2]) (xgs_cons xg_name (xgs_cons xg_name xgs_nil)) rfl, fun j hj => hj, Xv.tup (xf_tup [eN (fo.getD i (0, 0)).2, eN (fo.getD i (0, 0)).1] (xa_cons (xv_var rfl) (xa_cons (xv_var rfl) xa_nil)) (by show 2 ≤ 100000; decide))⟩)) xa_nil) (rcf_sortT (items := (fo.map swp).map lL) (ms := fo2.map lL) (by rw [List.map_map, List.map_map]; exact vl_d) (by rw [List.length_map, List.length_map]; exact hfl) (pairs_bd hfbs) (sort_code (pairs_bd hfbs) (htp.map _) (pairs_code hfb2 hsrt2)))).conv fun H v p => by rw [lanes_eT]; exact p))
    (ro_neD vd_d vd_d (lanes_shaped fo2) (lanes_shaped fo2)))).eq (by rw [eqv_pairs]; rfl)) (xs_next (nx_x ?_)))
  -- the books by yards
  refine xs_seq (xs_setF xf_dnew fun lb => nx_x ?_)
  have hyl := h.ylen
  let ds4 : List (Option PP) := [some (Rf l), some (DL (rows.map eR)), some (DL (eNs nm)), some (We CC CW nm rows), some (Rf lt), none, none, some (DL (fo.map eLane)), none, none, some (DL ((turnRs rows).map eR)), some (Rf lb), none, none, none, none, none, none]
  refine xs_seq (xs_for (n := (yardsOf nm).length) (I := fun i => ⟨B, [], [(lb, KF (bk2 nm rows i)), (lt, LF ((fo.filter fun p => decide (max p.1 p.2 < 13)).map eLane)), (l, LF (potD p3))], ds4, []⟩) (xi_encZ (xs := yardsOf nm) (ys := yardsOf nm) 0 0 eN (bookD nm rows) (xa_cons (Xv.lst ((xf_cb (xa_cons (Xv.lst (xf_slice (lo := some 1) (hi := some (-1)) (xv_var rfl) vl_d (xo_p xp_int) (xo_p (xp_un xp_int)))) xa_nil) (rcf_sortedI (ns := ((List.range (nm.length - 2)).map fun j => at0 nm (j + 1)).map fun n : Nat => (n : Int)) (ms := (yardsOf nm).map fun n : Nat => (n : Int)) ?_ fun k h1 h2 => ?_)).conv fun H v p => by rw [← eNs_map, eNs_ints]; exact p))
    (xa_cons (xv_prop (xv_var rfl) Ob.ins ⟨nm, rows, h, rfl, rfl⟩) xa_nil)) rfl) (fun _ _ q hq => nomatch hq) (ghs_weak (wk_refl _)) (fun i gl hi => ?_) (nx_x ?_))
  · rw [← eNs_ints, cut_nm (by omega)]
    exact vl_d
  · rw [sorted_int h1 h2, hL.yards, ← inner_eq hnl, show nm.length - 2 = rows.length by omega]
  · refine xb_mk (xg_tup (ds := [eN ((yardsOf nm).getD i 0), bookD nm rows ((yardsOf nm).getD i 0)]) (xgs_cons xg_name (xgs_cons xg_name xgs_nil)) rfl) (xs_dput (i := 0) (d := bookD nm rows ((yardsOf nm).getD i 0)) (k := (((yardsOf nm).getD i 0 : Nat) : Int)) (xv_var rfl) (xp_var rfl) (xp_var rfl) rfl (by unfold bk2; rw [List.length_map, List.length_take]; omega) fun σ H e => ?_)
    show En (Ct.ghs ⟨B, [], [(lb, KF (bk2 nm rows (i + 1))), (lt, LF ((fo.filter fun p => decide (max p.1 p.2 < 13)).map eLane)), (l, LF (potD p3))], ds4, []⟩ gl) σ H
    rw [← bk2_put hi]
    exact e.weak (.keep (.keep (.keep (.keep (.keep (.keep (.keep (.keep (.keep (.keep (.keep (.keep (.drop (.drop (.keep (.keep (.keep (.keep .nil)))))))))))))))))) fun _ z => z
  have ebk : bk2 nm rows (yardsOf nm).length = bookKV nm rows := by unfold bk2 bookKV; rw [List.take_length]
  rw [ebk]
  refine xs_seq (xs_if (b := fo.isEmpty) ((xt_test (xv_op (xv_var rfl) (Xv.lst (xf_lst [] xa_nil (by decide))) (ro_eqD vd_d vd_d (lanes_shaped fo) (shaped_flats rfl)))).eq (by rw [eqv_list_nil]; cases fo <;> rfl)) (fun hb => ?_) (fun hb => xs_next (nx_x ?_)))
  · have hnil : fo = [] := List.isEmpty_iff.mp hb
    have hs0 := hemp hnil
    exact xs_retQ ((xv_op (xv_call (xa_cons (xv_var rfl) (xa_cons xv_int (xa_cons xv_int xa_nil))) ⟨nm, rows, 30, 30, h, by decide, by decide, rfl, rfl⟩) xv_non ro_isN).dat (by rw [hs0]; rfl)) hR
  · have hne : fo ≠ [] := fun z => by rw [z] at hb; cases hb
    have hpos : 0 < fo.length := List.length_pos_iff.mpr hne
    have hlt := drawM_lt p3 (m := fo.length) hpos
    have hqm := List.mem_of_getElem? (getD_get (0, 0) hlt)
    have hl' : (fo.map eLane).length = fo.length := List.length_map _
    refine xs_seq (xs_g ((xv_pot (k := 2) (p := p3) (p' := (drawM p3 fo.length).2) (xa_cons (xv_var rfl) (xa_cons (xv_var rfl) xa_nil)) rfl ⟨fo.map eLane, hp3, by omega, by omega, rfl, by rw [hl'], rfl⟩).eq (P' := D (eLane (fo.getD (drawM p3 fo.length).1 (0, 0)))) (by rw [hl', map_getD eLane fo (0, 0) hlt])) (xg_tup (ds := [eN (fo.getD (drawM p3 fo.length).1 (0, 0)).1, eN (fo.getD (drawM p3 fo.length).1 (0, 0)).2]) (xgs_cons xg_name (xgs_cons xg_name xgs_nil)) rfl) (nx_x ?_))
    have hp4 := drawM_ok hp3 fo.length
    generalize fo.getD (drawM p3 fo.length).1 (0, 0) = q at *
    generalize (drawM p3 fo.length).2 = p4 at *
    have c1 := drawM_lt p4 (m := 3) (by decide)
    have c2 := drawM_lt (drawM p4 3).2 (m := 3) (by decide)
    have hqb := hfb q hqm
    obtain ⟨r, rest, hst, hok⟩ := hscr q hqm _ _ c1 c2
    refine xs_freeze (P := Fz (KF (bookKV nm rows))) (k := 0) (i := 11) rfl rfl (fun H v p => p) ?_
    refine xs_retQ (xv_call (xa_cons (xv_var rfl) (xa_cons (xv_var rfl) (xa_cons (xv_var rfl) (xa_cons (Xv.tup (xf_tup [eN (q.1 + (drawM p4 3).1), eN (q.2 + (drawM (drawM p4 3).2 3).1)] (XA.eq (xa_cons (xv_op (xv_var rfl) (xv_pot (k := 1) (p := p4) (p' := (drawM p4 3).2) (xa_cons (xv_var rfl) (xa_cons xv_int xa_nil)) rfl ⟨3, hp4, by decide, by decide, rfl, rfl, rfl⟩) ro_i0)
      (xa_cons (xv_op (xv_var rfl) (xv_pot (k := 1) (p := (drawM p4 3).2) (p' := (drawM (drawM p4 3).2 3).2) (xa_cons (xv_var rfl) (xa_cons xv_int xa_nil)) rfl ⟨3, drawM_ok hp4 _, by decide, by decide, rfl, rfl, rfl⟩) ro_i0) xa_nil)) rfl) (by show 2 ≤ 100000; decide))) xa_nil)))) ⟨nm, rows, q.1 + (drawM p4 3).1, q.2 + (drawM (drawM p4 3).2 3).1, r, rest, h, by omega, by omega, hst, hok, rfl, rfl⟩) hR
end
end K74

set_option Elab.async false
set_option linter.all false
set_option maxRecDepth 100000
set_option maxHeartbeats 4000000
namespace K74
open PySem PySem.Spec PyProof.Rows L2
section
variable {P : Program} {w : World} {K : PySem.W.Frag} {mg : PySem.Str → Option Value} {base : Heap} {CC CW : Addr}
abbrev s_law : Stmt := topS 96
abbrev N_law : List PySem.Str := ["_law_script"]
theorem sc_law : FnScope N_law ["_law_script"] (defScope s_law) := ⟨rfl, rfl, rfl, by decide +kernel, rfl, by decide +kernel, by decide +kernel⟩
def sp_law (K : PySem.W.Frag) : Sp := fun vs H Q _ => ∃ (a : Addr) (ns : List Int), vs = [.ref a] ∧ SqL K H a (ns.map V.int) ∧ ∀ H', Q (.bl true) H'
theorem ok_law {f : Addr} {fd : FuncData} (F : Fun K "law" "law" s_law f fd) (T : Txt K mg CC CW) (c__law_pot : Cal P w K mg base "_law_pot" ["_law_script", "_law_k"] 1 (spF (R__law_pot K)))
    {fr : Addr} {fdr : FuncData} (hm : mg "_law_right" = some (.ref fr)) (hk : PySem.W.keepIn K (.ref fr) = true) (hb : Binds K fdr ["_law_pot_here"] []) (G : FnG P w K mg base 11 fr ["_law_pot_here"] fdr sp_right) :
    FnG P w K mg base 12 f ["_law_script"] fd (sp_law K) := by
  refine FnG.of F sc_law (fun vs H Q E ⟨a, ns, h, _⟩ => by rw [h]; rfl) fun cdv A outer s H E hgd0 hr => ?_
  have hgd : (A.deeper (envOfC "law" (defScope s_law) s.heap.objs.size f cdv)).guards = some [] := hgd0
  refine ⟨_,
    PSs.nox (pss_one (ps_ret (pe_callG G hgd (hr.mono (by decide)) rfl hm hk hb (pa_cons (pe_cal c__law_pot (hr.mono (by decide)) rfl (pa_cons (pv 0) (pa_cons pe_int pa_nil))) pa_nil)))), ?_⟩
  rintro vs Q ⟨a, ns, rfl, hS, hq⟩
  have e := en_start (N := N_law) (M0 := []) (Ps := [Sq K ns]) (vs := [.ref a]) (H := H) (fun m hm => nomatch hm) (.cons (P := Sq K ns) ⟨a, rfl, by rw [hid_nil]; exact hS⟩ .nil)
  have hx : XA ⟨H, [], [], [some (Sq K ns)], []⟩ (tCons (tCall (spF (R__law_pot K)) [] L2.E0 (tCons (tVar 0) (tCons (tC (.int 0)) tNil))) tNil) [DL (potD (potOf ns))] ⟨H, [], [], [some (Sq K ns)], []⟩ := xa_cons (xv_call (xa_cons (xv_var rfl) (xa_cons xv_int xa_nil)) ⟨ns, rfl, rfl⟩) xa_nil
  show (tCons (tCall (spF (R__law_pot K)) [] L2.E0 (tCons (tVar 0) (tCons (tC (.int 0)) tNil))) tNil) (L2.start N_law [.ref a]) H fun us H1 => sp_right (us ++ []) H1 Q L2.E0
  refine hx.2 _ H e _ fun us H1 s1 e1 p1 => ?_
  obtain ⟨v, rfl, q⟩ := p1.one_inv
  obtain ⟨l, xs, rfl, h1, h2⟩ := Dn.lst_inv q
  have hx : xs = [(potOf ns).1, (potOf ns).2].map V.int := DnAll.ints_inv (ns := [(potOf ns).1, (potOf ns).2]) h2
  subst hx
  exact ⟨l, potOf ns, rfl, hid_same _ _ h1, potOf_ok ns, fun H' => hq H'⟩
end
end K74

set_option Elab.async false
set_option linter.all false
set_option maxRecDepth 100000
set_option maxHeartbeats 1000000
namespace K74
open PySem PySem.Spec PyProof.Rows L2
/-! ### names -/
theorem pop_all : ∀ (n : Nat) (l r : List Nat), l.length = n → r.Perm l → r ∈ Mir.popPerms n l
  | 0, l, r, hl, hp => by
    have h1 : l = [] := List.length_eq_zero_iff.mp hl
    subst h1
    have h2 : r = [] := hp.eq_nil
    subst h2
    simp [Mir.popPerms]
  | n + 1, l, r, hl, hp => by
    cases r with
    | nil =>
      have := hp.length_eq
      rw [hl] at this
      cases this
    | cons a r =>
      have ha : a ∈ l := hp.mem_iff.mp List.mem_cons_self
      obtain ⟨i, hi, ea⟩ := List.getElem_of_mem ha
      have eg : l.getD i 0 = a := by rw [List.getD_eq_getElem?_getD, List.getElem?_eq_getElem hi, ea]; rfl
      have h1 := erase_perm hi
      rw [eg] at h1
      have h2 : r.Perm (l.eraseIdx i) := (List.perm_cons a).mp (hp.trans h1.symm)
      have h3 := pop_all n (l.eraseIdx i) r (by rw [List.length_eraseIdx, if_pos hi]; omega) h2
      show a :: r ∈ (List.range l.length).flatMap fun i => (Mir.popPerms n (l.eraseIdx i)).map fun r => l.getD i 0 :: r
      rw [List.mem_flatMap]
      refine ⟨i, List.mem_range.mpr hi, List.mem_map.mpr ⟨r, h3, ?_⟩⟩
      rw [eg]
theorem chk_all {n : Nat} (h : 3 ≤ n ∧ n ≤ 6) {r : List Nat} (hp : r.Perm (List.range n)) (hl : r.getD 0 0 < r.getD (n - 1) 0) : Mir.chk r = true := by
  have hm := pop_all n (List.range n) r (by rw [List.length_range]) hp
  have ha : Mir.allChk n = true := by
    have h' : n = 3 ∨ n = 4 ∨ n = 5 ∨ n = 6 := by omega
    rcases h' with e | e | e | e
    · subst e; exact Mir.chk3
    · subst e; exact Mir.chk4
    · subst e; exact Mir.chk5
    · subst e; exact Mir.chk6
  have := List.all_eq_true.mp ha r hm
  rw [decide_eq_true hl] at this
  simpa using this
theorem names_ok (p : Pot) (n : Nat) (h3 : 3 ≤ n) (h6 : n ≤ 6) : LineOk (namesM p n).1 ∧ (namesM p n).1.length = n := by
  have hp : ((nameIt n (p, List.range n, [])).2.2).Perm (List.range n) := by
    have := nameIt_perm n (p, List.range n, []) (by show (List.range n).length = n; rw [List.length_range])
    exact this
  show LineOk (Mir.turnUp (nameIt n (p, List.range n, [])).2.2) ∧ (Mir.turnUp (nameIt n (p, List.range n, [])).2.2).length = n
  generalize (nameIt n (p, List.range n, [])).2.2 = r at *
  have hlen : r.length = n := by rw [hp.length_eq, List.length_range]
  have hnd : r.Nodup := (hp.nodup_iff).mpr List.nodup_range
  have key : ∀ s : List Nat, s.Perm (List.range n) → s.getD 0 0 < s.getD (n - 1) 0 → LineOk s ∧ s.length = n := fun s hs hlt => by
    have hsl : s.length = n := by rw [hs.length_eq, List.length_range]
    exact ⟨lineOk (by omega) (by rw [hsl]; exact hs) (chk_all ⟨h3, h6⟩ hs hlt), hsl⟩
  unfold Mir.turnUp
  split
  · rename_i hlt
    rw [hlen] at hlt
    exact key r hp hlt
  · rename_i hlt
    rw [hlen] at hlt
    have e0 : r.reverse.getD 0 0 = r.getD (n - 1) 0 := by
      rw [List.getD_eq_getElem?_getD, List.getD_eq_getElem?_getD, List.getElem?_reverse (by omega), hlen]
      simp
    have e1 : r.reverse.getD (n - 1) 0 = r.getD 0 0 := by
      rw [List.getD_eq_getElem?_getD, List.getD_eq_getElem?_getD, List.getElem?_reverse (by omega), hlen]
      simp
    refine key r.reverse ((List.reverse_perm r).trans hp) ?_
    rw [e0, e1]
    have hne : r.getD 0 0 ≠ r.getD (n - 1) 0 := fun z => by
      have h1 : r[0]? = some (r.getD 0 0) := getD_get 0 (by omega)
      have h2 : r[n - 1]? = some (r.getD 0 0) := by rw [z]; exact getD_get 0 (by omega)
      have := nd_inj hnd h1 h2
      omega
    omega
/-! ### least pairs -/
def Dom (q p : Pr) : Prop := q.1 ≤ p.1 ∧ q.2 ≤ p.2
theorem dom_iff (q p : Pr) : dom q p = true ↔ Dom q p := by
  unfold dom Dom
  rw [Bool.and_eq_true, decide_eq_true_eq, decide_eq_true_eq]
theorem Dom.trans {p q r : Pr} (h1 : Dom p q) (h2 : Dom q r) : Dom p r := ⟨Nat.le_trans h1.1 h2.1, Nat.le_trans h1.2 h2.2⟩
theorem least_facts : ∀ (L f : List Pr), (f ++ L).Pairwise lexLt → (∀ a ∈ f, ∀ b ∈ f, Dom a b → a = b) →
    (L.foldl leastStep f).Sublist (f ++ L) ∧ (∀ a ∈ f, a ∈ L.foldl leastStep f) ∧ (∀ a ∈ L.foldl leastStep f, ∀ b ∈ L.foldl leastStep f, Dom a b → a = b) ∧ ∀ p ∈ L, ∃ q ∈ L.foldl leastStep f, Dom q p
  | [], f, hs, ha => ⟨by rw [List.append_nil]; exact List.Sublist.refl _, fun a h => h, ha, fun p h => nomatch h⟩
  | p :: L, f, hs, ha => by
    rw [List.foldl_cons]
    by_cases hd : (f.any fun q => dom q p) = true
    · have e : leastStep f p = f := if_pos hd
      rw [e]
      have hsub : (f ++ L).Sublist (f ++ p :: L) := (List.sublist_cons_self p L).append_left f
      obtain ⟨h1, h2, h3, h4⟩ := least_facts L f (hs.sublist hsub) ha
      refine ⟨h1.trans hsub, h2, h3, fun x hx => ?_⟩
      rcases List.mem_cons.mp hx with z | z
      · subst z
        obtain ⟨q, hq, hqd⟩ := List.any_eq_true.mp hd
        exact ⟨q, h2 q hq, (dom_iff _ _).mp hqd⟩
      · exact h4 x z
    · have e : leastStep f p = f ++ [p] := if_neg hd
      rw [e]
      have eA : f ++ p :: L = (f ++ [p]) ++ L := by simp
      rw [eA] at hs ⊢
      have hlt : ∀ a ∈ f, lexLt a p := fun a h => (List.pairwise_append.mp (List.pairwise_append.mp hs).1).2.2 a h p List.mem_cons_self
      obtain ⟨h1, h2, h3, h4⟩ := least_facts L (f ++ [p]) hs (fun a ha1 b hb1 hab => by
        rcases List.mem_append.mp ha1 with za | za
        · rcases List.mem_append.mp hb1 with zb | zb
          · exact ha a za b zb hab
          · rw [List.mem_singleton.mp zb] at hab
            exact absurd (show (f.any fun q => dom q p) = true from List.any_eq_true.mpr ⟨a, za, (dom_iff a p).mpr hab⟩) hd
        · rw [List.mem_singleton.mp za] at hab ⊢
          rcases List.mem_append.mp hb1 with zb | zb
          · have hl := hlt b zb
            unfold Dom at hab
            unfold lexLt at hl
            omega
          · exact (List.mem_singleton.mp zb).symm)
      refine ⟨h1, fun a h => h2 a (List.mem_append_left _ h), h3, fun x hx => ?_⟩
      rcases List.mem_cons.mp hx with z | z
      · subst z
        exact ⟨x, h2 x (List.mem_append_right _ List.mem_cons_self), Nat.le_refl _, Nat.le_refl _⟩
      · exact h4 x z
theorem leastP_facts (rs : List R6) : (leastP rs).Pairwise lexLt ∧ (∀ p ∈ leastP rs, p ∈ someP rs) ∧ (∀ a ∈ leastP rs, ∀ b ∈ leastP rs, Dom a b → a = b) ∧ (∀ p ∈ someP rs, ∃ q ∈ leastP rs, Dom q p) ∧ (leastP rs).length ≤ (someP rs).length := by
  obtain ⟨h1, h2, h3, h4⟩ := least_facts (sortD (someP rs)) [] (by rw [List.nil_append]; exact sortD_lt _) (fun a h => nomatch h)
  rw [List.nil_append] at h1
  refine ⟨(sortD_lt _).sublist h1, fun p hp => (sortD_mem p _).mp (h1.subset hp), h3, fun p hp => h4 p ((sortD_mem p _).mpr hp), Nat.le_trans h1.length_le (sortD_len _)⟩
/-- what is enough, by the pairs told -/
theorem stk_nat (r : R6) (E W : Nat) : stk r (E : Int) (W : Int) = true ↔ r.2.2.2.1 ≤ E ∧ r.2.2.2.2.1 ≤ W ∧ r.2.2.2.2.2 ≤ E + W := by
  unfold stk
  rw [Bool.and_eq_true, Bool.and_eq_true, decide_eq_true_eq, decide_eq_true_eq, decide_eq_true_eq]
  omega
theorem enough_some {rows : List R3} {E W : Nat} : enoughM rows (E : Int) (W : Int) = true ↔ ∃ p ∈ someP (stickRows rows), Dom p (E, W) := by
  unfold enoughM
  rw [List.any_eq_true]
  constructor
  · rintro ⟨r, hr, hs⟩
    rw [stk_nat] at hs
    obtain ⟨s1, s2, s3⟩ := hs
    refine ⟨(r.2.2.2.1 + (min E (max r.2.2.2.1 (r.2.2.2.2.2 - r.2.2.2.2.1)) - r.2.2.2.1), max r.2.2.2.2.1 (r.2.2.2.2.2 - (r.2.2.2.1 + (min E (max r.2.2.2.1 (r.2.2.2.2.2 - r.2.2.2.2.1)) - r.2.2.2.1)))), List.mem_flatMap.mpr ⟨r, hr, List.mem_map.mpr ⟨min E (max r.2.2.2.1 (r.2.2.2.2.2 - r.2.2.2.2.1)) - r.2.2.2.1, List.mem_range.mpr ?_, rfl⟩⟩, ?_, ?_⟩
    · unfold rowN; omega
    · show r.2.2.2.1 + _ ≤ E; omega
    · show max r.2.2.2.2.1 _ ≤ W; omega
  · rintro ⟨p, hp, hd⟩
    obtain ⟨r, hr, hp2⟩ := List.mem_flatMap.mp hp
    obtain ⟨t, ht, e⟩ := List.mem_map.mp hp2
    refine ⟨r, hr, ?_⟩
    rw [stk_nat]
    subst e
    obtain ⟨d1, d2⟩ := hd
    have d1' : r.2.2.2.1 + t ≤ E := d1
    have d2' : max r.2.2.2.2.1 (r.2.2.2.2.2 - (r.2.2.2.1 + t)) ≤ W := d2
    omega
theorem enough_least {rows : List R3} {E W : Nat} : enoughM rows (E : Int) (W : Int) = true ↔ ∃ p ∈ leastP (stickRows rows), Dom p (E, W) := by
  obtain ⟨h1, h2, h3, h4, h5⟩ := leastP_facts (stickRows rows)
  rw [enough_some]
  constructor
  · rintro ⟨p, hp, hd⟩
    obtain ⟨q, hq, hqd⟩ := h4 p hp
    exact ⟨q, hq, hqd.trans hd⟩
  · rintro ⟨p, hp, hd⟩
    exact ⟨p, h2 p hp, hd⟩
theorem enough_neg {rows : List R3} {E W : Int} (h : E < 0 ∨ W < 0) : enoughM rows E W = false := by
  unfold enoughM
  rw [List.any_eq_false]
  intro r _ z
  unfold stk at z
  rw [Bool.and_eq_true, Bool.and_eq_true, decide_eq_true_eq, decide_eq_true_eq, decide_eq_true_eq] at z
  omega
theorem pt_iff {rows : List R3} {e w : Nat} : pt rows e w = true ↔ (e, w) ∈ leastP (stickRows rows) := by
  obtain ⟨h1, h2, h3, h4, h5⟩ := leastP_facts (stickRows rows)
  have noE : enoughM rows ((e : Int) - 1) (w : Int) = true ↔ ∃ p ∈ leastP (stickRows rows), p.1 + 1 ≤ e ∧ p.2 ≤ w := by
    by_cases z : e = 0
    · subst z
      rw [enough_neg (.inl (by omega))]
      constructor
      · intro y; cases y
      · rintro ⟨p, _, y, _⟩; omega
    · have : (e : Int) - 1 = ((e - 1 : Nat) : Int) := by omega
      rw [this, enough_least]
      constructor
      · rintro ⟨p, hp, d1, d2⟩
        have d1' : p.1 ≤ e - 1 := d1
        exact ⟨p, hp, by omega, d2⟩
      · rintro ⟨p, hp, d1, d2⟩
        exact ⟨p, hp, by show p.1 ≤ e - 1; omega, d2⟩
  have noW : enoughM rows (e : Int) ((w : Int) - 1) = true ↔ ∃ p ∈ leastP (stickRows rows), p.1 ≤ e ∧ p.2 + 1 ≤ w := by
    by_cases z : w = 0
    · subst z
      rw [enough_neg (.inr (by omega))]
      constructor
      · intro y; cases y
      · rintro ⟨p, _, _, y⟩; omega
    · have : (w : Int) - 1 = ((w - 1 : Nat) : Int) := by omega
      rw [this, enough_least]
      constructor
      · rintro ⟨p, hp, d1, d2⟩
        have d2' : p.2 ≤ w - 1 := d2
        exact ⟨p, hp, d1, by omega⟩
      · rintro ⟨p, hp, d1, d2⟩
        exact ⟨p, hp, d1, by show p.2 ≤ w - 1; omega⟩
  unfold pt
  rw [Bool.and_eq_true, Bool.and_eq_true, Bool.not_eq_true', Bool.not_eq_true', enough_least]
  constructor
  · rintro ⟨⟨p, hp, d1, d2⟩, nE, nW⟩
    have d1' : p.1 ≤ e := d1
    have d2' : p.2 ≤ w := d2
    have e1 : p.1 = e := Classical.byContradiction fun z => by
      rw [noE.mpr ⟨p, hp, by omega, d2'⟩] at nE
      cases nE
    have e2 : p.2 = w := Classical.byContradiction fun z => by
      rw [noW.mpr ⟨p, hp, d1', by omega⟩] at nW
      cases nW
    rw [← e1, ← e2]
    exact hp
  · intro hm
    refine ⟨⟨_, hm, Nat.le_refl _, Nat.le_refl _⟩, ?_, ?_⟩
    · cases z : enoughM rows ((e : Int) - 1) (w : Int) with
      | false => rfl
      | true =>
        obtain ⟨p, hp, d1, d2⟩ := noE.mp z
        have := h3 p hp (e, w) hm ⟨by show p.1 ≤ e; omega, d2⟩
        rw [this] at d1
        have d1' : e + 1 ≤ e := d1
        omega
    · cases z : enoughM rows (e : Int) ((w : Int) - 1) with
      | false => rfl
      | true =>
        obtain ⟨p, hp, d1, d2⟩ := noW.mp z
        have := h3 p hp (e, w) hm ⟨d1, by show p.2 ≤ w; omega⟩
        rw [this] at d2
        have d2' : w + 1 ≤ w := d2
        omega
theorem lexLt_as (a b : Pr) (h1 : lexLt a b) (h2 : lexLt b a) : a = b := by
  unfold lexLt at h1 h2
  omega
theorem mem_grid {rows : List R3} {n : Nat} {p : Pr} : p ∈ grid rows n ↔ p.1 < n ∧ p.2 < 13 ∧ pt rows p.1 p.2 = true := by
  unfold grid gridRow
  rw [List.mem_flatMap]
  constructor
  · rintro ⟨e, he, h⟩
    obtain ⟨w, hw, rfl⟩ := List.mem_map.mp h
    rw [List.mem_filter, List.mem_range] at hw
    exact ⟨List.mem_range.mp he, hw.1, hw.2⟩
  · rintro ⟨h1, h2, h3⟩
    exact ⟨p.1, List.mem_range.mpr h1, List.mem_map.mpr ⟨p.2, List.mem_filter.mpr ⟨List.mem_range.mpr h2, h3⟩, rfl⟩⟩
theorem grid_lt (rows : List R3) : ∀ n, (grid rows n).Pairwise lexLt
  | 0 => .nil
  | n + 1 => by
    have e : grid rows (n + 1) = grid rows n ++ gridRow rows n 13 := by unfold grid; rw [flatMap_succ]
    rw [e, List.pairwise_append]
    refine ⟨grid_lt rows n, ?_, fun a ha b hb => ?_⟩
    · unfold gridRow
      rw [List.pairwise_map]
      exact (List.pairwise_lt_range.filter _).imp fun h => .inr ⟨rfl, h⟩
    · have h1 := (mem_grid.mp ha).1
      unfold gridRow at hb
      obtain ⟨w, _, rfl⟩ := List.mem_map.mp hb
      exact .inl h1
theorem told_ok (rows : List R3) : grid rows 13 = (leastP (stickRows rows)).filter fun p => decide (max p.1 p.2 < 13) := by
  obtain ⟨h1, h2, h3, h4, h5⟩ := leastP_facts (stickRows rows)
  have h1f := h1.filter fun p : Pr => decide (max p.1 p.2 < 13)
  refine sorted_in lexLt (fun a _ b _ => lexLt_as a b) ((List.perm_ext_iff_of_nodup (lexLt_nd (grid_lt rows 13)) (lexLt_nd h1f)).mpr fun p => ?_) (grid_lt rows 13) h1f
  rw [mem_grid, List.mem_filter, decide_eq_true_eq, pt_iff]
  constructor
  · rintro ⟨a, b, c⟩; exact ⟨c, by omega⟩
  · rintro ⟨a, b⟩; exact ⟨by omega, by omega, a⟩
end K74

set_option Elab.async false
set_option linter.all false
set_option maxRecDepth 100000
set_option maxHeartbeats 1000000
namespace K74
open PySem PySem.Spec PyProof.Rows L2
theorem least_bd {rows : List R3} (R : RowsOk rows) : (leastP (stickRows rows)).length < 64 ∧ ∀ p ∈ leastP (stickRows rows), p.1 < 60 ∧ p.2 < 60 := by
  obtain ⟨h1, h2, h3, h4, h5⟩ := leastP_facts (stickRows rows)
  refine ⟨Nat.lt_of_le_of_lt h5 (someP_len R), fun p hp => ?_⟩
  obtain ⟨r, hr, hp2⟩ := List.mem_flatMap.mp (h2 p hp)
  obtain ⟨t, ht, e⟩ := List.mem_map.mp hp2
  rw [List.mem_range] at ht
  obtain ⟨a, b, ha, hb, hok, er⟩ := mem_stick.mp hr
  have := stick_bd R ha hb
  rw [er] at this
  unfold rowN at ht
  subst e
  refine ⟨?_, ?_⟩
  · show r.2.2.2.1 + t < 60; omega
  · show max r.2.2.2.2.1 _ < 60; omega
theorem empty_ok {rows : List R3} (h : leastP (stickRows rows) = []) : sticking rows 30 30 = [] := by
  refine enough_no ?_
  cases z : enoughM rows ((30 : Nat) : Int) ((30 : Nat) : Int) with
  | false => rfl
  | true =>
    obtain ⟨p, hp, _⟩ := enough_least.mp z
    rw [h] at hp
    cases hp
/-! ### seen from the other end -/
theorem turnRs_len (rows : List R3) : (turnRs rows).length = rows.length := by unfold turnRs; rw [List.length_map, List.length_reverse]
theorem turnRs_get (rows : List R3) {i : Nat} (h : i < rows.length) : (turnRs rows)[i]? = some (turnR (r3At rows (rows.length - 1 - i))) := by
  unfold turnRs
  rw [List.getElem?_map, List.getElem?_reverse h, getD_get (0, 0, 0) (show rows.length - 1 - i < rows.length by omega)]
  rfl
theorem turnRs_at (rows : List R3) {i : Nat} (h : i < rows.length) : r3At (turnRs rows) i = turnR (r3At rows (rows.length - 1 - i)) := by
  rw [r3At, List.getD_eq_getElem?_getD, turnRs_get rows h]
  rfl
theorem turnRs_turn (rows : List R3) : turnRs (turnRs rows) = rows := by
  unfold turnRs
  rw [← List.map_reverse, List.reverse_reverse, List.map_map]
  have : (turnR ∘ turnR) = id := by funext r; rfl
  rw [this, List.map_id]
theorem turnRs_ok {rows : List R3} (R : RowsOk rows) : RowsOk (turnRs rows) := by
  have hl := R.len
  have hl2 := turnRs_len rows
  refine ⟨by omega, fun r hr => ?_, ?_, ?_⟩
  · unfold turnRs at hr
    obtain ⟨u, hu, rfl⟩ := List.mem_map.mp hr
    have := R.bd u (List.mem_reverse.mp hu)
    exact ⟨this.1, this.2.2, this.2.1⟩
  · show (r3At (turnRs rows) 0).2.2 = (r3At (turnRs rows) 0).1
    rw [turnRs_at rows (by omega)]
    show (r3At rows (rows.length - 1 - 0)).2.1 = (r3At rows (rows.length - 1 - 0)).1
    exact R.last
  · show (r3At (turnRs rows) ((turnRs rows).length - 1)).2.1 = (r3At (turnRs rows) ((turnRs rows).length - 1)).1
    rw [hl2, turnRs_at rows (by omega), show rows.length - 1 - (rows.length - 1) = 0 by omega]
    exact R.first
theorem betw_get {rows : List R3} {a b i : Nat} : (betw rows a b)[i]? = if i < b - (a + 1) then rows[a + 1 + i]? else none := by
  unfold betw
  rw [List.getElem?_take, List.getElem?_drop]
theorem betw_turn {rows : List R3} {a b : Nat} (h1 : a < b) (h2 : b < rows.length) : betw (turnRs rows) (rows.length - 1 - b) (rows.length - 1 - a) = (betw rows a b).reverse.map turnR := by
  have hbl := betw_len h1 h2
  apply List.ext_getElem?
  intro i
  rw [betw_get, List.getElem?_map]
  by_cases hi : i < b - a - 1
  · rw [if_pos (by omega), turnRs_get rows (by omega), List.getElem?_reverse (by omega), betw_get, if_pos (by omega), hbl, show a + 1 + (b - a - 1 - 1 - i) = rows.length - 1 - (rows.length - 1 - b + 1 + i) by omega, getD_get (0, 0, 0) (show rows.length - 1 - (rows.length - 1 - b + 1 + i) < rows.length by omega)]
    rfl
  · rw [if_neg (by omega), List.getElem?_eq_none (l := (betw rows a b).reverse) (by rw [List.length_reverse]; omega)]
    rfl
theorem sum_rev : ∀ l : List Nat, l.reverse.sum = l.sum
  | [] => rfl
  | a :: r => by
    rw [List.reverse_cons, List.sum_append, sum_rev r, List.sum_cons]
    simp
    omega
theorem sum_turn {rows : List R3} {a b : Nat} (h1 : a < b) (h2 : b < rows.length) (f g : R3 → Nat) (hfg : ∀ r, f (turnR r) = g r) : ((betw (turnRs rows) (rows.length - 1 - b) (rows.length - 1 - a)).map f).sum = ((betw rows a b).map g).sum := by
  rw [betw_turn h1 h2, List.map_map, show (f ∘ turnR) = g by funext r; exact hfg r, List.map_reverse, sum_rev]
theorem stick_turn {rows : List R3} {E W : Int} (h : enoughM rows E W = true) : enoughM (turnRs rows) W E = true := by
  unfold enoughM at h ⊢
  obtain ⟨r, hr, hs⟩ := List.any_eq_true.mp h
  obtain ⟨a, b, h1, h2, h3, e⟩ := mem_stick.mp hr
  have ea : r3At (turnRs rows) (rows.length - 1 - b) = turnR (r3At rows b) := by rw [turnRs_at rows (by omega), show rows.length - 1 - (rows.length - 1 - b) = b by omega]
  have eb : r3At (turnRs rows) (rows.length - 1 - a) = turnR (r3At rows a) := by rw [turnRs_at rows (by omega), show rows.length - 1 - (rows.length - 1 - a) = a by omega]
  refine List.any_eq_true.mpr ⟨sRow (turnRs rows) (rows.length - 1 - b) (rows.length - 1 - a), mem_stick.mpr ⟨_, _, by omega, by rw [turnRs_len]; omega, ?_, rfl⟩, ?_⟩
  · unfold sOk at h3 ⊢
    rw [ea, eb]
    rw [Bool.and_eq_true] at h3 ⊢
    exact ⟨h3.2, h3.1⟩
  · have s1 := sum_turn h1 h2 hLow hLeft fun r => rfl
    have s2 := sum_turn h1 h2 hLeft hLow fun r => rfl
    have s3 := sum_turn h1 h2 hAll hAll fun r => by unfold hAll turnR; rw [Nat.add_comm]
    subst e
    unfold stk sRow at hs ⊢
    rw [ea, eb, s1, s2, s3]
    simp only [Bool.and_eq_true, decide_eq_true_eq] at hs ⊢
    have t1 : (turnR (r3At rows b)).1 = (r3At rows b).1 := rfl
    have t2 : (turnR (r3At rows a)).1 = (r3At rows a).1 := rfl
    rw [t1, t2]
    omega
theorem enough_turn (rows : List R3) (E W : Int) : enoughM (turnRs rows) W E = enoughM rows E W := by
  cases z : enoughM rows E W with
  | true => exact stick_turn z
  | false =>
    cases y : enoughM (turnRs rows) W E with
    | false => rfl
    | true =>
      have := stick_turn y
      rw [turnRs_turn, z] at this
      cases this
theorem turn_perm (rows : List R3) : (leastP (stickRows (turnRs rows))).Perm ((leastP (stickRows rows)).map swp) := by
  have h1 := (leastP_facts (stickRows (turnRs rows))).1
  have h2 := (leastP_facts (stickRows rows)).1
  refine (List.perm_ext_iff_of_nodup (lexLt_nd h1) (nodup_map (f := swp) (fun a b e => ?_) (lexLt_nd h2))).mpr fun p => ?_
  · obtain ⟨a1, a2⟩ := a
    obtain ⟨b1, b2⟩ := b
    simp only [swp, Prod.mk.injEq] at e
    rw [e.1, e.2]
  · rw [show p = (p.1, p.2) from rfl, ← pt_iff, List.mem_map]
    have ept : pt (turnRs rows) p.1 p.2 = pt rows p.2 p.1 := by
      unfold pt
      rw [enough_turn, enough_turn, enough_turn]
      cases enoughM rows (p.2 : Int) (p.1 : Int) <;> cases enoughM rows ((p.2 : Int) - 1) (p.1 : Int) <;> cases enoughM rows (p.2 : Int) ((p.1 : Int) - 1) <;> rfl
    rw [ept, pt_iff]
    constructor
    · intro h; exact ⟨_, h, rfl⟩
    · rintro ⟨a, ha, e⟩
      have e1 : a.2 = p.1 := congrArg Prod.fst e
      have e2 : a.1 = p.2 := congrArg Prod.snd e
      rw [← e1, ← e2]
      exact ha
end K74

set_option Elab.async false
set_option linter.all false
set_option maxRecDepth 100000
set_option maxHeartbeats 1000000
namespace K74
open PySem PySem.Spec PyProof.Rows L2
/-! ### how a stand is looked at -/
theorem load_len (nm : List Nat) (q : Nat) : ∀ l : List Crt, (loadM nm l q).length = l.count (q, true) + l.count (q, false)
  | [] => rfl
  | (p, f) :: r => by
    have ih := load_len nm q r
    unfold loadM at ih ⊢
    rw [List.length_map] at ih ⊢
    rw [List.count_cons, List.count_cons]
    by_cases z : p = q
    · subst z
      rw [List.filter_cons_of_pos (by simp), List.length_cons, ih]
      cases f <;> simp <;> omega
    · rw [List.filter_cons_of_neg (by simpa using z), ih]
      simp [z]
theorem load_flt {nm : List Nat} (L : LineOk nm) {q : Nat} (h1 : 1 ≤ q) (h2 : q < nm.length - 1) (e : Bool) : ∀ l : List Crt, ((loadM nm l q).filter fun z => decide (z.2 = at0 nm (aft q e))).length = l.count (q, e)
  | [] => rfl
  | (p, f) :: r => by
    have ih := load_flt L h1 h2 e r
    unfold loadM at ih ⊢
    rw [List.count_cons]
    by_cases z : p = q
    · subst z
      rw [List.filter_cons_of_pos (by simp), List.map_cons]
      have hd : at0 nm (aft p f) = at0 nm (aft p e) ↔ f = e := by
        constructor
        · intro y
          have := L.inj (i := aft p f) (j := aft p e) (by unfold aft; split <;> omega) (by unfold aft; split <;> omega) y
          unfold aft at this
          cases f <;> cases e <;> simp at this ⊢ <;> omega
        · intro y; rw [y]
      by_cases y : f = e
      · rw [List.filter_cons_of_pos (by simpa using hd.mpr y), List.length_cons, ih]
        simp [y]
      · rw [List.filter_cons_of_neg (by simpa using fun w => y (hd.mp w)), ih]
        simp [y]
    · rw [List.filter_cons_of_neg (by simpa using z), ih]
      simp [z]
def Fit (rows : List R3) (l : List Crt) (q : Nat) : Prop := l.count (q, true) + l.count (q, false) ≤ (rowAt rows q).1 ∧ l.count (q, true) ≤ (rowAt rows q).2.1 ∧ l.count (q, false) ≤ (rowAt rows q).2.2
theorem Fit.mono {rows : List R3} {l m : List Crt} {q : Nat} (h : ∀ e, l.count (q, e) ≤ m.count (q, e)) (f : Fit rows m q) : Fit rows l q := by
  have h1 := h true
  have h2 := h false
  obtain ⟨a, b, c⟩ := f
  exact ⟨by omega, by omega, by omega⟩
theorem Fit.perm {rows : List R3} {l m : List Crt} {q : Nat} (h : l.Perm m) (f : Fit rows m q) : Fit rows l q := f.mono fun e => Nat.le_of_eq (h.count_eq _)
section
variable {nm : List Nat} {rows : List R3} (h : LR nm rows)
include h
theorem stand_iff {l : List Crt} {q : Nat} (h1 : 1 ≤ q) (h2 : q ≤ rows.length) : standM (rowAt rows q).1 (bks nm rows q) (loadM nm l q) = true ↔
    (l.count (q, true) + l.count (q, false) ≤ (rowAt rows q).1 ∧ (q < rows.length → l.count (q, true) ≤ (rowAt rows q).2.1) ∧ (1 < q → l.count (q, false) ≤ (rowAt rows q).2.2)) := by
  have hn := h.n
  have fT := load_flt h.L h1 (by omega) true l
  have fF := load_flt h.L h1 (by omega) false l
  have eT : aft q true = q + 1 := rfl
  have eF : aft q false = q - 1 := rfl
  rw [eT] at fT
  rw [eF] at fF
  unfold standM
  rw [Bool.and_eq_true, decide_eq_true_eq, load_len]
  refine and_congr_right fun _ => ?_
  unfold bks
  by_cases a : q < rows.length <;> by_cases b : 1 < q
  · rw [if_pos a, if_pos b]
    simp only [List.cons_append, List.nil_append, List.all_cons, List.all_nil, Bool.and_true, Bool.and_eq_true, decide_eq_true_eq, fT, fF, a, b, true_implies]
  · rw [if_pos a, if_neg b]
    simp only [List.append_nil, List.all_cons, List.all_nil, Bool.and_true, decide_eq_true_eq, fT, a, b, true_implies, false_implies, and_true]
  · rw [if_neg a, if_pos b]
    simp only [List.nil_append, List.all_cons, List.all_nil, Bool.and_true, decide_eq_true_eq, fF, a, b, true_implies, false_implies, true_and]
  · rw [if_neg a, if_neg b]
    simp only [List.nil_append, List.all_nil, a, b, false_implies, and_self]
theorem come_fit {l : List Crt} {q : Nat} {e : Bool} (h1 : 1 ≤ q) (h2 : q ≤ rows.length) (f : Fit rows (l ++ [(q, e)]) q) : comeM nm rows l q e = some (l ++ [(q, e)]) := by
  have hn := h.n
  unfold comeM
  rw [if_neg (by unfold endP; split <;> omega), if_pos ((stand_iff h h1 h2).mpr ⟨f.1, fun _ => f.2.1, fun _ => f.2.2⟩)]
end
/-! ### runs -/
def runF (nm : List Nat) (rows : List R3) (cs : List Crt) (l : List Stp) : Option (List Crt) := l.foldl (fun o s => o.bind fun cs => stepM nm rows cs s) (some cs)
theorem run_none (nm : List Nat) (rows : List R3) : ∀ l : List Stp, l.foldl (fun o s => o.bind fun cs => stepM nm rows cs s) (none : Option (List Crt)) = none
  | [] => rfl
  | s :: l => run_none nm rows l
theorem runF_append (nm : List Nat) (rows : List R3) (cs : List Crt) (l m : List Stp) : runF nm rows cs (l ++ m) = (runF nm rows cs l).bind fun c => runF nm rows c m := by
  unfold runF
  rw [List.foldl_append]
  cases l.foldl (fun o s => o.bind fun cs => stepM nm rows cs s) (some cs) with
  | none => exact run_none nm rows m
  | some c => rfl
def Good (nm : List Nat) (rows : List R3) (ok : List Crt → Prop) (cs : List Crt) (l : List Stp) (cs' : List Crt) : Prop := runF nm rows cs l = some cs' ∧ ∀ i, i ≤ l.length → ∃ c, runF nm rows cs (l.take i) = some c ∧ ok c
section
variable {nm : List Nat} {rows : List R3} {ok : List Crt → Prop}
theorem Good.nil {cs : List Crt} (h : ok cs) : Good nm rows ok cs [] cs := ⟨rfl, fun i hi => ⟨cs, by rw [List.take_nil]; rfl, h⟩⟩
theorem Good.one {cs cs' : List Crt} {s : Stp} (h : stepM nm rows cs s = some cs') (o1 : ok cs) (o2 : ok cs') : Good nm rows ok cs [s] cs' := ⟨h, fun i hi => by
  have : i = 0 ∨ i = 1 := by
    have : i ≤ 1 := hi
    omega
  rcases this with rfl | rfl
  · exact ⟨cs, rfl, o1⟩
  · exact ⟨cs', h, o2⟩⟩
theorem Good.append {c0 c1 c2 : List Crt} {l m : List Stp} (h1 : Good nm rows ok c0 l c1) (h2 : Good nm rows ok c1 m c2) : Good nm rows ok c0 (l ++ m) c2 := by
  refine ⟨by rw [runF_append, h1.1]; exact h2.1, fun i hi => ?_⟩
  rw [List.length_append] at hi
  by_cases z : i ≤ l.length
  · rw [List.take_append_of_le_length z]
    exact h1.2 i z
  · obtain ⟨c, q1, q2⟩ := h2.2 (i - l.length) (by omega)
    refine ⟨c, ?_, q2⟩
    rw [List.take_append, List.take_of_length_le (by omega), runF_append, h1.1]
    exact q1
end
/-! ### a cart is brought -/
def pT (n : Nat) (e : Bool) (t : Nat) : Nat := if e then t else n - 1 - t
def dT (n : Nat) (e : Bool) (k : Nat) : Nat := if e then k else n - 1 - k
def onP (n : Nat) (c : Crt) (q : Nat) : Prop := ∃ t, 1 ≤ t ∧ t ≤ dT n c.2 c.1 ∧ pT n c.2 t = q
theorem stepsTo_eq {n : Nat} {k : Nat} {e : Bool} (hk : k ≤ n - 1) : stepsTo n (k, e) = (none, e) :: (List.range (dT n e k - 1)).map fun t => (some (pT n e (t + 1)), e) := by
  unfold stepsTo
  have e1 : dst (i0 n e) k = dT n e k := by
    unfold dst i0 dT
    cases e <;> simp <;> intros <;> omega
  show (none, e) :: ((List.range (dst (i0 n e) k - 1)).map fun t => (some (posAt (i0 n e) k (t + 1)), e)) = _
  rw [e1]
  congr 1
  refine List.map_congr_left fun t ht => ?_
  rw [List.mem_range] at ht
  have e2 : posAt (i0 n e) k (t + 1) = pT n e (t + 1) := by
    unfold dT at ht
    unfold posAt i0 pT
    cases e <;> simp at ht ⊢ <;> intros <;> omega
  rw [e2]
section
variable {nm : List Nat} {rows : List R3} (h : LR nm rows)
include h
theorem bring {ok : List Crt → Prop} {X cs : List Crt} {k : Nat} {e : Bool} (hk : 1 ≤ k ∧ k ≤ rows.length) (hp : cs.Perm X) (hcs : ok cs) (hok : ∀ l q, l.Perm ((q, e) :: X) → 1 ≤ q → q ≤ rows.length → ok l)
    (hfit : ∀ q, onP nm.length (k, e) q → Fit rows ((q, e) :: X) q) : ∃ l, l.Perm ((k, e) :: X) ∧ Good nm rows ok cs (stepsTo nm.length (k, e)) l := by
  have hn := h.n
  have hd : 1 ≤ dT nm.length e k := by unfold dT; split <;> omega
  have hpe : pT nm.length e (dT nm.length e k) = k := by unfold pT dT; cases e <;> simp <;> omega
  have hq : ∀ t, 1 ≤ t → t ≤ dT nm.length e k → 1 ≤ pT nm.length e t ∧ pT nm.length e t ≤ rows.length := fun t h1 h2 => by
    unfold dT at h2
    unfold pT
    cases e <;> simp at h2 ⊢ <;> omega
  have main : ∀ t, t < dT nm.length e k → ∃ l, l.Perm ((pT nm.length e (t + 1), e) :: X) ∧ Good nm rows ok cs ((none, e) :: (List.range t).map fun t => (some (pT nm.length e (t + 1)), e)) l := by
    intro t
    induction t with
    | zero =>
      intro ht
      obtain ⟨q1, q2⟩ := hq 1 (by omega) (by omega)
      have hpm : (cs ++ [(pT nm.length e 1, e)]).Perm ((pT nm.length e 1, e) :: X) := (List.perm_append_comm).trans (hp.cons _)
      have hc := come_fit h q1 q2 ((hfit _ ⟨1, by omega, ht, rfl⟩).perm hpm)
      have hnx : nextP nm.length (none, e) = pT nm.length e 1 := by rw [nextP_in]; unfold pT; cases e <;> simp <;> omega
      exact ⟨_, hpm, Good.one (by unfold stepM; rw [hnx]; exact hc) hcs (hok _ _ hpm q1 q2)⟩
    | succ t ih =>
      intro ht
      obtain ⟨l, hl, hg⟩ := ih (by omega)
      obtain ⟨q1, q2⟩ := hq (t + 1) (by omega) (by omega)
      obtain ⟨r1, r2⟩ := hq (t + 1 + 1) (by omega) (by omega)
      have hm : (pT nm.length e (t + 1), e) ∈ l := hl.mem_iff.mpr List.mem_cons_self
      have he : (l.erase (pT nm.length e (t + 1), e)).Perm X := by
        have := hl.erase (pT nm.length e (t + 1), e)
        rw [List.erase_cons_head] at this
        exact this
      have hpm : (l.erase (pT nm.length e (t + 1), e) ++ [(pT nm.length e (t + 1 + 1), e)]).Perm ((pT nm.length e (t + 1 + 1), e) :: X) := (List.perm_append_comm).trans (he.cons _)
      have hc := come_fit h r1 r2 ((hfit _ ⟨t + 1 + 1, by omega, ht, rfl⟩).perm hpm)
      have hnx : nextP nm.length (some (pT nm.length e (t + 1)), e) = pT nm.length e (t + 1 + 1) := by rw [nextP_on]; unfold pT; cases e <;> simp; omega
      have hs : stepM nm rows l (some (pT nm.length e (t + 1)), e) = some (l.erase (pT nm.length e (t + 1), e) ++ [(pT nm.length e (t + 1 + 1), e)]) := by
        unfold stepM
        rw [leftM_some, if_pos hm, hnx]
        exact hc
      refine ⟨_, hpm, ?_⟩
      rw [List.range_succ, List.map_append, ← List.cons_append]
      exact hg.append (Good.one hs (hok _ _ hl q1 q2) (hok _ _ hpm r1 r2))
  obtain ⟨l, hl, hg⟩ := main (dT nm.length e k - 1) (by omega)
  rw [show dT nm.length e k - 1 + 1 = dT nm.length e k by omega, hpe] at hl
  rw [stepsTo_eq (by omega)]
  exact ⟨l, hl, hg⟩
end
/-- carts that can be brought, one behind the other -/
def Ch (n : Nat) (rows : List R3) : List Crt → List Crt → Prop
  | _, [] => True
  | X, c :: L => (∀ q, onP n c q → Fit rows ((q, c.2) :: X) q) ∧ Ch n rows (X ++ [c]) L
theorem Ch.append {n : Nat} {rows : List R3} : ∀ {L X M : List Crt}, Ch n rows X L → Ch n rows (X ++ L) M → Ch n rows X (L ++ M)
  | [], X, M, _, h => by rw [List.append_nil] at h; exact h
  | c :: L, X, M, h1, h2 => ⟨h1.1, Ch.append h1.2 (by rw [List.append_assoc]; exact h2)⟩
theorem ch_rep {n : Nat} {rows : List R3} {k : Nat} {e : Bool} : ∀ (m : Nat) (X : List Crt), (1 ≤ m → ∀ q, onP n (k, e) q → q ≠ k → Fit rows ((q, e) :: X) q) → (1 ≤ m → Fit rows (List.replicate m (k, e) ++ X) k) → Ch n rows X (List.replicate m (k, e))
  | 0, X, _, _ => trivial
  | m + 1, X, h1, h2 => by
    rw [List.replicate_succ]
    have hf := h2 (by omega)
    refine ⟨fun q hq => ?_, ch_rep m (X ++ [(k, e)]) (fun _ q hq hne => ?_) (fun hm => ?_)⟩
    · by_cases z : q = k
      · subst z
        refine Fit.mono (l := (q, e) :: X) (fun f => ?_) hf
        rw [List.replicate_succ, List.cons_append, List.count_cons, List.count_cons, List.count_append]
        omega
      · exact h1 (by omega) q hq z
    · refine (h1 (by omega) q hq hne).mono fun f => ?_
      rw [List.count_cons, List.count_cons, List.count_append]
      have : ([(k, e)] : List Crt).count (q, f) = 0 := by
        rw [List.count_eq_zero]
        intro z
        have := List.mem_singleton.mp z
        exact hne (congrArg Prod.fst this)
      omega
    · refine hf.perm ?_
      rw [List.replicate_succ, List.cons_append]
      have : (List.replicate m (k, e) ++ (X ++ [(k, e)])).Perm ((k, e) :: (List.replicate m (k, e) ++ X)) := by
        rw [← List.append_assoc]
        exact List.perm_append_comm
      exact this
def nE (l : List Crt) : Nat := (l.filter (·.2)).length
def nW (l : List Crt) : Nat := (l.filter (!·.2)).length
theorem nEW (l : List Crt) : l.length = nE l + nW l := by
  unfold nE nW
  induction l with
  | nil => rfl
  | cons c r ih =>
    obtain ⟨p, e⟩ := c
    cases e <;> simp [ih] <;> omega
theorem nE_append (l m : List Crt) : nE (l ++ m) = nE l + nE m := by unfold nE; rw [List.filter_append, List.length_append]
theorem nW_append (l m : List Crt) : nW (l ++ m) = nW l + nW m := by unfold nW; rw [List.filter_append, List.length_append]
theorem nE_perm {l m : List Crt} (h : l.Perm m) : nE l = nE m := (h.filter _).length_eq
theorem nW_perm {l m : List Crt} (h : l.Perm m) : nW l = nW m := (h.filter _).length_eq
def okC (rows : List R3) (E W : Nat) (cs : List Crt) : Prop := (∀ c ∈ cs, 1 ≤ c.1 ∧ c.1 ≤ rows.length) ∧ cs.length < 64 ∧ nE cs ≤ E ∧ nW cs ≤ W
theorem run_all {nm : List Nat} {rows : List R3} (h : LR nm rows) {E W : Nat} : ∀ (L X cs : List Crt), cs.Perm X → Ch nm.length rows X L → (∀ c ∈ X ++ L, 1 ≤ c.1 ∧ c.1 ≤ rows.length) → (X ++ L).length < 64 → nE (X ++ L) ≤ E → nW (X ++ L) ≤ W →
    ∃ l, l.Perm (X ++ L) ∧ Good nm rows (okC rows E W) cs (L.flatMap (stepsTo nm.length)) l
  | [], X, cs, hp, _, hc, hl, hE, hW => by
    rw [List.append_nil] at *
    refine ⟨cs, hp, Good.nil ⟨fun c hcc => hc c (hp.mem_iff.mp hcc), by rw [hp.length_eq]; exact hl, by rw [nE_perm hp]; exact hE, by rw [nW_perm hp]; exact hW⟩⟩
  | (k, e) :: L, X, cs, hp, hch, hc, hl, hE, hW => by
    have eA : X ++ (k, e) :: L = (X ++ [(k, e)]) ++ L := by simp
    rw [eA] at hc hl hE hW
    have hk := hc (k, e) (List.mem_append_left _ (List.mem_append_right _ List.mem_cons_self))
    have hXc : ∀ c ∈ X, 1 ≤ c.1 ∧ c.1 ≤ rows.length := fun c hcc => hc c (List.mem_append_left _ (List.mem_append_left _ hcc))
    rw [List.length_append, List.length_append] at hl
    rw [nE_append, nE_append] at hE
    rw [nW_append, nW_append] at hW
    simp only [List.length_cons, List.length_nil] at hl
    obtain ⟨l1, p1, g1⟩ := bring h (ok := okC rows E W) hk hp ⟨fun c hcc => hXc c (hp.mem_iff.mp hcc), by rw [hp.length_eq]; omega, by rw [nE_perm hp]; omega, by rw [nW_perm hp]; omega⟩ (fun l q hlq q1 q2 => by
      refine ⟨fun c hcc => ?_, ?_, ?_, ?_⟩
      · rcases List.mem_cons.mp (hlq.mem_iff.mp hcc) with z | z
        · rw [z]; exact ⟨q1, q2⟩
        · exact hXc c z
      · rw [hlq.length_eq, List.length_cons]; omega
      · rw [nE_perm hlq, show (q, e) :: X = [(q, e)] ++ X from rfl, nE_append, show nE [(q, e)] = nE [(k, e)] by unfold nE; cases e <;> rfl]
        omega
      · rw [nW_perm hlq, show (q, e) :: X = [(q, e)] ++ X from rfl, nW_append, show nW [(q, e)] = nW [(k, e)] by unfold nW; cases e <;> rfl]
        omega) hch.1
    obtain ⟨l2, p2, g2⟩ := run_all h L (X ++ [(k, e)]) l1 (p1.trans (List.perm_append_comm (l₁ := [(k, e)]) (l₂ := X))) hch.2 hc (by rw [List.length_append, List.length_append]; simpa using hl) (by rw [nE_append, nE_append]; exact hE) (by rw [nW_append, nW_append]; exact hW)
    rw [eA]
    refine ⟨l2, p2, ?_⟩
    rw [List.flatMap_cons]
    exact g1.append g2
end K74

set_option Elab.async false
set_option linter.all false
set_option maxRecDepth 100000
set_option maxHeartbeats 1000000
namespace K74
open PySem PySem.Spec PyProof.Rows L2
/-! ### how many stand where -/
theorem cnt_rep (m : Nat) (c d : Crt) : (List.replicate m c).count d = if c = d then m else 0 := by
  rw [List.count_replicate]
  by_cases z : c = d
  · subst z; simp
  · simp [z]
theorem cnt1 (A : Nat) (ws : List Nat) (q : Nat) (f : Bool) : ∀ i, (placed1 A ws i).count (q, f) = if f = false ∧ A < q ∧ q ≤ A + i then ws.getD (q - A) 0 else 0
  | 0 => by
    rw [if_neg (by omega)]
    rfl
  | i + 1 => by
    have e : placed1 A ws (i + 1) = placed1 A ws i ++ List.replicate (ws.getD (i + 1) 0) (A + (i + 1), false) := by unfold placed1; rw [flatMap_succ]
    rw [e, List.count_append, cnt1 A ws q f i, cnt_rep]
    cases f with
    | true => simp
    | false =>
      by_cases z : A + (i + 1) = q
      · subst z
        rw [if_neg (by omega), if_pos rfl, if_pos ⟨rfl, by omega, by omega⟩, show A + (i + 1) - A = i + 1 by omega]
        omega
      · rw [if_neg (c := ((A + (i + 1), false) : Crt) = (q, false)) (fun y => z (congrArg Prod.fst y))]
        by_cases y : A < q ∧ q ≤ A + i
        · rw [if_pos ⟨rfl, y⟩, if_pos ⟨rfl, y.1, by omega⟩]; rfl
        · rw [if_neg (fun w => y w.2), if_neg (by omega)]
theorem cnt2 (A L : Nat) (es : List Nat) (q : Nat) (f : Bool) : ∀ i, i ≤ L - 2 → (placed2 A L es i).count (q, f) = if f = true ∧ A + (L - 2 - i) < q ∧ q ≤ A + (L - 2) then es.getD (q - A) 0 else 0
  | 0, _ => by
    rw [if_neg (by omega)]
    rfl
  | i + 1, hi => by
    have e : placed2 A L es (i + 1) = placed2 A L es i ++ List.replicate (es.getD (L - 2 - i) 0) (A + (L - 2 - i), true) := by unfold placed2; rw [flatMap_succ]
    rw [e, List.count_append, cnt2 A L es q f i (by omega), cnt_rep]
    cases f with
    | false => simp
    | true =>
      by_cases z : A + (L - 2 - i) = q
      · subst z
        rw [if_neg (by omega), if_pos rfl, if_pos ⟨rfl, by omega, by omega⟩, show A + (L - 2 - i) - A = L - 2 - i by omega]
        omega
      · rw [if_neg (c := ((A + (L - 2 - i), true) : Crt) = (q, true)) (fun y => z (congrArg Prod.fst y))]
        by_cases y : A + (L - 2 - i) < q ∧ q ≤ A + (L - 2)
        · rw [if_pos ⟨rfl, y⟩, if_pos ⟨rfl, by omega, y.2⟩]; rfl
        · rw [if_neg (fun w => y w.2), if_neg (by omega)]
theorem cntT (A L : Nat) (es ws : List Nat) (q : Nat) (hL : 2 ≤ L) : (placedM A L es ws).count (q, true) = if A < q ∧ q ≤ A + (L - 2) then es.getD (q - A) 0 else if A = q then es.getD 0 0 else 0 := by
  unfold placedM
  rw [List.count_append, List.count_append, List.count_append, cnt1, cnt2 A L es q true (L - 2) (Nat.le_refl _), cnt_rep, cnt_rep, if_neg (by simp), if_neg (c := (A + (L - 1), false) = (q, true)) (by simp)]
  by_cases y : A < q ∧ q ≤ A + (L - 2)
  · rw [if_pos ⟨rfl, by omega, y.2⟩, if_pos y, if_neg (fun z => by have : A = q := congrArg Prod.fst z; omega)]
    omega
  · rw [if_neg (by omega), if_neg y]
    by_cases z : A = q
    · rw [if_pos (by rw [z]), if_pos z]; omega
    · rw [if_neg (fun w => z (congrArg Prod.fst w)), if_neg z]
theorem cntF (A L : Nat) (es ws : List Nat) (q : Nat) (hL : 2 ≤ L) : (placedM A L es ws).count (q, false) = if A < q ∧ q ≤ A + (L - 2) then ws.getD (q - A) 0 else if A + (L - 1) = q then ws.getD (L - 1) 0 else 0 := by
  unfold placedM
  rw [List.count_append, List.count_append, List.count_append, cnt1, cnt2 A L es q false (L - 2) (Nat.le_refl _), cnt_rep, cnt_rep, if_neg (c := false = true ∧ _) (by simp), if_neg (c := (A, true) = (q, false)) (by simp)]
  by_cases y : A < q ∧ q ≤ A + (L - 2)
  · rw [if_pos ⟨rfl, y⟩, if_pos y, if_neg (fun z => by have : A + (L - 1) = q := congrArg Prod.fst z; omega)]
    omega
  · rw [if_neg (fun z => y z.2), if_neg y]
    by_cases z : A + (L - 1) = q
    · rw [if_pos (by rw [z]), if_pos z]; omega
    · rw [if_neg (fun w => z (congrArg Prod.fst w)), if_neg z]
/-! ### a plan that is right -/
structure PlanOk (rows : List R3) (A L : Nat) (es ws : List Nat) : Prop where
  a1 : 1 ≤ A
  l2 : 2 ≤ L
  al : A + (L - 1) ≤ rows.length
  mid : ∀ t, 1 ≤ t → t ≤ L - 2 → es.getD t 0 + ws.getD t 0 ≤ (rowAt rows (A + t)).1 ∧ es.getD t 0 ≤ (rowAt rows (A + t)).2.1 ∧ ws.getD t 0 ≤ (rowAt rows (A + t)).2.2 ∧ ws.getD t 0 + 1 ≤ (rowAt rows (A + t)).1
  full : ∀ t, 1 ≤ t → t ≤ L - 2 → es.getD t 0 + ws.getD t 0 = (rowAt rows (A + t)).1 ∨ (es.getD t 0 = (rowAt rows (A + t)).2.1 ∧ ws.getD t 0 = (rowAt rows (A + t)).2.2)
  e0 : es.getD 0 0 = (rowAt rows A).1 ∧ es.getD 0 0 = (rowAt rows A).2.1
  w0 : ws.getD (L - 1) 0 = (rowAt rows (A + (L - 1))).1 ∧ ws.getD (L - 1) 0 = (rowAt rows (A + (L - 1))).2.2
section
variable {nm : List Nat} {rows : List R3} (h : LR nm rows)
include h
theorem onP_iff {k q : Nat} {e : Bool} (hk : 1 ≤ k ∧ k ≤ rows.length) : onP nm.length (k, e) q ↔ if e then 1 ≤ q ∧ q ≤ k else k ≤ q ∧ q ≤ rows.length := by
  have hn := h.n
  unfold onP pT dT
  cases e with
  | true =>
    simp only [if_true]
    constructor
    · rintro ⟨t, h1, h2, rfl⟩; exact ⟨h1, h2⟩
    · rintro ⟨h1, h2⟩; exact ⟨q, h1, h2, rfl⟩
  | false =>
    simp only [Bool.false_eq_true, if_false]
    constructor
    · rintro ⟨t, h1, h2, rfl⟩; omega
    · rintro ⟨h1, h2⟩; exact ⟨nm.length - 1 - q, by omega, by omega, by omega⟩
theorem plan_ch {A L : Nat} {es ws : List Nat} (p : PlanOk rows A L es ws) : Ch nm.length rows [] (placedM A L es ws) := by
  have hn := h.n
  have a1 := p.a1
  have l2 := p.l2
  have al := p.al
  have one : ∀ q f, ([(q, f)] : List Crt).count (q, true) + ([(q, f)] : List Crt).count (q, false) = 1 ∧ ([(q, true)] : List Crt).count (q, true) = 1 ∧ ([(q, true)] : List Crt).count (q, false) = 0 ∧ ([(q, false)] : List Crt).count (q, true) = 0 ∧ ([(q, false)] : List Crt).count (q, false) = 1 := fun q f => by cases f <;> simp
  have c1 : ∀ i, i ≤ L - 2 → Ch nm.length rows [] (placed1 A ws i) := by
    intro i
    induction i with
    | zero => intro _; trivial
    | succ i ih =>
      intro hi
      have e : placed1 A ws (i + 1) = placed1 A ws i ++ List.replicate (ws.getD (i + 1) 0) (A + (i + 1), false) := by unfold placed1; rw [flatMap_succ]
      rw [e]
      refine (ih (by omega)).append ?_
      rw [List.nil_append]
      obtain ⟨m1, m2, m3, m4⟩ := p.mid (i + 1) (by omega) hi
      refine ch_rep _ _ (fun _ q hq hne => ?_) fun _ => ?_
      · rw [onP_iff h (by omega)] at hq
        simp only [Bool.false_eq_true, if_false] at hq
        have r := h.row (k := q) (by omega) hq.2
        have o := one q false
        have y1 : (placed1 A ws i).count (q, true) = 0 := by rw [cnt1, if_neg (by simp)]
        have y2 : (placed1 A ws i).count (q, false) = 0 := by rw [cnt1, if_neg (by omega)]
        refine ⟨?_, ?_, ?_⟩ <;> rw [show ((q, false) :: placed1 A ws i) = [(q, false)] ++ placed1 A ws i from rfl]
        · rw [List.count_append, List.count_append, y1, y2, o.2.2.2.1, o.2.2.2.2]; omega
        · rw [List.count_append, y1, o.2.2.2.1]; omega
        · rw [List.count_append, y2, o.2.2.2.2]; omega
      · have y1 : (placed1 A ws i).count (A + (i + 1), true) = 0 := by rw [cnt1, if_neg (by simp)]
        have y2 : (placed1 A ws i).count (A + (i + 1), false) = 0 := by rw [cnt1, if_neg (by omega)]
        refine ⟨?_, ?_, ?_⟩
        · rw [List.count_append, List.count_append, y1, y2, cnt_rep, cnt_rep, if_neg (by simp), if_pos rfl]; omega
        · rw [List.count_append, y1, cnt_rep, if_neg (by simp)]; omega
        · rw [List.count_append, y2, cnt_rep, if_pos rfl]; omega
  have c2 : ∀ i, i ≤ L - 2 → Ch nm.length rows (placed1 A ws (L - 2)) (placed2 A L es i) := by
    intro i
    induction i with
    | zero => intro _; trivial
    | succ i ih =>
      intro hi
      have e : placed2 A L es (i + 1) = placed2 A L es i ++ List.replicate (es.getD (L - 2 - i) 0) (A + (L - 2 - i), true) := by unfold placed2; rw [flatMap_succ]
      rw [e]
      refine (ih (by omega)).append ?_
      obtain ⟨m1, m2, m3, m4⟩ := p.mid (L - 2 - i) (by omega) (by omega)
      have k2 := cnt2 A L es
      refine ch_rep _ _ (fun _ q hq hne => ?_) fun _ => ?_
      · rw [onP_iff h (by omega)] at hq
        simp only [if_true] at hq
        have r := h.row (k := q) (by omega) (by omega)
        have hT : (placed1 A ws (L - 2) ++ placed2 A L es i).count (q, true) = 0 := by
          rw [List.count_append, cnt1, cnt2 A L es q true i (by omega), if_neg (by simp), if_neg (by omega)]
        have hF : (placed1 A ws (L - 2) ++ placed2 A L es i).count (q, false) = 0 ∨ ((placed1 A ws (L - 2) ++ placed2 A L es i).count (q, false) + 1 ≤ (rowAt rows q).1 ∧ (placed1 A ws (L - 2) ++ placed2 A L es i).count (q, false) ≤ (rowAt rows q).2.2) := by
          rw [List.count_append, cnt1, cnt2 A L es q false i (by omega), if_neg (c := false = true ∧ _) (by simp)]
          by_cases z : A < q ∧ q ≤ A + (L - 2)
          · obtain ⟨n1, n2, n3, n4⟩ := p.mid (q - A) (by omega) (by omega)
            rw [show A + (q - A) = q by omega] at n1 n2 n3 n4
            rw [if_pos ⟨rfl, z⟩]
            exact .inr ⟨by omega, by omega⟩
          · rw [if_neg (fun y => z y.2)]
            exact .inl rfl
        have o := one q true
        refine ⟨?_, ?_, ?_⟩ <;> rw [show ((q, true) :: (placed1 A ws (L - 2) ++ placed2 A L es i)) = [(q, true)] ++ (placed1 A ws (L - 2) ++ placed2 A L es i) from rfl]
        · rw [List.count_append (l₁ := [(q, true)]), List.count_append (l₁ := [(q, true)]), hT, o.2.1, o.2.2.1]; omega
        · rw [List.count_append (l₁ := [(q, true)]), hT, o.2.1]; omega
        · rw [List.count_append (l₁ := [(q, true)]), o.2.2.1]; omega
      · have hT : (placed1 A ws (L - 2) ++ placed2 A L es i).count (A + (L - 2 - i), true) = 0 := by
          rw [List.count_append, cnt1, cnt2 A L es _ true i (by omega), if_neg (by simp), if_neg (by omega)]
        have hF : (placed1 A ws (L - 2) ++ placed2 A L es i).count (A + (L - 2 - i), false) = ws.getD (L - 2 - i) 0 := by
          rw [List.count_append, cnt1, cnt2 A L es _ false i (by omega), if_neg (c := false = true ∧ _) (by simp), if_pos ⟨rfl, by omega, by omega⟩, show A + (L - 2 - i) - A = L - 2 - i by omega]
          rfl
        refine ⟨?_, ?_, ?_⟩
        · rw [List.count_append (l₁ := List.replicate _ _), List.count_append (l₁ := List.replicate _ _), hT, hF, cnt_rep, cnt_rep, if_pos rfl, if_neg (by simp)]; omega
        · rw [List.count_append (l₁ := List.replicate _ _), hT, cnt_rep, if_pos rfl]; omega
        · rw [List.count_append (l₁ := List.replicate _ _), hF, cnt_rep, if_neg (by simp)]; omega
  unfold placedM
  have zero : ∀ q f, (q ≤ A ∨ A + (L - 2) < q) → (placed1 A ws (L - 2) ++ placed2 A L es (L - 2)).count (q, f) = 0 := fun q f hq => by
    rw [List.count_append, cnt1, cnt2 A L es q f (L - 2) (Nat.le_refl _), if_neg (by omega), if_neg (by omega)]
  refine Ch.append (Ch.append (Ch.append (c1 _ (Nat.le_refl _)) (by rw [List.nil_append]; exact c2 _ (Nat.le_refl _))) ?_) ?_
  · rw [List.nil_append]
    obtain ⟨z1, z2⟩ := p.e0
    refine ch_rep _ _ (fun _ q hq hne => ?_) fun _ => ?_
    · rw [onP_iff h (by omega)] at hq
      simp only [if_true] at hq
      have r := h.row (k := q) (by omega) (by omega)
      have o := one q true
      have y1 := zero q true (by omega)
      have y2 := zero q false (by omega)
      refine ⟨?_, ?_, ?_⟩ <;> rw [show ((q, true) :: (placed1 A ws (L - 2) ++ placed2 A L es (L - 2))) = [(q, true)] ++ (placed1 A ws (L - 2) ++ placed2 A L es (L - 2)) from rfl]
      · rw [List.count_append (l₁ := [(q, true)]), List.count_append (l₁ := [(q, true)]), y1, y2, o.2.1, o.2.2.1]; omega
      · rw [List.count_append (l₁ := [(q, true)]), y1, o.2.1]; omega
      · rw [List.count_append (l₁ := [(q, true)]), y2, o.2.2.1]; omega
    · have y1 := zero A true (by omega)
      have y2 := zero A false (by omega)
      refine ⟨?_, ?_, ?_⟩
      · rw [List.count_append (l₁ := List.replicate _ _), List.count_append (l₁ := List.replicate _ _), y1, y2, cnt_rep, cnt_rep, if_pos rfl, if_neg (by simp)]; omega
      · rw [List.count_append (l₁ := List.replicate _ _), y1, cnt_rep, if_pos rfl]; omega
      · rw [List.count_append (l₁ := List.replicate _ _), y2, cnt_rep, if_neg (by simp)]; omega
  · rw [List.nil_append]
    obtain ⟨z1, z2⟩ := p.w0
    have zero2 : ∀ q f, A + (L - 2) < q → (placed1 A ws (L - 2) ++ placed2 A L es (L - 2) ++ List.replicate (es.getD 0 0) (A, true)).count (q, f) = 0 := fun q f hq => by
      rw [List.count_append, zero q f (.inr hq), cnt_rep, if_neg (fun z => by have : A = q := congrArg Prod.fst z; omega)]
    refine ch_rep _ _ (fun _ q hq hne => ?_) fun _ => ?_
    · rw [onP_iff h (by omega)] at hq
      simp only [Bool.false_eq_true, if_false] at hq
      have r := h.row (k := q) (by omega) (by omega)
      have o := one q false
      have y1 := zero2 q true (by omega)
      have y2 := zero2 q false (by omega)
      refine ⟨?_, ?_, ?_⟩ <;> rw [show ((q, false) :: (placed1 A ws (L - 2) ++ placed2 A L es (L - 2) ++ List.replicate (es.getD 0 0) (A, true))) = [(q, false)] ++ (placed1 A ws (L - 2) ++ placed2 A L es (L - 2) ++ List.replicate (es.getD 0 0) (A, true)) from rfl]
      · rw [List.count_append (l₁ := [(q, false)]), List.count_append (l₁ := [(q, false)]), y1, y2, o.2.2.2.1, o.2.2.2.2]; omega
      · rw [List.count_append (l₁ := [(q, false)]), y1, o.2.2.2.1]; omega
      · rw [List.count_append (l₁ := [(q, false)]), y2, o.2.2.2.2]; omega
    · have y1 := zero2 (A + (L - 1)) true (by omega)
      have y2 := zero2 (A + (L - 1)) false (by omega)
      refine ⟨?_, ?_, ?_⟩
      · rw [List.count_append (l₁ := List.replicate _ _), List.count_append (l₁ := List.replicate _ _), y1, y2, cnt_rep, cnt_rep, if_neg (by simp), if_pos rfl]; omega
      · rw [List.count_append (l₁ := List.replicate _ _), y1, cnt_rep, if_neg (by simp)]; omega
      · rw [List.count_append (l₁ := List.replicate _ _), y2, cnt_rep, if_pos rfl]; omega
theorem plan_stuck {A L : Nat} {es ws : List Nat} (p : PlanOk rows A L es ws) {l : List Crt} (hl : l.Perm (placedM A L es ws)) : stuckM nm rows l = true := by
  have hn := h.n
  have a1 := p.a1
  have l2 := p.l2
  have al := p.al
  have hcT : ∀ q, l.count (q, true) = _ := fun q => (hl.count_eq (q, true)).trans (cntT A L es ws q l2)
  have hcF : ∀ q, l.count (q, false) = _ := fun q => (hl.count_eq (q, false)).trans (cntF A L es ws q l2)
  have rA := h.row (k := A) a1 (by omega)
  unfold stuckM
  rw [Bool.and_eq_true, List.all_eq_true]
  constructor
  · cases hz : l with
    | cons a r => rfl
    | nil =>
      have := hcT A
      rw [hz, if_neg (by omega), if_pos rfl, p.e0.1, show ([] : List Crt).count (A, true) = 0 from rfl] at this
      omega
  · rintro ⟨k, e⟩ hc
    have hpos : 0 < l.count (k, e) := List.count_pos_iff.mpr hc
    have hm : (k, e) ∈ l := hc
    -- where it stands, whither it wants
    have hk : if e then A ≤ k ∧ k ≤ A + (L - 2) else A < k ∧ k ≤ A + (L - 1) := by
      cases e with
      | true =>
        rw [hcT] at hpos
        simp only [if_true]
        split at hpos
        · omega
        · split at hpos
          · omega
          · omega
      | false =>
        rw [hcF] at hpos
        simp only [Bool.false_eq_true, if_false]
        split at hpos
        · omega
        · split at hpos
          · omega
          · omega
    have hq : 1 ≤ aft k e ∧ aft k e ≤ rows.length ∧ A ≤ aft k e ∧ aft k e ≤ A + (L - 1) ∧ aft k e ≠ k ∧ (if e then A < aft k e else aft k e < A + (L - 1)) := by
      unfold aft
      cases e <;> simp at hk ⊢ <;> omega
    have hcount : ∀ f, (l.erase (k, e) ++ [(aft k e, e)]).count (aft k e, f) = l.count (aft k e, f) + if e = f then 1 else 0 := fun f => by
      rw [List.count_append, List.count_erase_of_ne (by intro z; exact hq.2.2.2.2.1 (congrArg Prod.fst z))]
      congr 1
      cases e <;> cases f <;> simp
    have hns : ¬ standM (rowAt rows (aft k e)).1 (bks nm rows (aft k e)) (loadM nm (l.erase (k, e) ++ [(aft k e, e)]) (aft k e)) = true := by
      rw [stand_iff h hq.1 hq.2.1, hcount, hcount, hcT, hcF]
      rintro ⟨s1, s2, s3⟩
      by_cases zA : aft k e = A
      · rw [zA, if_neg (by omega), if_pos rfl, p.e0.1] at s1
        have : e = false := by
          cases e with
          | false => rfl
          | true => have := hq.2.2.2.2.2; simp at this; omega
        subst this
        rw [if_neg (by simp), if_neg (by omega), if_neg (by omega), if_pos rfl] at s1
        omega
      · by_cases zB : aft k e = A + (L - 1)
        · have : e = true := by
            cases e with
            | true => rfl
            | false => have := hq.2.2.2.2.2; simp at this; omega
          subst this
          rw [zB, if_neg (by omega), if_neg (by omega), if_pos rfl, if_neg (c := A < A + (L - 1) ∧ _) (by omega), if_pos rfl, p.w0.1] at s1
          omega
        · obtain ⟨m1, m2, m3, m4⟩ := p.mid (aft k e - A) (by omega) (by omega)
          have ff := p.full (aft k e - A) (by omega) (by omega)
          rw [show A + (aft k e - A) = aft k e by omega] at m1 m2 m3 m4 ff
          rw [if_pos (by omega), if_pos (c := A < aft k e ∧ aft k e ≤ A + (L - 2)) (by omega)] at s1
          rcases ff with ff | ⟨f1, f2⟩
          · cases e with
            | true =>
              rw [if_pos (c := true = true) rfl, if_neg (c := true = false) (by simp)] at s1
              omega
            | false =>
              rw [if_neg (c := false = true) (by simp), if_pos (c := false = false) rfl] at s1
              omega
          · cases e with
            | true =>
              have := s2 (by omega)
              rw [if_pos (by omega), if_pos rfl] at this
              omega
            | false =>
              have := s3 (by omega)
              rw [if_pos (by omega), if_pos rfl] at this
              omega
    unfold stepM
    rw [leftM_some, if_pos hm, nextP_on]
    show (comeM nm rows (l.erase (k, e)) (aft k e) e).isNone = true
    unfold comeM
    rw [if_neg (by unfold endP; split <;> omega), if_neg hns]
    rfl
end
end K74

set_option Elab.async false
set_option linter.all false
set_option maxRecDepth 100000
set_option maxHeartbeats 1000000
namespace K74
open PySem PySem.Spec PyProof.Rows L2
/-! ### the numbers of the plan -/
def stp (r : R3) (m : Nat) : Nat := min (min m (r.2.1 - hLow r)) (hAll r - hLeft r - hLow r)
def xsR : List R3 → Nat → List Nat
  | [], _ => []
  | r :: l, m => (hLow r + stp r m) :: xsR l (m - stp r m)
def ysR : List R3 → Nat → List Nat
  | [], _ => []
  | r :: l, m => (hAll r - hLow r - stp r m) :: ysR l (m - stp r m)
theorem fold_plan : ∀ (l : List R3) (st : Nat × List Nat × List Nat), (l.foldl planStep st).2.1 = st.2.1 ++ xsR l st.1 ∧ (l.foldl planStep st).2.2 = st.2.2 ++ ysR l st.1
  | [], st => by simp [xsR, ysR]
  | r :: l, st => by
    rw [List.foldl_cons]
    obtain ⟨h1, h2⟩ := fold_plan l (planStep st r)
    rw [h1, h2]
    have e1 : (planStep st r).1 = st.1 - stp r st.1 := rfl
    have e2 : (planStep st r).2.1 = st.2.1 ++ [hLow r + stp r st.1] := rfl
    have e3 : (planStep st r).2.2 = st.2.2 ++ [hAll r - hLow r - stp r st.1] := rfl
    rw [e1, e2, e3]
    simp [xsR, ysR]
theorem xsR_len : ∀ (l : List R3) (m : Nat), (xsR l m).length = l.length
  | [], _ => rfl
  | r :: l, m => by simp [xsR, xsR_len l]
theorem ysR_len : ∀ (l : List R3) (m : Nat), (ysR l m).length = l.length
  | [], _ => rfl
  | r :: l, m => by simp [ysR, ysR_len l]
theorem xy_at : ∀ (l : List R3) (m i : Nat), i < l.length → ∃ s, s ≤ (l.getD i (0, 0, 0)).2.1 - hLow (l.getD i (0, 0, 0)) ∧ s ≤ hAll (l.getD i (0, 0, 0)) - hLeft (l.getD i (0, 0, 0)) - hLow (l.getD i (0, 0, 0)) ∧
    (xsR l m).getD i 0 = hLow (l.getD i (0, 0, 0)) + s ∧ (ysR l m).getD i 0 = hAll (l.getD i (0, 0, 0)) - hLow (l.getD i (0, 0, 0)) - s
  | [], _, _, h => by cases h
  | r :: l, m, 0, _ => ⟨stp r m, by show stp r m ≤ r.2.1 - hLow r; unfold stp; omega, by show stp r m ≤ hAll r - hLeft r - hLow r; unfold stp; omega, rfl, rfl⟩
  | r :: l, m, i + 1, h => by
    obtain ⟨s, h1, h2, h3, h4⟩ := xy_at l (m - stp r m) i (by simpa using h)
    refine ⟨s, ?_, ?_, ?_, ?_⟩
    · simpa using h1
    · simpa using h2
    · simpa [xsR] using h3
    · simpa [ysR] using h4
def gd (r : R3) : Prop := r.2.1 ≤ r.1 ∧ r.2.2 ≤ r.1
theorem cap_le {r : R3} (h : gd r) : hAll r - hLeft r - hLow r ≤ r.2.1 - hLow r ∧ hLeft r + hLow r ≤ hAll r := by
  obtain ⟨h1, h2⟩ := h
  unfold hAll hLeft hLow
  omega
theorem xy_sum : ∀ (l : List R3) (m : Nat), (∀ r ∈ l, gd r) → ∃ c, c + (l.map hLeft).sum + (l.map hLow).sum = (l.map hAll).sum ∧ (xsR l m).sum = (l.map hLow).sum + min m c ∧ (xsR l m).sum + (ysR l m).sum = (l.map hAll).sum
  | [], m, _ => ⟨0, rfl, by simp [xsR], rfl⟩
  | r :: l, m, h => by
    obtain ⟨c, h1, h2, h3⟩ := xy_sum l (m - stp r m) fun r hr => h r (List.mem_cons_of_mem _ hr)
    obtain ⟨b1, b2⟩ := cap_le (h r List.mem_cons_self)
    have es : stp r m = min m (hAll r - hLeft r - hLow r) := by unfold stp; omega
    refine ⟨hAll r - hLeft r - hLow r + c, ?_, ?_, ?_⟩
    · simp only [List.map_cons, List.sum_cons]; omega
    · simp only [xsR, List.map_cons, List.sum_cons]
      rw [h2, es]; omega
    · simp only [xsR, ysR, List.map_cons, List.sum_cons]
      rw [es] at h3 ⊢; omega
theorem ys_take : ∀ (l : List R3) (m k : Nat), (∀ r ∈ l, gd r) → ((l.take k).map hLeft).sum ≤ ((ysR l m).take k).sum
  | [], m, k, _ => by simp [ysR]
  | r :: l, m, 0, _ => by simp
  | r :: l, m, k + 1, h => by
    have ih := ys_take l (m - stp r m) k fun r hr => h r (List.mem_cons_of_mem _ hr)
    obtain ⟨b1, b2⟩ := cap_le (h r List.mem_cons_self)
    have es : stp r m ≤ hAll r - hLeft r - hLow r := by unfold stp; omega
    simp only [ysR, List.take_succ_cons, List.map_cons, List.sum_cons]
    omega
theorem take_sum : ∀ (l : List Nat) (k : Nat), (l.take k).sum + l.getD k 0 ≤ l.sum
  | [], k => by simp
  | a :: l, 0 => by simp
  | a :: l, k + 1 => by
    have := take_sum l k
    simp only [List.take_succ_cons, List.sum_cons, List.getD_cons_succ]
    omega
theorem mid_get (a z : Nat) (l : List Nat) {t : Nat} (h1 : 1 ≤ t) (h2 : t ≤ l.length) : ([a] ++ l ++ [z]).getD t 0 = l.getD (t - 1) 0 := by
  obtain ⟨k, rfl⟩ : ∃ k, t = k + 1 := ⟨t - 1, by omega⟩
  show (l ++ [z]).getD k 0 = l.getD (k + 1 - 1) 0
  rw [List.getD_eq_getElem?_getD, List.getD_eq_getElem?_getD, List.getElem?_append_left (by omega)]
  rfl
theorem end_get (a z : Nat) (l : List Nat) : ([a] ++ l ++ [z]).getD (l.length + 1) 0 = z := by
  show (l ++ [z]).getD l.length 0 = z
  rw [List.getD_eq_getElem?_getD, List.getElem?_append_right (Nat.le_refl _)]
  simp
theorem nE_repT (m k : Nat) : nE (List.replicate m (k, true)) = m ∧ nW (List.replicate m (k, true)) = 0 := by
  unfold nE nW
  constructor
  · rw [List.filter_replicate_of_pos (by rfl), List.length_replicate]
  · rw [List.filter_replicate_of_neg (by simp)]; rfl
theorem nE_repF (m k : Nat) : nE (List.replicate m (k, false)) = 0 ∧ nW (List.replicate m (k, false)) = m := by
  unfold nE nW
  constructor
  · rw [List.filter_replicate_of_neg (by simp)]; rfl
  · rw [List.filter_replicate_of_pos (by rfl), List.length_replicate]
theorem n_placed1 (A : Nat) (a z : Nat) (ys : List Nat) : ∀ i, i ≤ ys.length → nE (placed1 A ([a] ++ ys ++ [z]) i) = 0 ∧ nW (placed1 A ([a] ++ ys ++ [z]) i) = (ys.take i).sum
  | 0, _ => ⟨rfl, rfl⟩
  | i + 1, h => by
    obtain ⟨h1, h2⟩ := n_placed1 A a z ys i (by omega)
    have e : placed1 A ([a] ++ ys ++ [z]) (i + 1) = placed1 A ([a] ++ ys ++ [z]) i ++ List.replicate (([a] ++ ys ++ [z]).getD (i + 1) 0) (A + (i + 1), false) := by unfold placed1; rw [flatMap_succ]
    rw [e, nE_append, nW_append, h1, h2, (nE_repF _ _).1, (nE_repF _ _).2, mid_get a z ys (by omega) h, List.take_add_one, getD_get 0 (show i < ys.length by omega)]
    refine ⟨rfl, ?_⟩
    simp
theorem n_placed2 (A : Nat) (a z : Nat) (xs : List Nat) : ∀ i, i ≤ xs.length → nW (placed2 A (xs.length + 2) ([a] ++ xs ++ [z]) i) = 0 ∧ nE (placed2 A (xs.length + 2) ([a] ++ xs ++ [z]) i) = (xs.drop (xs.length - i)).sum
  | 0, _ => ⟨rfl, by simp [placed2, nE]⟩
  | i + 1, h => by
    obtain ⟨h1, h2⟩ := n_placed2 A a z xs i (by omega)
    have e : placed2 A (xs.length + 2) ([a] ++ xs ++ [z]) (i + 1) = placed2 A (xs.length + 2) ([a] ++ xs ++ [z]) i ++ List.replicate (([a] ++ xs ++ [z]).getD (xs.length + 2 - 2 - i) 0) (A + (xs.length + 2 - 2 - i), true) := by unfold placed2; rw [flatMap_succ]
    rw [e, nE_append, nW_append, h1, h2, (nE_repT _ _).1, (nE_repT _ _).2, mid_get a z xs (by omega) (by omega)]
    refine ⟨rfl, ?_⟩
    have e2 : xs.drop (xs.length - (i + 1)) = xs[xs.length - (i + 1)]'(by omega) :: xs.drop (xs.length - i) := by
      rw [List.drop_eq_getElem_cons (by omega), show xs.length - (i + 1) + 1 = xs.length - i by omega]
    rw [e2, List.sum_cons, show xs.length + 2 - 2 - i - 1 = xs.length - (i + 1) by omega, List.getD_eq_getElem?_getD, List.getElem?_eq_getElem (by omega)]
    show _ + xs[xs.length - (i + 1)] = _
    omega
theorem n_placed (A a z a2 z2 : Nat) (xs ys : List Nat) (h : xs.length = ys.length) : nE (placedM A (xs.length + 2) ([a] ++ xs ++ [z]) ([a2] ++ ys ++ [z2])) = a + xs.sum ∧ nW (placedM A (xs.length + 2) ([a] ++ xs ++ [z]) ([a2] ++ ys ++ [z2])) = ys.sum + z2 := by
  obtain ⟨p1, p2⟩ := n_placed1 A a2 z2 ys ys.length (Nat.le_refl _)
  obtain ⟨q1, q2⟩ := n_placed2 A a z xs xs.length (Nat.le_refl _)
  have ez : ([a2] ++ ys ++ [z2]).getD (xs.length + 2 - 1) 0 = z2 := by
    have := end_get a2 z2 ys
    rw [show xs.length + 2 - 1 = ys.length + 1 by omega]
    exact this
  have ea : ([a] ++ xs ++ [z]).getD 0 0 = a := rfl
  unfold placedM
  rw [nE_append, nE_append, nE_append, nW_append, nW_append, nW_append, (nE_repT _ _).1, (nE_repT _ _).2, (nE_repF _ _).1, (nE_repF _ _).2, ez, ea, show xs.length + 2 - 2 = xs.length by omega, q1, q2, h, p1, p2, List.take_length]
  simp
  omega
theorem sum_take_le (f : R3 → Nat) : ∀ (l : List R3) (k : Nat), k < l.length → ((l.take k).map f).sum + f (l.getD k (0, 0, 0)) ≤ (l.map f).sum
  | [], k, h => by cases h
  | r :: l, 0, _ => by simp
  | r :: l, k + 1, h => by
    have := sum_take_le f l k (by simpa using h)
    simp only [List.take_succ_cons, List.map_cons, List.sum_cons, List.getD_cons_succ]
    omega
theorem betw_take {rows : List R3} {a b j : Nat} (h1 : a < j) (h2 : j ≤ b) : betw rows a j = (betw rows a b).take (j - (a + 1)) := by
  unfold betw
  rw [List.take_take, Nat.min_eq_left (by omega)]
theorem betw_at {rows : List R3} {a b t : Nat} (h1 : 1 ≤ t) (h2 : t ≤ b - a - 1) (hb : b < rows.length) : (betw rows a b).getD (t - 1) (0, 0, 0) = r3At rows (a + t) := by
  rw [List.getD_eq_getElem?_getD, betw_get, if_pos (by omega), r3At, List.getD_eq_getElem?_getD, show a + 1 + (t - 1) = a + t by omega]
theorem key_lt {r r' : R6} (h : r.1 < r'.1) (hr : TS.Bd 64 (l6 r)) (hr' : TS.Bd 64 (l6 r')) : key6 r < key6 r' := TS.code_lt rfl hr.tail hr'.tail (by omega)
theorem stick_Bd {rows : List R3} (R : RowsOk rows) {a b : Nat} (h1 : a < b) (h2 : b < rows.length) : TS.Bd 64 (l6 (sRow rows a b)) := fun x hx => by
  obtain ⟨b1, b2, b3⟩ := stick_bd R h1 h2
  have hl := R.len
  have q1 : (sRow rows a b).1 = b - a := rfl
  have q2 : (sRow rows a b).2.1 = a := rfl
  have q3 : (sRow rows a b).2.2.1 = b := rfl
  simp only [l6, List.mem_cons, List.not_mem_nil, or_false] at hx
  omega
end K74

set_option Elab.async false
set_option linter.all false
set_option maxRecDepth 100000
set_option maxHeartbeats 1000000
namespace K74
open PySem PySem.Spec PyProof.Rows L2
theorem gd_of {rows : List R3} (R : RowsOk rows) : ∀ r ∈ rows, gd r := fun r hr => by have := R.bd r hr; exact ⟨by omega, by omega⟩
theorem plan_all {rows : List R3} (R : RowsOk rows) {E W : Nat} {r : R6} {rest : List R6} (hst : sticking rows E W = r :: rest) :
    ∃ a b xs ys, a < b ∧ b < rows.length ∧ xs.length = b - a - 1 ∧ ys.length = b - a - 1 ∧ planE rows r W = [(r3At rows a).1] ++ xs ++ [0] ∧ planW rows r W = [0] ++ ys ++ [(r3At rows b).1] ∧ r.2.1 = a ∧ r.2.2.1 = b ∧
      (r3At rows a).1 + xs.sum ≤ E ∧ ys.sum + (r3At rows b).1 ≤ W ∧ PlanOk rows (a + 1) (b - a + 1) (planE rows r W) (planW rows r W) := by
  have hmem : r ∈ sticking rows E W := by rw [hst]; exact List.mem_cons_self
  have hr0 : r ∈ stickRows rows := (sortK_perm key6 _).mem_iff.mp (List.mem_filter.mp hmem).1
  have hs := (List.mem_filter.mp hmem).2
  rw [stk_nat] at hs
  obtain ⟨a, b, h1, h2, h3, e⟩ := mem_stick.mp hr0
  have hmin : ∀ r' ∈ stickRows rows, stk r' (E : Int) (W : Int) = true → key6 r ≤ key6 r' := fun r' hr' hs' => by
    have hm' : r' ∈ sticking rows E W := List.mem_filter.mpr ⟨(sortK_perm key6 _).mem_iff.mpr hr', hs'⟩
    have hpw : (sticking rows E W).Pairwise fun x y => key6 x ≤ key6 y := (sortK_sorted key6 _).filter _
    rw [hst] at hm' hpw
    rcases List.mem_cons.mp hm' with z | z
    · rw [z]; exact Int.le_refl _
    · exact (List.pairwise_cons.mp hpw).1 r' z
  have q2 : r.2.1 = a := by rw [← e]; rfl
  have q3 : r.2.2.1 = b := by rw [← e]; rfl
  have q4 : r.2.2.2.1 = (r3At rows a).1 + ((betw rows a b).map hLow).sum := by rw [← e]; rfl
  have q5 : r.2.2.2.2.1 = (r3At rows b).1 + ((betw rows a b).map hLeft).sum := by rw [← e]; rfl
  have q6 : r.2.2.2.2.2 = (r3At rows a).1 + (r3At rows b).1 + ((betw rows a b).map hAll).sum := by rw [← e]; rfl
  have hgb : ∀ u ∈ betw rows a b, gd u := fun u hu => gd_of R u (betw_mem hu)
  have hbl := betw_len h1 h2
  obtain ⟨c, c1, c2, c3⟩ := xy_sum (betw rows a b) (more0 r W) hgb
  obtain ⟨f1, f2⟩ := fold_plan (betw rows r.2.1 r.2.2.1) (more0 r W, [], [])
  rw [q2, q3] at f1 f2
  have eE : planE rows r W = [(r3At rows a).1] ++ xsR (betw rows a b) (more0 r W) ++ [0] := by
    unfold planE planRun
    rw [q2, q3, f1]
    rfl
  have eW : planW rows r W = [0] ++ ysR (betw rows a b) (more0 r W) ++ [(r3At rows b).1] := by
    unfold planW planRun
    rw [q2, q3, f2]
    rfl
  have lx := xsR_len (betw rows a b) (more0 r W)
  have ly := ysR_len (betw rows a b) (more0 r W)
  have hyt := ys_take (betw rows a b) (more0 r W)
  have hxy := xy_at (betw rows a b) (more0 r W)
  have hm0 : more0 r W = r.2.2.2.2.2 - W - r.2.2.2.1 := rfl
  generalize xsR (betw rows a b) (more0 r W) = xs at *
  generalize ysR (betw rows a b) (more0 r W) = ys at *
  have tE : (r3At rows a).1 + xs.sum ≤ E := by omega
  have tW : ys.sum + (r3At rows b).1 ≤ W := by omega
  have ra := R.at (show a < rows.length by omega)
  have rb := R.at h2
  unfold sOk at h3
  rw [Bool.and_eq_true, decide_eq_true_eq, decide_eq_true_eq] at h3
  have gE : ∀ t, 1 ≤ t → t ≤ b - a - 1 → (planE rows r W).getD t 0 = xs.getD (t - 1) 0 := fun t t1 t2 => by rw [eE]; exact mid_get _ _ xs t1 (by omega)
  have gW : ∀ t, 1 ≤ t → t ≤ b - a - 1 → (planW rows r W).getD t 0 = ys.getD (t - 1) 0 := fun t t1 t2 => by rw [eW]; exact mid_get _ _ ys t1 (by omega)
  have rAt : ∀ t, rowAt rows (a + 1 + t) = r3At rows (a + t) := fun t => by unfold rowAt r3At; rw [show a + 1 + t - 1 = a + t by omega]
  have pts : ∀ t, 1 ≤ t → t ≤ b - a - 1 → ∃ s, s ≤ (r3At rows (a + t)).2.1 - hLow (r3At rows (a + t)) ∧ s ≤ hAll (r3At rows (a + t)) - hLeft (r3At rows (a + t)) - hLow (r3At rows (a + t)) ∧ (planE rows r W).getD t 0 = hLow (r3At rows (a + t)) + s ∧ (planW rows r W).getD t 0 = hAll (r3At rows (a + t)) - hLow (r3At rows (a + t)) - s := fun t t1 t2 => by
    obtain ⟨s, s1, s2, s3, s4⟩ := hxy (t - 1) (by omega)
    rw [betw_at t1 t2 h2] at s1 s2 s3 s4
    exact ⟨s, s1, s2, by rw [gE t t1 t2]; exact s3, by rw [gW t t1 t2]; exact s4⟩
  refine ⟨a, b, xs, ys, h1, h2, by omega, by omega, eE, eW, q2, q3, tE, tW, ⟨by omega, by omega, by omega, fun t t1 t2 => ?_, fun t t1 t2 => ?_, ?_, ?_⟩⟩
  · obtain ⟨s, s1, s2, s3, s4⟩ := pts t t1 (by omega)
    have ru := R.at (show a + t < rows.length by omega)
    have hgy := gW t t1 (by omega)
    rw [rAt, s3, s4]
    rw [s4] at hgy
    have key : ∀ u : R3, u.2.1 ≤ u.1 → u.2.2 ≤ u.1 → ∀ s, s ≤ u.2.1 - hLow u → s ≤ hAll u - hLeft u - hLow u → hLow u + s + (hAll u - hLow u - s) ≤ u.1 ∧ hLow u + s ≤ u.2.1 ∧ hAll u - hLow u - s ≤ u.2.2 ∧ hAll u - hLow u - s ≤ hAll u ∧ hAll u ≤ u.1 := fun u b1 b2 s z1 z2 => by
      unfold hAll hLow hLeft at *
      omega
    obtain ⟨k1, k2, k3, k4, k5⟩ := key _ (by omega) (by omega) s s1 s2
    refine ⟨k1, k2, k3, ?_⟩
    -- no yard between is full of carts of the one way
    refine Classical.byContradiction fun hno => ?_
    have hfull : hAll (r3At rows (a + t)) - hLow (r3At rows (a + t)) - s = (r3At rows (a + t)).1 := by omega
    have hw : (r3At rows (a + t)).2.2 = (r3At rows (a + t)).1 := by omega
    have hall : hAll (r3At rows (a + t)) = (r3At rows (a + t)).1 := by omega
    have hj1 : a < a + t := by omega
    have hj2 : a + t < rows.length := by omega
    have hm := hmin (sRow rows a (a + t)) (mem_stick.mpr ⟨a, a + t, hj1, hj2, by unfold sOk; rw [Bool.and_eq_true, decide_eq_true_eq, decide_eq_true_eq]; exact ⟨h3.1, hw⟩, rfl⟩) (by
      rw [stk_nat]
      have ebt : betw rows a (a + t) = (betw rows a b).take (t - 1) := by rw [betw_take hj1 (show a + t ≤ b by omega), show a + t - (a + 1) = t - 1 by omega]
      have g1 := sum_take_le hLow (betw rows a b) (t - 1) (by omega)
      have g2 := hyt (t - 1) hgb
      have g3 := take_sum ys (t - 1)
      have g4 := sum_take_le hAll (betw rows a b) (t - 1) (by omega)
      rw [betw_at t1 (by omega) h2] at g1 g4
      have z4 : (sRow rows a (a + t)).2.2.2.1 = (r3At rows a).1 + (((betw rows a b).take (t - 1)).map hLow).sum := by unfold sRow; rw [ebt]
      have z5 : (sRow rows a (a + t)).2.2.2.2.1 = (r3At rows (a + t)).1 + (((betw rows a b).take (t - 1)).map hLeft).sum := by unfold sRow; rw [ebt]
      have z6 : (sRow rows a (a + t)).2.2.2.2.2 = (r3At rows a).1 + (r3At rows (a + t)).1 + (((betw rows a b).take (t - 1)).map hAll).sum := by unfold sRow; rw [ebt]
      rw [z4, z5, z6]
      refine ⟨by omega, by omega, by omega⟩)
    have hlt : key6 (sRow rows a (a + t)) < key6 r := by
      rw [← e]
      exact key_lt (show a + t - a < b - a by omega) (stick_Bd R hj1 hj2) (stick_Bd R h1 h2)
    omega
  · obtain ⟨s, s1, s2, s3, s4⟩ := pts t t1 (by omega)
    have ru := R.at (show a + t < rows.length by omega)
    rw [rAt, s3, s4]
    have key : ∀ u : R3, u.2.1 ≤ u.1 → u.2.2 ≤ u.1 → ∀ s, s ≤ u.2.1 - hLow u → s ≤ hAll u - hLeft u - hLow u → hLow u + s + (hAll u - hLow u - s) = u.1 ∨ (hLow u + s = u.2.1 ∧ hAll u - hLow u - s = u.2.2) := fun u b1 b2 s z1 z2 => by
      unfold hAll hLow hLeft at *
      omega
    exact key _ (by omega) (by omega) s s1 s2
  · have e0 : (planE rows r W).getD 0 0 = (r3At rows a).1 := by rw [eE]; rfl
    have er : rowAt rows (a + 1) = r3At rows a := rfl
    rw [e0, er]
    exact ⟨rfl, h3.1.symm⟩
  · have e0 : (planW rows r W).getD (b - a + 1 - 1) 0 = (r3At rows b).1 := by
      rw [eW]
      have := end_get 0 (r3At rows b).1 ys
      rw [show b - a + 1 - 1 = ys.length + 1 by omega]
      exact this
    rw [e0, rAt, show a + (b - a + 1 - 1) = b by omega]
    exact ⟨rfl, h3.2.symm⟩
theorem script_ok {nm : List Nat} {rows : List R3} (h : LR nm rows) {E W : Nat} (hen : enoughM rows (E : Int) (W : Int) = true) : ∃ r rest, sticking rows E W = r :: rest ∧ ScriptOk nm rows (scriptM nm rows r W) E W := by
  have hn := h.n
  have hrl := h.R.len
  cases hst : sticking rows E W with
  | nil =>
    exfalso
    obtain ⟨r, hr, hs⟩ := List.any_eq_true.mp hen
    have : r ∈ sticking rows E W := List.mem_filter.mpr ⟨(sortK_perm key6 _).mem_iff.mpr hr, hs⟩
    rw [hst] at this
    cases this
  | cons r rest =>
    refine ⟨r, rest, rfl, ?_⟩
    obtain ⟨a, b, xs, ys, h1, h2, lx, ly, eE, eW, q2, q3, tE, tW, p⟩ := plan_all h.R hst
    have hr0 : r ∈ stickRows rows := (sortK_perm key6 _).mem_iff.mp (List.mem_filter.mp (show r ∈ sticking rows E W by rw [hst]; exact List.mem_cons_self)).1
    obtain ⟨_, _, _, _, _, _, _, _, l1, l2, b1, b2⟩ := plan_facts h.R hr0 W
    have eC : planCarts rows r W = placedM (a + 1) (b - a + 1) (planE rows r W) (planW rows r W) := by unfold planCarts; rw [q2, q3]
    have hpos : ∀ c ∈ planCarts rows r W, 1 ≤ c.1 ∧ c.1 ≤ rows.length := fun c hc => by
      rw [eC] at hc
      have := placedM_pos (by omega) c hc
      omega
    have hlen : (planCarts rows r W).length ≤ 100 := by rw [eC]; exact placedM_len (by omega) b1 b2
    have hnn := n_placed (a + 1) (r3At rows a).1 0 0 (r3At rows b).1 xs ys (by omega)
    rw [show xs.length + 2 = b - a + 1 by omega, ← eE, ← eW, ← eC] at hnn
    have hlen2 : (planCarts rows r W).length < 64 := by
      rw [nEW, hnn.1, hnn.2]
      obtain ⟨a', b', h1', h2', h3', e'⟩ := mem_stick.mp hr0
      have hbd := stick_bd h.R h1' h2'
      rw [e'] at hbd
      have qa : r.2.1 = a' := by rw [← e']; rfl
      have qb : r.2.2.1 = b' := by rw [← e']; rfl
      have eaa : a = a' := by rw [← q2, qa]
      have ebb : b = b' := by rw [← q3, qb]
      have q6 : r.2.2.2.2.2 = (r3At rows a).1 + (r3At rows b).1 + ((betw rows a b).map hAll).sum := by rw [eaa, ebb, ← e']; rfl
      have hgb : ∀ u ∈ betw rows a b, gd u := fun u hu => gd_of h.R u (betw_mem hu)
      obtain ⟨c, c1, c2, c3⟩ := xy_sum (betw rows a b) (more0 r W) hgb
      obtain ⟨f1, f2⟩ := fold_plan (betw rows r.2.1 r.2.2.1) (more0 r W, [], [])
      rw [q2, q3] at f1 f2
      have eE' : planE rows r W = [(r3At rows a).1] ++ xsR (betw rows a b) (more0 r W) ++ [0] := by
        unfold planE planRun
        rw [q2, q3, f1]
        rfl
      have eW' : planW rows r W = [0] ++ ysR (betw rows a b) (more0 r W) ++ [(r3At rows b).1] := by
        unfold planW planRun
        rw [q2, q3, f2]
        rfl
      rw [eE'] at eE
      rw [eW'] at eW
      have ex : xsR (betw rows a b) (more0 r W) = xs := List.append_cancel_left (List.append_cancel_right eE)
      have ey : ysR (betw rows a b) (more0 r W) = ys := List.append_cancel_left (List.append_cancel_right eW)
      rw [ex, ey] at c3
      omega
    obtain ⟨l, hl, hg⟩ := run_all h (E := E) (W := W) (planCarts rows r W) [] [] (.refl _) (by rw [eC]; exact plan_ch h p) (by rw [List.nil_append]; exact hpos) (by rw [List.nil_append]; exact hlen2) (by rw [List.nil_append, hnn.1]; exact tE) (by rw [List.nil_append, hnn.2]; exact tW)
    rw [List.nil_append] at hl
    refine ⟨fun i hi => ?_, fun s hs p0 hp0 => ?_, fun cs hcs => ?_, ?_⟩
    · obtain ⟨c, z1, z2, z3, z4, z5⟩ := hg.2 i hi
      refine ⟨c, z1, z2, z3, z4, ?_⟩
      have := nEW c
      have e1 : (c.filter (·.2)).length = nE c := rfl
      rw [e1]
      omega
    · obtain ⟨⟨k, e⟩, hc, hs2⟩ := List.mem_flatMap.mp hs
      have hk := hpos _ hc
      have hk' : 1 ≤ k ∧ k ≤ rows.length := hk
      rw [stepsTo_eq (by omega)] at hs2
      rcases List.mem_cons.mp hs2 with z | z
      · rw [z] at hp0; cases hp0
      · obtain ⟨t, ht, rfl⟩ := List.mem_map.mp z
        rw [List.mem_range] at ht
        have : p0 = pT nm.length e (t + 1) := (Option.some.inj hp0).symm
        rw [this]
        unfold dT at ht
        unfold pT
        cases e <;> simp at ht ⊢ <;> omega
    · have : cs = l := by
        have h1 : runM nm rows (scriptM nm rows r W) = some l := hg.1
        rw [hcs] at h1
        exact Option.some.inj h1
      rw [this]
      exact plan_stuck h p (by rw [← eC]; exact hl)
    · have h10 := fm_len (stepsTo nm.length) 10 (planCarts rows r W) fun c hc => by
        have hk := hpos c hc
        obtain ⟨k, e⟩ := c
        rw [stepsTo_eq (by have : k ≤ rows.length := hk.2; omega), List.length_cons, List.length_map, List.length_range]
        have hl6 := h.L.len
        have : dT nm.length e k ≤ 6 := by unfold dT; split <;> (have : k ≤ rows.length := hk.2; omega)
        omega
      exact Nat.le_trans h10 (Nat.le_trans (Nat.mul_le_mul_right _ hlen) (by decide))
theorem math : Math where
  names := names_ok
  told := fun rows _ => told_ok rows
  srt := fun rows _ => (leastP_facts _).1
  pts := fun rows _ p hp => pt_iff.mpr hp
  bd := fun rows R => least_bd R
  turn := fun rows R => ⟨turnRs_ok R, turn_perm rows⟩
  empty := fun rows _ h => empty_ok h
  script := fun nm rows h p hp d1 d2 _ _ => script_ok h (enough_least.mpr ⟨p, hp, by show p.1 ≤ p.1 + d1; omega, by show p.2 ≤ p.2 + d2; omega⟩)
end K74

set_option Elab.async false
set_option linter.all false
set_option maxRecDepth 100000
set_option maxHeartbeats 4000000
namespace K74
open PySem PySem.Spec PyProof.Rows L2
/-! ### what the top has left, by names -/
/-- a def by where it stands, its names, its text -/
structure Fd where
  adr : PySem.W.Frag → Addr
  name : PySem.Str
  qual : PySem.Str
  st : Stmt
def Fd.val (d : Fd) : He.FnV := some (d.name, d.qual, defArgs d.st, .stmts (defBody d.st), defScope d.st, mainGlobals, [], .none, builtinsNs)
def obsA (K : PySem.W.Frag) (a : Addr) : He.FnV := match K.lookup a with
  | some ⟨_, _, .func fd, _⟩ => some (fd.name, fd.qualname, fd.params, fd.body, fd.scope, fd.globals, fd.closure, fd.defaults, fd.builtins)
  | _ => none
def cdA (K : PySem.W.Frag) (a : Addr) (q : PySem.Str) : Bool := match K.lookup a with
  | some ⟨_, _, .func fd, _⟩ => PySem.W.codeIn K fd.code q
  | _ => false
/-- the getter of a property -/
def prG (K : PySem.W.Frag) (x f : PySem.Str) : Addr := match PySem.W.recIn K (He.ma K (He.ga K x) f) "property" with
  | some (.ref g :: _) => g
  | _ => 0
theorem fd_fun {K : PySem.W.Frag} {d : Fd} (e : obsA K (d.adr K) = d.val) (c : cdA K (d.adr K) d.qual = true) (k : PySem.W.keepIn K (.ref (d.adr K)) = true) : ∃ fd, Fun K d.name d.qual d.st (d.adr K) fd := by
  unfold cdA at c
  unfold obsA at e
  cases q : K.lookup (d.adr K) with
  | none =>
    rw [q] at c
    cases c
  | some o =>
    obtain ⟨oc, od, dt, osl⟩ := o
    rw [q] at c e
    cases dt with
    | func fd =>
      obtain ⟨n1, n2, n3, n4, n5, n6, n7, n8, n9, n10, n11, n12, n13, n14, n15⟩ := fd
      have e2 : (some (n1, n2, n3, n4, n5, n6, n7, n8, n15) : He.FnV) = some (d.name, d.qual, defArgs d.st, .stmts (defBody d.st), defScope d.st, mainGlobals, [], .none, builtinsNs) := e
      simp only [Option.some.injEq, Prod.mk.injEq] at e2
      obtain ⟨h1, h2, h3, h4, h5, h6, h7, h8, h9⟩ := e2
      subst h1 h2 h3 h4 h5 h6 h7 h8 h9
      exact ⟨_, ⟨oc, od, n9, n10, n11, n12, n13, n14, osl, rfl, q, c⟩, k⟩
    | _ => cases c
def propB (K : PySem.W.Frag) (x f : PySem.Str) : Bool := He.eqO (PySem.W.findIn K (.ref (He.ga K x)) f) (some (some (.ref (He.ma K (He.ga K x) f)))) &&
  (He.eqO (PySem.W.specialIn K (.ref (He.ma K (He.ga K x) f)) "__get__") (some (some (.builtin "property.__get__"))) && (decide (PySem.W.takesIn K (.ref (He.ma K (He.ga K x) f)) = some true) && (match PySem.W.recIn K (He.ma K (He.ga K x) f) "property" with
    | some (.ref _ :: _) => true
    | _ => false)))
theorem propB_ok {K : PySem.W.Frag} {x f : PySem.Str} (h : propB K x f = true) : PropOf K (He.ga K x) f (He.ma K (He.ga K x) f) (prG K x f) := by
  unfold propB at h
  obtain ⟨h1, h⟩ := He.ba h
  obtain ⟨h2, h⟩ := He.ba h
  obtain ⟨h3, h4⟩ := He.ba h
  refine ⟨He.eqO_ok h1, He.eqO_ok h2, of_decide_eq_true h3, ?_⟩
  unfold prG
  cases q : PySem.W.recIn K (He.ma K (He.ga K x) f) "property" with
  | none =>
    rw [q] at h4
    cases h4
  | some l =>
    rw [q] at h4
    cases l with
    | nil => cases h4
    | cons v r =>
      cases v with
      | ref g => exact ⟨r, rfl⟩
      | _ => cases h4
def insB (K : PySem.W.Frag) (x : PySem.Str) : Bool := He.eqO (PySem.W.findIn K (.ref (He.ga K x)) "__class__") (some (some (.builtin "object.__class__"))) &&
  (He.eqO (PySem.W.specialIn K (.builtin "object.__class__") "__get__") (some (some (.builtin "getset_descriptor.__get__"))) && (decide (PySem.W.takesIn K (.builtin "object.__class__") = some true) &&
    (decide (PySem.W.mroIn K (He.ga K x) (.type "object") = some true) && decide (PySem.W.kitOne K (.ref (He.ga K x)) (.ref (He.ga K x)) = some true))))
theorem insB_ok {K : PySem.W.Frag} {x : PySem.Str} (c : (He.Fa.cls x).ok K = true) (h : insB K x = true) : C8.InsC K (He.ga K x) := by
  unfold insB at h
  obtain ⟨h1, h⟩ := He.ba h
  obtain ⟨h2, h⟩ := He.ba h
  obtain ⟨h3, h⟩ := He.ba h
  obtain ⟨h4, h5⟩ := He.ba h
  exact ⟨He.cls_ok c, He.eqO_ok h1, He.eqO_ok h2, of_decide_eq_true h3, of_decide_eq_true h4, of_decide_eq_true h5⟩
def moreB (K : PySem.W.Frag) : Bool := propB K "Web" "country" && (propB K "Web" "books" && (insB K "Country" && insB K "Web"))
def fds0 : List Fd := [⟨fun K => He.ga K "is_integer", "is_integer", "is_integer", s_is_integer⟩, ⟨fun K => He.ga K "is_count", "is_count", "is_count", s_is_count⟩, ⟨fun K => He.ga K "is_list", "is_list", "is_list", s_is_list⟩, ⟨fun K => He.ga K "lane_in", "lane_in", "lane_in", s_lane_in⟩, ⟨fun K => He.ga K "ties_of", "ties_of", "ties_of", s_ties_of⟩, ⟨fun K => He.ga K "_law_ties", "_law_ties", "_law_ties", s__law_ties⟩, ⟨fun K => He.ga K "is_whole", "is_whole", "is_whole", s_is_whole⟩, ⟨fun K => He.ga K "ahead_of", "ahead_of", "ahead_of", s_ahead_of⟩, ⟨fun K => He.ga K "lanes_in", "lanes_in", "lanes_in", s_lanes_in⟩, ⟨fun K => He.ga K "beside", "beside", "beside", s_beside⟩, ⟨fun K => He.ga K "yards_in", "yards_in", "yards_in", s_yards_in⟩, ⟨fun K => He.ga K "gates_in", "gates_in", "gates_in", s_gates_in⟩, ⟨fun K => He.ga K "is_place", "is_place", "is_place", s_is_place⟩, ⟨fun K => He.ga K "is_yard", "is_yard", "is_yard", s_is_yard⟩, ⟨fun K => He.ga K "want_country", "want_country", "want_country", s_want_country⟩, ⟨fun K => He.ga K "step_towards", "step_towards", "step_towards", s_step_towards⟩]
def fds1 : List Fd := [⟨fun K => He.ga K "way_between", "way_between", "way_between", s_way_between⟩, ⟨fun K => He.ga K "pairs_at", "pairs_at", "pairs_at", s_pairs_at⟩, ⟨fun K => He.ga K "is_end_for", "is_end_for", "is_end_for", s_is_end_for⟩, ⟨fun K => He.ga K "is_bound_for", "is_bound_for", "is_bound_for", s_is_bound_for⟩, ⟨fun K => He.ga K "alternative_in", "alternative_in", "alternative_in", s_alternative_in⟩, ⟨fun K => He.ga K "keeps", "keeps", "keeps", s_keeps⟩, ⟨fun K => He.ga K "stands_by_one", "stands_by_one", "stands_by_one", s_stands_by_one⟩, ⟨fun K => He.ga K "stands_by", "stands_by", "stands_by", s_stands_by⟩, ⟨fun K => He.ga K "book_in", "book_in", "book_in", s_book_in⟩, ⟨fun K => He.ga K "want_book", "want_book", "want_book", s_want_book⟩, ⟨fun K => He.ga K "want_web", "want_web", "want_web", s_want_web⟩, ⟨fun K => He.ga K "book_at", "book_at", "book_at", s_book_at⟩, ⟨fun K => He.ga K "bounds_told", "bounds_told", "bounds_told", s_bounds_told⟩, ⟨fun K => He.ga K "are_bounded", "are_bounded", "are_bounded", s_are_bounded⟩, ⟨fun K => He.ga K "places_at", "places_at", "places_at", s_places_at⟩, ⟨fun K => He.ga K "bound_towards", "bound_towards", "bound_towards", s_bound_towards⟩]
def fds2 : List Fd := [⟨fun K => He.ga K "steps_to", "steps_to", "steps_to", s_steps_to⟩, ⟨fun K => He.ga K "end_gate", "end_gate", "end_gate", s_end_gate⟩, ⟨fun K => He.ga K "script_to", "script_to", "script_to", s_script_to⟩, ⟨fun K => He.ga K "placed", "placed", "placed", s_placed⟩, ⟨fun K => He.ga K "are_in_line", "are_in_line", "are_in_line", s_are_in_line⟩, ⟨fun K => He.ga K "want_line", "want_line", "want_line", s_want_line⟩, ⟨fun K => He.ga K "line_yards", "line_yards", "line_yards", s_line_yards⟩, ⟨fun K => He.ga K "line_numbers", "line_numbers", "line_numbers", s_line_numbers⟩, ⟨fun K => He.ga K "held_between", "held_between", "held_between", s_held_between⟩, ⟨fun K => He.ga K "sticks_by", "sticks_by", "sticks_by", s_sticks_by⟩, ⟨fun K => He.ga K "stick_rows", "stick_rows", "stick_rows", s_stick_rows⟩, ⟨fun K => He.ga K "least_pairs", "least_pairs", "least_pairs", s_least_pairs⟩, ⟨fun K => He.ga K "line_carts", "line_carts", "line_carts", s_line_carts⟩, ⟨fun K => He.ga K "is_line", "is_line", "is_line", s_is_line⟩, ⟨fun K => He.ga K "stairs", "stairs", "stairs", s_stairs⟩, ⟨fun K => He.ga K "want_both", "want_both", "want_both", s_want_both⟩]
def fds3 : List Fd := [⟨fun K => He.ga K "can_stick", "can_stick", "can_stick", s_can_stick⟩, ⟨fun K => He.ga K "line_script", "line_script", "line_script", s_line_script⟩, ⟨fun K => He.ga K "_law_pot", "_law_pot", "_law_pot", s__law_pot⟩, ⟨fun K => He.ga K "_law_draw", "_law_draw", "_law_draw", s__law_draw⟩, ⟨fun K => He.ga K "_law_pick", "_law_pick", "_law_pick", s__law_pick⟩, ⟨fun K => He.ga K "_law_rows", "_law_rows", "_law_rows", s__law_rows⟩, ⟨fun K => He.ga K "_law_names", "_law_names", "_law_names", s__law_names⟩, ⟨fun K => He.ga K "_law_web", "_law_web", "_law_web", s__law_web⟩, ⟨fun K => He.ga K "_law_way", "_law_way", "_law_way", s__law_way⟩, ⟨fun K => He.ga K "_law_load", "_law_load", "_law_load", s__law_load⟩, ⟨fun K => He.ga K "_law_stands", "_law_stands", "_law_stands", s__law_stands⟩, ⟨fun K => He.ga K "_law_stepped", "_law_stepped", "_law_stepped", s__law_stepped⟩, ⟨fun K => He.ga K "_law_is_stuck", "_law_is_stuck", "_law_is_stuck", s__law_is_stuck⟩, ⟨fun K => He.ga K "_law_enough", "_law_enough", "_law_enough", s__law_enough⟩, ⟨fun K => He.ga K "_law_script_right", "_law_script_right", "_law_script_right", s__law_script_right⟩, ⟨fun K => He.ga K "_law_right", "_law_right", "_law_right", s__law_right⟩]
def fds4 : List Fd := [⟨fun K => He.ga K "law", "law", "law", s_law⟩, ⟨fun K => He.ma K (He.ga K "Country") "__init__", "__init__", "Country.__init__", s_Country_init⟩, ⟨fun K => He.ma K (He.ga K "Web") "__init__", "__init__", "Web.__init__", s_Web_init⟩, ⟨fun K => prG K "Web" "country", "country", "Web.country", s_Web_country⟩, ⟨fun K => prG K "Web" "books", "books", "Web.books", s_Web_books⟩]
def fds : List Fd := fds0 ++ (fds1 ++ (fds2 ++ (fds3 ++ (fds4))))
def fas0 : List He.Fa := [.glo "is_integer", .glo "is_count", .glo "is_list", .glo "lane_in", .glo "ties_of", .glo "_law_ties", .glo "is_whole", .glo "ahead_of", .glo "lanes_in", .glo "beside", .glo "yards_in", .glo "gates_in", .glo "is_place", .glo "is_yard", .glo "want_country", .glo "step_towards"]
def fas1 : List He.Fa := [.glo "way_between", .glo "pairs_at", .glo "is_end_for", .glo "is_bound_for", .glo "alternative_in", .glo "keeps", .glo "stands_by_one", .glo "stands_by", .glo "book_in", .glo "want_book", .glo "want_web", .glo "book_at", .glo "bounds_told", .glo "are_bounded", .glo "places_at", .glo "bound_towards"]
def fas2 : List He.Fa := [.glo "steps_to", .glo "end_gate", .glo "script_to", .glo "placed", .glo "are_in_line", .glo "want_line", .glo "line_yards", .glo "line_numbers", .glo "held_between", .glo "sticks_by", .glo "stick_rows", .glo "least_pairs", .glo "line_carts", .glo "is_line", .glo "stairs", .glo "want_both"]
def fas3 : List He.Fa := [.glo "can_stick", .glo "line_script", .glo "_law_pot", .glo "_law_draw", .glo "_law_pick", .glo "_law_rows", .glo "_law_names", .glo "_law_web", .glo "_law_way", .glo "_law_load", .glo "_law_stands", .glo "_law_stepped", .glo "_law_is_stuck", .glo "_law_enough", .glo "_law_script_right", .glo "_law_right"]
def fas4 : List He.Fa := [.glo "law", .glo "Country", .glo "Web", .free "abs", .free "all", .free "any", .free "bool", .free "divmod", .free "enumerate", .free "int", .free "isinstance", .free "len", .free "list", .free "max", .free "min", .free "range"]
def fas5 : List He.Fa := [.free "repr", .free "set", .free "sorted", .free "sum", .free "tuple", .free "zip", .int "MOST_YARDS" 7, .int "MOST_LANES" 4, .int "MOST_PLACES" 6, .int "MOST_BOUNDS" 6, .int "MOST_ALTERNATIVES" 4, .cls "Country", .cls "Web", .noat "Country" "own_lanes", .noat "Country" "own_ties", .noat "Country" "own_ahead"]
def fas6 : List He.Fa := [.noat "Web" "own_country", .noat "Web" "own_books", .mkr "Country", .mkr "Web"]
def fas : List He.Fa := fas0 ++ (fas1 ++ (fas2 ++ (fas3 ++ (fas4 ++ (fas5 ++ (fas6))))))
structure Says (K : PySem.W.Frag) : Prop where
  e1 : fds.map (fun d => obsA K (d.adr K)) = fds.map Fd.val
  e2 : (fds.all fun d => cdA K (d.adr K) d.qual && PySem.W.keepIn K (.ref (d.adr K))) = true
  e3 : (fas.all fun f => f.ok K) = true
  e4 : moreB K = true
theorem Says.fact {K : PySem.W.Frag} (S : Says K) (i : Nat) {f : He.Fa} (h : fas[i]? = some f) : f.ok K = true := List.all_eq_true.mp S.e3 f (List.mem_of_getElem? h)
theorem Says.fn {K : PySem.W.Frag} (S : Says K) (i : Nat) {d : Fd} (h : fds[i]? = some d) : ∃ fd, Fun K d.name d.qual d.st (d.adr K) fd := by
  have e2 : (fds.map fun d => obsA K (d.adr K))[i]? = (fds.map Fd.val)[i]? := by rw [S.e1]
  rw [List.getElem?_map, List.getElem?_map, h] at e2
  obtain ⟨c1, c2⟩ := He.ba (List.all_eq_true.mp S.e2 d (List.mem_of_getElem? h))
  exact fd_fun (Option.some.inj e2) c1 c2
/-! ### keywords -/
theorem fun_kb {K : PySem.W.Frag} {x qual : PySem.Str} {st : Stmt} {f : Addr} {fd : FuncData} {ps ks : List PySem.Str} {g : List Value → List Value → List Value} {gV : List V → List V → List V} (F : Fun K x qual st f fd)
    (h : ∀ (kV doc pm : Value) (an : Option Addr) (cdv ct : Value) (us ws : List Value), (g us ws).length = ps.length → bindArgs (PySem.W.fnOf x qual (defArgs st) (defBody st) (defScope st) .none kV doc pm an cdv ct) ⟨us, ks.zip ws⟩ = pure (ps.zip (g us ws)))
    (hr : ∀ {vs : List V} {us : List Value} {zs : List V} {ws : List Value}, Vals vs us → Vals zs ws → Vals (gV vs zs) (g us ws)) : KBinds K fd ps ks g gV := by
  obtain ⟨oc, od, kV, doc, pm, an, cdv, ct, osl, rfl, lk, hcd⟩ := F.ex
  exact ⟨fun s us ws _ hl => .of_eq (h kV doc pm an cdv ct us ws hl), hr⟩
theorem vals_rev : ∀ {vs : List V} {us : List Value}, Vals vs us → Vals vs.reverse us.reverse := by
  have app : ∀ {a : List V} {b : List Value} {c : List V} {d : List Value}, Vals a b → Vals c d → Vals (a ++ c) (b ++ d) := by
    intro a b c d h1 h2
    induction h1 with
    | nil => exact h2
    | cons r _ ih => exact .cons r ih
  intro vs us h
  induction h with
  | nil => exact .nil
  | cons r _ ih =>
    rw [List.reverse_cons, List.reverse_cons]
    exact app ih (.cons r .nil)
theorem rel_rev {vs : List V} {us : List Value} {zs : List V} {ws : List Value} (h1 : Vals vs us) (h2 : Vals zs ws) : Vals (kRev vs zs) (kRev us ws) := by
  cases h1 with
  | nil => exact vals_rev h2
  | cons _ _ => exact .nil
theorem rel_sw {vs : List V} {us : List Value} {zs : List V} {ws : List Value} (h1 : Vals vs us) (h2 : Vals zs ws) : Vals (kSw vs zs) (kSw us ws) := by
  cases h1 with
  | nil =>
    cases h2 with
    | nil => exact .nil
    | cons a h2 =>
      cases h2 with
      | nil => exact .nil
      | cons b h2 =>
        cases h2 with
        | nil => exact .nil
        | cons c h2 =>
          cases h2 with
          | nil => exact .cons a (.cons c (.cons b .nil))
          | cons _ _ => exact .nil
  | cons _ _ => exact .nil
theorem kb_can_stick {K : PySem.W.Frag} {f : Addr} {fd : FuncData} (F : Fun K "can_stick" "can_stick" s_can_stick f fd) : KBinds K fd ["web", "east", "west"] ["west", "east", "web"] kRev kRev :=
  fun_kb F (fun _ _ _ _ _ _ us ws hl => by
    cases us with
    | cons a r =>
      have : (0 : Nat) = 3 := hl
      omega
    | nil =>
      have hw : ws.length = 3 := by
        rw [← List.length_reverse]
        exact hl
      match ws, hw with
      | [_, _, _], _ => rfl) rel_rev
theorem kb_line_script {K : PySem.W.Frag} {f : Addr} {fd : FuncData} (F : Fun K "line_script" "line_script" s_line_script f fd) : KBinds K fd ["web", "east", "west"] ["web", "west", "east"] kSw kSw :=
  fun_kb F (fun _ _ _ _ _ _ us ws hl => match us, ws, hl with | [], [_, _, _], _ => rfl) rel_sw
theorem kb_stairs {K : PySem.W.Frag} {f : Addr} {fd : FuncData} (F : Fun K "stairs" "stairs" s_stairs f fd) : KBinds K fd ["web"] ["web"] kRev kRev :=
  fun_kb F (fun _ _ _ _ _ _ us ws hl => by
    cases us with
    | cons a r =>
      have : (0 : Nat) = 1 := hl
      omega
    | nil =>
      have hw : ws.length = 1 := by
        rw [← List.length_reverse]
        exact hl
      match ws, hw with
      | [_], _ => rfl) rel_rev
theorem fun_same {K : PySem.W.Frag} {x y q z : PySem.Str} {st su : Stmt} {f : Addr} {fd fe : FuncData} (F : Fun K x q st f fd) (G : Fun K y z su f fe) : fd = fe := by
  obtain ⟨oc, od, kV, doc, pm, an, cdv, ct, osl, rfl, lk, hcd⟩ := F.ex
  obtain ⟨oc2, od2, kV2, doc2, pm2, an2, cdv2, ct2, osl2, rfl, lk2, hcd2⟩ := G.ex
  rw [lk] at lk2
  injection lk2 with e
  injection e with e1 e2 e3 e4
  injection e3
theorem cal_kw {P : Program} {w : World} {K : PySem.W.Frag} {mg : PySem.Str → Option Value} {base : Heap} {x : PySem.Str} {ps ks : List PySem.Str} {g : List Value → List Value → List Value} {gV : List V → List V → List V} {k : Nat} {sp : Sp} {st : Stmt} {f : Addr} {fd : FuncData}
    (c : Cal P w K mg base x ps k sp) (F : Fun K x x st f fd) (hm : mg x = some (.ref f)) (b : KBinds K fd ps ks g gV) : CalK P w K mg base x ps ks gV k sp := by
  obtain ⟨f2, fd2, h1, h2, h3, h4, su, F2⟩ := c.ex
  have e := h1.symm.trans hm
  have ef : f2 = f := by
    injection e with e
    injection e
  subst ef
  have ed := fun_same F2 F
  subst ed
  exact ⟨f2, fd2, g, h1, h2, b, h4⟩
theorem law_binds {K : PySem.W.Frag} {f : Addr} {fd : FuncData} (F : Fun K "law" "law" s_law f fd) (s : Shared) (u : Value) : BindsTo s fd ⟨[u], []⟩ [("_law_script", u)] := by
  obtain ⟨oc, od, kV, doc, pm, an, cdv, ct, osl, rfl, lk, hcd⟩ := F.ex
  exact .of_eq rfl
theorem all_law {P : Program} {w : World} {K : PySem.W.Frag} {h : Heap} {mg : PySem.Str → Option Value} {fa : Addr} (X : K.In h) (G : h.Ns mainGlobals mg) (hfa : mg ("law" : PySem.Str) = some (.ref fa)) (S : Says K) :
    ∃ fd : FuncData, (∀ (s : Shared) (u : Value), BindsTo s fd ⟨[u], []⟩ [("_law_script", u)]) ∧ ∀ base : Heap, K.In base → base.Ns mainGlobals mg → FnG P w K mg base 12 fa ["_law_script"] fd (sp_law K) := by
  have hm : moreB K = true := S.e4
  unfold moreB at hm
  obtain ⟨m1, hm⟩ := He.ba hm
  obtain ⟨m2, hm⟩ := He.ba hm
  obtain ⟨m3, m4⟩ := He.ba hm
  have T : Txt K mg (He.ga K "Country") (He.ga K "Web") := ⟨He.free_ok X G (S.fact 67 (f := .free "abs") rfl), He.free_ok X G (S.fact 68 (f := .free "all") rfl), He.free_ok X G (S.fact 69 (f := .free "any") rfl), He.free_ok X G (S.fact 70 (f := .free "bool") rfl), He.free_ok X G (S.fact 71 (f := .free "divmod") rfl), He.free_ok X G (S.fact 72 (f := .free "enumerate") rfl), He.free_ok X G (S.fact 73 (f := .free "int") rfl), He.free_ok X G (S.fact 74 (f := .free "isinstance") rfl), He.free_ok X G (S.fact 75 (f := .free "len") rfl), He.free_ok X G (S.fact 76 (f := .free "list") rfl), He.free_ok X G (S.fact 77 (f := .free "max") rfl), He.free_ok X G (S.fact 78 (f := .free "min") rfl), He.free_ok X G (S.fact 79 (f := .free "range") rfl), He.free_ok X G (S.fact 80 (f := .free "repr") rfl), He.free_ok X G (S.fact 81 (f := .free "set") rfl), He.free_ok X G (S.fact 82 (f := .free "sorted") rfl), He.free_ok X G (S.fact 83 (f := .free "sum") rfl), He.free_ok X G (S.fact 84 (f := .free "tuple") rfl), He.free_ok X G (S.fact 85 (f := .free "zip") rfl),
    He.int_ok X G (S.fact 86 (f := .int "MOST_YARDS" 7) rfl), He.int_ok X G (S.fact 87 (f := .int "MOST_LANES" 4) rfl), He.int_ok X G (S.fact 88 (f := .int "MOST_PLACES" 6) rfl), He.int_ok X G (S.fact 89 (f := .int "MOST_BOUNDS" 6) rfl), He.int_ok X G (S.fact 90 (f := .int "MOST_ALTERNATIVES" 4) rfl),
    He.glo_ok X G (S.fact 65 (f := .glo "Country") rfl), He.glo_ok X G (S.fact 66 (f := .glo "Web") rfl), He.cls_ok (S.fact 91 (f := .cls "Country") rfl), He.cls_ok (S.fact 92 (f := .cls "Web") rfl),
    He.noat_ok (S.fact 93 (f := .noat "Country" "own_lanes") rfl), He.noat_ok (S.fact 94 (f := .noat "Country" "own_ties") rfl), He.noat_ok (S.fact 95 (f := .noat "Country" "own_ahead") rfl), He.noat_ok (S.fact 96 (f := .noat "Web" "own_country") rfl), He.noat_ok (S.fact 97 (f := .noat "Web" "own_books") rfl), insB_ok (S.fact 91 (f := .cls "Country") rfl) m3, insB_ok (S.fact 92 (f := .cls "Web") rfl) m4⟩
  obtain ⟨fd0, F0⟩ : ∃ fd, Fun K "is_integer" "is_integer" s_is_integer (He.ga K "is_integer") fd := S.fn 0 (d := ⟨fun K => He.ga K "is_integer", "is_integer", "is_integer", s_is_integer⟩) rfl
  have b0 : Binds K fd0 ["value"] [] := F0.binds (ps := ["value"]) fun _ _ _ _ _ _ us hl => match us, hl with | [_], _ => rfl
  have D_is_integer : Df K mg "is_integer" s_is_integer ["value"] := ⟨_, _, He.glo_ok X G (S.fact 0 (f := .glo "is_integer") rfl), F0, b0⟩
  obtain ⟨fd1, F1⟩ : ∃ fd, Fun K "is_count" "is_count" s_is_count (He.ga K "is_count") fd := S.fn 1 (d := ⟨fun K => He.ga K "is_count", "is_count", "is_count", s_is_count⟩) rfl
  have b1 : Binds K fd1 ["value"] [] := F1.binds (ps := ["value"]) fun _ _ _ _ _ _ us hl => match us, hl with | [_], _ => rfl
  have D_is_count : Df K mg "is_count" s_is_count ["value"] := ⟨_, _, He.glo_ok X G (S.fact 1 (f := .glo "is_count") rfl), F1, b1⟩
  obtain ⟨fd2, F2⟩ : ∃ fd, Fun K "is_list" "is_list" s_is_list (He.ga K "is_list") fd := S.fn 2 (d := ⟨fun K => He.ga K "is_list", "is_list", "is_list", s_is_list⟩) rfl
  have b2 : Binds K fd2 ["value"] [] := F2.binds (ps := ["value"]) fun _ _ _ _ _ _ us hl => match us, hl with | [_], _ => rfl
  have D_is_list : Df K mg "is_list" s_is_list ["value"] := ⟨_, _, He.glo_ok X G (S.fact 2 (f := .glo "is_list") rfl), F2, b2⟩
  obtain ⟨fd3, F3⟩ : ∃ fd, Fun K "lane_in" "lane_in" s_lane_in (He.ga K "lane_in") fd := S.fn 3 (d := ⟨fun K => He.ga K "lane_in", "lane_in", "lane_in", s_lane_in⟩) rfl
  have b3 : Binds K fd3 ["value"] [] := F3.binds (ps := ["value"]) fun _ _ _ _ _ _ us hl => match us, hl with | [_], _ => rfl
  have D_lane_in : Df K mg "lane_in" s_lane_in ["value"] := ⟨_, _, He.glo_ok X G (S.fact 3 (f := .glo "lane_in") rfl), F3, b3⟩
  obtain ⟨fd4, F4⟩ : ∃ fd, Fun K "ties_of" "ties_of" s_ties_of (He.ga K "ties_of") fd := S.fn 4 (d := ⟨fun K => He.ga K "ties_of", "ties_of", "ties_of", s_ties_of⟩) rfl
  have b4 : Binds K fd4 ["lanes"] [] := F4.binds (ps := ["lanes"]) fun _ _ _ _ _ _ us hl => match us, hl with | [_], _ => rfl
  have D_ties_of : Df K mg "ties_of" s_ties_of ["lanes"] := ⟨_, _, He.glo_ok X G (S.fact 4 (f := .glo "ties_of") rfl), F4, b4⟩
  obtain ⟨fd5, F5⟩ : ∃ fd, Fun K "_law_ties" "_law_ties" s__law_ties (He.ga K "_law_ties") fd := S.fn 5 (d := ⟨fun K => He.ga K "_law_ties", "_law_ties", "_law_ties", s__law_ties⟩) rfl
  have b5 : Binds K fd5 ["_law_lanes"] [] := F5.binds (ps := ["_law_lanes"]) fun _ _ _ _ _ _ us hl => match us, hl with | [_], _ => rfl
  have D__law_ties : Df K mg "_law_ties" s__law_ties ["_law_lanes"] := ⟨_, _, He.glo_ok X G (S.fact 5 (f := .glo "_law_ties") rfl), F5, b5⟩
  obtain ⟨fd6, F6⟩ : ∃ fd, Fun K "is_whole" "is_whole" s_is_whole (He.ga K "is_whole") fd := S.fn 6 (d := ⟨fun K => He.ga K "is_whole", "is_whole", "is_whole", s_is_whole⟩) rfl
  have b6 : Binds K fd6 ["ties"] [] := F6.binds (ps := ["ties"]) fun _ _ _ _ _ _ us hl => match us, hl with | [_], _ => rfl
  have D_is_whole : Df K mg "is_whole" s_is_whole ["ties"] := ⟨_, _, He.glo_ok X G (S.fact 6 (f := .glo "is_whole") rfl), F6, b6⟩
  obtain ⟨fd7, F7⟩ : ∃ fd, Fun K "ahead_of" "ahead_of" s_ahead_of (He.ga K "ahead_of") fd := S.fn 7 (d := ⟨fun K => He.ga K "ahead_of", "ahead_of", "ahead_of", s_ahead_of⟩) rfl
  have b7 : Binds K fd7 ["ties", "goal"] [] := F7.binds (ps := ["ties", "goal"]) fun _ _ _ _ _ _ us hl => match us, hl with | [_, _], _ => rfl
  have D_ahead_of : Df K mg "ahead_of" s_ahead_of ["ties", "goal"] := ⟨_, _, He.glo_ok X G (S.fact 7 (f := .glo "ahead_of") rfl), F7, b7⟩
  obtain ⟨fd8, F8⟩ : ∃ fd, Fun K "lanes_in" "lanes_in" s_lanes_in (He.ga K "lanes_in") fd := S.fn 8 (d := ⟨fun K => He.ga K "lanes_in", "lanes_in", "lanes_in", s_lanes_in⟩) rfl
  have b8 : Binds K fd8 ["value"] [] := F8.binds (ps := ["value"]) fun _ _ _ _ _ _ us hl => match us, hl with | [_], _ => rfl
  have D_lanes_in : Df K mg "lanes_in" s_lanes_in ["value"] := ⟨_, _, He.glo_ok X G (S.fact 8 (f := .glo "lanes_in") rfl), F8, b8⟩
  obtain ⟨fd9, F9⟩ : ∃ fd, Fun K "beside" "beside" s_beside (He.ga K "beside") fd := S.fn 9 (d := ⟨fun K => He.ga K "beside", "beside", "beside", s_beside⟩) rfl
  have b9 : Binds K fd9 ["country", "place"] [] := F9.binds (ps := ["country", "place"]) fun _ _ _ _ _ _ us hl => match us, hl with | [_, _], _ => rfl
  have D_beside : Df K mg "beside" s_beside ["country", "place"] := ⟨_, _, He.glo_ok X G (S.fact 9 (f := .glo "beside") rfl), F9, b9⟩
  obtain ⟨fd10, F10⟩ : ∃ fd, Fun K "yards_in" "yards_in" s_yards_in (He.ga K "yards_in") fd := S.fn 10 (d := ⟨fun K => He.ga K "yards_in", "yards_in", "yards_in", s_yards_in⟩) rfl
  have b10 : Binds K fd10 ["country"] [] := F10.binds (ps := ["country"]) fun _ _ _ _ _ _ us hl => match us, hl with | [_], _ => rfl
  have D_yards_in : Df K mg "yards_in" s_yards_in ["country"] := ⟨_, _, He.glo_ok X G (S.fact 10 (f := .glo "yards_in") rfl), F10, b10⟩
  obtain ⟨fd11, F11⟩ : ∃ fd, Fun K "gates_in" "gates_in" s_gates_in (He.ga K "gates_in") fd := S.fn 11 (d := ⟨fun K => He.ga K "gates_in", "gates_in", "gates_in", s_gates_in⟩) rfl
  have b11 : Binds K fd11 ["country"] [] := F11.binds (ps := ["country"]) fun _ _ _ _ _ _ us hl => match us, hl with | [_], _ => rfl
  have D_gates_in : Df K mg "gates_in" s_gates_in ["country"] := ⟨_, _, He.glo_ok X G (S.fact 11 (f := .glo "gates_in") rfl), F11, b11⟩
  obtain ⟨fd12, F12⟩ : ∃ fd, Fun K "is_place" "is_place" s_is_place (He.ga K "is_place") fd := S.fn 12 (d := ⟨fun K => He.ga K "is_place", "is_place", "is_place", s_is_place⟩) rfl
  have b12 : Binds K fd12 ["country", "value"] [] := F12.binds (ps := ["country", "value"]) fun _ _ _ _ _ _ us hl => match us, hl with | [_, _], _ => rfl
  have D_is_place : Df K mg "is_place" s_is_place ["country", "value"] := ⟨_, _, He.glo_ok X G (S.fact 12 (f := .glo "is_place") rfl), F12, b12⟩
  obtain ⟨fd13, F13⟩ : ∃ fd, Fun K "is_yard" "is_yard" s_is_yard (He.ga K "is_yard") fd := S.fn 13 (d := ⟨fun K => He.ga K "is_yard", "is_yard", "is_yard", s_is_yard⟩) rfl
  have b13 : Binds K fd13 ["country", "value"] [] := F13.binds (ps := ["country", "value"]) fun _ _ _ _ _ _ us hl => match us, hl with | [_, _], _ => rfl
  have D_is_yard : Df K mg "is_yard" s_is_yard ["country", "value"] := ⟨_, _, He.glo_ok X G (S.fact 13 (f := .glo "is_yard") rfl), F13, b13⟩
  obtain ⟨fd14, F14⟩ : ∃ fd, Fun K "want_country" "want_country" s_want_country (He.ga K "want_country") fd := S.fn 14 (d := ⟨fun K => He.ga K "want_country", "want_country", "want_country", s_want_country⟩) rfl
  have b14 : Binds K fd14 ["value"] [] := F14.binds (ps := ["value"]) fun _ _ _ _ _ _ us hl => match us, hl with | [_], _ => rfl
  have D_want_country : Df K mg "want_country" s_want_country ["value"] := ⟨_, _, He.glo_ok X G (S.fact 14 (f := .glo "want_country") rfl), F14, b14⟩
  obtain ⟨fd15, F15⟩ : ∃ fd, Fun K "step_towards" "step_towards" s_step_towards (He.ga K "step_towards") fd := S.fn 15 (d := ⟨fun K => He.ga K "step_towards", "step_towards", "step_towards", s_step_towards⟩) rfl
  have b15 : Binds K fd15 ["country", "place", "goal"] [] := F15.binds (ps := ["country", "place", "goal"]) fun _ _ _ _ _ _ us hl => match us, hl with | [_, _, _], _ => rfl
  have D_step_towards : Df K mg "step_towards" s_step_towards ["country", "place", "goal"] := ⟨_, _, He.glo_ok X G (S.fact 15 (f := .glo "step_towards") rfl), F15, b15⟩
  obtain ⟨fd16, F16⟩ : ∃ fd, Fun K "way_between" "way_between" s_way_between (He.ga K "way_between") fd := S.fn 16 (d := ⟨fun K => He.ga K "way_between", "way_between", "way_between", s_way_between⟩) rfl
  have b16 : Binds K fd16 ["country", "start", "end"] [] := F16.binds (ps := ["country", "start", "end"]) fun _ _ _ _ _ _ us hl => match us, hl with | [_, _, _], _ => rfl
  have D_way_between : Df K mg "way_between" s_way_between ["country", "start", "end"] := ⟨_, _, He.glo_ok X G (S.fact 16 (f := .glo "way_between") rfl), F16, b16⟩
  obtain ⟨fd17, F17⟩ : ∃ fd, Fun K "pairs_at" "pairs_at" s_pairs_at (He.ga K "pairs_at") fd := S.fn 17 (d := ⟨fun K => He.ga K "pairs_at", "pairs_at", "pairs_at", s_pairs_at⟩) rfl
  have b17 : Binds K fd17 ["country", "yard"] [] := F17.binds (ps := ["country", "yard"]) fun _ _ _ _ _ _ us hl => match us, hl with | [_, _], _ => rfl
  have D_pairs_at : Df K mg "pairs_at" s_pairs_at ["country", "yard"] := ⟨_, _, He.glo_ok X G (S.fact 17 (f := .glo "pairs_at") rfl), F17, b17⟩
  obtain ⟨fd18, F18⟩ : ∃ fd, Fun K "is_end_for" "is_end_for" s_is_end_for (He.ga K "is_end_for") fd := S.fn 18 (d := ⟨fun K => He.ga K "is_end_for", "is_end_for", "is_end_for", s_is_end_for⟩) rfl
  have b18 : Binds K fd18 ["near", "value"] [] := F18.binds (ps := ["near", "value"]) fun _ _ _ _ _ _ us hl => match us, hl with | [_, _], _ => rfl
  have D_is_end_for : Df K mg "is_end_for" s_is_end_for ["near", "value"] := ⟨_, _, He.glo_ok X G (S.fact 18 (f := .glo "is_end_for") rfl), F18, b18⟩
  obtain ⟨fd19, F19⟩ : ∃ fd, Fun K "is_bound_for" "is_bound_for" s_is_bound_for (He.ga K "is_bound_for") fd := S.fn 19 (d := ⟨fun K => He.ga K "is_bound_for", "is_bound_for", "is_bound_for", s_is_bound_for⟩) rfl
  have b19 : Binds K fd19 ["near", "value"] [] := F19.binds (ps := ["near", "value"]) fun _ _ _ _ _ _ us hl => match us, hl with | [_, _], _ => rfl
  have D_is_bound_for : Df K mg "is_bound_for" s_is_bound_for ["near", "value"] := ⟨_, _, He.glo_ok X G (S.fact 19 (f := .glo "is_bound_for") rfl), F19, b19⟩
  obtain ⟨fd20, F20⟩ : ∃ fd, Fun K "alternative_in" "alternative_in" s_alternative_in (He.ga K "alternative_in") fd := S.fn 20 (d := ⟨fun K => He.ga K "alternative_in", "alternative_in", "alternative_in", s_alternative_in⟩) rfl
  have b20 : Binds K fd20 ["near", "value"] [] := F20.binds (ps := ["near", "value"]) fun _ _ _ _ _ _ us hl => match us, hl with | [_, _], _ => rfl
  have D_alternative_in : Df K mg "alternative_in" s_alternative_in ["near", "value"] := ⟨_, _, He.glo_ok X G (S.fact 20 (f := .glo "alternative_in") rfl), F20, b20⟩
  obtain ⟨fd21, F21⟩ : ∃ fd, Fun K "keeps" "keeps" s_keeps (He.ga K "keeps") fd := S.fn 21 (d := ⟨fun K => He.ga K "keeps", "keeps", "keeps", s_keeps⟩) rfl
  have b21 : Binds K fd21 ["bound", "load"] [] := F21.binds (ps := ["bound", "load"]) fun _ _ _ _ _ _ us hl => match us, hl with | [_, _], _ => rfl
  have D_keeps : Df K mg "keeps" s_keeps ["bound", "load"] := ⟨_, _, He.glo_ok X G (S.fact 21 (f := .glo "keeps") rfl), F21, b21⟩
  obtain ⟨fd22, F22⟩ : ∃ fd, Fun K "stands_by_one" "stands_by_one" s_stands_by_one (He.ga K "stands_by_one") fd := S.fn 22 (d := ⟨fun K => He.ga K "stands_by_one", "stands_by_one", "stands_by_one", s_stands_by_one⟩) rfl
  have b22 : Binds K fd22 ["alternative", "load"] [] := F22.binds (ps := ["alternative", "load"]) fun _ _ _ _ _ _ us hl => match us, hl with | [_, _], _ => rfl
  have D_stands_by_one : Df K mg "stands_by_one" s_stands_by_one ["alternative", "load"] := ⟨_, _, He.glo_ok X G (S.fact 22 (f := .glo "stands_by_one") rfl), F22, b22⟩
  obtain ⟨fd23, F23⟩ : ∃ fd, Fun K "stands_by" "stands_by" s_stands_by (He.ga K "stands_by") fd := S.fn 23 (d := ⟨fun K => He.ga K "stands_by", "stands_by", "stands_by", s_stands_by⟩) rfl
  have b23 : Binds K fd23 ["book", "load"] [] := F23.binds (ps := ["book", "load"]) fun _ _ _ _ _ _ us hl => match us, hl with | [_, _], _ => rfl
  have D_stands_by : Df K mg "stands_by" s_stands_by ["book", "load"] := ⟨_, _, He.glo_ok X G (S.fact 23 (f := .glo "stands_by") rfl), F23, b23⟩
  obtain ⟨fd24, F24⟩ : ∃ fd, Fun K "book_in" "book_in" s_book_in (He.ga K "book_in") fd := S.fn 24 (d := ⟨fun K => He.ga K "book_in", "book_in", "book_in", s_book_in⟩) rfl
  have b24 : Binds K fd24 ["country", "yard", "value"] [] := F24.binds (ps := ["country", "yard", "value"]) fun _ _ _ _ _ _ us hl => match us, hl with | [_, _, _], _ => rfl
  have D_book_in : Df K mg "book_in" s_book_in ["country", "yard", "value"] := ⟨_, _, He.glo_ok X G (S.fact 24 (f := .glo "book_in") rfl), F24, b24⟩
  obtain ⟨fd25, F25⟩ : ∃ fd, Fun K "want_book" "want_book" s_want_book (He.ga K "want_book") fd := S.fn 25 (d := ⟨fun K => He.ga K "want_book", "want_book", "want_book", s_want_book⟩) rfl
  have b25 : Binds K fd25 ["country", "yard", "value"] [] := F25.binds (ps := ["country", "yard", "value"]) fun _ _ _ _ _ _ us hl => match us, hl with | [_, _, _], _ => rfl
  have D_want_book : Df K mg "want_book" s_want_book ["country", "yard", "value"] := ⟨_, _, He.glo_ok X G (S.fact 25 (f := .glo "want_book") rfl), F25, b25⟩
  obtain ⟨fd26, F26⟩ : ∃ fd, Fun K "want_web" "want_web" s_want_web (He.ga K "want_web") fd := S.fn 26 (d := ⟨fun K => He.ga K "want_web", "want_web", "want_web", s_want_web⟩) rfl
  have b26 : Binds K fd26 ["value"] [] := F26.binds (ps := ["value"]) fun _ _ _ _ _ _ us hl => match us, hl with | [_], _ => rfl
  have D_want_web : Df K mg "want_web" s_want_web ["value"] := ⟨_, _, He.glo_ok X G (S.fact 26 (f := .glo "want_web") rfl), F26, b26⟩
  obtain ⟨fd27, F27⟩ : ∃ fd, Fun K "book_at" "book_at" s_book_at (He.ga K "book_at") fd := S.fn 27 (d := ⟨fun K => He.ga K "book_at", "book_at", "book_at", s_book_at⟩) rfl
  have b27 : Binds K fd27 ["web", "yard"] [] := F27.binds (ps := ["web", "yard"]) fun _ _ _ _ _ _ us hl => match us, hl with | [_, _], _ => rfl
  have D_book_at : Df K mg "book_at" s_book_at ["web", "yard"] := ⟨_, _, He.glo_ok X G (S.fact 27 (f := .glo "book_at") rfl), F27, b27⟩
  obtain ⟨fd28, F28⟩ : ∃ fd, Fun K "bounds_told" "bounds_told" s_bounds_told (He.ga K "bounds_told") fd := S.fn 28 (d := ⟨fun K => He.ga K "bounds_told", "bounds_told", "bounds_told", s_bounds_told⟩) rfl
  have b28 : Binds K fd28 ["web", "yard"] [] := F28.binds (ps := ["web", "yard"]) fun _ _ _ _ _ _ us hl => match us, hl with | [_, _], _ => rfl
  have D_bounds_told : Df K mg "bounds_told" s_bounds_told ["web", "yard"] := ⟨_, _, He.glo_ok X G (S.fact 28 (f := .glo "bounds_told") rfl), F28, b28⟩
  obtain ⟨fd29, F29⟩ : ∃ fd, Fun K "are_bounded" "are_bounded" s_are_bounded (He.ga K "are_bounded") fd := S.fn 29 (d := ⟨fun K => He.ga K "are_bounded", "are_bounded", "are_bounded", s_are_bounded⟩) rfl
  have b29 : Binds K fd29 ["web"] [] := F29.binds (ps := ["web"]) fun _ _ _ _ _ _ us hl => match us, hl with | [_], _ => rfl
  have D_are_bounded : Df K mg "are_bounded" s_are_bounded ["web"] := ⟨_, _, He.glo_ok X G (S.fact 29 (f := .glo "are_bounded") rfl), F29, b29⟩
  obtain ⟨fd30, F30⟩ : ∃ fd, Fun K "places_at" "places_at" s_places_at (He.ga K "places_at") fd := S.fn 30 (d := ⟨fun K => He.ga K "places_at", "places_at", "places_at", s_places_at⟩) rfl
  have b30 : Binds K fd30 ["web", "yard"] [] := F30.binds (ps := ["web", "yard"]) fun _ _ _ _ _ _ us hl => match us, hl with | [_, _], _ => rfl
  have D_places_at : Df K mg "places_at" s_places_at ["web", "yard"] := ⟨_, _, He.glo_ok X G (S.fact 30 (f := .glo "places_at") rfl), F30, b30⟩
  obtain ⟨fd31, F31⟩ : ∃ fd, Fun K "bound_towards" "bound_towards" s_bound_towards (He.ga K "bound_towards") fd := S.fn 31 (d := ⟨fun K => He.ga K "bound_towards", "bound_towards", "bound_towards", s_bound_towards⟩) rfl
  have b31 : Binds K fd31 ["web", "yard", "target"] [] := F31.binds (ps := ["web", "yard", "target"]) fun _ _ _ _ _ _ us hl => match us, hl with | [_, _, _], _ => rfl
  have D_bound_towards : Df K mg "bound_towards" s_bound_towards ["web", "yard", "target"] := ⟨_, _, He.glo_ok X G (S.fact 31 (f := .glo "bound_towards") rfl), F31, b31⟩
  obtain ⟨fd32, F32⟩ : ∃ fd, Fun K "steps_to" "steps_to" s_steps_to (He.ga K "steps_to") fd := S.fn 32 (d := ⟨fun K => He.ga K "steps_to", "steps_to", "steps_to", s_steps_to⟩) rfl
  have b32 : Binds K fd32 ["country", "cart"] [] := F32.binds (ps := ["country", "cart"]) fun _ _ _ _ _ _ us hl => match us, hl with | [_, _], _ => rfl
  have D_steps_to : Df K mg "steps_to" s_steps_to ["country", "cart"] := ⟨_, _, He.glo_ok X G (S.fact 32 (f := .glo "steps_to") rfl), F32, b32⟩
  obtain ⟨fd33, F33⟩ : ∃ fd, Fun K "end_gate" "end_gate" s_end_gate (He.ga K "end_gate") fd := S.fn 33 (d := ⟨fun K => He.ga K "end_gate", "end_gate", "end_gate", s_end_gate⟩) rfl
  have b33 : Binds K fd33 ["country", "yard", "ahead"] [] := F33.binds (ps := ["country", "yard", "ahead"]) fun _ _ _ _ _ _ us hl => match us, hl with | [_, _, _], _ => rfl
  have D_end_gate : Df K mg "end_gate" s_end_gate ["country", "yard", "ahead"] := ⟨_, _, He.glo_ok X G (S.fact 33 (f := .glo "end_gate") rfl), F33, b33⟩
  obtain ⟨fd34, F34⟩ : ∃ fd, Fun K "script_to" "script_to" s_script_to (He.ga K "script_to") fd := S.fn 34 (d := ⟨fun K => He.ga K "script_to", "script_to", "script_to", s_script_to⟩) rfl
  have b34 : Binds K fd34 ["country", "carts"] [] := F34.binds (ps := ["country", "carts"]) fun _ _ _ _ _ _ us hl => match us, hl with | [_, _], _ => rfl
  have D_script_to : Df K mg "script_to" s_script_to ["country", "carts"] := ⟨_, _, He.glo_ok X G (S.fact 34 (f := .glo "script_to") rfl), F34, b34⟩
  obtain ⟨fd35, F35⟩ : ∃ fd, Fun K "placed" "placed" s_placed (He.ga K "placed") fd := S.fn 35 (d := ⟨fun K => He.ga K "placed", "placed", "placed", s_placed⟩) rfl
  have b35 : Binds K fd35 ["country", "way", "easts", "wests"] [] := F35.binds (ps := ["country", "way", "easts", "wests"]) fun _ _ _ _ _ _ us hl => match us, hl with | [_, _, _, _], _ => rfl
  have D_placed : Df K mg "placed" s_placed ["country", "way", "easts", "wests"] := ⟨_, _, He.glo_ok X G (S.fact 35 (f := .glo "placed") rfl), F35, b35⟩
  obtain ⟨fd36, F36⟩ : ∃ fd, Fun K "are_in_line" "are_in_line" s_are_in_line (He.ga K "are_in_line") fd := S.fn 36 (d := ⟨fun K => He.ga K "are_in_line", "are_in_line", "are_in_line", s_are_in_line⟩) rfl
  have b36 : Binds K fd36 ["web"] [] := F36.binds (ps := ["web"]) fun _ _ _ _ _ _ us hl => match us, hl with | [_], _ => rfl
  have D_are_in_line : Df K mg "are_in_line" s_are_in_line ["web"] := ⟨_, _, He.glo_ok X G (S.fact 36 (f := .glo "are_in_line") rfl), F36, b36⟩
  obtain ⟨fd37, F37⟩ : ∃ fd, Fun K "want_line" "want_line" s_want_line (He.ga K "want_line") fd := S.fn 37 (d := ⟨fun K => He.ga K "want_line", "want_line", "want_line", s_want_line⟩) rfl
  have b37 : Binds K fd37 ["web"] [] := F37.binds (ps := ["web"]) fun _ _ _ _ _ _ us hl => match us, hl with | [_], _ => rfl
  have D_want_line : Df K mg "want_line" s_want_line ["web"] := ⟨_, _, He.glo_ok X G (S.fact 37 (f := .glo "want_line") rfl), F37, b37⟩
  obtain ⟨fd38, F38⟩ : ∃ fd, Fun K "line_yards" "line_yards" s_line_yards (He.ga K "line_yards") fd := S.fn 38 (d := ⟨fun K => He.ga K "line_yards", "line_yards", "line_yards", s_line_yards⟩) rfl
  have b38 : Binds K fd38 ["web"] [] := F38.binds (ps := ["web"]) fun _ _ _ _ _ _ us hl => match us, hl with | [_], _ => rfl
  have D_line_yards : Df K mg "line_yards" s_line_yards ["web"] := ⟨_, _, He.glo_ok X G (S.fact 38 (f := .glo "line_yards") rfl), F38, b38⟩
  obtain ⟨fd39, F39⟩ : ∃ fd, Fun K "line_numbers" "line_numbers" s_line_numbers (He.ga K "line_numbers") fd := S.fn 39 (d := ⟨fun K => He.ga K "line_numbers", "line_numbers", "line_numbers", s_line_numbers⟩) rfl
  have b39 : Binds K fd39 ["web"] [] := F39.binds (ps := ["web"]) fun _ _ _ _ _ _ us hl => match us, hl with | [_], _ => rfl
  have D_line_numbers : Df K mg "line_numbers" s_line_numbers ["web"] := ⟨_, _, He.glo_ok X G (S.fact 39 (f := .glo "line_numbers") rfl), F39, b39⟩
  obtain ⟨fd40, F40⟩ : ∃ fd, Fun K "held_between" "held_between" s_held_between (He.ga K "held_between") fd := S.fn 40 (d := ⟨fun K => He.ga K "held_between", "held_between", "held_between", s_held_between⟩) rfl
  have b40 : Binds K fd40 ["number"] [] := F40.binds (ps := ["number"]) fun _ _ _ _ _ _ us hl => match us, hl with | [_], _ => rfl
  have D_held_between : Df K mg "held_between" s_held_between ["number"] := ⟨_, _, He.glo_ok X G (S.fact 40 (f := .glo "held_between") rfl), F40, b40⟩
  obtain ⟨fd41, F41⟩ : ∃ fd, Fun K "sticks_by" "sticks_by" s_sticks_by (He.ga K "sticks_by") fd := S.fn 41 (d := ⟨fun K => He.ga K "sticks_by", "sticks_by", "sticks_by", s_sticks_by⟩) rfl
  have b41 : Binds K fd41 ["row", "east", "west"] [] := F41.binds (ps := ["row", "east", "west"]) fun _ _ _ _ _ _ us hl => match us, hl with | [_, _, _], _ => rfl
  have D_sticks_by : Df K mg "sticks_by" s_sticks_by ["row", "east", "west"] := ⟨_, _, He.glo_ok X G (S.fact 41 (f := .glo "sticks_by") rfl), F41, b41⟩
  obtain ⟨fd42, F42⟩ : ∃ fd, Fun K "stick_rows" "stick_rows" s_stick_rows (He.ga K "stick_rows") fd := S.fn 42 (d := ⟨fun K => He.ga K "stick_rows", "stick_rows", "stick_rows", s_stick_rows⟩) rfl
  have b42 : Binds K fd42 ["numbers"] [] := F42.binds (ps := ["numbers"]) fun _ _ _ _ _ _ us hl => match us, hl with | [_], _ => rfl
  have D_stick_rows : Df K mg "stick_rows" s_stick_rows ["numbers"] := ⟨_, _, He.glo_ok X G (S.fact 42 (f := .glo "stick_rows") rfl), F42, b42⟩
  obtain ⟨fd43, F43⟩ : ∃ fd, Fun K "least_pairs" "least_pairs" s_least_pairs (He.ga K "least_pairs") fd := S.fn 43 (d := ⟨fun K => He.ga K "least_pairs", "least_pairs", "least_pairs", s_least_pairs⟩) rfl
  have b43 : Binds K fd43 ["rows"] [] := F43.binds (ps := ["rows"]) fun _ _ _ _ _ _ us hl => match us, hl with | [_], _ => rfl
  have D_least_pairs : Df K mg "least_pairs" s_least_pairs ["rows"] := ⟨_, _, He.glo_ok X G (S.fact 43 (f := .glo "least_pairs") rfl), F43, b43⟩
  obtain ⟨fd44, F44⟩ : ∃ fd, Fun K "line_carts" "line_carts" s_line_carts (He.ga K "line_carts") fd := S.fn 44 (d := ⟨fun K => He.ga K "line_carts", "line_carts", "line_carts", s_line_carts⟩) rfl
  have b44 : Binds K fd44 ["web", "east", "west"] [] := F44.binds (ps := ["web", "east", "west"]) fun _ _ _ _ _ _ us hl => match us, hl with | [_, _, _], _ => rfl
  have D_line_carts : Df K mg "line_carts" s_line_carts ["web", "east", "west"] := ⟨_, _, He.glo_ok X G (S.fact 44 (f := .glo "line_carts") rfl), F44, b44⟩
  obtain ⟨fd45, F45⟩ : ∃ fd, Fun K "is_line" "is_line" s_is_line (He.ga K "is_line") fd := S.fn 45 (d := ⟨fun K => He.ga K "is_line", "is_line", "is_line", s_is_line⟩) rfl
  have b45 : Binds K fd45 ["web"] [] := F45.binds (ps := ["web"]) fun _ _ _ _ _ _ us hl => match us, hl with | [_], _ => rfl
  have D_is_line : Df K mg "is_line" s_is_line ["web"] := ⟨_, _, He.glo_ok X G (S.fact 45 (f := .glo "is_line") rfl), F45, b45⟩
  obtain ⟨fd46, F46⟩ : ∃ fd, Fun K "stairs" "stairs" s_stairs (He.ga K "stairs") fd := S.fn 46 (d := ⟨fun K => He.ga K "stairs", "stairs", "stairs", s_stairs⟩) rfl
  have b46 : Binds K fd46 ["web"] [] := F46.binds (ps := ["web"]) fun _ _ _ _ _ _ us hl => match us, hl with | [_], _ => rfl
  have D_stairs : Df K mg "stairs" s_stairs ["web"] := ⟨_, _, He.glo_ok X G (S.fact 46 (f := .glo "stairs") rfl), F46, b46⟩
  obtain ⟨fd47, F47⟩ : ∃ fd, Fun K "want_both" "want_both" s_want_both (He.ga K "want_both") fd := S.fn 47 (d := ⟨fun K => He.ga K "want_both", "want_both", "want_both", s_want_both⟩) rfl
  have b47 : Binds K fd47 ["east", "west"] [] := F47.binds (ps := ["east", "west"]) fun _ _ _ _ _ _ us hl => match us, hl with | [_, _], _ => rfl
  have D_want_both : Df K mg "want_both" s_want_both ["east", "west"] := ⟨_, _, He.glo_ok X G (S.fact 47 (f := .glo "want_both") rfl), F47, b47⟩
  obtain ⟨fd48, F48⟩ : ∃ fd, Fun K "can_stick" "can_stick" s_can_stick (He.ga K "can_stick") fd := S.fn 48 (d := ⟨fun K => He.ga K "can_stick", "can_stick", "can_stick", s_can_stick⟩) rfl
  have b48 : Binds K fd48 ["web", "east", "west"] [] := F48.binds (ps := ["web", "east", "west"]) fun _ _ _ _ _ _ us hl => match us, hl with | [_, _, _], _ => rfl
  have D_can_stick : Df K mg "can_stick" s_can_stick ["web", "east", "west"] := ⟨_, _, He.glo_ok X G (S.fact 48 (f := .glo "can_stick") rfl), F48, b48⟩
  obtain ⟨fd49, F49⟩ : ∃ fd, Fun K "line_script" "line_script" s_line_script (He.ga K "line_script") fd := S.fn 49 (d := ⟨fun K => He.ga K "line_script", "line_script", "line_script", s_line_script⟩) rfl
  have b49 : Binds K fd49 ["web", "east", "west"] [] := F49.binds (ps := ["web", "east", "west"]) fun _ _ _ _ _ _ us hl => match us, hl with | [_, _, _], _ => rfl
  have D_line_script : Df K mg "line_script" s_line_script ["web", "east", "west"] := ⟨_, _, He.glo_ok X G (S.fact 49 (f := .glo "line_script") rfl), F49, b49⟩
  obtain ⟨fd50, F50⟩ : ∃ fd, Fun K "_law_pot" "_law_pot" s__law_pot (He.ga K "_law_pot") fd := S.fn 50 (d := ⟨fun K => He.ga K "_law_pot", "_law_pot", "_law_pot", s__law_pot⟩) rfl
  have b50 : Binds K fd50 ["_law_script", "_law_k"] [] := F50.binds (ps := ["_law_script", "_law_k"]) fun _ _ _ _ _ _ us hl => match us, hl with | [_, _], _ => rfl
  have D__law_pot : Df K mg "_law_pot" s__law_pot ["_law_script", "_law_k"] := ⟨_, _, He.glo_ok X G (S.fact 50 (f := .glo "_law_pot") rfl), F50, b50⟩
  obtain ⟨fd51, F51⟩ : ∃ fd, Fun K "_law_draw" "_law_draw" s__law_draw (He.ga K "_law_draw") fd := S.fn 51 (d := ⟨fun K => He.ga K "_law_draw", "_law_draw", "_law_draw", s__law_draw⟩) rfl
  have b51 : Binds K fd51 ["_law_pot_here", "_law_many"] [] := F51.binds (ps := ["_law_pot_here", "_law_many"]) fun _ _ _ _ _ _ us hl => match us, hl with | [_, _], _ => rfl
  have D__law_draw : Df K mg "_law_draw" s__law_draw ["_law_pot_here", "_law_many"] := ⟨_, _, He.glo_ok X G (S.fact 51 (f := .glo "_law_draw") rfl), F51, b51⟩
  obtain ⟨fd52, F52⟩ : ∃ fd, Fun K "_law_pick" "_law_pick" s__law_pick (He.ga K "_law_pick") fd := S.fn 52 (d := ⟨fun K => He.ga K "_law_pick", "_law_pick", "_law_pick", s__law_pick⟩) rfl
  have b52 : Binds K fd52 ["_law_pot_here", "_law_some"] [] := F52.binds (ps := ["_law_pot_here", "_law_some"]) fun _ _ _ _ _ _ us hl => match us, hl with | [_, _], _ => rfl
  have D__law_pick : Df K mg "_law_pick" s__law_pick ["_law_pot_here", "_law_some"] := ⟨_, _, He.glo_ok X G (S.fact 52 (f := .glo "_law_pick") rfl), F52, b52⟩
  obtain ⟨fd53, F53⟩ : ∃ fd, Fun K "_law_rows" "_law_rows" s__law_rows (He.ga K "_law_rows") fd := S.fn 53 (d := ⟨fun K => He.ga K "_law_rows", "_law_rows", "_law_rows", s__law_rows⟩) rfl
  have b53 : Binds K fd53 ["_law_pot_here", "_law_most", "_law_wide"] [] := F53.binds (ps := ["_law_pot_here", "_law_most", "_law_wide"]) fun _ _ _ _ _ _ us hl => match us, hl with | [_, _, _], _ => rfl
  have D__law_rows : Df K mg "_law_rows" s__law_rows ["_law_pot_here", "_law_most", "_law_wide"] := ⟨_, _, He.glo_ok X G (S.fact 53 (f := .glo "_law_rows") rfl), F53, b53⟩
  obtain ⟨fd54, F54⟩ : ∃ fd, Fun K "_law_names" "_law_names" s__law_names (He.ga K "_law_names") fd := S.fn 54 (d := ⟨fun K => He.ga K "_law_names", "_law_names", "_law_names", s__law_names⟩) rfl
  have b54 : Binds K fd54 ["_law_pot_here", "_law_many"] [] := F54.binds (ps := ["_law_pot_here", "_law_many"]) fun _ _ _ _ _ _ us hl => match us, hl with | [_, _], _ => rfl
  have D__law_names : Df K mg "_law_names" s__law_names ["_law_pot_here", "_law_many"] := ⟨_, _, He.glo_ok X G (S.fact 54 (f := .glo "_law_names") rfl), F54, b54⟩
  obtain ⟨fd55, F55⟩ : ∃ fd, Fun K "_law_web" "_law_web" s__law_web (He.ga K "_law_web") fd := S.fn 55 (d := ⟨fun K => He.ga K "_law_web", "_law_web", "_law_web", s__law_web⟩) rfl
  have b55 : Binds K fd55 ["_law_rows_here", "_law_names_here"] [] := F55.binds (ps := ["_law_rows_here", "_law_names_here"]) fun _ _ _ _ _ _ us hl => match us, hl with | [_, _], _ => rfl
  have D__law_web : Df K mg "_law_web" s__law_web ["_law_rows_here", "_law_names_here"] := ⟨_, _, He.glo_ok X G (S.fact 55 (f := .glo "_law_web") rfl), F55, b55⟩
  obtain ⟨fd56, F56⟩ : ∃ fd, Fun K "_law_way" "_law_way" s__law_way (He.ga K "_law_way") fd := S.fn 56 (d := ⟨fun K => He.ga K "_law_way", "_law_way", "_law_way", s__law_way⟩) rfl
  have b56 : Binds K fd56 ["_law_ties_here", "_law_start", "_law_end"] [] := F56.binds (ps := ["_law_ties_here", "_law_start", "_law_end"]) fun _ _ _ _ _ _ us hl => match us, hl with | [_, _, _], _ => rfl
  have D__law_way : Df K mg "_law_way" s__law_way ["_law_ties_here", "_law_start", "_law_end"] := ⟨_, _, He.glo_ok X G (S.fact 56 (f := .glo "_law_way") rfl), F56, b56⟩
  obtain ⟨fd57, F57⟩ : ∃ fd, Fun K "_law_load" "_law_load" s__law_load (He.ga K "_law_load") fd := S.fn 57 (d := ⟨fun K => He.ga K "_law_load", "_law_load", "_law_load", s__law_load⟩) rfl
  have b57 : Binds K fd57 ["_law_ties_here", "_law_carts", "_law_yard"] [] := F57.binds (ps := ["_law_ties_here", "_law_carts", "_law_yard"]) fun _ _ _ _ _ _ us hl => match us, hl with | [_, _, _], _ => rfl
  have D__law_load : Df K mg "_law_load" s__law_load ["_law_ties_here", "_law_carts", "_law_yard"] := ⟨_, _, He.glo_ok X G (S.fact 57 (f := .glo "_law_load") rfl), F57, b57⟩
  obtain ⟨fd58, F58⟩ : ∃ fd, Fun K "_law_stands" "_law_stands" s__law_stands (He.ga K "_law_stands") fd := S.fn 58 (d := ⟨fun K => He.ga K "_law_stands", "_law_stands", "_law_stands", s__law_stands⟩) rfl
  have b58 : Binds K fd58 ["_law_book", "_law_pairs"] [] := F58.binds (ps := ["_law_book", "_law_pairs"]) fun _ _ _ _ _ _ us hl => match us, hl with | [_, _], _ => rfl
  have D__law_stands : Df K mg "_law_stands" s__law_stands ["_law_book", "_law_pairs"] := ⟨_, _, He.glo_ok X G (S.fact 58 (f := .glo "_law_stands") rfl), F58, b58⟩
  obtain ⟨fd59, F59⟩ : ∃ fd, Fun K "_law_stepped" "_law_stepped" s__law_stepped (He.ga K "_law_stepped") fd := S.fn 59 (d := ⟨fun K => He.ga K "_law_stepped", "_law_stepped", "_law_stepped", s__law_stepped⟩) rfl
  have b59 : Binds K fd59 ["_law_ties_here", "_law_books", "_law_carts", "_law_step"] [] := F59.binds (ps := ["_law_ties_here", "_law_books", "_law_carts", "_law_step"]) fun _ _ _ _ _ _ us hl => match us, hl with | [_, _, _, _], _ => rfl
  have D__law_stepped : Df K mg "_law_stepped" s__law_stepped ["_law_ties_here", "_law_books", "_law_carts", "_law_step"] := ⟨_, _, He.glo_ok X G (S.fact 59 (f := .glo "_law_stepped") rfl), F59, b59⟩
  obtain ⟨fd60, F60⟩ : ∃ fd, Fun K "_law_is_stuck" "_law_is_stuck" s__law_is_stuck (He.ga K "_law_is_stuck") fd := S.fn 60 (d := ⟨fun K => He.ga K "_law_is_stuck", "_law_is_stuck", "_law_is_stuck", s__law_is_stuck⟩) rfl
  have b60 : Binds K fd60 ["_law_ties_here", "_law_books", "_law_carts"] [] := F60.binds (ps := ["_law_ties_here", "_law_books", "_law_carts"]) fun _ _ _ _ _ _ us hl => match us, hl with | [_, _, _], _ => rfl
  have D__law_is_stuck : Df K mg "_law_is_stuck" s__law_is_stuck ["_law_ties_here", "_law_books", "_law_carts"] := ⟨_, _, He.glo_ok X G (S.fact 60 (f := .glo "_law_is_stuck") rfl), F60, b60⟩
  obtain ⟨fd61, F61⟩ : ∃ fd, Fun K "_law_enough" "_law_enough" s__law_enough (He.ga K "_law_enough") fd := S.fn 61 (d := ⟨fun K => He.ga K "_law_enough", "_law_enough", "_law_enough", s__law_enough⟩) rfl
  have b61 : Binds K fd61 ["_law_rows_here", "_law_east", "_law_west"] [] := F61.binds (ps := ["_law_rows_here", "_law_east", "_law_west"]) fun _ _ _ _ _ _ us hl => match us, hl with | [_, _, _], _ => rfl
  have D__law_enough : Df K mg "_law_enough" s__law_enough ["_law_rows_here", "_law_east", "_law_west"] := ⟨_, _, He.glo_ok X G (S.fact 61 (f := .glo "_law_enough") rfl), F61, b61⟩
  obtain ⟨fd62, F62⟩ : ∃ fd, Fun K "_law_script_right" "_law_script_right" s__law_script_right (He.ga K "_law_script_right") fd := S.fn 62 (d := ⟨fun K => He.ga K "_law_script_right", "_law_script_right", "_law_script_right", s__law_script_right⟩) rfl
  have b62 : Binds K fd62 ["_law_web_here", "_law_names_here", "_law_books", "_law_pair"] [] := F62.binds (ps := ["_law_web_here", "_law_names_here", "_law_books", "_law_pair"]) fun _ _ _ _ _ _ us hl => match us, hl with | [_, _, _, _], _ => rfl
  have D__law_script_right : Df K mg "_law_script_right" s__law_script_right ["_law_web_here", "_law_names_here", "_law_books", "_law_pair"] := ⟨_, _, He.glo_ok X G (S.fact 62 (f := .glo "_law_script_right") rfl), F62, b62⟩
  obtain ⟨fdr, Fr⟩ : ∃ fd, Fun K "_law_right" "_law_right" s__law_right (He.ga K "_law_right") fd := S.fn 63 (d := ⟨fun K => He.ga K "_law_right", "_law_right", "_law_right", s__law_right⟩) rfl
  have br : Binds K fdr ["_law_pot_here"] [] := Fr.binds (ps := ["_law_pot_here"]) fun _ _ _ _ _ _ us hl => match us, hl with | [_], _ => rfl
  obtain ⟨fdl, Fl⟩ : ∃ fd, Fun K "law" "law" s_law (He.ga K "law") fd := S.fn 64 (d := ⟨fun K => He.ga K "law", "law", "law", s_law⟩) rfl
  obtain ⟨fd65, F65⟩ : ∃ fd, Fun K "__init__" "Country.__init__" s_Country_init (He.ma K (He.ga K "Country") "__init__") fd := S.fn 65 (d := ⟨fun K => He.ma K (He.ga K "Country") "__init__", "__init__", "Country.__init__", s_Country_init⟩) rfl
  have D_Country : DfN K mg "Country" "Country.__init__" (He.ga K "Country") s_Country_init ["self", "lanes"] := ⟨_, _, He.glo_ok X G (S.fact 65 (f := .glo "Country") rfl), He.mkr_ok (S.fact 98 (f := .mkr "Country") rfl), F65, F65.binds (ps := ["self", "lanes"]) fun _ _ _ _ _ _ us hl => match us, hl with | [_, _], _ => rfl⟩
  obtain ⟨fd66, F66⟩ : ∃ fd, Fun K "__init__" "Web.__init__" s_Web_init (He.ma K (He.ga K "Web") "__init__") fd := S.fn 66 (d := ⟨fun K => He.ma K (He.ga K "Web") "__init__", "__init__", "Web.__init__", s_Web_init⟩) rfl
  have D_Web : DfN K mg "Web" "Web.__init__" (He.ga K "Web") s_Web_init ["self", "country", "books"] := ⟨_, _, He.glo_ok X G (S.fact 66 (f := .glo "Web") rfl), He.mkr_ok (S.fact 99 (f := .mkr "Web") rfl), F66, F66.binds (ps := ["self", "country", "books"]) fun _ _ _ _ _ _ us hl => match us, hl with | [_, _, _], _ => rfl⟩
  obtain ⟨fd67, F67⟩ : ∃ fd, Fun K "country" "Web.country" s_Web_country (prG K "Web" "country") fd := S.fn 67 (d := ⟨fun K => prG K "Web" "country", "country", "Web.country", s_Web_country⟩) rfl
  have D_wcountry : DfP K (He.ga K "Web") "country" "Web.country" s_Web_country := ⟨_, _, _, propB_ok m1, F67, F67.binds (ps := ["self"]) fun _ _ _ _ _ _ us hl => match us, hl with | [_], _ => rfl⟩
  obtain ⟨fd68, F68⟩ : ∃ fd, Fun K "books" "Web.books" s_Web_books (prG K "Web" "books") fd := S.fn 68 (d := ⟨fun K => prG K "Web" "books", "books", "Web.books", s_Web_books⟩) rfl
  have D_wbooks : DfP K (He.ga K "Web") "books" "Web.books" s_Web_books := ⟨_, _, _, propB_ok m2, F68, F68.binds (ps := ["self"]) fun _ _ _ _ _ _ us hl => match us, hl with | [_], _ => rfl⟩
  have e := hfa.symm.trans (He.glo_ok X G (S.fact 64 (f := .glo "law") rfl))
  cases e
  refine ⟨fdl, fun s u => law_binds Fl s u, fun base _ _ => ?_⟩
  have k_is_integer := ok_is_integer (P := P) (w := w) (base := base) D_is_integer T
  have k_is_count := ok_is_count (P := P) (w := w) (base := base) D_is_count k_is_integer
  have k_is_list := ok_is_list (P := P) (w := w) (base := base) D_is_list T
  have k_lane_in := ok_lane_in (P := P) (w := w) (base := base) D_lane_in T k_is_list k_is_count
  have k_ties_of := ok_ties_of (P := P) (w := w) (base := base) D_ties_of T
  have k__law_ties := ok__law_ties (P := P) (w := w) (base := base) D__law_ties T
  have k_is_whole := ok_is_whole (P := P) (w := w) (base := base) D_is_whole T
  have k_ahead_of := ok_ahead_of (P := P) (w := w) (base := base) D_ahead_of T
  have k_lanes_in := ok_lanes_in (P := P) (w := w) (base := base) D_lanes_in T k_is_list k_lane_in k_ties_of k_is_whole
  have k_Country := ok_Country (P := P) (w := w) (base := base) D_Country T k_lanes_in k_ties_of k_ahead_of
  have k_beside := ok_beside (P := P) (w := w) (base := base) D_beside T
  have k_yards_in := ok_yards_in (P := P) (w := w) (base := base) D_yards_in T
  have k_gates_in := ok_gates_in (P := P) (w := w) (base := base) D_gates_in T
  have k_is_place := ok_is_place (P := P) (w := w) (base := base) D_is_place T k_is_count
  have k_is_yard := ok_is_yard (P := P) (w := w) (base := base) D_is_yard T k_is_place
  have k_want_country := ok_want_country (P := P) (w := w) (base := base) D_want_country T
  have k_step_towards := ok_step_towards (P := P) (w := w) (base := base) D_step_towards T
  have k_way_between := ok_way_between (P := P) (w := w) (base := base) D_way_between T
  have k_pairs_at := ok_pairs_at (P := P) (w := w) (base := base) D_pairs_at T k_beside
  have k_is_end_for := ok_is_end_for (P := P) (w := w) (base := base) D_is_end_for T k_is_count
  have k_is_bound_for := ok_is_bound_for (P := P) (w := w) (base := base) D_is_bound_for T k_is_count k_is_end_for
  have k_alternative_in := ok_alternative_in (P := P) (w := w) (base := base) D_alternative_in T k_is_list k_is_count k_is_bound_for
  have k_keeps := ok_keeps (P := P) (w := w) (base := base) D_keeps T
  have k_stands_by_one := ok_stands_by_one (P := P) (w := w) (base := base) D_stands_by_one T k_keeps
  have k_stands_by := ok_stands_by (P := P) (w := w) (base := base) D_stands_by T k_stands_by_one
  have k_book_in := ok_book_in (P := P) (w := w) (base := base) D_book_in T k_is_list k_beside k_alternative_in k_pairs_at k_stands_by
  have k_want_book := ok_want_book (P := P) (w := w) (base := base) D_want_book T k_book_in
  have k_Web := ok_Web (P := P) (w := w) (base := base) D_Web T k_want_country k_yards_in k_is_list k_want_book
  have k_wcountry := ok_wcountry (P := P) (w := w) (base := base) D_wcountry T
  have k_wbooks := ok_wbooks (P := P) (w := w) (base := base) D_wbooks T
  have k_want_web := ok_want_web (P := P) (w := w) (base := base) D_want_web T
  have k_book_at := ok_book_at (P := P) (w := w) (base := base) D_book_at T k_yards_in
  have k_bounds_told := ok_bounds_told (P := P) (w := w) (base := base) D_bounds_told T k_book_at k_is_yard k_wcountry
  have k_are_bounded := ok_are_bounded (P := P) (w := w) (base := base) D_are_bounded T k_bounds_told k_yards_in k_wcountry
  have k_places_at := ok_places_at (P := P) (w := w) (base := base) D_places_at T k_bounds_told
  have k_bound_towards := ok_bound_towards (P := P) (w := w) (base := base) D_bound_towards T k_bounds_told
  have k_steps_to := ok_steps_to (P := P) (w := w) (base := base) D_steps_to T k_way_between
  have k_end_gate := ok_end_gate (P := P) (w := w) (base := base) D_end_gate T k_gates_in k_step_towards
  have k_script_to := ok_script_to (P := P) (w := w) (base := base) D_script_to T k_steps_to
  have k_placed := ok_placed (P := P) (w := w) (base := base) D_placed T k_end_gate
  have k_are_in_line := ok_are_in_line (P := P) (w := w) (base := base) D_are_in_line T k_are_bounded k_yards_in k_beside k_wcountry
  have k_want_line := ok_want_line (P := P) (w := w) (base := base) D_want_line T k_want_web k_are_in_line
  have k_line_yards := ok_line_yards (P := P) (w := w) (base := base) D_line_yards T k_gates_in k_way_between k_wcountry
  have k_line_numbers := ok_line_numbers (P := P) (w := w) (base := base) D_line_numbers T k_line_yards k_bound_towards k_places_at
  have k_held_between := ok_held_between (P := P) (w := w) (base := base) D_held_between T
  have k_sticks_by := ok_sticks_by (P := P) (w := w) (base := base) D_sticks_by T
  have k_stick_rows := ok_stick_rows (P := P) (w := w) (base := base) D_stick_rows T k_held_between
  have k_least_pairs := ok_least_pairs (P := P) (w := w) (base := base) D_least_pairs T
  have k_line_carts := ok_line_carts (P := P) (w := w) (base := base) D_line_carts T k_line_numbers k_stick_rows k_sticks_by k_held_between k_line_yards k_placed k_wcountry
  have k_is_line := ok_is_line (P := P) (w := w) (base := base) D_is_line T k_want_web k_are_in_line
  have k_stairs := ok_stairs (P := P) (w := w) (base := base) D_stairs T k_want_line k_line_numbers k_stick_rows k_least_pairs
  have k_want_both := ok_want_both (P := P) (w := w) (base := base) D_want_both T k_is_count
  have k_can_stick := ok_can_stick (P := P) (w := w) (base := base) D_can_stick T k_want_web k_want_both k_want_line k_line_numbers k_stick_rows k_sticks_by
  have k_line_script := ok_line_script (P := P) (w := w) (base := base) D_line_script T k_want_web k_want_both k_want_line k_line_carts k_script_to k_wcountry
  have k__law_pot := ok__law_pot (P := P) (w := w) (base := base) D__law_pot T
  have k__law_draw := ok__law_draw (P := P) (w := w) (base := base) D__law_draw T
  have k__law_pick := ok__law_pick (P := P) (w := w) (base := base) D__law_pick T k__law_draw
  have k__law_rows := ok__law_rows (P := P) (w := w) (base := base) D__law_rows T k__law_draw
  have k__law_names := ok__law_names (P := P) (w := w) (base := base) D__law_names T k__law_draw
  have k__law_web := ok__law_web (P := P) (w := w) (base := base) D__law_web T k_Country k_Web
  have k__law_way := ok__law_way (P := P) (w := w) (base := base) D__law_way T
  have k__law_load := ok__law_load (P := P) (w := w) (base := base) D__law_load T k__law_way
  have k__law_stands := ok__law_stands (P := P) (w := w) (base := base) D__law_stands T
  have k__law_stepped := ok__law_stepped (P := P) (w := w) (base := base) D__law_stepped T k__law_way k__law_load k__law_stands
  have k__law_is_stuck := ok__law_is_stuck (P := P) (w := w) (base := base) D__law_is_stuck T k__law_stepped
  have k__law_enough := ok__law_enough (P := P) (w := w) (base := base) D__law_enough T
  have k__law_script_right := ok__law_script_right (P := P) (w := w) (base := base) D__law_script_right T k_line_script k__law_ties k__law_stepped k__law_is_stuck
  have ck_can_stick := cal_kw k_can_stick F48 (He.glo_ok X G (S.fact 48 (f := .glo "can_stick") rfl)) (kb_can_stick F48)
  have ck_line_script := cal_kw k_line_script F49 (He.glo_ok X G (S.fact 49 (f := .glo "line_script") rfl)) (kb_line_script F49)
  have ck_stairs := cal_kw k_stairs F46 (He.glo_ok X G (S.fact 46 (f := .glo "stairs") rfl)) (kb_stairs F46)
  have k_right := ok__law_right Fr math T ck_can_stick ck_line_script ck_stairs k_wbooks k__law_draw k__law_enough k__law_names k__law_pick k__law_rows k__law_script_right k__law_web k_can_stick k_is_line k_line_script k_stairs
  exact ok_law Fl T k__law_pot (He.glo_ok X G (S.fact 63 (f := .glo "_law_right") rfl)) Fr.kp br k_right
end K74

set_option Elab.async false
set_option linter.all false
set_option maxRecDepth 100000
set_option maxHeartbeats 0
open PySem PySem.W PyProof.Rows in
set_option maxRecDepth 100000 in
set_option maxHeartbeats 0 in
theorem PySem.Challenge.cw_lanekeepers_k74_whole_stairs_of_lines_holds : PySem.Challenge.rw_lanekeepers_k74_whole_stairs_of_lines.Holds := by
  w_on; o_law; k_head; (case hw => w_witness2)
  k_fill
  refine K74.walk_go (l := PySem.Challenge.rw_lanekeepers_k74_whole_stairs_of_lines) (n := 63) (k := 12) (x := "_law_script") (sp := K74.sp_law) rfl (by decide) rfl ⟨rfl, by decide, by decide⟩ (fun w h Y => PySem.W.kIn_of Y) ?F (fun K H a ns _ hS => ⟨a, ns, rfl, hS, fun _ => rfl⟩)
  case F =>
    intro w mg fa h KX G hmg
    refine K74.all_law KX G hmg ⟨?e1, ?e2, ?e3, ?e4⟩
    case e1 => kernel_rfl
    case e2 => kernel_rfl
    case e3 => kernel_rfl
    case e4 => kernel_rfl
#print axioms PySem.Challenge.cw_lanekeepers_k74_whole_stairs_of_lines_holds

