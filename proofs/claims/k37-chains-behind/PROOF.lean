import PyProof.Rows.All
import Wide.All
import OpenK.AllK
import Wide.FinOn
import HandS.Base
import HandS.Call
import HandS.List
import HandS.Comp
import HandS.Ends
import HandS.Dict
import HandS.Iter
import HandS.Words
import HandS.WordsList
import HandS.More
import HandS.IsInst
import HandS.Conv
import HandS.Sort
import HandS.Rev
import HandS.Evl
import PySem.Challenge.RW_askorder_k37_whole_chains_behind
set_option Elab.async false
set_option linter.all false
set_option maxRecDepth 100000
/-! The plain law: the chain behind an order, and the end of its standing tree. No program in sight. -/
namespace Ch
/-- of each two unlike things below n just one beats the other, none beats itself -/
structure Tour (n : Nat) (T : Nat → Nat → Bool) : Prop where
  irr : ∀ i, i < n → T i i = false
  anti : ∀ i j, i < n → j < n → i ≠ j → T i j = !T j i
def beats (T : Nat → Nat → Bool) (x : Nat) (c : List Nat) : Bool := c.all fun y => T x y
/-- the chain behind an order, told from its first thing on -/
def chain (T : Nat → Nat → Bool) : List Nat → List Nat
  | [] => []
  | x :: r => if beats T x (chain T r) = true then x :: chain T r else chain T r
theorem chain_sub (T : Nat → Nat → Bool) : ∀ os : List Nat, (chain T os).Sublist os
  | [] => List.Sublist.refl _
  | x :: r => by
    unfold chain
    split
    · exact (chain_sub T r).cons_cons x
    · exact (chain_sub T r).cons x
theorem chain_mem {T : Nat → Nat → Bool} {os : List Nat} {x : Nat} (h : x ∈ chain T os) : x ∈ os := (chain_sub T os).subset h
theorem chain_nil {T : Nat → Nat → Bool} : ∀ {os : List Nat}, chain T os = [] → os = []
  | [], _ => rfl
  | x :: r, h => by
    unfold chain at h
    split at h
    · cases h
    · rename_i hb
      rw [h] at hb
      exact absurd rfl hb
theorem chain_last (T : Nat → Nat → Bool) : ∀ os : List Nat, (chain T os).getLast? = os.getLast?
  | [] => rfl
  | [x] => rfl
  | x :: y :: r => by
    have ih := chain_last T (y :: r)
    have hne : chain T (y :: r) ≠ [] := fun e => by cases chain_nil e
    rw [List.getLast?_cons_cons, ← ih]
    conv => lhs; unfold chain
    split
    · cases e : chain T (y :: r) with
      | nil => exact absurd e hne
      | cons a b => rw [List.getLast?_cons_cons]
    · rfl
theorem chain_pair (T : Nat → Nat → Bool) : ∀ os : List Nat, (chain T os).Pairwise fun a b => T a b = true
  | [] => List.Pairwise.nil
  | x :: r => by
    unfold chain
    split
    · rename_i hb
      exact List.Pairwise.cons (fun y hy => List.all_eq_true.mp hb y hy) (chain_pair T r)
    · exact chain_pair T r
theorem chain_app (T : Nat → Nat → Bool) : ∀ pre post : List Nat, ∃ up, chain T (pre ++ post) = up ++ chain T post
  | [], post => ⟨[], rfl⟩
  | x :: pre, post => by
    obtain ⟨up, e⟩ := chain_app T pre post
    rw [List.cons_append]
    have hc : chain T (x :: (pre ++ post)) = if beats T x (chain T (pre ++ post)) = true then x :: chain T (pre ++ post) else chain T (pre ++ post) := rfl
    rw [hc]
    split
    · exact ⟨x :: up, by rw [e]; rfl⟩
    · exact ⟨up, e⟩
theorem sub_filter {c : List Nat} : ∀ {os : List Nat}, c.Sublist os → os.Nodup → os.filter (fun x => decide (x ∈ c)) = c := by
  intro os h
  induction h with
  | slnil => intro _; rfl
  | @cons l1 l2 a s ih =>
    intro nd
    obtain ⟨h1, h2⟩ := List.nodup_cons.mp nd
    rw [List.filter_cons, if_neg, ih h2]
    intro e
    exact h1 (s.subset (of_decide_eq_true e))
  | @cons_cons l1 l2 a s ih =>
    intro nd
    obtain ⟨h1, h2⟩ := List.nodup_cons.mp nd
    rw [List.filter_cons, if_pos (decide_eq_true List.mem_cons_self)]
    have e : l2.filter (fun x => decide (x ∈ a :: l1)) = l2.filter (fun x => decide (x ∈ l1)) := List.filter_congr fun x hx => by
      have : x ≠ a := fun e => h1 (e ▸ hx)
      simp [this]
    rw [e, ih h2]
theorem chain_filter (T : Nat → Nat → Bool) {os : List Nat} (nd : os.Nodup) : os.filter (fun x => decide (x ∈ chain T os)) = chain T os := sub_filter (chain_sub T os) nd
theorem not_beats {T : Nat → Nat → Bool} {x : Nat} {c : List Nat} (h : ¬ beats T x c = true) : ∃ y, y ∈ c ∧ T x y = false := by
  unfold beats at h
  have h' : (c.all fun y => T x y) = false := by simpa using h
  obtain ⟨y, hy, e⟩ := List.all_eq_false.mp h'
  exact ⟨y, hy, by simpa using e⟩
/-- each thing left out is beaten by one of the chain that stands behind it in the order -/
theorem left_out {n : Nat} {T : Nat → Nat → Bool} (tt : Tour n T) {os : List Nat} (nd : os.Nodup) (lt : ∀ x ∈ os, x < n) {i x : Nat} (hi : os[i]? = some x) (hx : x ∉ chain T os) :
    ∃ j y, os[j]? = some y ∧ y ∈ chain T os ∧ i < j ∧ T y x = true := by
  obtain ⟨hlt, ex⟩ := List.getElem?_eq_some_iff.mp hi
  have e : os = os.take i ++ x :: os.drop (i + 1) := by
    rw [← ex, ← List.drop_eq_getElem_cons hlt, List.take_append_drop]
  obtain ⟨up, ec⟩ := chain_app T (os.take i) (x :: os.drop (i + 1))
  rw [← e] at ec
  have hs : chain T (x :: os.drop (i + 1)) = if beats T x (chain T (os.drop (i + 1))) = true then x :: chain T (os.drop (i + 1)) else chain T (os.drop (i + 1)) := rfl
  by_cases hb : beats T x (chain T (os.drop (i + 1))) = true
  · rw [if_pos hb] at hs
    rw [ec, hs] at hx
    exact absurd (List.mem_append_right _ List.mem_cons_self) hx
  · rw [if_neg hb] at hs
    obtain ⟨y, hy, ty⟩ := not_beats hb
    have hyd : y ∈ os.drop (i + 1) := chain_mem hy
    obtain ⟨m, hm⟩ := List.mem_iff_getElem?.mp hyd
    rw [List.getElem?_drop] at hm
    have hyo : y ∈ os := List.mem_of_getElem? hm
    have hxo : x ∈ os := List.mem_of_getElem? hi
    have ne : y ≠ x := fun z => by
      subst z
      have h2 := (List.getElem?_eq_some_iff.mp hm)
      obtain ⟨h2l, h2e⟩ := h2
      have := (List.getElem_inj nd).mp (h2e.trans ex.symm)
      omega
    refine ⟨i + 1 + m, y, hm, by rw [ec, hs]; exact List.mem_append_right _ hy, by omega, ?_⟩
    rw [tt.anti y x (lt y hyo) (lt x hxo) ne, ty]
    rfl
/-! ### trees -/
inductive Tr where
  | leaf (x : Nat)
  | node (l r : Tr)
def stand : Nat → List Nat → Tr
  | x, [] => .leaf x
  | x, y :: r => .node (stand x r) (stand y r)
def depth : Tr → Nat
  | .leaf _ => 0
  | .node l r => max (depth l) (depth r) + 1
def good (n : Nat) : Tr → Prop
  | .leaf x => x < n
  | .node l r => good n l ∧ good n r
def endT (T : Nat → Nat → Bool) : Tr → Nat
  | .leaf x => x
  | .node l r => if T (endT T r) (endT T l) = true then endT T r else endT T l
theorem depth_stand : ∀ (r : List Nat) (x : Nat), depth (stand x r) = r.length
  | [], _ => rfl
  | y :: r, x => by
    show max (depth (stand x r)) (depth (stand y r)) + 1 = r.length + 1
    rw [depth_stand r x, depth_stand r y, Nat.max_self]
theorem good_stand {n : Nat} : ∀ (r : List Nat) (x : Nat), x < n → (∀ y ∈ r, y < n) → good n (stand x r)
  | [], _, h, _ => h
  | y :: r, x, h, hr => ⟨good_stand r x h fun z hz => hr z (List.mem_cons_of_mem _ hz), good_stand r y (hr y List.mem_cons_self) fun z hz => hr z (List.mem_cons_of_mem _ hz)⟩
theorem good_end {n : Nat} {T : Nat → Nat → Bool} : ∀ {t : Tr}, good n t → endT T t < n
  | .leaf _, h => h
  | .node l r, h => by
    show (if T (endT T r) (endT T l) = true then endT T r else endT T l) < n
    split
    · exact good_end h.2
    · exact good_end h.1
/-- who looks ahead in a standing tree comes to the head of the chain behind the order -/
theorem end_stand {n : Nat} {T : Nat → Nat → Bool} (tt : Tour n T) : ∀ (r : List Nat) (x : Nat), (x :: r).Nodup → (∀ y ∈ x :: r, y < n) → (chain T (x :: r)).head? = some (endT T (stand x r))
  | [], x, _, _ => rfl
  | y :: r, x, nd, lt => by
    have nx : (x :: r).Nodup := by
      simp only [List.nodup_cons, List.mem_cons, not_or] at nd ⊢
      exact ⟨nd.1.2, nd.2.2⟩
    have ny : (y :: r).Nodup := (List.nodup_cons.mp nd).2
    have hxy : x ≠ y := by
      simp only [List.nodup_cons, List.mem_cons, not_or] at nd
      exact nd.1.1
    have lx : ∀ z ∈ x :: r, z < n := fun z hz => by
      rcases List.mem_cons.mp hz with e | hz
      · rw [e]; exact lt x List.mem_cons_self
      · exact lt z (List.mem_cons_of_mem _ (List.mem_cons_of_mem _ hz))
    have ly : ∀ z ∈ y :: r, z < n := fun z hz => lt z (List.mem_cons_of_mem _ hz)
    have ihx := end_stand tt r x nx lx
    have ihy := end_stand tt r y ny ly
    have hxl : x < n := lt x List.mem_cons_self
    have hyl : y < n := ly y List.mem_cons_self
    have hcx : chain T (x :: r) = if beats T x (chain T r) = true then x :: chain T r else chain T r := rfl
    have hcy : chain T (y :: r) = if beats T y (chain T r) = true then y :: chain T r else chain T r := rfl
    have hc : chain T (x :: y :: r) = if beats T x (chain T (y :: r)) = true then x :: chain T (y :: r) else chain T (y :: r) := rfl
    have he : endT T (stand x (y :: r)) = if T (endT T (stand y r)) (endT T (stand x r)) = true then endT T (stand y r) else endT T (stand x r) := rfl
    rw [he]
    generalize endT T (stand x r) = a at *
    generalize endT T (stand y r) = b at *
    -- what stands at the chain's head is one of the rest
    have headlt : ∀ h t, chain T r = h :: t → h < n ∧ h ≠ x ∧ h ≠ y := fun h t e => by
      have hm : h ∈ r := chain_mem (T := T) (by rw [e]; exact List.mem_cons_self)
      refine ⟨lt h (List.mem_cons_of_mem _ (List.mem_cons_of_mem _ hm)), fun z => ?_, fun z => ?_⟩
      · rw [z] at hm; exact (List.nodup_cons.mp nx).1 hm
      · rw [z] at hm; exact (List.nodup_cons.mp ny).1 hm
    by_cases by_ : beats T y (chain T r) = true
    · rw [if_pos by_] at hcy
      rw [hcy] at ihy hc
      have eb : y = b := Option.some.inj ihy
      subst eb
      by_cases bx : beats T x (chain T r) = true
      · rw [if_pos bx] at hcx
        rw [hcx] at ihx
        have ea : x = a := Option.some.inj ihx
        subst ea
        have hb2 : beats T x (y :: chain T r) = (T x y && beats T x (chain T r)) := rfl
        rw [hb2, bx, Bool.and_true] at hc
        by_cases txy : T x y = true
        · have tyx : T y x = false := by rw [tt.anti y x hyl hxl (Ne.symm hxy), txy]; rfl
          rw [hc, if_pos txy, tyx]
          rfl
        · have tyx : T y x = true := by rw [tt.anti y x hyl hxl (Ne.symm hxy)]; simp [txy]
          rw [hc, if_neg txy, tyx]
          rfl
      · rw [if_neg bx] at hcx
        rw [hcx] at ihx
        have hb2 : beats T x (y :: chain T r) = (T x y && beats T x (chain T r)) := rfl
        have bxf : beats T x (chain T r) = false := by simpa using bx
        rw [hb2, bxf, Bool.and_false] at hc
        rw [hc, if_neg Bool.false_ne_true]
        cases ecr : chain T r with
        | nil => rw [ecr] at ihx; cases ihx
        | cons h t =>
          rw [ecr] at ihx
          have ea : h = a := Option.some.inj ihx
          subst ea
          have tyh : T y h = true := by
            rw [ecr] at by_
            exact List.all_eq_true.mp by_ h List.mem_cons_self
          rw [if_pos tyh]
          rfl
    · rw [if_neg by_] at hcy
      rw [hcy] at ihy hc
      cases ecr : chain T r with
      | nil => rw [ecr] at ihy; cases ihy
      | cons h t =>
        obtain ⟨hh, hhx, hhy⟩ := headlt h t ecr
        rw [ecr] at ihy
        have eb : h = b := Option.some.inj ihy
        subst eb
        by_cases bx : beats T x (chain T r) = true
        · rw [if_pos bx] at hcx hc
          rw [hcx] at ihx
          have ea : x = a := Option.some.inj ihx
          subst ea
          have txh : T x h = true := by
            rw [ecr] at bx
            exact List.all_eq_true.mp bx h List.mem_cons_self
          have thx : T h x = false := by rw [tt.anti h x hh hxl hhx, txh]; rfl
          rw [hc, thx]
          rfl
        · rw [if_neg bx] at hcx hc
          rw [hcx, ecr] at ihx
          have ea : h = a := Option.some.inj ihx
          subst ea
          rw [hc, ecr, tt.irr h hh]
          rfl
end Ch
/-! The text by places, the data on the heap, the promise of each def. -/
namespace Ch
open PySem L2
/-! ### the text -/
def topAt (i : Nat) : Stmt := PySem.Challenge.pw_askorder_k37_whole_chains_behind.main.body.getD i (.Pass ⟨0, 0, 0, 0⟩)
abbrev tGood : Stmt := topAt 5
abbrev tAsk : Stmt := topAt 6
abbrev tFrom : Stmt := topAt 7
abbrev tStand : Stmt := topAt 8
abbrev tEnd : Stmt := topAt 10
abbrev tAhead : Stmt := topAt 11
abbrev tBeats : Stmt := topAt 12
abbrev tChain : Stmt := topAt 13
abbrev tCell : Stmt := topAt 15
abbrev tWhole : Stmt := topAt 16
abbrev tBits : Stmt := topAt 17
abbrev tOrder : Stmt := topAt 18
abbrev tLChain : Stmt := topAt 19
abbrev tLeft : Stmt := topAt 20
abbrev tLaw : Stmt := topAt 21
/-! ### data -/
/-- things as values -/
def nv (os : List Nat) : List V := os.map fun (k : Nat) => V.int (k : Int)
theorem nv_len (os : List Nat) : (nv os).length = os.length := List.length_map _
theorem nv_get {os : List Nat} {i x : Nat} (h : os[i]? = some x) : (nv os)[i]? = some (V.int (x : Int)) := by
  unfold nv
  rw [List.getElem?_map, h]
  rfl
theorem nv_at {os : List Nat} {i x : Nat} (h : os[i]? = some x) : atI (nv os) (i : Int) = some (V.int (x : Int)) := atI_nat (nv_get h)
theorem nv_of {os : List Nat} {i : Nat} {v : V} (h : (nv os)[i]? = some v) : ∃ x, os[i]? = some x ∧ v = V.int (x : Int) := by
  unfold nv at h
  rw [List.getElem?_map] at h
  cases e : os[i]? with
  | none => rw [e] at h; cases h
  | some x => rw [e] at h; exact ⟨x, rfl, (Option.some.inj h).symm⟩
def zs (os : List Nat) : List Int := os.map fun (k : Nat) => (k : Int)
theorem nv_zs (os : List Nat) : nv os = (zs os).map V.int := by
  unfold nv zs
  rw [List.map_map]
  rfl
def rowV (n : Nat) (T : Nat → Nat → Bool) (i : Nat) : List V := (List.range n).map fun j => V.bl (T i j)
theorem rowV_len (n : Nat) (T : Nat → Nat → Bool) (i : Nat) : (rowV n T i).length = n := by
  unfold rowV
  rw [List.length_map, List.length_range]
theorem rowV_get {n : Nat} {T : Nat → Nat → Bool} {i j : Nat} (h : j < n) : (rowV n T i)[j]? = some (V.bl (T i j)) := by
  unfold rowV
  rw [List.getElem?_map, List.getElem?_range h]
  rfl
/-- a table T of n things stands at p, its rows at rs -/
structure TabAt (H : Hp) (p : Addr) (n : Nat) (T : Nat → Nat → Bool) (rs : List Addr) : Prop where
  top : H p = some (.lst (rs.map V.ref))
  len : rs.length = n
  row : ∀ i r, rs[i]? = some r → H r = some (.lst (rowV n T i))
theorem TabAt.same {H H' : Hp} {p : Addr} {n : Nat} {T : Nat → Nat → Bool} {rs : List Addr} (t : TabAt H p n T rs) (s : Same H H') : TabAt H' p n T rs :=
  ⟨s _ _ t.top, t.len, fun i r e => s _ _ (t.row i r e)⟩
theorem TabAt.get {H : Hp} {p : Addr} {n : Nat} {T : Nat → Nat → Bool} {rs : List Addr} (t : TabAt H p n T rs) {i j : Nat} (hi : i < n) (hj : j < n) :
    ∃ r, atI (rs.map V.ref) (i : Int) = some (V.ref r) ∧ H r = some (.lst (rowV n T i)) ∧ atI (rowV n T i) (j : Int) = some (V.bl (T i j)) := by
  have hl : i < rs.length := by rw [t.len]; exact hi
  refine ⟨rs[i], atI_nat ?_, t.row i _ (List.getElem?_eq_getElem hl), atI_nat (rowV_get hj)⟩
  rw [List.getElem?_map, List.getElem?_eq_getElem hl]
  rfl
/-- a tree of tuples -/
def TreeAt (H : Hp) : Tr → V → Prop
  | .leaf x, v => v = V.int (x : Int)
  | .node l r, v => ∃ a x y, v = V.ref a ∧ H a = some (.tup [x, y]) ∧ TreeAt H l x ∧ TreeAt H r y
theorem TreeAt.same {H H' : Hp} (s : Same H H') : ∀ {t : Tr} {v : V}, TreeAt H t v → TreeAt H' t v
  | .leaf _, _, h => h
  | .node _ _, _, ⟨a, x, y, e, h, hl, hr⟩ => ⟨a, x, y, e, s _ _ h, hl.same s, hr.same s⟩
theorem same_put {H : Hp} {p : Addr} {o : HO} (h : H p = none) : Same H (upd H p o) := fun b u q => by
  rw [upd_ne (ne_of_none q h)]
  exact q
theorem small (n : Nat) (h : n ≤ 1000 := by omega) : n ≤ sizeLine := Nat.le_of_lt (small1000 h)
/-! ### promises -/
def spGood (k : Nat) : Sp := fun vs H Q _ => ∃ (v : V) (t : Tr) (m : Nat), vs = [v, .int (m : Int)] ∧ TreeAt H t v ∧ good m t ∧ depth t < k ∧ Q (.bl true) H
def spEnd (k : Nat) : Sp := fun vs H Q _ => ∃ (p : Addr) (v : V) (t : Tr) (n : Nat) (T : Nat → Nat → Bool) (rs : List Addr), vs = [.ref p, v] ∧ TabAt H p n T rs ∧ TreeAt H t v ∧ good n t ∧ depth t < k ∧ Q (.int (endT T t : Nat)) H
def spFrom (K : PySem.W.Frag) (k : Nat) : Sp := fun vs H Q _ => ∃ (a : Addr) (x : Nat) (r : List Nat), vs = [.int (x : Int), .ref a] ∧ SqL K H a (nv r) ∧ r.length < k ∧ ∀ H' v, Same H H' → TreeAt H' (stand x r) v → Q v H'
def spAsk (K : PySem.W.Frag) : Sp := fun vs H Q _ => ∃ (a : Addr) (os : List Nat) (n : Nat), vs = [.ref a, .int (n : Int)] ∧ SqL K H a (nv os) ∧ os.Perm (List.range n) ∧ 0 < n ∧ n < 64 ∧ ∀ H', Same H H' → Q .non H'
def spStand (K : PySem.W.Frag) : Sp := fun vs H Q _ => ∃ (a : Addr) (x : Nat) (r : List Nat), vs = [.ref a] ∧ SqL K H a (nv (x :: r)) ∧ (x :: r).Perm (List.range (x :: r).length) ∧ r.length < 9 ∧ ∀ H' v, Same H H' → TreeAt H' (stand x r) v → Q v H'
def spAhead (K : PySem.W.Frag) : Sp := fun vs H Q _ => ∃ (p : Addr) (v : V) (t : Tr) (n : Nat) (T : Nat → Nat → Bool) (rs : List Addr), vs = [.ref p, v] ∧ TabAt H p n T rs ∧ TreeAt H t v ∧ good n t ∧ depth t < 9 ∧ Q (.int (endT T t : Nat)) H
def spBeats (K : PySem.W.Frag) : Sp := fun vs H Q _ => ∃ (p c : Addr) (x n : Nat) (cs : List Nat) (T : Nat → Nat → Bool) (rs : List Addr), vs = [.ref p, .int (x : Int), .ref c] ∧ TabAt H p n T rs ∧ SqL K H c (nv cs) ∧ x < n ∧ (∀ y ∈ cs, y < n) ∧ Q (.bl (beats T x cs)) H
def spChain (K : PySem.W.Frag) : Sp := fun vs H Q _ => ∃ (p a : Addr) (n : Nat) (os : List Nat) (T : Nat → Nat → Bool) (rs : List Addr), vs = [.ref p, .ref a] ∧ TabAt H p n T rs ∧ SqL K H a (nv os) ∧ os.Perm (List.range n) ∧ 0 < n ∧ n < 64 ∧
  ∀ H' c, Same H H' → H c = none → H' c = some (.lst (nv (chain T os))) → Q (.ref c) H'
def spCell (K : PySem.W.Frag) : Sp := fun vs H Q _ => ∃ (a : Addr) (ns : List Int) (k : Nat), vs = [.ref a, .int (k : Int)] ∧ SqL K H a (ns.map V.int) ∧ ∀ z : Int, Q (.int z) H
def spWhole : Sp := fun vs H Q _ => ∃ z : Int, vs = [.int z] ∧ Q (.bl true) H
def spBits (K : PySem.W.Frag) : Sp := fun vs H Q _ => ∃ (a : Addr) (ns : List Int) (m : Nat), vs = [.ref a, .int (m : Int)] ∧ SqL K H a (ns.map V.int) ∧ ns.length ≤ 63 ∧ m ≤ 8 ∧
  ∀ H' p rs T, Same H H' → TabAt H' p m T rs → Tour m T → Q (.ref p) H'
def spOrder : Sp := fun vs H Q _ => ∃ (c : Int) (m : Nat), vs = [.int c, .int (m : Int)] ∧ m ≤ 8 ∧ ∀ H' p os, Same H H' → H' p = some (.lst (nv os)) → os.Perm (List.range m) → Q (.ref p) H'
def spLChain (K : PySem.W.Frag) : Sp := fun vs H Q _ => ∃ (p c : Addr) (n : Nat) (cs : List Nat) (T : Nat → Nat → Bool) (rs : List Addr), vs = [.ref p, .ref c] ∧ TabAt H p n T rs ∧ SqL K H c (nv cs) ∧ (∀ y ∈ cs, y < n) ∧ cs.length ≤ 1000 ∧
  cs.Pairwise (fun a b => T a b = true) ∧ Q (.bl true) H
def spLeft (K : PySem.W.Frag) : Sp := fun vs H Q _ => ∃ (p a c : Addr) (n : Nat) (os cs : List Nat) (T : Nat → Nat → Bool) (rs : List Addr), vs = [.ref p, .ref a, .ref c] ∧ TabAt H p n T rs ∧ SqL K H a (nv os) ∧ SqL K H c (nv cs) ∧
  os.Nodup ∧ (∀ y ∈ os, y < n) ∧ (∀ y ∈ cs, y ∈ os) ∧ cs.length ≤ 1000 ∧ (∀ (i x : Nat), os[i]? = some x → x ∉ cs → ∃ (j y : Nat), os[j]? = some y ∧ y ∈ cs ∧ i < j ∧ T y x = true) ∧ ∀ H', Same H H' → Q (.bl true) H'
def spLaw (K : PySem.W.Frag) : Sp := fun vs H Q _ => ∃ (a : Addr) (ns : List Int), vs = [.ref a] ∧ SqL K H a (ns.map V.int) ∧ ns.length ≤ 63 ∧ ∀ H', Q (.bl true) H'
end Ch
set_option maxHeartbeats 4000000
/-! Trees: is_good, end_of, standing_from. -/
namespace Ch
open PySem L2
section
variable {P : Program} {w : World} {K : PySem.W.Frag} {mg : Str → Option Value} {base : Heap} {f : Addr} {fd : FuncData}
theorem scGood : FnScope ["tree", "many"] ["tree", "many"] (defScope tGood) := ⟨rfl, rfl, rfl, by decide +kernel, rfl, by decide +kernel, by decide +kernel⟩
theorem kit_tt : PySem.W.kitOne K (.type "tuple") (.type "tuple") = some true := kit_ty (by decide +kernel)
theorem kit_it : PySem.W.kitOne K (.type "int") (.type "tuple") = some false := kit_ty (by decide +kernel)
theorem at0 {x y : V} : atI [x, y] 0 = some x := atI_nat (j := 0) rfl
theorem at1 {x y : V} : atI [x, y] 1 = some y := atI_nat (j := 1) rfl
theorem ok_good (F : Fun K "is_good" "is_good" tGood f fd) (b : Binds K fd ["tree", "many"] []) (mG : mg "is_good" = some (.ref f)) (mI : mg "isinstance" = none) (mT : mg "tuple" = none) :
    ∀ k : Nat, FnOk P w K mg base CX0 k f fd ["tree", "many"] (spGood k)
  | 0 => by
    have no : ∀ vs H Q E, ¬ spGood 0 vs H Q E := fun vs H Q E h => by
      obtain ⟨_, _, _, _, _, _, h, _⟩ := h
      exact absurd h (Nat.not_lt_zero _)
    exact ⟨fun vs H Q E h => absurd h (no vs H Q E), fun A outer s H args us vs Q E _ _ _ _ h => absurd h (no vs H Q E)⟩
  | k + 1 => by
    have G := ok_good F b mG mI mT k
    refine F.ok scGood (fun vs H Q E h => ?_) (fun cdv A outer s H vs Q E hr h => ?_)
    · obtain ⟨_, _, _, rfl, _⟩ := h
      rfl
    obtain ⟨v, t, m, rfl, ht, hg, hd, q⟩ := h
    refine ⟨_, pss_cons (ps_if (pt_val (pe_callB call_isi (by rfl) mI (by decide +kernel) (pa_cons (pv 0) (pa_cons (pe_bltn (v := .ty "tuple") (by rfl) mT (by decide +kernel) rfl) pa_nil))))
        (pss_one (ps_ret (pe_and (pe_call G hr (by rfl) mG F.kp b .nil pass0 (pa_cons (pe_ix ix_tup (pv 0) pe_int (fun _ _ => rfl)) (pa_cons (pv 1) pa_nil)))
          (pe_one (pe_call G hr (by rfl) mG F.kp b .nil pass0 (pa_cons (pe_ix ix_tup (pv 0) pe_int (fun _ _ => rfl)) (pa_cons (pv 1) pa_nil))))))) pss_nil)
      (pss_one (ps_ret (pe_chain op_le op_lt pe_int (pv 0) (pv 1)))), ?_⟩
    cases t with
    | leaf x =>
      have e : v = V.int (x : Int) := ht
      subst e
      refine ⟨_, rfl, _, .ty "tuple", _, _, false, rfl, .ty _, .base (.int _), kit_it, false, rfl, iteF ?_⟩
      refine ⟨_, rfl, _, _, rfl, rfl, _, rfl, ?_⟩
      have h0 : decide ((0 : Int) ≤ (x : Int)) = true := decide_eq_true (Int.natCast_nonneg x)
      rw [h0]
      refine iteT ⟨_, rfl, _, _, rfl, rfl, ?_⟩
      have h1 : decide ((x : Int) < (m : Int)) = true := decide_eq_true (Int.ofNat_lt.mpr hg)
      show Q (V.bl (decide ((x : Int) < (m : Int)))) H
      rw [h1]
      exact q
    | node l r =>
      obtain ⟨a, x, y, rfl, ha, hl, hr'⟩ := ht
      have hd' : max (depth l) (depth r) + 1 < k + 1 := hd
      have d1 : depth l < k := by omega
      have d2 : depth r < k := by omega
      refine ⟨_, rfl, _, .ty "tuple", _, _, true, rfl, .ty _, .base (.tup ha), kit_tt, true, rfl, iteT ?_⟩
      refine ⟨_, rfl, _, _, _, _, rfl, rfl, SqT.of ha, at0, _, rfl, x, l, m, rfl, hl, hg.1, d1, true, rfl, iteT ?_⟩
      exact ⟨_, rfl, _, _, _, _, rfl, rfl, SqT.of ha, at1, _, rfl, y, r, m, rfl, hr', hg.2, d2, q⟩
theorem scEnd : FnScope ["table", "tree", "left", "right"] ["table", "tree"] (defScope tEnd) := ⟨rfl, rfl, rfl, by decide +kernel, rfl, by decide +kernel, by decide +kernel⟩
theorem ok_end (F : Fun K "end_of" "end_of" tEnd f fd) (b : Binds K fd ["table", "tree"] []) (mE : mg "end_of" = some (.ref f)) (mI : mg "isinstance" = none) (mT : mg "tuple" = none) :
    ∀ k : Nat, FnOk P w K mg base CX0 k f fd ["table", "tree"] (spEnd k)
  | 0 => by
    have no : ∀ vs H Q E, ¬ spEnd 0 vs H Q E := fun vs H Q E h => by
      obtain ⟨_, _, _, _, _, _, _, _, _, _, h, _⟩ := h
      exact absurd h (Nat.not_lt_zero _)
    exact ⟨fun vs H Q E h => absurd h (no vs H Q E), fun A outer s H args us vs Q E _ _ _ _ h => absurd h (no vs H Q E)⟩
  | k + 1 => by
    have G := ok_end F b mE mI mT k
    refine F.ok scEnd (fun vs H Q E h => ?_) (fun cdv A outer s H vs Q E hr h => ?_)
    · obtain ⟨_, _, _, _, _, _, rfl, _⟩ := h
      rfl
    obtain ⟨p, v, t, n, T, rs, rfl, tb, ht, hg, hd, q⟩ := h
    refine ⟨_, pss_cons (ps_if (pt_not (pt_val (pe_callB call_isi (by rfl) mI (by decide +kernel) (pa_cons (pv 1) (pa_cons (pe_bltn (v := .ty "tuple") (by rfl) mT (by decide +kernel) rfl) pa_nil)))))
        (pss_one (ps_ret (pv 1))) pss_nil)
      (pss_cons (ps_set (i := 2) scEnd.nd rfl (Or.inl rfl) (pe_call G hr (by rfl) mE F.kp b .nil pass0 (pa_cons (pv 0) (pa_cons (pe_ix ix_tup (pv 1) pe_int (fun _ _ => rfl)) pa_nil))))
      (pss_cons (ps_set (i := 3) scEnd.nd rfl (Or.inl rfl) (pe_call G hr (by rfl) mE F.kp b .nil pass0 (pa_cons (pv 0) (pa_cons (pe_ix ix_tup (pv 1) pe_int (fun _ _ => rfl)) pa_nil))))
      (pss_cons (ps_if (pt_val (pe_ix ix_list (pe_ix ix_list (pv 0) (pv 3) (fun _ _ => rfl)) (pv 2) (fun _ _ => rfl))) (pss_one (ps_ret (pv 3))) pss_nil)
      (pss_one (ps_ret (pv 2)))))), ?_⟩
    cases t with
    | leaf x =>
      have e : v = V.int (x : Int) := ht
      subst e
      refine ⟨_, rfl, _, .ty "tuple", _, _, false, rfl, .ty _, .base (.int _), kit_it, false, rfl, iteT ?_⟩
      exact ⟨_, rfl, q⟩
    | node l r =>
      obtain ⟨a, x, y, rfl, ha, hl, hr'⟩ := ht
      have hd' : max (depth l) (depth r) + 1 < k + 1 := hd
      have d1 : depth l < k := by omega
      have d2 : depth r < k := by omega
      refine ⟨_, rfl, _, .ty "tuple", _, _, true, rfl, .ty _, .base (.tup ha), kit_tt, true, rfl, iteF ?_⟩
      refine ⟨_, rfl, _, rfl, _, _, _, _, rfl, rfl, SqT.of ha, at0, p, x, l, n, T, rs, rfl, tb, hl, hg.1, d1, ?_⟩
      refine ⟨_, rfl, _, rfl, _, _, _, _, rfl, rfl, SqT.of ha, at1, p, y, r, n, T, rs, rfl, tb, hr', hg.2, d2, ?_⟩
      obtain ⟨row, g1, g2, g3⟩ := tb.get (good_end (T := T) hg.2) (good_end (T := T) hg.1)
      refine ⟨_, rfl, _, rfl, _, _, _, _, rfl, rfl, SqL.of tb.top, g1, _, rfl, _, _, _, _, rfl, rfl, SqL.of g2, g3, _, rfl, ?_⟩
      have qe : endT T (.node l r) = if T (endT T r) (endT T l) = true then endT T r else endT T l := rfl
      rw [qe] at q
      refine ite2 (fun c => ?_) (fun c => ?_)
      · rw [if_pos c] at q
        exact ⟨_, rfl, q⟩
      · rw [if_neg c] at q
        exact ⟨_, rfl, q⟩
theorem scFrom : FnScope ["thing", "rest"] ["thing", "rest"] (defScope tFrom) := ⟨rfl, rfl, rfl, by decide +kernel, rfl, by decide +kernel, by decide +kernel⟩
theorem cut_one (xs : List V) : cutV xs (some 1) none = xs.drop 1 := by
  unfold cutV
  rw [show HT.sIx xs.length 0 (some 1) = min 1 xs.length from HT.sIx_nat xs.length 0 1, HT.sIx_none]
  cases xs with
  | nil => rfl
  | cons x r =>
    have e : min 1 (x :: r).length = 1 := by rw [List.length_cons]; omega
    rw [e]
    exact List.take_of_length_le (by show r.length ≤ (x :: r).length - 1; rw [List.length_cons]; omega)
theorem ok_from (F : Fun K "standing_from" "standing_from" tFrom f fd) (b : Binds K fd ["thing", "rest"] []) (mF : mg "standing_from" = some (.ref f)) (ml : mg "len" = none) :
    ∀ k : Nat, FnOk P w K mg base CX0 k f fd ["thing", "rest"] (spFrom K k)
  | 0 => by
    have no : ∀ vs H Q E, ¬ spFrom K 0 vs H Q E := fun vs H Q E h => by
      obtain ⟨_, _, _, _, _, h, _⟩ := h
      exact absurd h (Nat.not_lt_zero _)
    exact ⟨fun vs H Q E h => absurd h (no vs H Q E), fun A outer s H args us vs Q E _ _ _ _ h => absurd h (no vs H Q E)⟩
  | k + 1 => by
    have G := ok_from F b mF ml k
    refine F.ok scFrom (fun vs H Q E h => ?_) (fun cdv A outer s H vs Q E hr h => ?_)
    · obtain ⟨_, _, _, rfl, _⟩ := h
      rfl
    obtain ⟨a, x, r, rfl, hS, hd, q⟩ := h
    refine ⟨_, pss_cons (ps_if (pt_cmpR op_eq (pe_callB call_len_seq (by rfl) ml PySem.boot_len (pa_cons (pv 1) pa_nil)) pe_int (nomark _)) (pss_one (ps_ret (pv 0))) pss_nil)
      (pss_one (ps_ret (pe_tup (pa_cons (pe_call G hr (by rfl) mF F.kp b .nil pass0 (pa_cons (pv 0) (pa_cons (pe_slice sl_list (pv 1) (po_some pe_int) po_none) pa_nil)))
        (pa_cons (pe_call G hr (by rfl) mF F.kp b .nil pass0 (pa_cons (pe_ix ix_list (pv 1) pe_int (fun _ _ => rfl)) (pa_cons (pe_slice sl_list (pv 1) (po_some pe_int) po_none) pa_nil))) pa_nil))))), ?_⟩
    refine ⟨_, rfl, a, _, rfl, .inl hS, rfl, _, rfl, ?_⟩
    cases r with
    | nil =>
      refine iteT ⟨_, rfl, ?_⟩
      exact q H _ (Same.refl H) rfl
    | cons y r =>
      have c : decide (V.int (((nv (y :: r)).length : Nat) : Int) = V.int 0) = false := decide_eq_false fun e => by
        have e' := V.int.inj e
        rw [nv_len, List.length_cons] at e'
        omega
      rw [c]
      have hd' : r.length + 1 < k + 1 := hd
      have hc : cutV (nv (y :: r)) (some 1) none = nv r := cut_one _
      refine iteF ⟨_, rfl, _, rfl, 1, rfl, a, _, rfl, hS, fun p1 n1 => ?_⟩
      rw [hc]
      have s1 : Same H (upd H p1 (.lst (nv r))) := same_put n1
      refine ⟨p1, x, r, rfl, SqL.of upd_same, by omega, fun H2 v2 s2 t2 => ?_⟩
      have s12 := s1.trans s2
      refine ⟨_, rfl, a, _, _, _, rfl, rfl, s12.seq hS, nv_at (i := 0) (os := y :: r) (x := y) rfl, _, rfl, 1, rfl, a, _, rfl, s12.seq hS, fun p3 n3 => ?_⟩
      rw [hc]
      have s3 : Same H2 (upd H2 p3 (.lst (nv r))) := same_put n3
      refine ⟨p3, y, r, rfl, SqL.of upd_same, by omega, fun H4 v4 s4 t4 => ?_⟩
      refine ⟨(by show 2 ≤ sizeLine; decide), fun p5 n5 => ?_⟩
      have s5 : Same H4 (upd H4 p5 (.tup [v2, v4])) := same_put n5
      have s25 := (s3.trans s4).trans s5
      exact q _ _ (s12.trans s25) ⟨p5, v2, v4, rfl, upd_same, t2.same s25, t4.same s5⟩
end
end Ch
set_option maxHeartbeats 4000000
/-! Lists of ints and tables as data, for == and !=; the sorted order. -/
namespace Ch
open PySem L2
theorem lay_map {α : Type} {g : α → PyData} (h : ∀ x, (g x).canLay0 = true) : ∀ l : List α, PyData.canLayAll0 (l.map g) = true
  | [] => by simp [PyData.canLayAll0]
  | x :: r => by
    rw [List.map_cons, PyData.canLayAll0, h x, lay_map h r]
    rfl
theorem deep_map {α : Type} {g : α → PyData} {d : Nat} (h : ∀ x, (g x).depth ≤ d) : ∀ l : List α, PyData.depthAll (l.map g) ≤ d
  | [] => by simp [PyData.depthAll]
  | x :: r => by
    rw [List.map_cons, PyData.depthAll]
    exact Nat.max_le.mpr ⟨h x, deep_map h r⟩
theorem eqv_map {α : Type} {g : α → PyData} (h : ∀ x, PyData.eqv (g x) (g x) = true) : ∀ l : List α, PyData.eqvAll (l.map g) (l.map g) = true
  | [] => by simp [PyData.eqvAll]
  | x :: r => by
    rw [List.map_cons, PyData.eqvAll, h x, eqv_map h r]
    rfl
def dI (ns : List Int) : PyData := .list (ns.map .int)
def dT (n : Nat) (T : Nat → Nat → Bool) : PyData := .list ((List.range n).map fun i => .list ((List.range n).map fun j => .bool (T i j)))
theorem dI_eq (ns : List Int) : PyData.eqv (dI ns) (dI ns) = true := by
  unfold dI
  rw [PyData.eqv]
  exact eqv_map (fun x => by simp [PyData.eqv]) ns
theorem dT_eq (n : Nat) (T : Nat → Nat → Bool) : PyData.eqv (dT n T) (dT n T) = true := by
  unfold dT
  rw [PyData.eqv]
  refine eqv_map (fun i => ?_) _
  rw [PyData.eqv]
  exact eqv_map (fun j => by simp [PyData.eqv]) _
theorem dI_shaped (ns : List Int) : SeqAt.shaped (dI ns) = true := by
  unfold SeqAt.shaped dI
  rw [Bool.and_eq_true]
  refine ⟨?_, decide_eq_true ?_⟩
  · rw [PyData.canLay0]
    exact lay_map (fun x => by simp [PyData.canLay0]) ns
  · rw [PyData.depth]
    have := deep_map (g := PyData.int) (d := 0) (fun x => by simp [PyData.depth]) ns
    omega
theorem dT_shaped (n : Nat) (T : Nat → Nat → Bool) : SeqAt.shaped (dT n T) = true := by
  unfold SeqAt.shaped dT
  rw [Bool.and_eq_true]
  refine ⟨?_, decide_eq_true ?_⟩
  · rw [PyData.canLay0]
    refine lay_map (fun i => ?_) _
    rw [PyData.canLay0]
    exact lay_map (fun j => by simp [PyData.canLay0]) _
  · rw [PyData.depth]
    have := deep_map (g := fun i => PyData.list ((List.range n).map fun j => PyData.bool (T i j))) (d := 1) (fun i => by
      rw [PyData.depth]
      have := deep_map (g := fun j => PyData.bool (T i j)) (d := 0) (fun j => by simp [PyData.depth]) (List.range n)
      omega) (List.range n)
    omega
section
variable {K : PySem.W.Frag} {H : Hp}
theorem all_ints : ∀ ns : List Int, DpAll K H (ns.map V.int) (ns.map PyData.int)
  | [] => .nil
  | _ :: r => .cons (.int _) (all_ints r)
theorem dp_ints {a : Addr} {ns : List Int} (h : SqL K H a (ns.map V.int)) : Dp K H (.ref a) (dI ns) := .lst h (all_ints ns)
theorem dp_nv {a : Addr} {os : List Nat} (h : SqL K H a (nv os)) : Dp K H (.ref a) (dI (zs os)) := dp_ints (by rw [← nv_zs]; exact h)
theorem all_map {α : Type} {g : α → V} {e : α → PyData} : ∀ l : List α, (∀ x ∈ l, Dp K H (g x) (e x)) → DpAll K H (l.map g) (l.map e)
  | [], _ => .nil
  | x :: r, h => .cons (h x List.mem_cons_self) (all_map r fun y hy => h y (List.mem_cons_of_mem _ hy))
theorem dp_tab {p : Addr} {n : Nat} {T : Nat → Nat → Bool} {rs : List Addr} (t : TabAt H p n T rs) : Dp K H (.ref p) (dT n T) := by
  have e : rs.map V.ref = (List.range n).map fun i => V.ref (rs.getD i 0) := by
    refine List.ext_getElem? fun i => ?_
    rw [List.getElem?_map, List.getElem?_map]
    by_cases hi : i < n
    · have hl : i < rs.length := by rw [t.len]; exact hi
      rw [List.getElem?_eq_getElem hl, List.getElem?_range hi]
      show some (V.ref rs[i]) = some (V.ref (rs.getD i 0))
      rw [List.getD_eq_getElem?_getD, List.getElem?_eq_getElem hl]
      rfl
    · rw [List.getElem?_eq_none (by rw [t.len]; omega), List.getElem?_eq_none (by rw [List.length_range]; omega)]
      rfl
  refine .lst (SqL.of (e ▸ t.top)) (all_map (List.range n) fun i hi => ?_)
  have hi' : i < n := List.mem_range.mp hi
  have hl : i < rs.length := by rw [t.len]; exact hi'
  have hr := t.row i (rs.getD i 0) (by rw [List.getD_eq_getElem?_getD, List.getElem?_eq_getElem hl]; rfl)
  exact .lst (SqL.of hr) (all_map (List.range n) fun j _ => .bl _)
end
/-- two rising lists of the same things are one -/
theorem rise_one : ∀ {xs ys : List Int}, xs.Perm ys → xs.Pairwise (· ≤ ·) → ys.Pairwise (· ≤ ·) → xs = ys := fun p h1 h2 => p.eq_of_pairwise (fun a b _ _ h3 h4 => Int.le_antisymm h3 h4) h1 h2
theorem zs_perm {os : List Nat} {n : Nat} (h : os.Perm (List.range n)) : (zs os).Perm (zs (List.range n)) := h.map _
theorem zs_rise (n : Nat) : (zs (List.range n)).Pairwise (· ≤ ·) := by
  unfold zs
  rw [List.pairwise_map]
  exact List.Pairwise.imp (fun h => Int.ofNat_le.mpr (Nat.le_of_lt h)) List.pairwise_lt_range
theorem rg_zs (n : Nat) : rgV 0 (n : Int) = (zs (List.range n)).map V.int := by
  unfold rgV zs
  rw [List.map_map]
  have e : ((n : Int) - 0).toNat = n := by omega
  rw [e]
  refine List.map_congr_left fun i _ => ?_
  show V.int (0 + (i : Int)) = V.int (i : Int)
  rw [Int.zero_add]
theorem perm_nodup {os : List Nat} {n : Nat} (h : os.Perm (List.range n)) : os.Nodup := h.nodup_iff.mpr List.nodup_range
theorem perm_lt {os : List Nat} {n : Nat} (h : os.Perm (List.range n)) : ∀ x ∈ os, x < n := fun x hx => List.mem_range.mp (h.mem_iff.mp hx)
theorem perm_len {os : List Nat} {n : Nat} (h : os.Perm (List.range n)) : os.length = n := by rw [h.length_eq, List.length_range]
end Ch
set_option maxHeartbeats 4000000
/-! ask_order, standing_tree, ahead_end, beats_all, chain_behind. -/
namespace Ch
open PySem L2
section
variable {P : Program} {w : World} {K : PySem.W.Frag} {mg : Str → Option Value} {base : Heap}
theorem scAsk : FnScope ["order", "many"] ["order", "many"] (defScope tAsk) := ⟨rfl, rfl, rfl, by decide +kernel, rfl, by decide +kernel, by decide +kernel⟩
theorem ok_ask {f : Addr} {fd : FuncData} (F : Fun K "ask_order" "ask_order" tAsk f fd) (mS : mg "sorted" = none) (mL : mg "list" = none) (mR : mg "range" = none) : FnOk P w K mg base CX0 1 f fd ["order", "many"] (spAsk K) := by
  refine F.ok scAsk (fun vs H Q E h => ?_) (fun cdv A outer s H vs Q E hr h => ?_)
  · obtain ⟨_, _, _, rfl, _⟩ := h
    rfl
  obtain ⟨a, os, n, rfl, hS, hp, h0, h64, q⟩ := h
  refine ⟨_, pss_one (ps_if (PW.pt (pw_or (pt_cmpR op_eq (pv 1) pe_int (nomark _))
    (pw_or1 (pt_cmpR (op_neD hr.units) (pe_callB cr_sorted (by rfl) mS (by decide +kernel) (pa_cons (pv 0) pa_nil)) (pe_listRg rfl (by rfl) mL (prg_1 (by rfl) mR (pv 1))) (nomark _))))) pss_never pss_nil), ?_⟩
  refine ⟨_, rfl, rfl, _, rfl, ?_⟩
  have c : decide (V.int (n : Int) = V.int 0) = false := decide_eq_false fun e => by
    have e' := V.int.inj e
    omega
  rw [c]
  have hl : (zs os).length < 64 := by
    unfold zs
    rw [List.length_map, perm_len hp]
    exact h64
  refine iteF ⟨_, rfl, a, zs os, rfl, by rw [← nv_zs]; exact hS, hl, fun ns' p1 pm rise n1 => ?_⟩
  have e1 : ns' = zs (List.range n) := rise_one (pm.trans (zs_perm hp)) rise (zs_rise n)
  subst e1
  have s1 : Same H (upd H p1 (.lst ((zs (List.range n)).map V.int))) := same_put n1
  refine ⟨_, rfl, _, rfl, RgOk.of_le (by omega) (by omega) (by omega) (by omega), fun p2 n2 => ?_⟩
  rw [rg_zs]
  have s2 := same_put (o := .lst ((zs (List.range n)).map V.int)) n2
  refine ⟨dI (zs (List.range n)), dI (zs (List.range n)), dp_ints (SqL.of (s2 _ _ upd_same)), dp_ints (SqL.of upd_same), dI_shaped _, dI_shaped _, _, rfl, ?_⟩
  rw [dI_eq]
  exact iteF (q _ (s1.trans s2))
theorem scStand : FnScope ["order"] ["order"] (defScope tStand) := ⟨rfl, rfl, rfl, by decide +kernel, rfl, by decide +kernel, by decide +kernel⟩
theorem ok_stand {f fA fF : Addr} {fd fdA fdF : FuncData} (F : Fun K "standing_tree" "standing_tree" tStand f fd) (GA : FnOk P w K mg base CX0 1 fA fdA ["order", "many"] (spAsk K)) (bA : Binds K fdA ["order", "many"] []) (kA : PySem.W.keepIn K (.ref fA) = true) (mA : mg "ask_order" = some (.ref fA))
    (GF : FnOk P w K mg base CX0 9 fF fdF ["thing", "rest"] (spFrom K 9)) (bF : Binds K fdF ["thing", "rest"] []) (kF : PySem.W.keepIn K (.ref fF) = true) (mF : mg "standing_from" = some (.ref fF)) (ml : mg "len" = none) :
    FnOk P w K mg base CX0 10 f fd ["order"] (spStand K) := by
  refine F.ok scStand (fun vs H Q E h => ?_) (fun cdv A outer s H vs Q E hr h => ?_)
  · obtain ⟨_, _, _, rfl, _⟩ := h
    rfl
  obtain ⟨a, x, r, rfl, hS, hp, h9, q⟩ := h
  refine ⟨_, pss_cons (ps_expr (pe_call GA (hr.mono (by decide)) (by rfl) mA kA bA .nil pass0 (pa_cons (pv 0) (pa_cons (pe_callB call_len_seq (by rfl) ml PySem.boot_len (pa_cons (pv 0) pa_nil)) pa_nil))))
    (pss_one (ps_ret (pe_call GF hr (by rfl) mF kF bF .nil pass0 (pa_cons (pe_ix ix_list (pv 0) pe_int (fun _ _ => rfl)) (pa_cons (pe_slice sl_list (pv 0) (po_some pe_int) po_none) pa_nil))))), ?_⟩
  refine ⟨_, rfl, _, rfl, a, _, rfl, .inl hS, a, x :: r, (x :: r).length, by rw [nv_len]; rfl, hS, hp, Nat.succ_pos _, by rw [List.length_cons]; omega, fun H1 s1 => ?_⟩
  refine ⟨_, rfl, a, _, _, _, rfl, rfl, s1.seq hS, nv_at (i := 0) (os := x :: r) (x := x) rfl, _, rfl, 1, rfl, a, _, rfl, s1.seq hS, fun p n => ?_⟩
  rw [show cutV (nv (x :: r)) (some 1) none = nv r from cut_one _]
  exact ⟨p, x, r, rfl, SqL.of upd_same, h9, fun H' v s2 t => q H' v (s1.trans ((same_put n).trans s2)) t⟩
theorem scAhead : FnScope ["table", "tree"] ["table", "tree"] (defScope tAhead) := ⟨rfl, rfl, rfl, by decide +kernel, rfl, by decide +kernel, by decide +kernel⟩
theorem ok_ahead {f fG fE : Addr} {fd fdG fdE : FuncData} (F : Fun K "ahead_end" "ahead_end" tAhead f fd) (GG : FnOk P w K mg base CX0 9 fG fdG ["tree", "many"] (spGood 9)) (bG : Binds K fdG ["tree", "many"] []) (kG : PySem.W.keepIn K (.ref fG) = true) (mG : mg "is_good" = some (.ref fG))
    (GE : FnOk P w K mg base CX0 9 fE fdE ["table", "tree"] (spEnd 9)) (bE : Binds K fdE ["table", "tree"] []) (kE : PySem.W.keepIn K (.ref fE) = true) (mE : mg "end_of" = some (.ref fE)) (ml : mg "len" = none) :
    FnOk P w K mg base CX0 10 f fd ["table", "tree"] (spAhead K) := by
  refine F.ok scAhead (fun vs H Q E h => ?_) (fun cdv A outer s H vs Q E hr h => ?_)
  · obtain ⟨_, _, _, _, _, _, rfl, _⟩ := h
    rfl
  obtain ⟨p, v, t, n, T, rs, rfl, tb, ht, hg, hd, q⟩ := h
  refine ⟨_, pss_cons (ps_if (pt_not (pt_val (pe_call GG hr (by rfl) mG kG bG .nil pass0 (pa_cons (pv 1) (pa_cons (pe_callB call_len_seq (by rfl) ml PySem.boot_len (pa_cons (pv 0) pa_nil)) pa_nil))))) pss_never pss_nil)
    (pss_one (ps_ret (pe_call GE hr (by rfl) mE kE bE .nil pass0 (pa_cons (pv 0) (pa_cons (pv 1) pa_nil))))), ?_⟩
  refine ⟨_, rfl, _, rfl, p, _, rfl, .inl (SqL.of tb.top), v, t, n, by rw [List.length_map, tb.len]; rfl, ht, hg, hd, true, rfl, iteF ?_⟩
  exact ⟨_, rfl, _, rfl, p, v, t, n, T, rs, rfl, tb, ht, hg, hd, q⟩
theorem scBeats : FnScope ["table", "thing", "things", "other"] ["table", "thing", "things"] (defScope tBeats) := ⟨rfl, rfl, rfl, by decide +kernel, rfl, by decide +kernel, by decide +kernel⟩
theorem ok_beats {f : Addr} {fd : FuncData} (F : Fun K "beats_all" "beats_all" tBeats f fd) : FnOk P w K mg base CX0 1 f fd ["table", "thing", "things"] (spBeats K) := by
  refine F.ok scBeats (fun vs H Q E h => ?_) (fun cdv A outer s H vs Q E hr h => ?_)
  · obtain ⟨_, _, _, _, _, _, _, rfl, _⟩ := h
    rfl
  obtain ⟨p, c, x, n, cs, T, rs, rfl, tb, hS, hx, hcs, q⟩ := h
  refine ⟨_, pss_cons (ps_for PassesOwn.never rfl (pi_list (pv 2)) (pg_name (i := 3) scBeats.nd rfl (Or.inl rfl))
      (pss_one (ps_if (pt_not (pt_val (pe_ix ix_list (pe_ix ix_list (pv 0) (pv 1) (fun _ _ => rfl)) (pv 3) (fun _ _ => rfl)))) (pss_one (ps_ret pe_bl)) pss_nil)))
    (pss_one (ps_ret pe_bl)), ?_⟩
  refine ⟨_, rfl, c, rfl, ⟨_, hS⟩, for_list (K := K) (a := c) (xs := nv cs) (fun i σ H1 => H1 = H ∧ (∃ y, σ = [some (.ref p), some (.int (x : Int)), some (.ref c), y]) ∧ (cs.take i).all (fun y => T x y) = true)
    ⟨rfl, ⟨_, rfl⟩, rfl⟩ (fun i σ H1 _ h => by rw [h.1]; exact hS) ?_ ?_⟩
  · rintro i v σ H1 hi ⟨rfl, ⟨y0, rfl⟩, hall⟩
    obtain ⟨y, hy, rfl⟩ := nv_of hi
    obtain ⟨row, g1, g2, g3⟩ := tb.get hx (hcs y (List.mem_of_getElem? hy))
    refine ⟨_, rfl, _, rfl, _, _, _, _, rfl, rfl, SqL.of tb.top, g1, _, rfl, _, _, _, _, rfl, rfl, SqL.of g2, g3, _, rfl, ?_⟩
    cases t : T x y with
    | true =>
      refine iteF ⟨rfl, ⟨_, rfl⟩, ?_⟩
      rw [List.take_add_one, hy, List.all_append, hall]
      show (T x y && true) = true
      rw [t]
      rfl
    | false =>
      refine iteT ?_
      have e : beats T x cs = false := by
        unfold beats
        exact List.all_eq_false.mpr ⟨y, List.mem_of_getElem? hy, by simp [t]⟩
      rw [e] at q
      exact q
  · rintro σ H1 ⟨rfl, ⟨y0, rfl⟩, hall⟩
    rw [nv_len, List.take_length] at hall
    have e : beats T x cs = true := hall
    rw [e] at q
    exact q
theorem scChain : FnScope ["table", "order", "chain", "thing"] ["table", "order"] (defScope tChain) := ⟨rfl, rfl, rfl, by decide +kernel, rfl, by decide +kernel, by decide +kernel⟩
theorem drop_more {os : List Nat} {i x : Nat} (hi : i < os.length) (h : os[os.length - 1 - i]? = some x) : os.drop (os.length - (i + 1)) = x :: os.drop (os.length - i) := by
  obtain ⟨hl, e⟩ := List.getElem?_eq_some_iff.mp h
  have e1 : os.length - (i + 1) = os.length - 1 - i := by omega
  have e2 : os.length - i = os.length - 1 - i + 1 := by omega
  rw [e1, e2, ← e]
  exact List.drop_eq_getElem_cons hl
theorem ok_chain {f fA fB : Addr} {fd fdA fdB : FuncData} (F : Fun K "chain_behind" "chain_behind" tChain f fd) (GA : FnOk P w K mg base CX0 1 fA fdA ["order", "many"] (spAsk K)) (bA : Binds K fdA ["order", "many"] []) (kA : PySem.W.keepIn K (.ref fA) = true) (mA : mg "ask_order" = some (.ref fA))
    (GB : FnOk P w K mg base CX0 1 fB fdB ["table", "thing", "things"] (spBeats K)) (bB : Binds K fdB ["table", "thing", "things"] []) (kB : PySem.W.keepIn K (.ref fB) = true) (mB : mg "beats_all" = some (.ref fB)) (ml : mg "len" = none) (mV : mg "reversed" = none) :
    FnOk P w K mg base CX0 2 f fd ["table", "order"] (spChain K) := by
  refine F.ok scChain (fun vs H Q E h => ?_) (fun cdv A outer s H vs Q E hr h => ?_)
  · obtain ⟨_, _, _, _, _, _, rfl, _⟩ := h
    rfl
  obtain ⟨p, a, n, os, T, rs, rfl, tb, hS, hp, h0, h64, q⟩ := h
  refine ⟨_, pss_cons (ps_expr (pe_call GA hr (by rfl) mA kA bA .nil pass0 (pa_cons (pv 1) (pa_cons (pe_callB call_len_seq (by rfl) ml PySem.boot_len (pa_cons (pv 0) pa_nil)) pa_nil))))
    (pss_cons (ps_set (i := 2) scChain.nd rfl (Or.inl rfl) (pe_lst pa_nil))
    (pss_cons (ps_for PassesOwn.never rfl (pi_reversed (by rfl) mV (pa_cons (pv 1) pa_nil)) (pg_name (i := 3) scChain.nd rfl (Or.inl rfl))
      (pss_one (ps_if (pt_val (pe_call GB hr (by rfl) mB kB bB .nil pass0 (pa_cons (pv 0) (pa_cons (pv 3) (pa_cons (pv 2) pa_nil)))))
        (pss_one (ps_expr (pe_bm PySem.F.plainAttrs_list PySem.F.slot_list_insert PySem.F.type_list_insert mt_insert (pv 2) (pa_cons pe_int (pa_cons (pv 3) pa_nil))))) pss_nil)))
    (pss_one (ps_ret (pv 2))))), ?_⟩
  have hlen : os.length = n := perm_len hp
  refine ⟨_, rfl, _, rfl, p, _, rfl, .inl (SqL.of tb.top), a, os, n, by rw [List.length_map, tb.len]; rfl, hS, hp, h0, h64, fun H1 s1 => ?_⟩
  refine ⟨Nat.zero_le _, fun c nc => ?_⟩
  have s2 : Same H (upd H1 c (.lst [])) := s1.trans (same_put nc)
  have hnc : H c = none := s1.free nc
  refine ⟨_, rfl, a, nv os, rfl, s2.seq hS, RT.for_Itv (K := K) (a := a) (xs := nv os) (fun i σ H2 => Same H H2 ∧ (∃ y, σ = [some (.ref p), some (.ref a), some (.ref c), y]) ∧ H2 c = some (.lst (nv (chain T (os.drop (os.length - i))))))
    ⟨s2, ⟨_, rfl⟩, by rw [upd_same, Nat.sub_zero, List.drop_length]; rfl⟩ (fun i σ H2 h => h.1.seq hS) ?_ ?_⟩
  · rintro i v σ H2 hi hx ⟨s3, ⟨y0, rfl⟩, hc⟩
    rw [nv_len] at hi hx
    obtain ⟨x, hxo, rfl⟩ := nv_of hx
    have hd := drop_more hi hxo
    have hlt := perm_lt hp
    have hsub : ∀ y ∈ chain T (os.drop (os.length - i)), y < n := fun y hy => hlt y (List.mem_of_mem_drop (chain_mem hy))
    refine ⟨_, rfl, _, rfl, _, rfl, p, c, x, n, _, T, rs, rfl, tb.same s3, SqL.of hc, hlt x (List.mem_of_getElem? hxo), hsub, _, rfl, ?_⟩
    have hch : chain T (os.drop (os.length - (i + 1))) = if beats T x (chain T (os.drop (os.length - i))) = true then x :: chain T (os.drop (os.length - i)) else chain T (os.drop (os.length - i)) := by rw [hd]; rfl
    have hcl : (chain T (os.drop (os.length - i))).length ≤ os.length := Nat.le_trans (chain_sub T _).length_le (by rw [List.length_drop]; omega)
    refine ite2 (fun e => ?_) (fun e => ?_)
    · rw [if_pos e] at hch
      refine ⟨_, rfl, .inl ⟨rfl, _, SqL.of hc⟩, _, rfl, c, _, 0, _, rfl, rfl, hc, by rw [nv_len]; exact small1000 (by omega), by decide, by decide, ?_⟩
      refine ⟨fun b o eb => ?_, ⟨_, rfl⟩, ?_⟩
      · rw [upd_ne (ne_of_none eb hnc)]
        exact s3 b o eb
      · rw [upd_same, hch]
        rfl
    · rw [if_neg e] at hch
      exact ⟨s3, ⟨_, rfl⟩, by rw [hch]; exact hc⟩
  · rintro σ H2 ⟨s3, ⟨y0, rfl⟩, hc⟩
    have e : os.drop (os.length - (nv os).length) = os := by rw [nv_len, Nat.sub_self, List.drop_zero]
    rw [e] at hc
    exact ⟨_, rfl, q H2 c s3 hnc hc⟩
end
end Ch
set_option maxHeartbeats 4000000
/-! The law's small defs: a cell, a whole number, the order, the chain's look. -/
namespace Ch
open PySem L2
section
variable {P : Program} {w : World} {K : PySem.W.Frag} {mg : Str → Option Value} {base : Heap}
theorem scCell : FnScope ["script", "k"] ["script", "k"] (defScope tCell) := ⟨rfl, rfl, rfl, by decide +kernel, rfl, by decide +kernel, by decide +kernel⟩
theorem ok_cell {f : Addr} {fd : FuncData} (F : Fun K "_law_cell_at" "_law_cell_at" tCell f fd) (ml : mg "len" = none) : FnOk P w K mg base CX0 1 f fd ["script", "k"] (spCell K) := by
  refine F.ok scCell (fun vs H Q E h => ?_) (fun cdv A outer s H vs Q E hr h => ?_)
  · obtain ⟨_, _, _, rfl, _⟩ := h
    rfl
  obtain ⟨a, ns, k, rfl, hS, q⟩ := h
  refine ⟨_, pss_cons (ps_if (pt_cmpR op_lt (pv 1) (pe_callB call_len_seq (by rfl) ml PySem.boot_len (pa_cons (pv 0) pa_nil)) (nomark _)) (pss_one (ps_ret (pe_ix ix_list (pv 0) (pv 1) (fun _ _ => rfl)))) pss_nil)
    (pss_one (ps_ret pe_int)), ?_⟩
  refine ⟨_, rfl, _, rfl, a, _, rfl, .inl hS, _, _, rfl, rfl, _, rfl, ?_⟩
  refine ite2 (fun c => ?_) (fun c => q 0)
  have c' : (k : Int) < (((ns.map V.int).length : Nat) : Int) := of_decide_eq_true c
  have hk : k < ns.length := by rw [List.length_map] at c'; omega
  refine ⟨_, rfl, _, rfl, a, _, _, V.int ns[k], rfl, rfl, hS, atI_nat (by rw [List.getElem?_map, List.getElem?_eq_getElem hk]; rfl), q _⟩
theorem scWhole : FnScope ["found"] ["found"] (defScope tWhole) := ⟨rfl, rfl, rfl, by decide +kernel, rfl, by decide +kernel, by decide +kernel⟩
theorem kit_ii : PySem.W.kitOne K (.type "int") (.type "int") = some true := kit_ty (by decide +kernel)
theorem kit_ib : PySem.W.kitOne K (.type "int") (.type "bool") = some false := kit_ty (by decide +kernel)
theorem ok_whole {f : Addr} {fd : FuncData} (F : Fun K "_law_whole" "_law_whole" tWhole f fd) (mI : mg "isinstance" = none) (mN : mg "int" = none) (mB : mg "bool" = none) : FnOk P w K mg base CX0 1 f fd ["found"] spWhole := by
  refine F.ok scWhole (fun vs H Q E h => ?_) (fun cdv A outer s H vs Q E hr h => ?_)
  · obtain ⟨_, rfl, _⟩ := h
    rfl
  obtain ⟨z, rfl, q⟩ := h
  refine ⟨_, pss_one (ps_ret (pe_and (pe_callB call_isi (by rfl) mI (by decide +kernel) (pa_cons (pv 0) (pa_cons (pe_bltn (v := .ty "int") (by rfl) mN (by decide +kernel) rfl) pa_nil)))
    (pe_one (pe_not (pe_callB call_isi (by rfl) mI (by decide +kernel) (pa_cons (pv 0) (pa_cons (pe_bltn (v := .ty "bool") (by rfl) mB (by decide +kernel) rfl) pa_nil))))))), ?_⟩
  refine ⟨_, rfl, _, .ty "int", _, _, true, rfl, .ty _, .base (.int _), kit_ii, true, rfl, iteT ?_⟩
  exact ⟨_, rfl, _, .ty "bool", _, _, false, rfl, .ty _, .base (.int _), kit_ib, false, rfl, q⟩
theorem scOrder : FnScope ["cell", "many", "order", "k"] ["cell", "many"] (defScope tOrder) := ⟨rfl, rfl, rfl, by decide +kernel, rfl, by decide +kernel, by decide +kernel⟩
theorem put_perm {os : List Nat} {i : Nat} (m : Nat) (h : os.Perm (List.range i)) : (os.take m ++ [i] ++ os.drop m).Perm (List.range (i + 1)) := by
  rw [List.range_succ]
  have e : (os.take m ++ [i] ++ os.drop m).Perm (os.take m ++ os.drop m ++ [i]) := by
    rw [List.append_assoc, List.append_assoc]
    exact List.Perm.append_left _ List.perm_append_comm
  rw [List.take_append_drop] at e
  exact e.trans (h.append_right [i])
theorem put_nv (os : List Nat) (m i : Nat) : (nv os).take m ++ [V.int (0 + (i : Int))] ++ (nv os).drop m = nv (os.take m ++ [i] ++ os.drop m) := by
  unfold nv
  rw [List.map_append, List.map_append, List.map_take, List.map_drop, Int.zero_add]
  rfl
theorem ok_order {f : Addr} {fd : FuncData} (F : Fun K "_law_order" "_law_order" tOrder f fd) (mR : mg "range" = none) : FnOk P w K mg base CX0 1 f fd ["cell", "many"] spOrder := by
  refine F.ok scOrder (fun vs H Q E h => ?_) (fun cdv A outer s H vs Q E hr h => ?_)
  · obtain ⟨_, _, rfl, _⟩ := h
    rfl
  obtain ⟨c, m, rfl, hm, q⟩ := h
  refine ⟨_, pss_cons (ps_set (i := 2) scOrder.nd rfl (Or.inl rfl) (pe_lst pa_nil))
    (pss_cons (ps_for PassesOwn.never rfl (pi_range1 rfl mR (pa_cons (pv 1) pa_nil)) (pg_name (i := 3) scOrder.nd rfl (Or.inl rfl))
      (pss_cons (ps_expr (pe_bm PySem.F.plainAttrs_list PySem.F.slot_list_insert PySem.F.type_list_insert mt_insert (pv 2) (pa_cons (pe_op op_mod (pv 0) (pe_op op_add (pv 3) pe_int)) (pa_cons (pv 3) pa_nil))))
      (pss_one (ps_set (i := 0) scOrder.nd rfl (Or.inl rfl) (pe_op op_fdiv (pv 0) (pe_op op_add (pv 3) pe_int))))))
    (pss_one (ps_ret (pv 2)))), ?_⟩
  refine ⟨Nat.zero_le _, fun p np => ?_⟩
  refine ⟨_, rfl, _, rfl, by omega, by omega, ?_⟩
  have em : ((m : Int)).toNat = m := by omega
  rw [em]
  refine for_range (lo := 0) (n := m) (fun i σ H1 => ∃ (z : Int) (y : Option V) (os : List Nat), σ = [some (.int z), some (.int (m : Int)), some (.ref p), y] ∧ Same H H1 ∧ H1 p = some (.lst (nv os)) ∧ os.Perm (List.range i))
    ⟨c, none, [], rfl, same_put np, upd_same, List.Perm.refl _⟩ ?_ ?_
  · rintro i σ H1 hi ⟨z, y, os, rfl, s1, hp, pm⟩
    have h0 : (0 : Int) < 0 + (i : Int) + 1 := by omega
    have h1 : (0 : Int) + (i : Int) + 1 ≤ 8 := by omega
    have e0 := Int.emod_nonneg z (Int.ne_of_gt h0)
    have e1 := Int.emod_lt_of_pos z h0
    refine ⟨_, rfl, .inl ⟨rfl, _, SqL.of hp⟩, _, rfl, _, rfl, _, _, rfl, rfl, _, _, rfl, rfl, h0, _, rfl, p, _, _, _, rfl, rfl, hp, by rw [nv_len, perm_len pm]; exact small1000 (by omega), e0, by omega, ?_⟩
    refine ⟨_, rfl, _, rfl, _, _, rfl, rfl, _, _, rfl, rfl, ⟨h0, by omega⟩, ?_⟩
    refine ⟨_, _, os.take (z % (0 + (i : Int) + 1)).toNat ++ [i] ++ os.drop (z % (0 + (i : Int) + 1)).toNat, rfl, fun b o eb => ?_, ?_, put_perm _ pm⟩
    · rw [upd_ne (ne_of_none eb np)]
      exact s1 b o eb
    · rw [upd_same, put_nv]
  · rintro σ H1 ⟨z, y, os, rfl, s1, hp, pm⟩
    exact ⟨_, rfl, q H1 p os s1 hp pm⟩
theorem scLChain : FnScope ["table", "chain", "k", "j"] ["table", "chain"] (defScope tLChain) := ⟨rfl, rfl, rfl, by decide +kernel, rfl, by decide +kernel, by decide +kernel⟩
theorem ok_lchain {f : Addr} {fd : FuncData} (F : Fun K "_law_chain" "_law_chain" tLChain f fd) (mR : mg "range" = none) (ml : mg "len" = none) : FnOk P w K mg base CX0 1 f fd ["table", "chain"] (spLChain K) := by
  refine F.ok scLChain (fun vs H Q E h => ?_) (fun cdv A outer s H vs Q E hr h => ?_)
  · obtain ⟨_, _, _, _, _, _, rfl, _⟩ := h
    rfl
  obtain ⟨p, c, n, cs, T, rs, rfl, tb, hS, hlt, hl, pw, q⟩ := h
  refine ⟨_, pss_cons (ps_for PassesOwn.never rfl (pi_range1 rfl mR (pa_cons (pe_callB call_len_seq (by rfl) ml PySem.boot_len (pa_cons (pv 1) pa_nil)) pa_nil)) (pg_name (i := 2) scLChain.nd rfl (Or.inl rfl))
      (pss_one (ps_for PassesOwn.never rfl (pi_range1 rfl mR (pa_cons (pv 2) pa_nil)) (pg_name (i := 3) scLChain.nd rfl (Or.inl rfl))
        (pss_one (ps_if (pt_not (pt_val (pe_ix ix_list (pe_ix ix_list (pv 0) (pe_ix ix_list (pv 1) (pv 3) (fun _ _ => rfl)) (fun _ _ => rfl)) (pe_ix ix_list (pv 1) (pv 2) (fun _ _ => rfl)) (fun _ _ => rfl)))) (pss_one (ps_ret pe_bl)) pss_nil)))))
    (pss_one (ps_ret pe_bl)), ?_⟩
  refine ⟨_, rfl, c, _, rfl, .inl hS, _, rfl, by rw [nv_len]; omega, by rw [nv_len]; omega, ?_⟩
  have em : (((nv cs).length : Nat) : Int).toNat = cs.length := by rw [nv_len]; omega
  rw [em]
  refine for_range (lo := 0) (n := cs.length) (fun i σ H1 => H1 = H ∧ ∃ y z, σ = [some (.ref p), some (.ref c), y, z]) ⟨rfl, none, none, rfl⟩ ?_ ?_
  · rintro k σ H1 hk ⟨rfl, y, z, rfl⟩
    refine ⟨_, rfl, _, rfl, by omega, by omega, ?_⟩
    have ek : ((0 : Int) + (k : Int)).toNat = k := by omega
    rw [ek]
    refine for_range (lo := 0) (n := k) (fun i σ H2 => H2 = H1 ∧ ∃ z, σ = [some (.ref p), some (.ref c), some (.int (0 + (k : Int))), z]) ⟨rfl, z, rfl⟩ ?_ ?_
    · rintro j σ H2 hj ⟨rfl, z, rfl⟩
      have hjl : j < cs.length := by omega
      have aj : atI (nv cs) (0 + (j : Int)) = some (V.int (cs[j] : Int)) := by rw [Int.zero_add]; exact nv_at (List.getElem?_eq_getElem hjl)
      have ak : atI (nv cs) (0 + (k : Int)) = some (V.int (cs[k] : Int)) := by rw [Int.zero_add]; exact nv_at (List.getElem?_eq_getElem hk)
      have lj : cs[j] < n := hlt _ (List.getElem_mem hjl)
      have lk : cs[k] < n := hlt _ (List.getElem_mem hk)
      obtain ⟨row, g1, g2, g3⟩ := tb.get lj lk
      have t : T cs[j] cs[k] = true := List.pairwise_iff_getElem.mp pw j k hjl hk hj
      refine ⟨_, rfl, _, rfl, _, rfl, c, _, _, _, rfl, rfl, hS, aj, p, _, _, _, rfl, rfl, SqL.of tb.top, g1, _, rfl, _, rfl, c, _, _, _, rfl, rfl, hS, ak, row, _, _, _, rfl, rfl, SqL.of g2, g3, _, rfl, ?_⟩
      rw [t]
      exact iteF ⟨rfl, _, rfl⟩
    · rintro σ H2 ⟨rfl, z, rfl⟩
      exact ⟨rfl, _, _, rfl⟩
  · rintro σ H1 ⟨rfl, y, z, rfl⟩
    exact q
end
end Ch
set_option maxHeartbeats 4000000
/-! _law_left_out: a comprehension that reads four of the def's names. -/
namespace Ch
open PySem L2
theorem nv_flat (os : List Nat) : (nv os).all flatV = true := List.all_eq_true.mpr fun v hv => by
  obtain ⟨x, _, rfl⟩ := List.mem_map.mp hv
  rfl
theorem eqV_nat (a b : Nat) : eqV (V.int (a : Int)) (V.int (b : Int)) = decide (a = b) := by
  show ((a : Int) == (b : Int)) = decide (a = b)
  by_cases h : a = b
  · subst h; simp
  · rw [decide_eq_false h]
    exact beq_eq_false_iff_ne.mpr fun e => h (Int.ofNat.inj e)
theorem inV_nv (os : List Nat) (x : Nat) : inV (V.int (x : Int)) (nv os) = decide (x ∈ os) := by
  unfold inV nv
  rw [List.any_map]
  by_cases h : x ∈ os
  · rw [decide_eq_true h]
    exact List.any_eq_true.mpr ⟨x, h, by show eqV (V.int (x : Int)) (V.int (x : Int)) = true; rw [eqV_nat, decide_eq_true rfl]⟩
  · rw [decide_eq_false h]
    refine List.any_eq_false.mpr fun y hy => ?_
    show ¬ eqV (V.int (y : Int)) (V.int (x : Int)) = true
    rw [eqV_nat, decide_eq_false (fun e : y = x => h (e ▸ hy))]
    exact Bool.false_ne_true
theorem nv_first {os : List Nat} (nd : os.Nodup) {j x : Nat} (h : os[j]? = some x) (m : Nat) (z : V) (hm : m < j) (hz : (nv os)[m]? = some z) : eqV z (V.int (x : Int)) = false := by
  obtain ⟨y, hy, rfl⟩ := nv_of hz
  rw [eqV_nat]
  refine decide_eq_false fun e => ?_
  subst e
  have := nd_ix nd hy h
  omega
section
variable {P : Program} {w : World} {K : PySem.W.Frag} {mg : Str → Option Value} {base : Heap}
theorem scLeft : FnScope ["table", "order", "chain", "thing", "place", "held", "other"] ["table", "order", "chain"] (defScope tLeft) := ⟨rfl, rfl, rfl, by decide +kernel, rfl, by decide +kernel, by decide +kernel⟩
theorem ok_left {f : Addr} {fd : FuncData} (F : Fun K "_law_left_out" "_law_left_out" tLeft f fd) (ml : mg "len" = none) : FnOk P w K mg base CX0 1 f fd ["table", "order", "chain"] (spLeft K) := by
  refine F.ok scLeft (fun vs H Q E h => ?_) (fun cdv A outer s H vs Q E hr h => ?_)
  · obtain ⟨_, _, _, _, _, _, _, _, rfl, _⟩ := h
    rfl
  obtain ⟨p, a, c, n, os, cs, T, rs, rfl, tb, hA, hC, nd, hlt, hsub, hcl, left, q⟩ := h
  refine ⟨_, pss_cons (ps_for PassesOwn.never rfl (pi_list (pv 1)) (pg_name (i := 3) scLeft.nd rfl (Or.inr rfl))
      (pss_one (ps_if (pt_cmpR op_notIn_seq (pv 3) (pv 2) (by with_unfolding_all rfl))
        (pss_cons (ps_set (i := 4) scLeft.nd rfl (Or.inr rfl) (pe_bm PySem.F.plainAttrs_list PySem.F.slot_list_index PySem.F.type_list_index mt_index (pv 1) (pa_cons (pv 3) pa_nil)))
        (pss_cons (ps_setLc (i := 5) (own := [("other", 6)]) (g := gName 6)
            (tt := tAnd (tTest (tOp (rI0 fun i j => .bl (decide (j < i))) (tBM K "list" (rIndex K) (tVar 1) (tCons (tVar 6) tNil)) (tVar 4))) (tB (tOp (rIxL K) (tOp (rIxL K) (tVar 0) (tVar 6)) (tVar 3)))) (te := tVar 6) rfl scLeft.nd rfl rfl (sw_true rfl rfl rfl (by decide +kernel)) (pi_list (pv 2))
            (blkOk_by (own := [("other", 6)]) (N := ["table", "order", "chain", "thing", "place", "held", "other"]) (sc := defScope tLeft) (by decide +kernel))
            (fun _ _ _ _ _ => pg_name (i := 6) scLeft.nd rfl (Or.inl rfl))
            (fun _ _ _ _ _ => pts_one (PW.pt (pw_and (pt_cmpR op_gt (pe_bm PySem.F.plainAttrs_list PySem.F.slot_list_index PySem.F.type_list_index mt_index (pv 1) (pa_cons (pv 6) pa_nil)) (pv 4) (nomark _))
              (pw_and1 (pt_val (pe_ix ix_list (pe_ix ix_list (pv 0) (pv 6) (fun _ _ => rfl)) (pv 3) (fun _ _ => rfl)))))))
            (fun _ _ _ _ _ => pv 6))
        (pss_one (ps_if (pt_cmpR op_eq (pe_callB call_len_seq (by rfl) ml PySem.boot_len (pa_cons (pv 5) pa_nil)) pe_int (nomark _)) (pss_one (ps_ret pe_bl)) pss_nil)))) pss_nil)))
    (pss_one (ps_ret pe_bl)), ?_⟩
  refine ⟨_, rfl, a, rfl, ⟨_, hA⟩, for_list (K := K) (a := a) (xs := nv os) (fun i σ H1 => Same H H1 ∧ ∃ y3 y4 y5 y6, σ = [some (.ref p), some (.ref a), some (.ref c), y3, y4, y5, y6]) ⟨Same.refl H, _, _, _, _, rfl⟩ (fun i σ H1 _ h => h.1.seq hA) ?_ ?_⟩
  · rintro i v σ H1 hi ⟨s1, y3, y4, y5, y6, rfl⟩
    obtain ⟨x, hx, rfl⟩ := nv_of hi
    refine ⟨_, rfl, _, rfl, c, nv cs, rfl, .inl (s1.seq hC), rfl, nv_flat cs, _, rfl, ?_⟩
    rw [inV_nv]
    by_cases hm : x ∈ cs
    · rw [decide_eq_true hm]
      exact iteF ⟨s1, _, _, _, _, rfl⟩
    rw [decide_eq_false hm]
    refine iteT ?_
    refine ⟨_, rfl, .inl ⟨rfl, _, s1.seq hA⟩, _, rfl, a, nv os, _, i, _, rfl, rfl, s1.seq hA, rfl, nv_flat os, nv_get hx, by rw [eqV_nat, decide_eq_true rfl], nv_first nd hx, ?_⟩
    refine ⟨_, rfl, c, rfl, ⟨_, s1.seq hC⟩, fun D nD => ?_⟩
    obtain ⟨j0, y0, hj0, hy0, hij, t0⟩ := left i x hx hm
    refine lc_list (K := K) (a := c) (xs := nv cs) (fun m H2 => Same H1 H2 ∧ ∃ acc, H2 D = some (.lst acc) ∧ acc.length ≤ m ∧ (y0 ∈ cs.take m → acc ≠ [])) ⟨same_put nD, [], upd_same, Nat.le_refl _, fun h => by cases h⟩
      (fun m H2 _ h => h.1.seq (s1.seq hC)) ?_ ?_
    · rintro m v H2 hv ⟨s2, acc, hD, hacc, hne⟩
      obtain ⟨y, hy, rfl⟩ := nv_of hv
      have hyc : y ∈ cs := List.mem_of_getElem? hy
      obtain ⟨j, hj⟩ := List.mem_iff_getElem?.mp (hsub y hyc)
      have s12 := s1.trans s2
      have hmc : m < cs.length := (List.getElem?_eq_some_iff.mp hy).1
      refine ⟨rfl, ?_⟩
      refine ⟨_, rfl, .inl ⟨rfl, _, s12.seq hA⟩, _, rfl, a, nv os, _, j, _, rfl, rfl, s12.seq hA, rfl, nv_flat os, nv_get hj, by rw [eqV_nat, decide_eq_true rfl], nv_first nd hj, _, rfl, _, _, rfl, rfl, _, rfl, ?_⟩
      have tk : cs.take (m + 1) = cs.take m ++ [y] := by rw [List.take_add_one, hy]; rfl
      have snoc : ∀ H3 : Hp, Same H1 H3 → ∀ acc' : List V, Same H1 (upd H3 D (.lst acc')) := fun H3 s3 acc' b o e => by
        rw [upd_ne (ne_of_none e nD)]
        exact s3 b o e
      refine ite2 (fun e => ?_) (fun e => ?_)
      · obtain ⟨row, g1, g2, g3⟩ := (tb.same s12).get (hlt y (hsub y hyc)) (hlt x (List.mem_of_getElem? hx))
        refine ⟨_, rfl, _, rfl, p, _, _, _, rfl, rfl, SqL.of (s12 _ _ tb.top), g1, _, rfl, row, _, _, _, rfl, rfl, SqL.of g2, g3, _, rfl, ?_⟩
        refine ite2 (fun e2 => ?_) (fun e2 => ?_)
        · refine ⟨_, rfl, acc, hD, small1000 (by omega), snoc H2 s2 _, _, upd_same, ?_, fun _ => by simp⟩
          rw [List.length_append]
          exact Nat.add_le_add_right hacc 1
        · refine ⟨s2, acc, hD, by omega, fun h => ?_⟩
          rw [tk] at h
          rcases List.mem_append.mp h with h | h
          · exact hne h
          · have ey : y0 = y := by simpa using h
            subst ey
            exact absurd t0 e2
      · refine iteF ⟨s2, acc, hD, by omega, fun h => ?_⟩
        rw [tk] at h
        rcases List.mem_append.mp h with h | h
        · exact hne h
        · have ey : y0 = y := by simpa using h
          subst ey
          have ej := nd_ix nd hj hj0
          subst ej
          exact absurd (decide_eq_true (Int.ofNat_lt.mpr hij)) e
    · rintro H2 ⟨s2, acc, hD, hacc, hne⟩
      rw [nv_len, List.take_length] at hne
      have hne' := hne hy0
      refine ⟨_, rfl, D, acc, rfl, .inl (SqL.of hD), rfl, _, rfl, ?_⟩
      have e : decide (V.int ((acc.length : Nat) : Int) = V.int 0) = false := decide_eq_false fun z => by
        have z' := V.int.inj z
        exact hne' (List.length_eq_zero_iff.mp (by omega))
      rw [e]
      exact iteF ⟨s1.trans s2, _, _, _, _, rfl⟩
  · rintro σ H1 ⟨s1, y3, y4, y5, y6, rfl⟩
    exact q H1 s1
end
end Ch
set_option maxHeartbeats 4000000
/-! _law_bits: a list of lists made by two comprehensions, one in the other, then changed by place. -/
namespace Ch
open PySem L2
/-! ### tables changed by place -/
def putT (T : Nat → Nat → Bool) (i j : Nat) (b : Bool) : Nat → Nat → Bool := fun a c => if a = i ∧ c = j then b else T a c
theorem row_put (n : Nat) (T : Nat → Nat → Bool) (i j : Nat) (b : Bool) : (rowV n T i).set j (.bl b) = rowV n (putT T i j b) i := by
  refine List.ext_getElem? fun c => ?_
  rw [List.getElem?_set, rowV_len]
  by_cases hc : c < n
  · rw [rowV_get hc, rowV_get hc]
    by_cases e : j = c
    · subst e
      rw [if_pos rfl, if_pos hc]
      unfold putT
      rw [if_pos ⟨rfl, rfl⟩]
    · rw [if_neg e]
      unfold putT
      rw [if_neg fun z => e z.2.symm]
  · rw [List.getElem?_eq_none (by rw [rowV_len]; omega), List.getElem?_eq_none (by rw [rowV_len]; omega)]
    by_cases e : j = c
    · subst e
      rw [if_pos rfl, if_neg hc]
    · rw [if_neg e]
theorem row_keep (n : Nat) (T : Nat → Nat → Bool) {i a : Nat} (j : Nat) (b : Bool) (h : a ≠ i) : rowV n (putT T i j b) a = rowV n T a := by
  unfold rowV
  refine List.map_congr_left fun c _ => ?_
  show V.bl (if a = i ∧ c = j then b else T a c) = V.bl (T a c)
  rw [if_neg fun z => h z.1]
/-- a table of the call's own at p: its rows are apart, and none of it stood in H -/
structure TabN (H H' : Hp) (p : Addr) (n : Nat) (T : Nat → Nat → Bool) (rs : List Addr) : Prop where
  tab : TabAt H' p n T rs
  nd : rs.Nodup
  np : p ∉ rs
  new : ∀ r ∈ rs, H r = none
  same : Same H H'
theorem TabN.put {H H' : Hp} {p : Addr} {n : Nat} {T : Nat → Nat → Bool} {rs : List Addr} (t : TabN H H' p n T rs) {i : Nat} {r : Addr} (hr : rs[i]? = some r) (j : Nat) (b : Bool) :
    TabN H (upd H' r (.lst ((rowV n T i).set j (.bl b)))) p n (putT T i j b) rs := by
  have hm : r ∈ rs := List.mem_of_getElem? hr
  refine ⟨⟨?_, t.tab.len, fun a q hq => ?_⟩, t.nd, t.np, t.new, fun c o e => ?_⟩
  · rw [upd_ne fun e : p = r => t.np (e ▸ hm)]
    exact t.tab.top
  · by_cases e : a = i
    · subst e
      have e2 : q = r := Option.some.inj (hq.symm.trans hr)
      subst e2
      rw [upd_same, row_put]
    · have e2 : q ≠ r := fun z => e (nd_ix t.nd hq (z ▸ hr))
      rw [upd_ne e2, row_keep n T j b e]
      exact t.tab.row a q hq
  · rw [upd_ne (ne_of_none e (t.new r hm))]
    exact t.same c o e
theorem ixN_nat {n k : Nat} (h : k < n) : ixN n (k : Int) = some k := by
  unfold ixN
  rw [if_pos (Int.natCast_nonneg k), if_pos (Int.ofNat_lt.mpr h)]
  rfl
/-- what is laid down of a table ahead of the pair (i, j): none beats itself, and of each pair that was met just one beats the other -/
structure Part (n : Nat) (T : Nat → Nat → Bool) (i j : Nat) : Prop where
  irr : ∀ a, a < n → T a a = false
  anti : ∀ a b, b < a → (a < i ∨ (a = i ∧ b < j)) → T a b = !T b a
theorem Part.put {n : Nat} {T : Nat → Nat → Bool} {i j : Nat} (h : Part n T i j) (hj : j < i) {b c : Bool} (hb : b = !c) : Part n (putT (putT T i j b) j i c) i (j + 1) := by
  refine ⟨fun a ha => ?_, fun a d hd hh => ?_⟩
  · unfold putT
    rw [if_neg (by omega), if_neg (by omega)]
    exact h.irr a ha
  · by_cases e : a = i ∧ d = j
    · obtain ⟨e1, e2⟩ := e
      subst e1 e2
      unfold putT
      rw [if_neg (by omega), if_pos ⟨rfl, rfl⟩, if_pos ⟨rfl, rfl⟩]
      exact hb
    · unfold putT
      rw [if_neg (by omega), if_neg (by omega), if_neg (by omega), if_neg (by omega)]
      exact h.anti a d hd (by omega)
theorem Part.next {n : Nat} {T : Nat → Nat → Bool} {i : Nat} (h : Part n T i i) : Part n T (i + 1) 0 := ⟨h.irr, fun a b hb hh => h.anti a b hb (by omega)⟩
theorem Part.tour {n : Nat} {T : Nat → Nat → Bool} (h : Part n T n 0) : Tour n T := ⟨h.irr, fun a b ha hb ne => by
  rcases Nat.lt_or_gt_of_ne ne with z | z
  · rw [h.anti b a z (by omega)]
    simp
  · exact h.anti a b z (by omega)⟩
section
variable {P : Program} {w : World} {K : PySem.W.Frag} {mg : Str → Option Value} {base : Heap}
theorem scBits : FnScope ["cells", "many", "one", "other", "rows", "k", "bit"] ["cells", "many"] (defScope tBits) := ⟨rfl, rfl, rfl, by decide +kernel, rfl, by decide +kernel, by decide +kernel⟩
/-- the scope of the outer comprehension's block, as its frame has it -/
def outSc : Scope := relS { kind := .function, names := [(".0", .local), ("one", .local), ("range", .globalImplicit), ("many", .free)], isGenerator := false, isCoroutine := false } (defScope tBits)
theorem ok_bits {f : Addr} {fd : FuncData} (F : Fun K "_law_bits" "_law_bits" tBits f fd) (ml : mg "len" = none) (mR : mg "range" = none) : FnOk P w K mg base CX0 1 f fd ["cells", "many"] (spBits K) := by
  refine F.ok scBits (fun vs H Q E h => ?_) (fun cdv A outer s H vs Q E hr h => ?_)
  · obtain ⟨_, _, _, rfl, _⟩ := h
    rfl
  obtain ⟨a, ns, m, rfl, hS, h63, hm, q⟩ := h
  refine ⟨_, pss_cons (ps_setLc (i := 4) (own := [("one", 2)]) (g := gName 2) (tt := tYes) (te := tLc (iRng1 (tCons (tVar 1) tNil)) (gName 3) tYes (tC (.bl false)) [3]) rfl scBits.nd rfl rfl (sw_true rfl rfl rfl (by decide +kernel))
        (pi_range1 rfl mR (pa_cons (pv 1) pa_nil)) (blkOk_by (own := [("one", 2)]) (N := ["cells", "many", "one", "other", "rows", "k", "bit"]) (sc := defScope tBits) (by decide +kernel))
        (fun _ _ _ _ _ => pg_name (i := 2) scBits.nd rfl (Or.inl rfl)) (fun _ _ _ _ _ => pts_nil)
        (fun _ _ _ _ _ => pe_lc (own := [("other", 3)]) (g := gName 3) (tt := tYes) (te := tC (.bl false)) rfl scBits.nd (pi_range1 rfl mR (pa_cons (pv 1) pa_nil))
          (blkOk_by (own := [("other", 3)]) (N := ["cells", "many", "one", "other", "rows", "k", "bit"]) (sc := outSc) (by decide +kernel))
          (fun _ _ _ _ _ => pg_name (i := 3) scBits.nd rfl (Or.inl rfl)) (fun _ _ _ _ _ => pts_nil) (fun _ _ _ _ _ => pe_bl)))
    (pss_cons (ps_set (i := 5) scBits.nd rfl (Or.inl rfl) pe_int)
    (pss_cons (ps_for PassesOwn.never rfl (pi_range1 rfl mR (pa_cons (pv 1) pa_nil)) (pg_name (i := 2) scBits.nd rfl (Or.inl rfl))
      (pss_one (ps_for PassesOwn.never rfl (pi_range1 rfl mR (pa_cons (pv 2) pa_nil)) (pg_name (i := 3) scBits.nd rfl (Or.inl rfl))
        (pss_cons (ps_set (i := 6) scBits.nd rfl (Or.inl rfl) pe_int)
        (Evl.pss_cut (ps_if (pt_cmpR op_gt (pe_callB call_len_seq (by rfl) ml PySem.boot_len (pa_cons (pv 0) pa_nil)) pe_int (nomark _))
          (pss_one (ps_set (i := 6) scBits.nd rfl (Or.inl rfl) (pe_op op_mod (pe_op op_fdiv (pe_ix ix_list (pv 0) (pe_op op_mod (pv 5) (pe_callB call_len_seq (by rfl) ml PySem.boot_len (pa_cons (pv 0) pa_nil))) (fun _ _ => rfl))
            (pe_op op_add pe_int (pe_op op_mul (pe_op op_fdiv (pv 5) (pe_callB call_len_seq (by rfl) ml PySem.boot_len (pa_cons (pv 0) pa_nil))) pe_int))) pe_int))) pss_nil)
        (pss_cons (ps_asg (pe_cmpR op_eq (pv 6) pe_int (nomark _)) (pg_sub (pe_ix ix_list (pv 4) (pv 2) (fun _ _ => rfl)) (pv 3) set_list))
        (pss_cons (ps_asg (pe_cmpR op_eq (pv 6) pe_int (nomark _)) (pg_sub (pe_ix ix_list (pv 4) (pv 3) (fun _ _ => rfl)) (pv 2) set_list))
        (pss_one (ps_set (i := 5) scBits.nd rfl (Or.inl rfl) (pe_op op_add (pv 5) pe_int))))))))))
    (pss_one (ps_ret (pv 4))))), ?_⟩
  have em : ((m : Int)).toNat = m := by omega
  -- rows: the outer comprehension
  refine ⟨_, rfl, _, rfl, by omega, by omega, ?_⟩
  rw [em]
  intro D nD
  refine lc_range (lo := 0) (n := m) (fun i H1 => ∃ rs : List Addr, Same H H1 ∧ H1 D = some (.lst (rs.map V.ref)) ∧ rs.length = i ∧ rs.Nodup ∧ D ∉ rs ∧ (∀ r ∈ rs, H r = none) ∧ ∀ r ∈ rs, H1 r = some (.lst (List.replicate m (.bl false))))
    ⟨[], same_put nD, upd_same, rfl, List.nodup_nil, by simp, by simp, by simp⟩ ?_ ?_
  · rintro i H1 hi ⟨rs, s1, hD, hl, nd, nm, new, hrs⟩
    refine ⟨rfl, ?_⟩
    refine ⟨_, rfl, _, rfl, by omega, by omega, ?_⟩
    rw [em]
    intro R nR
    have nRD : D ≠ R := ne_of_none hD nR
    refine lc_range (lo := 0) (n := m) (fun j H2 => Same H1 H2 ∧ H2 R = some (.lst (List.replicate j (.bl false)))) ⟨same_put nR, upd_same⟩ ?_ ?_
    · rintro j H2 hj ⟨s2, hR⟩
      refine ⟨rfl, ?_⟩
      show ∃ acc, H2 R = some (.lst acc) ∧ acc.length < sizeLine ∧ (Same H1 (upd H2 R (.lst (acc ++ [V.bl false]))) ∧ upd H2 R (.lst (acc ++ [V.bl false])) R = some (.lst (List.replicate (j + 1) (.bl false))))
      refine ⟨_, hR, by rw [List.length_replicate]; exact small1000 (by omega), fun b o e => ?_, ?_⟩
      · rw [upd_ne (ne_of_none e nR)]
        exact s2 b o e
      · rw [upd_same, List.replicate_succ']
    · rintro H2 ⟨s2, hR⟩
      refine ⟨_, s2 _ _ hD, by rw [List.length_map, hl]; exact small1000 (by omega), ?_⟩
      have nRrs : R ∉ rs := fun z => by
        have e := hrs R z
        rw [nR] at e
        cases e
      refine ⟨rs ++ [R], fun b o e => ?_, ?_, by rw [List.length_append, hl]; rfl, ?_, ?_, ?_, ?_⟩
      · rw [upd_ne (ne_of_none e nD)]
        exact s2 _ _ (s1 b o e)
      · rw [upd_same, List.map_append]
        rfl
      · exact List.nodup_append.mpr ⟨nd, by simp, fun x hx y hy => by
          have ey : y = R := by simpa using hy
          subst ey
          exact fun z => nRrs (z ▸ hx)⟩
      · intro z
        rcases List.mem_append.mp z with z | z
        · exact nm z
        · exact nRD (by simpa using z)
      · intro r hr
        rcases List.mem_append.mp hr with z | z
        · exact new r z
        · have e : r = R := by simpa using z
          subst e
          exact s1.free nR
      · intro r hr
        have rD : r ≠ D := fun e => by
          subst e
          rcases List.mem_append.mp hr with z | z
          · exact nm z
          · exact nRD (by simpa using z)
        rw [upd_ne rD]
        rcases List.mem_append.mp hr with z | z
        · exact s2 _ _ (hrs r z)
        · have e : r = R := by simpa using z
          subst e
          exact hR
  · rintro H1 ⟨rs, s1, hD, hl, nd, nm, new, hrs⟩
    have t0 : TabN H H1 D m (fun _ _ => false) rs := ⟨⟨hD, hl, fun i r e => by
      rw [hrs r (List.mem_of_getElem? e)]
      unfold rowV
      rw [List.map_const', List.length_range]⟩, nd, nm, new, s1⟩
    -- k = 0; the two loops
    refine ⟨_, rfl, _, rfl, by omega, by omega, ?_⟩
    rw [em]
    refine for_range (lo := 0) (n := m) (fun i σ H2 => ∃ (T : Nat → Nat → Bool) (k : Int) (y2 y3 y6 : Option V), σ = [some (.ref a), some (.int (m : Int)), y2, y3, some (.ref D), some (.int k), y6] ∧ TabN H H2 D m T rs ∧ Part m T i 0 ∧ 0 ≤ k ∧ k ≤ 8 * (i : Int))
      ⟨_, 0, _, _, _, rfl, t0, ⟨fun _ _ => rfl, fun a b _ z => by omega⟩, by omega, by omega⟩ ?_ ?_
    · rintro i σ H2 hi ⟨T, k, y2, y3, y6, rfl, t1, p1, k0, k1⟩
      refine ⟨_, rfl, _, rfl, by omega, by omega, ?_⟩
      have ei : ((0 : Int) + (i : Int)).toNat = i := by omega
      rw [ei]
      refine for_range (lo := 0) (n := i) (fun j σ H3 => ∃ (T : Nat → Nat → Bool) (k : Int) (y3 y6 : Option V), σ = [some (.ref a), some (.int (m : Int)), some (.int (0 + (i : Int))), y3, some (.ref D), some (.int k), y6] ∧ TabN H H3 D m T rs ∧ Part m T i j ∧ 0 ≤ k ∧ k ≤ 8 * (i : Int) + (j : Int))
        ⟨T, k, _, _, rfl, t1, p1, k0, by omega⟩ ?_ ?_
      · rintro j σ H3 hj ⟨T, k, y3, y6, rfl, t2, p2, k0, k1⟩
        -- bit
        refine ⟨fun σ' H' => H' = H3 ∧ ∃ z : Int, (z = 0 ∨ z = 1) ∧ σ' = [some (.ref a), some (.int (m : Int)), some (.int (0 + (i : Int))), some (.int (0 + (j : Int))), some (.ref D), some (.int k), some (.int z)], ?_, ?_⟩
        · have hS3 := t2.same.seq hS
          refine ⟨_, rfl, a, _, rfl, .inl hS3, _, _, rfl, rfl, _, rfl, ite2 (fun c => ?_) (fun c => ⟨rfl, 0, .inl rfl, rfl⟩)⟩
          have c' : (0 : Int) < (((ns.map V.int).length : Nat) : Int) := of_decide_eq_true c
          have hL : (((ns.map V.int).length : Nat) : Int) ≤ 63 := by rw [List.length_map]; omega
          generalize hLe : (((ns.map V.int).length : Nat) : Int) = L at c' hL
          have e0 := Int.emod_nonneg k (Int.ne_of_gt c')
          have e1 := Int.emod_lt_of_pos k c'
          have d0 : 0 ≤ k / L := Int.ediv_nonneg k0 (Int.le_of_lt c')
          have d1 : k / L ≤ k := Int.ediv_le_self L k0
          obtain ⟨z, hz⟩ : ∃ z : Int, atI (ns.map V.int) (k % L) = some (V.int z) := by
            have hk : (k % L).toNat < ns.length := by
              rw [List.length_map] at hLe
              omega
            refine ⟨ns[(k % L).toNat], at_of (j := (k % L).toNat) (by omega) ?_⟩
            rw [List.getElem?_map, List.getElem?_eq_getElem hk]
            rfl
          refine ⟨_, rfl, _, rfl, _, rfl, a, _, rfl, .inl hS3, _, _, rfl, congrArg V.int hLe, c', a, _, _, _, rfl, rfl, hS3, hz, ?_⟩
          refine ⟨_, rfl, _, rfl, a, _, rfl, .inl hS3, _, _, rfl, congrArg V.int hLe, ⟨c', by omega⟩, _, _, rfl, rfl, .inr ⟨by decide, by decide⟩, _, _, rfl, rfl, _, _, rfl, rfl, ⟨by omega, by omega⟩, _, _, rfl, rfl, (by show (0 : Int) < 2; decide), ?_⟩
          have m0 := Int.emod_nonneg (z / (1 + k / L * 2)) (show (2 : Int) ≠ 0 by decide)
          have m1 := Int.emod_lt_of_pos (z / (1 + k / L * 2)) (show (0 : Int) < 2 by decide)
          exact ⟨rfl, _, by omega, rfl⟩
        · rintro σ' H' ⟨rfl, z, hz, rfl⟩
          have hjm : j < m := by omega
          have hil : i < rs.length := by rw [t2.tab.len]; exact hi
          have hjl : j < rs.length := by rw [t2.tab.len]; exact hjm
          have gi := List.getElem?_eq_getElem hil
          have gj := List.getElem?_eq_getElem hjl
          have ai : atI (rs.map V.ref) (0 + (i : Int)) = some (V.ref rs[i]) := by
            rw [Int.zero_add]
            exact atI_nat (by rw [List.getElem?_map, gi]; rfl)
          have aj : atI (rs.map V.ref) (0 + (j : Int)) = some (V.ref rs[j]) := by
            rw [Int.zero_add]
            exact atI_nat (by rw [List.getElem?_map, gj]; rfl)
          -- the first store
          refine ⟨_, rfl, rfl, _, rfl, _, rfl, D, _, _, _, rfl, rfl, SqL.of t2.tab.top, ai, _, rfl, rs[i], _, _, j, rfl, rfl, t2.tab.row i _ gi, by rw [rowV_len, Int.zero_add]; exact ixN_nat hjm, ?_⟩
          have t3 := t2.put gi j (decide (V.int z = V.int 1))
          -- the second store
          refine ⟨_, rfl, rfl, _, rfl, _, rfl, D, _, _, _, rfl, rfl, SqL.of t3.tab.top, aj, _, rfl, rs[j], _, _, i, rfl, rfl, t3.tab.row j _ gj, by rw [rowV_len, Int.zero_add]; exact ixN_nat hi, ?_⟩
          have t4 := t3.put gj i (decide (V.int z = V.int 0))
          refine ⟨_, rfl, _, _, rfl, rfl, _, _, _, _, rfl, t4, p2.put hj ?_, by omega, by omega⟩
          rcases hz with e | e <;> subst e <;> decide
      · rintro σ H3 ⟨T, k, y3, y6, rfl, t2, p2, k0, k1⟩
        exact ⟨T, k, _, _, _, rfl, t2, p2.next, k0, by omega⟩
    · rintro σ H2 ⟨T, k, y2, y3, y6, rfl, t1, p1, k0, k1⟩
      exact ⟨_, rfl, q H2 D rs T t1.same t1.tab p1.tour⟩
end
end Ch
set_option maxHeartbeats 8000000
/-! The law itself. -/
namespace Ch
open PySem L2
/-- a def of the text, by the promise that it keeps -/
structure Def (P : Program) (w : World) (K : PySem.W.Frag) (mg : Str → Option Value) (base : Heap) (x : Str) (k : Nat) (ps : List Str) (sp : Sp) (f : Addr) (fd : FuncData) : Prop where
  ok : FnOk P w K mg base CX0 k f fd ps sp
  b : Binds K fd ps []
  kp : PySem.W.keepIn K (.ref f) = true
  m : mg x = some (.ref f)
theorem cut_two (xs : List V) : cutV xs (some 2) none = xs.drop 2 := by
  unfold cutV
  rw [show HT.sIx xs.length 0 (some 2) = min 2 xs.length from HT.sIx_nat xs.length 0 2, HT.sIx_none]
  by_cases h : 2 ≤ xs.length
  · rw [Nat.min_eq_left h]
    exact List.take_of_length_le (by rw [List.length_drop]; exact Nat.le_refl _)
  · rw [Nat.min_eq_right (by omega), List.drop_eq_nil_of_le (Nat.le_refl _), List.drop_eq_nil_of_le (by omega), List.take_nil]
theorem cut_last (xs : List V) (x : V) : cutV (xs ++ [x]) none (some (-1)) = xs := by
  unfold cutV
  have e : HT.sIx (xs ++ [x]).length (xs ++ [x]).length (some (-1)) = xs.length := by
    show (if (-1 : Int) < 0 then ((-1 : Int) + ((xs ++ [x]).length : Int)).toNat else min (-1 : Int).toNat (xs ++ [x]).length) = xs.length
    rw [if_pos (by decide), List.length_append, List.length_singleton]
    omega
  rw [e, HT.sIx_none, List.drop_zero, Nat.sub_zero]
  exact List.take_left
theorem nv_last {os : List Nat} {x : Nat} (h : os.getLast? = some x) : atI (nv os) (-1) = some (V.int (x : Int)) := by
  obtain ⟨ys, e⟩ := List.getLast?_eq_some_iff.mp h
  have e2 : nv os = nv ys ++ [V.int (x : Int)] := by
    rw [e]
    unfold nv
    rw [List.map_append]
    rfl
  rw [e2]
  exact atI_last _ _
section
variable {P : Program} {w : World} {K : PySem.W.Frag} {mg : Str → Option Value} {base : Heap}
theorem kit_ll : PySem.W.kitOne K (.type "list") (.type "list") = some true := kit_ty (by decide +kernel)
theorem scLaw : FnScope ["script", "many", "table", "order", "handed", "mine", "chain", "thing", "head", "end", "row"] ["script"] (defScope tLaw) := ⟨rfl, rfl, rfl, by decide +kernel, rfl, by decide +kernel, by decide +kernel⟩
theorem ok_law {f fC fW fB fO fL fX fT fS fA : Addr} {fd dC dW dB dO dL dX dT dS dA : FuncData} (F : Fun K "law" "law" tLaw f fd)
    (DC : Def P w K mg base "_law_cell_at" 1 ["script", "k"] (spCell K) fC dC) (DW : Def P w K mg base "_law_whole" 1 ["found"] spWhole fW dW) (DB : Def P w K mg base "_law_bits" 1 ["cells", "many"] (spBits K) fB dB)
    (DO : Def P w K mg base "_law_order" 1 ["cell", "many"] spOrder fO dO) (DL : Def P w K mg base "_law_chain" 1 ["table", "chain"] (spLChain K) fL dL) (DX : Def P w K mg base "_law_left_out" 1 ["table", "order", "chain"] (spLeft K) fX dX)
    (DT : Def P w K mg base "chain_behind" 2 ["table", "order"] (spChain K) fT dT) (DS : Def P w K mg base "standing_tree" 10 ["order"] (spStand K) fS dS) (DA : Def P w K mg base "ahead_end" 10 ["table", "tree"] (spAhead K) fA dA)
    (ml : mg "len" = none) (mI : mg "isinstance" = none) (mL : mg "list" = none) : FnOk P w K mg base CX0 11 f fd ["script"] (spLaw K) := by
  refine F.ok scLaw (fun vs H Q E h => ?_) (fun cdv A outer s H vs Q E hr h => ?_)
  · obtain ⟨_, _, rfl, _⟩ := h
    rfl
  obtain ⟨a, ns, rfl, hS, h63, q⟩ := h
  have hr1 : Room 1 _ := hr.mono (by decide)
  have hr2 : Room 2 _ := hr.mono (by decide)
  refine ⟨_,
    -- many, table, order, handed, mine, chain
    pss_cons (ps_set (i := 1) scLaw.nd rfl (Or.inl rfl) (pe_op op_add pe_int (pe_op op_mod (pe_call DC.ok hr1 (by rfl) DC.m DC.kp DC.b .nil pass0 (pa_cons (pv 0) (pa_cons pe_int pa_nil))) pe_int)))
    (pss_cons (ps_set (i := 2) scLaw.nd rfl (Or.inl rfl) (pe_call DB.ok hr1 (by rfl) DB.m DB.kp DB.b .nil pass0 (pa_cons (pe_slice sl_list (pv 0) (po_some pe_int) po_none) (pa_cons (pv 1) pa_nil))))
    (pss_cons (ps_set (i := 3) scLaw.nd rfl (Or.inl rfl) (pe_call DO.ok hr1 (by rfl) DO.m DO.kp DO.b .nil pass0 (pa_cons (pe_op op_mod (pe_call DC.ok hr1 (by rfl) DC.m DC.kp DC.b .nil pass0 (pa_cons (pv 0) (pa_cons pe_int pa_nil))) (pe_op op_pow pe_int pe_int)) (pa_cons (pv 1) pa_nil))))
    (pss_cons (ps_setLc (i := 4) (own := [("row", 10)]) (g := gName 10) (tt := tYes)
        (te := tCB (fun xs H Q => ∃ p ys, xs = [.ref p] ∧ (SqL K H p ys ∨ SqT K H p ys) ∧ ∀ l, H l = none → Q (.ref l) (upd H l (.lst ys))) (tCons (tVar 10) tNil)) rfl scLaw.nd rfl rfl (sw_true rfl rfl rfl (by decide +kernel)) (pi_list (pv 2))
        (blkOk_by (own := [("row", 10)]) (N := ["script", "many", "table", "order", "handed", "mine", "chain", "thing", "head", "end", "row"]) (sc := defScope tLaw) (by decide +kernel))
        (fun _ _ _ _ _ => pg_name (i := 10) scLaw.nd rfl (Or.inl rfl)) (fun _ _ _ _ _ => pts_nil) (fun _ _ _ _ _ => pe_callTy call_list_of (by rfl) mL (by decide +kernel) (pa_cons (pv 10) pa_nil)))
    (pss_cons (ps_set (i := 5) scLaw.nd rfl (Or.inl rfl) (pe_callTy call_list_of (by rfl) mL (by decide +kernel) (pa_cons (pv 3) pa_nil)))
    (pss_cons (ps_set (i := 6) scLaw.nd rfl (Or.inr rfl) (pe_call DT.ok hr2 (by rfl) DT.m DT.kp DT.b .nil pass0 (pa_cons (pv 4) (pa_cons (pv 5) pa_nil))))
    -- its last thing
    (pss_cons (ps_if (PW.pt (pw_or (pt_not (pt_val (pe_callB call_isi (by rfl) mI (by decide +kernel) (pa_cons (pv 6) (pa_cons (pe_bltn (v := .ty "list") (by rfl) mL (by decide +kernel) rfl) pa_nil)))))
        (pw_or (pt_cmpR op_eq (pe_callB call_len_seq (by rfl) ml PySem.boot_len (pa_cons (pv 6) pa_nil)) pe_int (nomark _))
        (pw_or1 (pt_cmpR op_ne (pe_ix ix_list (pv 6) (pe_un un_neg pe_int) (fun _ _ => rfl)) (pe_ix ix_list (pv 3) (pe_un un_neg pe_int) (fun _ _ => rfl)) (nomark _)))))) (pss_one (ps_ret pe_bl)) pss_nil)
    -- its things
    (pss_cons (ps_for PassesOwn.never rfl (pi_list (pv 6)) (pg_name (i := 7) scLaw.nd rfl (Or.inl rfl))
        (pss_one (ps_if (PW.pt (pw_or (pt_not (pt_val (pe_call DW.ok hr1 (by rfl) DW.m DW.kp DW.b .nil pass0 (pa_cons (pv 7) pa_nil))))
          (pw_or1 (pt_cmpR op_notIn_seq (pv 7) (pv 3) (by with_unfolding_all rfl))))) (pss_one (ps_ret pe_bl)) pss_nil)))
    (pss_cons (ps_if (PW.pt (pw_or (pt_cmpR (op_neD hr.units) (pv 6) (pe_lc (own := [("thing", 7)]) (g := gName 7) (tt := tTest (tOp (rIn K false) (tVar 7) (tVar 6))) (te := tVar 7) rfl scLaw.nd (pi_list (pv 3))
            (blkOk_by (own := [("thing", 7)]) (N := ["script", "many", "table", "order", "handed", "mine", "chain", "thing", "head", "end", "row"]) (sc := defScope tLaw) (by decide +kernel))
            (fun _ _ _ _ _ => pg_name (i := 7) scLaw.nd rfl (Or.inl rfl)) (fun _ _ _ _ _ => pts_one (pt_cmpR op_in_seq (pv 7) (pv 6) (by with_unfolding_all rfl))) (fun _ _ _ _ _ => pv 7)) (nomark _))
          (pw_or1 (pt_not (pt_val (pe_call DL.ok hr1 (by rfl) DL.m DL.kp DL.b .nil pass0 (pa_cons (pv 2) (pa_cons (pv 6) pa_nil)))))))) (pss_one (ps_ret pe_bl)) pss_nil)
    (pss_cons (ps_if (pt_not (pt_val (pe_call DX.ok hr1 (by rfl) DX.m DX.kp DX.b .nil pass0 (pa_cons (pv 2) (pa_cons (pv 3) (pa_cons (pv 6) pa_nil)))))) (pss_one (ps_ret pe_bl)) pss_nil)
    -- head; chain.append(0); told again
    (pss_cons (ps_set (i := 8) scLaw.nd rfl (Or.inl rfl) (pe_ix ix_list (pv 6) pe_int (fun _ _ => rfl)))
    (pss_cons (ps_expr (pe_bm PySem.F.plainAttrs_list PySem.F.slot_list_append PySem.F.type_list_append mt_append (pv 6) (pa_cons pe_int pa_nil)))
    (pss_cons (ps_if (PW.pt (pw_or (pt_cmpR (op_neD hr.units) (pv 5) (pv 3) (nomark _))
        (pw_or1 (pt_cmpR (op_neD hr.units) (pe_call DT.ok hr2 (by rfl) DT.m DT.kp DT.b .nil pass0 (pa_cons (pv 4) (pa_cons (pv 5) pa_nil))) (pe_slice sl_list (pv 6) po_none (po_some (pe_un un_neg pe_int))) (nomark _))))) (pss_one (ps_ret pe_bl)) pss_nil)
    -- end
    (pss_cons (ps_set (i := 9) scLaw.nd rfl (Or.inl rfl) (pe_call DA.ok hr (by rfl) DA.m DA.kp DA.b .nil pass0 (pa_cons (pv 4) (pa_cons (pe_call DS.ok hr (by rfl) DS.m DS.kp DS.b .nil pass0 (pa_cons (pv 5) pa_nil)) pa_nil))))
    (pss_one (ps_ret (pe_and (pe_call DW.ok hr1 (by rfl) DW.m DW.kp DW.b .nil pass0 (pa_cons (pv 9) pa_nil)) (pe_and (pe_cmpR op_eq (pv 9) (pv 8) (nomark _))
      (pe_and (pe_cmpR (op_eqD hr.units) (pv 4) (pv 2) (nomark _)) (pe_one (pe_cmpR (op_eqD hr.units) (pv 5) (pv 3) (nomark _))))))))))))))))))))), ?_⟩
  -- many
  refine ⟨_, rfl, a, ns, 0, rfl, hS, fun z => ⟨_, _, rfl, rfl, (by show (0 : Int) < 8; decide), _, _, rfl, rfl, ?_⟩⟩
  have z0 := Int.emod_nonneg z (show (8 : Int) ≠ 0 by decide)
  have z1 := Int.emod_lt_of_pos z (show (0 : Int) < 8 by decide)
  obtain ⟨m, em, m1, m8⟩ : ∃ m : Nat, 1 + z % 8 = (m : Int) ∧ 1 ≤ m ∧ m ≤ 8 := ⟨(1 + z % 8).toNat, by omega, by omega, by omega⟩
  -- table
  refine ⟨_, rfl, 2, rfl, a, _, rfl, hS, fun p1 n1 => ?_⟩
  have s1 : Same H (upd H p1 (.lst (cutV (ns.map V.int) (some 2) none))) := same_put n1
  refine ⟨_, rfl, p1, ns.drop 2, m, congrArg (fun v => [V.ref p1, V.int v]) em, SqL.of (by rw [upd_same, cut_two, List.map_drop]), by rw [List.length_drop]; omega, m8, fun H2 p rs T s2 tb tt => ?_⟩
  have s02 := s1.trans s2
  -- order
  refine ⟨_, rfl, a, ns, 1, rfl, s02.seq hS, fun z2 => ⟨_, _, rfl, rfl, ⟨by decide, by decide, by decide⟩, _, _, rfl, rfl, (by show (0 : Int) < 10 ^ (40 : Int).toNat; decide), _, rfl, _, m, congrArg (fun v => [V.int (z2 % (10 ^ (40 : Int).toNat)), V.int v]) em, m8, fun H3 o os s3 ho pm => ?_⟩⟩
  have nd := perm_nodup pm
  have lt := perm_lt pm
  have hlen := perm_len pm
  -- handed
  have tb3 := tb.same s3
  refine ⟨_, rfl, p, rfl, ⟨_, SqL.of tb3.top⟩, fun D nD => ?_⟩
  refine lc_list (K := K) (a := p) (xs := rs.map V.ref) (fun i H4 => ∃ us : List Addr, Same H3 H4 ∧ H4 D = some (.lst (us.map V.ref)) ∧ us.length = i ∧ D ∉ us ∧ ∀ j r, us[j]? = some r → H4 r = some (.lst (rowV m T j)))
    ⟨[], same_put nD, upd_same, rfl, by simp, fun j r e => by cases e⟩ (fun i H4 _ h => SqL.of (h.choose_spec.1 _ _ tb3.top)) ?_ ?_
  · rintro i v H4 hv ⟨us, s4, hD, hu, nu, hr4⟩
    obtain ⟨r, hri, rfl⟩ : ∃ r, rs[i]? = some r ∧ v = V.ref r := by
      rw [List.getElem?_map] at hv
      cases e : rs[i]? with
      | none => rw [e] at hv; cases hv
      | some r => rw [e] at hv; exact ⟨r, rfl, (Option.some.inj hv).symm⟩
    refine ⟨rfl, ?_⟩
    refine ⟨_, rfl, r, _, rfl, .inl (SqL.of (s4 _ _ (tb3.row i r hri))), fun l nl => ?_⟩
    have nlD : D ≠ l := ne_of_none hD nl
    have il : i < rs.length := (List.getElem?_eq_some_iff.mp hri).1
    refine ⟨_, by rw [upd_ne nlD]; exact hD, by rw [List.length_map, hu]; exact small1000 (by rw [tb3.len] at il; omega), us ++ [l], fun b o e => ?_, ?_, by rw [List.length_append, hu]; rfl, ?_, fun j r' e => ?_⟩
    · rw [upd_ne (ne_of_none e nD), upd_ne (ne_of_none (s4 _ _ e) nl)]
      exact s4 _ _ e
    · rw [upd_same, List.map_append]
      rfl
    · intro e
      rcases List.mem_append.mp e with e | e
      · exact nu e
      · exact nlD (by simpa using e)
    · have r'D : r' ≠ D := fun z => by
        subst z
        rcases List.mem_append.mp (List.mem_of_getElem? e) with e | e
        · exact nu e
        · exact nlD (by simpa using e)
      rw [upd_ne r'D]
      rw [List.getElem?_append] at e
      split at e
      · have hh := hr4 j r' e
        rw [upd_ne (ne_of_none hh nl)]
        exact hh
      · rename_i hj
        obtain ⟨e1, e2⟩ := List.getElem?_eq_some_iff.mp e
        have e3 : j = i := by
          rw [List.length_singleton] at e1
          omega
        subst e3
        have e4 : r' = l := by rw [← e2]; simp
        subst e4
        rw [upd_same]
  rintro H4 ⟨us, s4, hD, hu, nu, hr4⟩
  rw [List.length_map, tb3.len] at hu
  have th : TabAt H4 D m T us := ⟨hD, hu, hr4⟩
  -- mine
  refine ⟨_, rfl, o, _, rfl, .inl (SqL.of (s4 _ _ ho)), fun mi nmi => ?_⟩
  have s5 : Same H4 (upd H4 mi (.lst (nv os))) := same_put nmi
  have s45 := s4.trans s5
  have tb5 := tb3.same s45
  have th5 := th.same s5
  have ho5 := s45 _ _ ho
  have hm5 : (upd H4 mi (.lst (nv os))) mi = some (.lst (nv os)) := upd_same
  generalize upd H4 mi (.lst (nv os)) = H5 at s5 s45 tb5 th5 ho5 hm5
  -- chain
  refine ⟨_, rfl, _, rfl, D, mi, m, os, T, us, rfl, th5, SqL.of hm5, pm, by omega, by omega, fun H6 c s6 nc hc => ?_⟩
  have csub : ∀ y ∈ chain T os, y ∈ os := fun y hy => chain_mem hy
  have clt : ∀ y ∈ chain T os, y < m := fun y hy => lt y (csub y hy)
  have clen : (chain T os).length ≤ 1000 := Nat.le_trans (chain_sub T os).length_le (by omega)
  have one : ∃ x r, os = x :: r := by
    cases e : os with
    | nil => rw [e] at hlen; simp at hlen; omega
    | cons x r => exact ⟨x, r, rfl⟩
  obtain ⟨x0, r0, eos⟩ := one
  have cne : chain T os ≠ [] := fun e => by
    have := chain_nil e
    rw [eos] at this
    cases this
  obtain ⟨lst, elst⟩ : ∃ x, os.getLast? = some x := by
    rw [eos]
    exact ⟨_, List.getLast?_eq_getLast (List.cons_ne_nil x0 r0)⟩
  have eclst : (chain T os).getLast? = some lst := by rw [chain_last]; exact elst
  have ho6 := s6 _ _ ho5
  refine ⟨_, rfl, _, .ty "list", _, _, true, rfl, .ty _, .base (.lst hc), kit_ll, true, rfl, iteF ?_⟩
  refine ⟨_, rfl, c, _, rfl, .inl (SqL.of hc), rfl, _, rfl, ?_⟩
  have e0 : decide (V.int (((nv (chain T os)).length : Nat) : Int) = V.int 0) = false := decide_eq_false fun e => by
    have e' := V.int.inj e
    rw [nv_len] at e'
    exact cne (List.length_eq_zero_iff.mp (by omega))
  rw [e0]
  refine iteF ⟨_, rfl, 1, rfl, c, _, -1, _, rfl, rfl, SqL.of hc, nv_last eclst, _, rfl, 1, rfl, o, _, -1, _, rfl, rfl, SqL.of ho6, nv_last elst, rfl, _, rfl, ?_⟩
  rw [decide_eq_true rfl]
  refine iteF ?_
  -- its things
  refine ⟨_, rfl, c, rfl, ⟨_, SqL.of hc⟩, for_list (K := K) (a := c) (xs := nv (chain T os)) (fun i σ H7 => H7 = H6 ∧ ∃ y7, σ = [some (.ref a), some (.int (1 + z % 8)), some (.ref p), some (.ref o), some (.ref D), some (.ref mi), some (.ref c), y7, none, none, none])
    ⟨rfl, _, rfl⟩ (fun i σ H7 _ h => by rw [h.1]; exact SqL.of hc) ?_ ?_⟩
  · rintro i v σ H7 hv ⟨rfl, y7, rfl⟩
    obtain ⟨y, hy, rfl⟩ := nv_of hv
    refine ⟨_, rfl, _, rfl, true, rfl, iteF ?_⟩
    refine ⟨_, rfl, _, rfl, o, nv os, rfl, .inl (SqL.of ho6), rfl, nv_flat os, _, rfl, ?_⟩
    rw [inV_nv, decide_eq_true (csub y (List.mem_of_getElem? hy))]
    exact iteF ⟨rfl, _, rfl⟩
  rintro σ H7 ⟨rfl, y7, rfl⟩
  -- the things of the order that are in the chain
  refine ⟨_, rfl, _, rfl, o, rfl, ⟨_, SqL.of ho6⟩, fun D2 nD2 => ?_⟩
  refine lc_list (K := K) (a := o) (xs := nv os) (fun i H8 => Same H7 H8 ∧ H8 D2 = some (.lst (nv ((os.take i).filter fun x => decide (x ∈ chain T os)))))
    ⟨same_put nD2, upd_same⟩ (fun i H8 _ h => SqL.of (h.1 _ _ ho6)) ?_ ?_
  · rintro i v H8 hv ⟨s8, hD2⟩
    obtain ⟨x, hx, rfl⟩ := nv_of hv
    have ft : (os.take (i + 1)).filter (fun x => decide (x ∈ chain T os)) = (os.take i).filter (fun x => decide (x ∈ chain T os)) ++ [x].filter (fun x => decide (x ∈ chain T os)) := by
      rw [List.take_add_one, hx, List.filter_append]
      rfl
    have il : i < os.length := (List.getElem?_eq_some_iff.mp hx).1
    refine ⟨rfl, ?_⟩
    refine ⟨_, rfl, _, rfl, c, nv (chain T os), rfl, .inl (SqL.of (s8 _ _ hc)), rfl, nv_flat _, _, rfl, ?_⟩
    rw [show (if false = true then !inV (V.int (x : Int)) (nv (chain T os)) else inV (V.int (x : Int)) (nv (chain T os))) = decide (x ∈ chain T os) from inV_nv _ _]
    by_cases hm : x ∈ chain T os
    · rw [decide_eq_true hm]
      refine iteT ⟨_, rfl, _, hD2, ?_, fun b ob e => ?_, ?_⟩
      · rw [nv_len]
        exact small1000 (Nat.le_trans (List.length_filter_le _ _) (by rw [List.length_take]; omega))
      · rw [upd_ne (ne_of_none e nD2)]
        exact s8 _ _ e
      · rw [upd_same, ft, List.filter_cons, if_pos (decide_eq_true hm)]
        unfold nv
        rw [List.map_append]
        rfl
    · rw [decide_eq_false hm]
      refine iteF ⟨s8, ?_⟩
      rw [ft, List.filter_cons, if_neg (by rw [decide_eq_false hm]; exact Bool.false_ne_true)]
      show H8 D2 = some (.lst (nv ((os.take i).filter (fun x => decide (x ∈ chain T os)) ++ [])))
      rw [List.append_nil]
      exact hD2
  rintro H8 ⟨s8, hD2⟩
  rw [nv_len, List.take_length, chain_filter T nd] at hD2
  have hc8 := s8 _ _ hc
  refine ⟨dI (zs (chain T os)), dI (zs (chain T os)), dp_nv (SqL.of hc8), dp_nv (SqL.of hD2), dI_shaped _, dI_shaped _, _, rfl, ?_⟩
  rw [dI_eq]
  have tb8 := (tb5.same s6).same s8
  refine iteF ⟨_, rfl, _, rfl, p, c, m, chain T os, T, rs, rfl, tb8, SqL.of hc8, clt, clen, chain_pair T os, true, rfl, iteF ?_⟩
  -- left out
  have ho8 := s8 _ _ ho6
  refine ⟨_, rfl, _, rfl, _, rfl, p, o, c, m, os, chain T os, T, rs, rfl, tb8, SqL.of ho8, SqL.of hc8, nd, lt, csub, clen, fun i x hi hx => left_out tt nd lt hi hx, fun H9 s9 => ⟨true, rfl, iteF ?_⟩⟩
  -- head; chain.append(0)
  have hc9 := s9 _ _ hc8
  have hend := end_stand tt r0 x0 (eos ▸ nd) (eos ▸ lt)
  rw [← eos] at hend
  have hend0 : (chain T os)[0]? = some (endT T (stand x0 r0)) := by rw [← List.head?_eq_getElem?]; exact hend
  refine ⟨_, rfl, c, _, _, _, rfl, rfl, SqL.of hc9, nv_at (i := 0) hend0, ?_⟩
  refine ⟨_, rfl, .inl ⟨rfl, _, SqL.of hc9⟩, c, _, _, rfl, rfl, hc9, by rw [nv_len]; exact small1000 clen, ?_⟩
  have sx : Same H5 (upd H9 c (.lst (nv (chain T os) ++ [.int 0]))) := fun b ob e => by
    rw [upd_ne (ne_of_none e nc)]
    exact s9 _ _ (s8 _ _ (s6 _ _ e))
  have hcx : (upd H9 c (.lst (nv (chain T os) ++ [.int 0]))) c = some (.lst (nv (chain T os) ++ [.int 0])) := upd_same
  generalize upd H9 c (.lst (nv (chain T os) ++ [.int 0])) = Hx at sx hcx
  -- told again
  refine ⟨_, rfl, _, rfl, dI (zs os), dI (zs os), dp_nv (SqL.of (sx _ _ hm5)), dp_nv (SqL.of (sx _ _ ho5)), dI_shaped _, dI_shaped _, _, rfl, ?_⟩
  rw [dI_eq]
  refine iteF ⟨_, rfl, _, rfl, D, mi, m, os, T, us, rfl, th5.same sx, SqL.of (sx _ _ hm5), pm, by omega, by omega, fun H10 c2 s10 n10 hc2 => ?_⟩
  refine ⟨_, rfl, 1, rfl, _, rfl, c, _, rfl, SqL.of (s10 _ _ hcx), fun p11 n11 => ?_⟩
  have s11 : Same H10 (upd H10 p11 (.lst (cutV (nv (chain T os) ++ [.int 0]) none (some (-1))))) := same_put n11
  refine ⟨dI (zs (chain T os)), dI (zs (chain T os)), dp_nv (SqL.of (s11 _ _ hc2)), dp_nv (SqL.of (by rw [upd_same]; rw [cut_last])), dI_shaped _, dI_shaped _, _, rfl, ?_⟩
  rw [dI_eq]
  have s5e := sx.trans (s10.trans s11)
  refine iteF ?_
  -- end
  have hm11 := (s5e _ _ hm5).trans (congrArg (fun l => some (HO.lst (nv l))) eos)
  refine ⟨_, rfl, _, rfl, mi, x0, r0, rfl, SqL.of hm11, by rw [← eos, hlen]; exact pm, by rw [eos] at hlen; rw [List.length_cons] at hlen; omega, fun H12 v s12 tv => ?_⟩
  have s5f := s5e.trans s12
  have lt0 : ∀ y ∈ x0 :: r0, y < m := eos ▸ lt
  refine ⟨D, v, stand x0 r0, m, T, us, rfl, th5.same s5f, tv, good_stand r0 x0 (lt0 x0 List.mem_cons_self) (fun y hy => lt0 y (List.mem_cons_of_mem _ hy)), by rw [depth_stand]; rw [eos] at hlen; rw [List.length_cons] at hlen; omega, ?_⟩
  refine ⟨_, rfl, _, rfl, true, rfl, iteT ⟨_, rfl, _, rfl, rfl, _, rfl, ?_⟩⟩
  rw [decide_eq_true rfl]
  refine iteT ⟨_, rfl, _, rfl, Ch.dT m T, Ch.dT m T, dp_tab (th5.same s5f), dp_tab (tb5.same s5f), dT_shaped m T, dT_shaped m T, _, rfl, ?_⟩
  rw [dT_eq]
  refine iteT ⟨_, rfl, _, rfl, dI (zs os), dI (zs os), dp_nv (SqL.of (s5f _ _ hm5)), dp_nv (SqL.of (s5f _ _ ho5)), dI_shaped _, dI_shaped _, ?_⟩
  rw [dI_eq]
  exact q _
end
end Ch
/-! What the top has left; the end. -/
namespace Ch
open PySem L2
/-- the facts of the top: a def each stands under its name, the built-in names are free -/
theorem top_facts {l : PySem.W.OpenLaw} {w : World} {K : PySem.W.Frag} {h : Heap} {mg : Str → Option Value} {fa : Addr} (X : K.In h) (G : h.Ns mainGlobals mg) (hfa : mg "law" = some (.ref fa))
    {f1 f2 f3 f4 f5 f6 f7 f8 f9 f10 f11 f12 f13 f14 f15 : Addr}
    {od1 an1 od2 an2 od3 an3 od4 an4 od5 an5 od6 an6 od7 an7 od8 an8 od9 an9 od10 an10 od11 an11 od12 an12 od13 an13 od14 an14 od15 an15 : Option Addr}
    {sl1 sl2 sl3 sl4 sl5 sl6 sl7 sl8 sl9 sl10 sl11 sl12 sl13 sl14 sl15 : Array (Option Value)}
    {oc1 kV1 dc1 pm1 cd1 ct1 oc2 kV2 dc2 pm2 cd2 ct2 oc3 kV3 dc3 pm3 cd3 ct3 oc4 kV4 dc4 pm4 cd4 ct4 oc5 kV5 dc5 pm5 cd5 ct5 oc6 kV6 dc6 pm6 cd6 ct6 oc7 kV7 dc7 pm7 cd7 ct7 oc8 kV8 dc8 pm8 cd8 ct8 oc9 kV9 dc9 pm9 cd9 ct9 oc10 kV10 dc10 pm10 cd10 ct10 oc11 kV11 dc11 pm11 cd11 ct11 oc12 kV12 dc12 pm12 cd12 ct12 oc13 kV13 dc13 pm13 cd13 ct13 oc14 kV14 dc14 pm14 cd14 ct14 oc15 kV15 dc15 pm15 cd15 ct15 : Value}
    (a1 : PySem.W.nsIn K mainGlobals "is_good" = some (some (.ref f1))) (l1 : K.lookup f1 = some ⟨oc1, od1, .func (PySem.W.fnOf "is_good" "is_good" (defArgs tGood) (defBody tGood) (defScope tGood) .none kV1 dc1 pm1 an1 cd1 ct1), sl1⟩) (c1 : PySem.W.codeIn K cd1 "is_good" = true) (k1 : PySem.W.keepIn K (.ref f1) = true)
    (a2 : PySem.W.nsIn K mainGlobals "ask_order" = some (some (.ref f2))) (l2 : K.lookup f2 = some ⟨oc2, od2, .func (PySem.W.fnOf "ask_order" "ask_order" (defArgs tAsk) (defBody tAsk) (defScope tAsk) .none kV2 dc2 pm2 an2 cd2 ct2), sl2⟩) (c2 : PySem.W.codeIn K cd2 "ask_order" = true) (k2 : PySem.W.keepIn K (.ref f2) = true)
    (a3 : PySem.W.nsIn K mainGlobals "standing_from" = some (some (.ref f3))) (l3 : K.lookup f3 = some ⟨oc3, od3, .func (PySem.W.fnOf "standing_from" "standing_from" (defArgs tFrom) (defBody tFrom) (defScope tFrom) .none kV3 dc3 pm3 an3 cd3 ct3), sl3⟩) (c3 : PySem.W.codeIn K cd3 "standing_from" = true) (k3 : PySem.W.keepIn K (.ref f3) = true)
    (a4 : PySem.W.nsIn K mainGlobals "standing_tree" = some (some (.ref f4))) (l4 : K.lookup f4 = some ⟨oc4, od4, .func (PySem.W.fnOf "standing_tree" "standing_tree" (defArgs tStand) (defBody tStand) (defScope tStand) .none kV4 dc4 pm4 an4 cd4 ct4), sl4⟩) (c4 : PySem.W.codeIn K cd4 "standing_tree" = true) (k4 : PySem.W.keepIn K (.ref f4) = true)
    (a5 : PySem.W.nsIn K mainGlobals "end_of" = some (some (.ref f5))) (l5 : K.lookup f5 = some ⟨oc5, od5, .func (PySem.W.fnOf "end_of" "end_of" (defArgs tEnd) (defBody tEnd) (defScope tEnd) .none kV5 dc5 pm5 an5 cd5 ct5), sl5⟩) (c5 : PySem.W.codeIn K cd5 "end_of" = true) (k5 : PySem.W.keepIn K (.ref f5) = true)
    (a6 : PySem.W.nsIn K mainGlobals "ahead_end" = some (some (.ref f6))) (l6 : K.lookup f6 = some ⟨oc6, od6, .func (PySem.W.fnOf "ahead_end" "ahead_end" (defArgs tAhead) (defBody tAhead) (defScope tAhead) .none kV6 dc6 pm6 an6 cd6 ct6), sl6⟩) (c6 : PySem.W.codeIn K cd6 "ahead_end" = true) (k6 : PySem.W.keepIn K (.ref f6) = true)
    (a7 : PySem.W.nsIn K mainGlobals "beats_all" = some (some (.ref f7))) (l7 : K.lookup f7 = some ⟨oc7, od7, .func (PySem.W.fnOf "beats_all" "beats_all" (defArgs tBeats) (defBody tBeats) (defScope tBeats) .none kV7 dc7 pm7 an7 cd7 ct7), sl7⟩) (c7 : PySem.W.codeIn K cd7 "beats_all" = true) (k7 : PySem.W.keepIn K (.ref f7) = true)
    (a8 : PySem.W.nsIn K mainGlobals "chain_behind" = some (some (.ref f8))) (l8 : K.lookup f8 = some ⟨oc8, od8, .func (PySem.W.fnOf "chain_behind" "chain_behind" (defArgs tChain) (defBody tChain) (defScope tChain) .none kV8 dc8 pm8 an8 cd8 ct8), sl8⟩) (c8 : PySem.W.codeIn K cd8 "chain_behind" = true) (k8 : PySem.W.keepIn K (.ref f8) = true)
    (a9 : PySem.W.nsIn K mainGlobals "_law_cell_at" = some (some (.ref f9))) (l9 : K.lookup f9 = some ⟨oc9, od9, .func (PySem.W.fnOf "_law_cell_at" "_law_cell_at" (defArgs tCell) (defBody tCell) (defScope tCell) .none kV9 dc9 pm9 an9 cd9 ct9), sl9⟩) (c9 : PySem.W.codeIn K cd9 "_law_cell_at" = true) (k9 : PySem.W.keepIn K (.ref f9) = true)
    (a10 : PySem.W.nsIn K mainGlobals "_law_whole" = some (some (.ref f10))) (l10 : K.lookup f10 = some ⟨oc10, od10, .func (PySem.W.fnOf "_law_whole" "_law_whole" (defArgs tWhole) (defBody tWhole) (defScope tWhole) .none kV10 dc10 pm10 an10 cd10 ct10), sl10⟩) (c10 : PySem.W.codeIn K cd10 "_law_whole" = true) (k10 : PySem.W.keepIn K (.ref f10) = true)
    (a11 : PySem.W.nsIn K mainGlobals "_law_bits" = some (some (.ref f11))) (l11 : K.lookup f11 = some ⟨oc11, od11, .func (PySem.W.fnOf "_law_bits" "_law_bits" (defArgs tBits) (defBody tBits) (defScope tBits) .none kV11 dc11 pm11 an11 cd11 ct11), sl11⟩) (c11 : PySem.W.codeIn K cd11 "_law_bits" = true) (k11 : PySem.W.keepIn K (.ref f11) = true)
    (a12 : PySem.W.nsIn K mainGlobals "_law_order" = some (some (.ref f12))) (l12 : K.lookup f12 = some ⟨oc12, od12, .func (PySem.W.fnOf "_law_order" "_law_order" (defArgs tOrder) (defBody tOrder) (defScope tOrder) .none kV12 dc12 pm12 an12 cd12 ct12), sl12⟩) (c12 : PySem.W.codeIn K cd12 "_law_order" = true) (k12 : PySem.W.keepIn K (.ref f12) = true)
    (a13 : PySem.W.nsIn K mainGlobals "_law_chain" = some (some (.ref f13))) (l13 : K.lookup f13 = some ⟨oc13, od13, .func (PySem.W.fnOf "_law_chain" "_law_chain" (defArgs tLChain) (defBody tLChain) (defScope tLChain) .none kV13 dc13 pm13 an13 cd13 ct13), sl13⟩) (c13 : PySem.W.codeIn K cd13 "_law_chain" = true) (k13 : PySem.W.keepIn K (.ref f13) = true)
    (a14 : PySem.W.nsIn K mainGlobals "_law_left_out" = some (some (.ref f14))) (l14 : K.lookup f14 = some ⟨oc14, od14, .func (PySem.W.fnOf "_law_left_out" "_law_left_out" (defArgs tLeft) (defBody tLeft) (defScope tLeft) .none kV14 dc14 pm14 an14 cd14 ct14), sl14⟩) (c14 : PySem.W.codeIn K cd14 "_law_left_out" = true) (k14 : PySem.W.keepIn K (.ref f14) = true)
    (a15 : PySem.W.nsIn K mainGlobals "law" = some (some (.ref f15))) (l15 : K.lookup f15 = some ⟨oc15, od15, .func (PySem.W.fnOf "law" "law" (defArgs tLaw) (defBody tLaw) (defScope tLaw) .none kV15 dc15 pm15 an15 cd15 ct15), sl15⟩) (c15 : PySem.W.codeIn K cd15 "law" = true) (k15 : PySem.W.keepIn K (.ref f15) = true)
    (z1 : PySem.W.nsIn K mainGlobals "isinstance" = some none)
    (z2 : PySem.W.nsIn K mainGlobals "tuple" = some none)
    (z3 : PySem.W.nsIn K mainGlobals "sorted" = some none)
    (z4 : PySem.W.nsIn K mainGlobals "list" = some none)
    (z5 : PySem.W.nsIn K mainGlobals "range" = some none)
    (z6 : PySem.W.nsIn K mainGlobals "len" = some none)
    (z7 : PySem.W.nsIn K mainGlobals "reversed" = some none)
    (z8 : PySem.W.nsIn K mainGlobals "int" = some none)
    (z9 : PySem.W.nsIn K mainGlobals "bool" = some none)
    : ∃ fd : FuncData, (∀ (s : Shared) (v : Value), BindsTo s fd ⟨[v], []⟩ [("script", v)]) ∧ ∀ base : Heap, K.In base → base.Ns mainGlobals mg → FnOk l.prog w K mg base CX0 11 fa fd ["script"] (spLaw K) := by
  have e := hfa.symm.trans (PySem.W.mg_of X G a15)
  cases e
  have F1 := fun_mk (st := tGood) l1 c1 k1
  have F2 := fun_mk (st := tAsk) l2 c2 k2
  have F3 := fun_mk (st := tFrom) l3 c3 k3
  have F4 := fun_mk (st := tStand) l4 c4 k4
  have F5 := fun_mk (st := tEnd) l5 c5 k5
  have F6 := fun_mk (st := tAhead) l6 c6 k6
  have F7 := fun_mk (st := tBeats) l7 c7 k7
  have F8 := fun_mk (st := tChain) l8 c8 k8
  have F9 := fun_mk (st := tCell) l9 c9 k9
  have F10 := fun_mk (st := tWhole) l10 c10 k10
  have F11 := fun_mk (st := tBits) l11 c11 k11
  have F12 := fun_mk (st := tOrder) l12 c12 k12
  have F13 := fun_mk (st := tLChain) l13 c13 k13
  have F14 := fun_mk (st := tLeft) l14 c14 k14
  have F15 := fun_mk (st := tLaw) l15 c15 k15
  have b1 := F1.binds (ps := ["tree", "many"]) fun _ _ _ _ _ _ us hl => match us, hl with | [_, _], _ => rfl
  have b2 := F2.binds (ps := ["order", "many"]) fun _ _ _ _ _ _ us hl => match us, hl with | [_, _], _ => rfl
  have b3 := F3.binds (ps := ["thing", "rest"]) fun _ _ _ _ _ _ us hl => match us, hl with | [_, _], _ => rfl
  have b4 := F4.binds (ps := ["order"]) fun _ _ _ _ _ _ us hl => match us, hl with | [_], _ => rfl
  have b5 := F5.binds (ps := ["table", "tree"]) fun _ _ _ _ _ _ us hl => match us, hl with | [_, _], _ => rfl
  have b6 := F6.binds (ps := ["table", "tree"]) fun _ _ _ _ _ _ us hl => match us, hl with | [_, _], _ => rfl
  have b7 := F7.binds (ps := ["table", "thing", "things"]) fun _ _ _ _ _ _ us hl => match us, hl with | [_, _, _], _ => rfl
  have b8 := F8.binds (ps := ["table", "order"]) fun _ _ _ _ _ _ us hl => match us, hl with | [_, _], _ => rfl
  have b9 := F9.binds (ps := ["script", "k"]) fun _ _ _ _ _ _ us hl => match us, hl with | [_, _], _ => rfl
  have b10 := F10.binds (ps := ["found"]) fun _ _ _ _ _ _ us hl => match us, hl with | [_], _ => rfl
  have b11 := F11.binds (ps := ["cells", "many"]) fun _ _ _ _ _ _ us hl => match us, hl with | [_, _], _ => rfl
  have b12 := F12.binds (ps := ["cell", "many"]) fun _ _ _ _ _ _ us hl => match us, hl with | [_, _], _ => rfl
  have b13 := F13.binds (ps := ["table", "chain"]) fun _ _ _ _ _ _ us hl => match us, hl with | [_, _], _ => rfl
  have b14 := F14.binds (ps := ["table", "order", "chain"]) fun _ _ _ _ _ _ us hl => match us, hl with | [_, _, _], _ => rfl
  have m1 := PySem.W.mg_of X G a1
  have m2 := PySem.W.mg_of X G a2
  have m3 := PySem.W.mg_of X G a3
  have m4 := PySem.W.mg_of X G a4
  have m5 := PySem.W.mg_of X G a5
  have m6 := PySem.W.mg_of X G a6
  have m7 := PySem.W.mg_of X G a7
  have m8 := PySem.W.mg_of X G a8
  have m9 := PySem.W.mg_of X G a9
  have m10 := PySem.W.mg_of X G a10
  have m11 := PySem.W.mg_of X G a11
  have m12 := PySem.W.mg_of X G a12
  have m13 := PySem.W.mg_of X G a13
  have m14 := PySem.W.mg_of X G a14
  have mI := PySem.W.mg_none_of X G z1
  have mT := PySem.W.mg_none_of X G z2
  have mS := PySem.W.mg_none_of X G z3
  have mL := PySem.W.mg_none_of X G z4
  have mR := PySem.W.mg_none_of X G z5
  have ml := PySem.W.mg_none_of X G z6
  have mV := PySem.W.mg_none_of X G z7
  have mN := PySem.W.mg_none_of X G z8
  have mB := PySem.W.mg_none_of X G z9
  refine ⟨PySem.W.fnOf "law" "law" (defArgs tLaw) (defBody tLaw) (defScope tLaw) .none kV15 dc15 pm15 an15 cd15 ct15, fun s v => .of_eq rfl, fun base _ _ => ?_⟩
  have GA := ok_ask (P := l.prog) (w := w) (base := base) F2 mS mL mR
  have GG := ok_good (P := l.prog) (w := w) (base := base) F1 b1 m1 mI mT 9
  have GF := ok_from (P := l.prog) (w := w) (base := base) F3 b3 m3 ml 9
  have GE := ok_end (P := l.prog) (w := w) (base := base) F5 b5 m5 mI mT 9
  have GB := ok_beats (P := l.prog) (w := w) (mg := mg) (base := base) F7
  exact ok_law F15 ⟨ok_cell F9 ml, b9, k9, m9⟩ ⟨ok_whole F10 mI mN mB, b10, k10, m10⟩ ⟨ok_bits F11 ml mR, b11, k11, m11⟩ ⟨ok_order F12 mR, b12, k12, m12⟩ ⟨ok_lchain F13 mR ml, b13, k13, m13⟩ ⟨ok_left F14 ml, b14, k14, m14⟩
    ⟨ok_chain F8 GA b2 k2 m2 GB b7 k7 m7 ml mV, b8, k8, m8⟩ ⟨ok_stand F4 GA b2 k2 m2 GF b3 k3 m3 ml, b4, k4, m4⟩ ⟨ok_ahead F6 GG b1 k1 m1 GE b5 k5 m5 ml, b6, k6, m6⟩ ml mI mL
end Ch
open PySem PySem.W PyProof.Rows
set_option maxRecDepth 100000 in
set_option maxHeartbeats 0 in
theorem PySem.Challenge.cw_askorder_k37_whole_chains_behind_holds : PySem.Challenge.rw_askorder_k37_whole_chains_behind.Holds := by
  w_on; o_law; k_head; (case hw => w_witness2)
  k_fill
  refine L2.walk_of (l := PySem.Challenge.rw_askorder_k37_whole_chains_behind) (n := 63) (k := 11) (x := "script") (CX := fun _ => L2.CX0) (sp := fun w => Ch.spLaw _) rfl (by decide) rfl ⟨rfl, by decide, by decide⟩ (fun w h Y => PySem.W.kIn_of Y) ?F
    (fun _ _ a ns hl _ hS => ⟨a, ns, rfl, hS, hl, fun _ => rfl⟩) (fun _ _ _ _ _ h => h)
  case F =>
    intro w mg fa h KX G hmg
    refine' Ch.top_facts KX G hmg ?a1 ?l1 ?c1 ?k1 ?a2 ?l2 ?c2 ?k2 ?a3 ?l3 ?c3 ?k3 ?a4 ?l4 ?c4 ?k4 ?a5 ?l5 ?c5 ?k5 ?a6 ?l6 ?c6 ?k6 ?a7 ?l7 ?c7 ?k7 ?a8 ?l8 ?c8 ?k8 ?a9 ?l9 ?c9 ?k9 ?a10 ?l10 ?c10 ?k10 ?a11 ?l11 ?c11 ?k11 ?a12 ?l12 ?c12 ?k12 ?a13 ?l13 ?c13 ?k13 ?a14 ?l14 ?c14 ?k14 ?a15 ?l15 ?c15 ?k15 ?z1 ?z2 ?z3 ?z4 ?z5 ?z6 ?z7 ?z8 ?z9
    (case a1 => k_is)
    (case l1 => k_is)
    (case c1 => k_is)
    (case k1 => k_is)
    (case a2 => k_is)
    (case l2 => k_is)
    (case c2 => k_is)
    (case k2 => k_is)
    (case a3 => k_is)
    (case l3 => k_is)
    (case c3 => k_is)
    (case k3 => k_is)
    (case a4 => k_is)
    (case l4 => k_is)
    (case c4 => k_is)
    (case k4 => k_is)
    (case a5 => k_is)
    (case l5 => k_is)
    (case c5 => k_is)
    (case k5 => k_is)
    (case a6 => k_is)
    (case l6 => k_is)
    (case c6 => k_is)
    (case k6 => k_is)
    (case a7 => k_is)
    (case l7 => k_is)
    (case c7 => k_is)
    (case k7 => k_is)
    (case a8 => k_is)
    (case l8 => k_is)
    (case c8 => k_is)
    (case k8 => k_is)
    (case a9 => k_is)
    (case l9 => k_is)
    (case c9 => k_is)
    (case k9 => k_is)
    (case a10 => k_is)
    (case l10 => k_is)
    (case c10 => k_is)
    (case k10 => k_is)
    (case a11 => k_is)
    (case l11 => k_is)
    (case c11 => k_is)
    (case k11 => k_is)
    (case a12 => k_is)
    (case l12 => k_is)
    (case c12 => k_is)
    (case k12 => k_is)
    (case a13 => k_is)
    (case l13 => k_is)
    (case c13 => k_is)
    (case k13 => k_is)
    (case a14 => k_is)
    (case l14 => k_is)
    (case c14 => k_is)
    (case k14 => k_is)
    (case a15 => k_is)
    (case l15 => k_is)
    (case c15 => k_is)
    (case k15 => k_is)
    (case z1 => k_is)
    (case z2 => k_is)
    (case z3 => k_is)
    (case z4 => k_is)
    (case z5 => k_is)
    (case z6 => k_is)
    (case z7 => k_is)
    (case z8 => k_is)
    (case z9 => k_is)
#print axioms PySem.Challenge.cw_askorder_k37_whole_chains_behind_holds
