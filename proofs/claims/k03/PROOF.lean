import PyProof.Rows.All
import Wide.All
import OpenK.AllK
import Wide.FinOn
import HandS.ForMost
import HandS.IsInst
import HandS.Wide
import HandS.Style
import HandS.Flow
import HandS.TupAny
import HandS.TupMul
import HandS.EndBits
import HandS.Evl
import HandS.Zip
import PySem.Challenge.RW_selfstarts_k03_stands_of_any_kind
set_option Elab.async false
set_option linter.all false
set_option maxRecDepth 100000
set_option maxHeartbeats 4000000
set_option autoImplicit false
/-! PD: what a program over plain data computes, as Lean functions over plain data (states: the slots of a def); each rule of HandS is told once over this reading. -/
namespace PD
open PySem PySem.Spec L2
open Evl (Ex)

abbrev D := PyData
/-- what a slot holds: a datum, or a list that nobody else holds -/
inductive LV where
  | d (x : D)
  | own (xs : List D)
abbrev DE := List (Option LV)
/-- an error that is raised: its class's name, its field -/
structure EV where
  cls : Str
  arg : Option Int
/-- how an expression ends: a value and the slots; an error; or it is not told -/
inductive R (α : Type) where
  | ok (a : α) (ρ : DE)
  | ex (e : EV) (ρ : DE)
  | bad
abbrev M (α : Type) : Type := DE → R α
def M.bind {α β : Type} (m : M α) (k : α → M β) : M β := fun ρ => match m ρ with
  | .ok a ρ1 => k a ρ1
  | .ex e ρ1 => .ex e ρ1
  | .bad => .bad
def M.ret {α : Type} (a : α) : M α := fun ρ => .ok a ρ
def M.lift {α : Type} (o : Option α) : M α := fun ρ => match o with
  | some a => .ok a ρ
  | none => .bad

end PD
namespace L2
open PySem PySem.Spec
open Evl (Ex)
abbrev PDD := PyData
/-! ### data at an address -/
mutual
theorem Dp.mono {K : PySem.W.Frag} {H H' : Hp} (e : Ex H H') : ∀ (d : PDD) (v : V), Dp K H v d → Dp K H' v d
  | .none, _, h => by cases h; exact .non
  | .bool b, _, h => by cases h; exact .bl b
  | .int i, _, h => by cases h; exact .int i
  | .str x, _, h => by cases h; exact .str x
  | .list ds, _, h => by
    cases h with
    | lst hs ha => exact .lst (Evl.ex_l e hs) (DpAll.mono e ds _ ha)
  | .tuple ds, _, h => by
    cases h with
    | tup hs ha => exact .tup (Evl.ex_t e hs) (DpAll.mono e ds _ ha)
  | .dict _, _, h => by cases h
theorem DpAll.mono {K : PySem.W.Frag} {H H' : Hp} (e : Ex H H') : ∀ (ds : List PDD) (vs : List V), DpAll K H vs ds → DpAll K H' vs ds
  | [], _, h => by cases h; exact .nil
  | d :: ds, _, h => by
    cases h with
    | cons h1 h2 => exact .cons (Dp.mono e d _ h1) (DpAll.mono e ds _ h2)
end
section
variable {K : PySem.W.Frag} {H H' : Hp}
theorem DpAll.length : ∀ {vs : List V} {ds : List PDD}, DpAll K H vs ds → vs.length = ds.length
  | _, _, .nil => rfl
  | _, _, .cons _ h => by rw [List.length_cons, List.length_cons, DpAll.length h]
theorem DpAll.get : ∀ {vs : List V} {ds : List PDD} {i : Nat} {x : PDD}, DpAll K H vs ds → ds[i]? = some x → ∃ v, vs[i]? = some v ∧ Dp K H v x
  | _, _, _, _, .nil, e => by simp at e
  | _, _, 0, _, .cons h _, e => by
    simp at e
    subst e
    exact ⟨_, rfl, h⟩
  | _, _, i + 1, x, .cons _ h, e => by
    obtain ⟨v, h1, h2⟩ := DpAll.get (i := i) (x := x) h (by simpa using e)
    exact ⟨v, by simpa using h1, h2⟩
theorem DpAll.get' : ∀ {vs : List V} {ds : List PDD} {i : Nat} {v : V}, DpAll K H vs ds → vs[i]? = some v → ∃ x, ds[i]? = some x ∧ Dp K H v x
  | _, _, _, _, .nil, e => by simp at e
  | _, _, 0, _, .cons h _, e => by
    simp at e
    subst e
    exact ⟨_, rfl, h⟩
  | _, _, i + 1, v, .cons _ h, e => by
    obtain ⟨x, h1, h2⟩ := DpAll.get' (i := i) (v := v) h (by simpa using e)
    exact ⟨x, by simpa using h1, h2⟩
theorem DpAll.append : ∀ {vs ws : List V} {ds es : List PDD}, DpAll K H vs ds → DpAll K H ws es → DpAll K H (vs ++ ws) (ds ++ es)
  | _, _, _, _, .nil, h => h
  | _, _, _, _, .cons a b, h => .cons a (DpAll.append b h)
theorem DpAll.take : ∀ {vs : List V} {ds : List PDD} (n : Nat), DpAll K H vs ds → DpAll K H (vs.take n) (ds.take n)
  | _, _, 0, _ => .nil
  | _, _, _ + 1, .nil => .nil
  | _, _, n + 1, .cons a b => .cons a (DpAll.take n b)
theorem DpAll.drop : ∀ {vs : List V} {ds : List PDD} (n : Nat), DpAll K H vs ds → DpAll K H (vs.drop n) (ds.drop n)
  | _, _, 0, h => h
  | _, _, _ + 1, .nil => .nil
  | _, _, n + 1, .cons _ b => DpAll.drop n b
theorem DpAll.set : ∀ {vs : List V} {ds : List PDD} {v : V} {x : PDD} (i : Nat), DpAll K H vs ds → Dp K H v x → DpAll K H (vs.set i v) (ds.set i x)
  | _, _, _, _, _, .nil, _ => .nil
  | _, _, _, _, 0, .cons _ b, h => .cons h b
  | _, _, _, _, i + 1, .cons a b, h => .cons a (DpAll.set i b h)
theorem DpAll.rep : ∀ {vs : List V} {ds : List PDD} (n : Nat), DpAll K H vs ds → DpAll K H (List.replicate n vs).flatten (List.replicate n ds).flatten
  | _, _, 0, _ => .nil
  | vs, ds, n + 1, h => by
    rw [List.replicate_succ, List.replicate_succ, List.flatten_cons, List.flatten_cons]
    exact DpAll.append h (DpAll.rep n h)
theorem DpAll.dropLast {vs : List V} {ds : List PDD} (h : DpAll K H vs ds) : DpAll K H vs.dropLast ds.dropLast := by
  rw [List.dropLast_eq_take, List.dropLast_eq_take, DpAll.length h]
  exact DpAll.take _ h
theorem Dp.int_of {i : Int} {v : V} (h : Dp K H v (.int i)) : v = .int i := by cases h; rfl
theorem Dp.bool_of {i : Bool} {v : V} (h : Dp K H v (.bool i)) : v = .bl i := by cases h; rfl
theorem Dp.str_of {i : Str} {v : V} (h : Dp K H v (.str i)) : v = .str i := by cases h; rfl
theorem Dp.none_of {v : V} (h : Dp K H v .none) : v = .non := by cases h; rfl
theorem Dp.tup_of {ds : List PDD} {v : V} (h : Dp K H v (.tuple ds)) : ∃ a vs, v = .ref a ∧ SqT K H a vs ∧ DpAll K H vs ds := by
  cases h with
  | tup hs ha => exact ⟨_, _, rfl, hs, ha⟩
theorem Dp.list_of {ds : List PDD} {v : V} (h : Dp K H v (.list ds)) : ∃ a vs, v = .ref a ∧ SqL K H a vs ∧ DpAll K H vs ds := by
  cases h with
  | lst hs ha => exact ⟨_, _, rfl, hs, ha⟩
end

end L2
namespace PD
open PySem PySem.Spec L2
open Evl (Ex)
/-! ### the state of a def, and what it means -/
/-- the def's entry: what was frozen, the heap; the one list that a caller handed in as its own (slot, address); lists that are being made around us; the wish of errors -/
structure Fc where
  Hf0 : Hp
  H0 : Hp
  io : Option (Nat × Addr)
  no : List (Addr × List V)
  E : EV → Hp → Prop
def IsOwn (ρ : DE) (i : Nat) : Prop := ∃ xs : List D, ρ[i]? = some (some (LV.own xs))
structure SR (K : PySem.W.Frag) (C : Fc) (Hf H : Hp) (σ : L2.St) (ρ : DE) : Prop where
  len : σ.length = ρ.length
  e0 : Ex C.Hf0 Hf
  e1 : Ex Hf H
  fresh : ∀ b o, Hf b = some o → C.Hf0 b = some o ∨ C.H0 b = none
  keep : ∀ b o, C.H0 b = some o → (∀ q, C.io = some q → b ≠ q.2) → H b = some o
  pin : ∀ q, C.io = some q → σ[q.1]? = some (some (.ref q.2)) ∧ IsOwn ρ q.1
  no : ∀ p ∈ C.no, Hf p.1 = none ∧ H p.1 = some (.lst p.2)
  val : ∀ (i : Nat) (x : D), ρ[i]? = some (some (.d x)) → ∃ v, σ[i]? = some (some v) ∧ Dp K Hf v x
  own : ∀ (i : Nat) (xs : List D), ρ[i]? = some (some (.own xs)) → ∃ a vs, σ[i]? = some (some (.ref a)) ∧ Hf a = none ∧ H a = some (.lst vs) ∧ DpAll K Hf vs xs ∧ (C.H0 a = none ∨ ∃ q, C.io = some q ∧ a = q.2) ∧ ∀ p ∈ C.no, a ≠ p.1
  apart : ∀ (i j : Nat) (a : Addr), i ≠ j → IsOwn ρ i → IsOwn ρ j → σ[i]? = some (some (.ref a)) → σ[j]? = some (some (.ref a)) → False

/-- both heaps grow by new objects -/
structure Grow (Hf H Hf' H' : Hp) : Prop where
  f : Ex Hf Hf'
  h : Ex H H'
  s : Ex Hf' H'
  n : ∀ b o, Hf' b = some o → Hf b = some o ∨ H b = none
theorem Grow.refl {Hf H : Hp} (e : Ex Hf H) : Grow Hf H Hf H := ⟨Ex.refl _, Ex.refl _, e, fun _ _ h => .inl h⟩
theorem Grow.trans {Hf H Hf1 H1 Hf2 H2 : Hp} (a : Grow Hf H Hf1 H1) (b : Grow Hf1 H1 Hf2 H2) : Grow Hf H Hf2 H2 :=
  ⟨a.f.trans b.f, a.h.trans b.h, b.s, fun c o h => by
    rcases b.n c o h with h1 | h1
    · exact a.n c o h1
    · exact .inr (Evl.fresh_back a.h h1)⟩
theorem ex_upd2 {Hf H : Hp} {p : Addr} {o : HO} (e : Ex Hf H) : Ex (upd Hf p o) (upd H p o) := fun b u h => by
  by_cases hb : b = p
  · subst hb
    rw [upd_same] at h ⊢
    exact h
  · rw [upd_ne hb] at h ⊢
    exact e b u h
/-- a new object, known to all -/
theorem Grow.new {Hf H : Hp} {p : Addr} {o : HO} (e : Ex Hf H) (hp : H p = none) : Grow Hf H (upd Hf p o) (upd H p o) :=
  ⟨Ex.new (Evl.fresh_back e hp), Ex.new hp, ex_upd2 e, fun b u h => by
    by_cases hb : b = p
    · exact .inr (hb ▸ hp)
    · rw [upd_ne hb] at h
      exact .inl h⟩
/-- a new object of ours -/
theorem Grow.mine {Hf H : Hp} {p : Addr} {o : HO} (e : Ex Hf H) (hp : H p = none) : Grow Hf H Hf (upd H p o) :=
  ⟨Ex.refl _, Ex.new hp, e.trans (Ex.new hp), fun _ _ h => .inl h⟩

section
variable {K : PySem.W.Frag} {C : Fc} {Hf H Hf' H' : Hp} {σ : L2.St} {ρ : DE}
theorem SR.h0 (s : SR K C Hf H σ ρ) {p : Addr} (hp : H p = none) : C.H0 p = none := by
  cases hz : C.H0 p with
  | none => rfl
  | some o =>
    by_cases hq : ∀ q, C.io = some q → p ≠ q.2
    · rw [s.keep p o hz hq] at hp
      cases hp
    · cases hi : C.io with
      | none => exact absurd (fun q h => by rw [hi] at h; cases h) hq
      | some q =>
        by_cases e : p = q.2
        · subst e
          obtain ⟨h1, xs, h2⟩ := s.pin q hi
          obtain ⟨a, vs, h3, _, h4, _⟩ := s.own _ _ h2
          rw [h1] at h3
          cases h3
          rw [h4] at hp
          cases hp
        · exact absurd (fun q' h => by rw [hi] at h; cases h; exact e) hq
theorem SR.grow (s : SR K C Hf H σ ρ) (g : Grow Hf H Hf' H') : SR K C Hf' H' σ ρ where
  len := s.len
  e0 := s.e0.trans g.f
  e1 := g.s
  fresh := fun b o h => by
    rcases g.n b o h with h1 | h1
    · exact s.fresh b o h1
    · exact .inr (s.h0 h1)
  keep := fun b o h q => g.h b o (s.keep b o h q)
  pin := s.pin
  no := fun p hp => by
    obtain ⟨h1, h2⟩ := s.no p hp
    refine ⟨?_, g.h _ _ h2⟩
    cases q : Hf' p.1 with
    | none => rfl
    | some o =>
      rcases g.n _ _ q with h3 | h3
      · rw [h1] at h3; cases h3
      · rw [h2] at h3; cases h3
  val := fun i x h => by
    obtain ⟨v, h1, h2⟩ := s.val i x h
    exact ⟨v, h1, Dp.mono g.f _ _ h2⟩
  own := fun i xs h => by
    obtain ⟨a, vs, h1, h2, h3, h4, h5, h6⟩ := s.own i xs h
    refine ⟨a, vs, h1, ?_, g.h _ _ h3, DpAll.mono g.f _ _ h4, h5, h6⟩
    cases q : Hf' a with
    | none => rfl
    | some o =>
      rcases g.n _ _ q with h7 | h7
      · rw [h2] at h7; cases h7
      · rw [h3] at h7; cases h7
  apart := s.apart
theorem get_set {α : Type} {l : List α} {i j : Nat} {x y : α} (h : (l.set i x)[j]? = some y) : (i = j ∧ y = x ∧ j < l.length) ∨ (i ≠ j ∧ l[j]? = some y) := by
  by_cases e : i = j
  · subst e
    by_cases hl : i < l.length
    · rw [List.getElem?_set_self hl] at h
      exact .inl ⟨rfl, (Option.some.inj h).symm, hl⟩
    · rw [List.getElem?_eq_none (by simpa using hl)] at h
      cases h
  · rw [List.getElem?_set_ne e] at h
    exact .inr ⟨e, h⟩
/-- a slot takes a datum -/
theorem SR.setD (s : SR K C Hf H σ ρ) {i : Nat} {v : V} {x : D} (h : Dp K Hf v x) (hp : ∀ q, C.io = some q → q.1 ≠ i) : SR K C Hf H (σ.set i (some v)) (ρ.set i (some (.d x))) := by
  have old : ∀ {j xs}, (ρ.set i (some (.d x)))[j]? = some (some (.own xs)) → i ≠ j ∧ ρ[j]? = some (some (.own xs)) := fun {j xs} h => by
    rcases get_set h with ⟨_, e, _⟩ | h
    · cases e
    · exact h
  refine ⟨by simpa using s.len, s.e0, s.e1, s.fresh, s.keep, fun q hq => ?_, s.no, fun j y hj => ?_, fun j xs hj => ?_, fun j k a hne h1 h2 h3 h4 => ?_⟩
  · have ne := hp q hq
    obtain ⟨h1, xs, h2⟩ := s.pin q hq
    exact ⟨by rw [List.getElem?_set_ne (Ne.symm ne)]; exact h1, xs, by rw [List.getElem?_set_ne (Ne.symm ne)]; exact h2⟩
  · rcases get_set hj with ⟨e, e2, hl⟩ | ⟨ne, hj⟩
    · subst e
      cases e2
      exact ⟨v, List.getElem?_set_self (by rw [s.len]; exact hl), h⟩
    · obtain ⟨v', h1, h2⟩ := s.val j y hj
      exact ⟨v', by rw [List.getElem?_set_ne ne]; exact h1, h2⟩
  · obtain ⟨ne, hj⟩ := old hj
    obtain ⟨a, vs, h1, h2⟩ := s.own j xs hj
    exact ⟨a, vs, by rw [List.getElem?_set_ne ne]; exact h1, h2⟩
  · obtain ⟨xs, h1⟩ := h1
    obtain ⟨ys, h2⟩ := h2
    obtain ⟨n1, h1⟩ := old h1
    obtain ⟨n2, h2⟩ := old h2
    rw [List.getElem?_set_ne n1] at h3
    rw [List.getElem?_set_ne n2] at h4
    exact s.apart j k a hne ⟨xs, h1⟩ ⟨ys, h2⟩ h3 h4
/-- a slot takes a list of our own -/
theorem SR.setO (s : SR K C Hf H σ ρ) {i : Nat} {a : Addr} {vs : List V} {xs : List D} (h1 : Hf a = none) (h2 : H a = some (.lst vs)) (h3 : DpAll K Hf vs xs) (h4 : C.H0 a = none) (h5 : ∀ p ∈ C.no, a ≠ p.1)
    (h6 : ∀ j, IsOwn ρ j → σ[j]? ≠ some (some (.ref a))) (hp : ∀ q, C.io = some q → q.1 ≠ i) : SR K C Hf H (σ.set i (some (.ref a))) (ρ.set i (some (.own xs))) := by
  refine ⟨by simpa using s.len, s.e0, s.e1, s.fresh, s.keep, fun q hq => ?_, s.no, fun j y hj => ?_, fun j ys hj => ?_, fun j k b hne g1 g2 g3 g4 => ?_⟩
  · have ne := hp q hq
    obtain ⟨h1, xs, h2⟩ := s.pin q hq
    exact ⟨by rw [List.getElem?_set_ne (Ne.symm ne)]; exact h1, xs, by rw [List.getElem?_set_ne (Ne.symm ne)]; exact h2⟩
  · rcases get_set hj with ⟨_, e2, _⟩ | ⟨ne, hj⟩
    · cases e2
    · obtain ⟨v', h1, h2⟩ := s.val j y hj
      exact ⟨v', by rw [List.getElem?_set_ne ne]; exact h1, h2⟩
  · rcases get_set hj with ⟨e, e2, hl⟩ | ⟨ne, hj⟩
    · subst e
      cases e2
      exact ⟨a, vs, List.getElem?_set_self (by rw [s.len]; exact hl), h1, h2, h3, .inl h4, h5⟩
    · obtain ⟨b, ws, g1, g2⟩ := s.own j ys hj
      exact ⟨b, ws, by rw [List.getElem?_set_ne ne]; exact g1, g2⟩
  · obtain ⟨ys, g1⟩ := g1
    obtain ⟨zs, g2⟩ := g2
    rcases get_set g1 with ⟨e, _, hl⟩ | ⟨ne, g1⟩
    · subst e
      rcases get_set g2 with ⟨e, _, _⟩ | ⟨ne2, g2⟩
      · exact hne e
      · rw [List.getElem?_set_self (by rw [s.len]; exact hl)] at g3
        cases g3
        rw [List.getElem?_set_ne ne2] at g4
        exact h6 k ⟨_, g2⟩ g4
    · rcases get_set g2 with ⟨e, _, hl⟩ | ⟨ne2, g2⟩
      · subst e
        rw [List.getElem?_set_self (by rw [s.len]; exact hl)] at g4
        cases g4
        rw [List.getElem?_set_ne ne] at g3
        exact h6 j ⟨_, g1⟩ g3
      · rw [List.getElem?_set_ne ne] at g3
        rw [List.getElem?_set_ne ne2] at g4
        exact s.apart j k b hne ⟨_, g1⟩ ⟨_, g2⟩ g3 g4
/-- a list of our own changes -/
theorem SR.mut (s : SR K C Hf H σ ρ) {i : Nat} {a : Addr} {vs : List V} {xs ys : List D} (hi : ρ[i]? = some (some (.own ys))) (ha : σ[i]? = some (some (.ref a))) (h3 : DpAll K Hf vs xs) :
    SR K C Hf (upd H a (.lst vs)) σ (ρ.set i (some (.own xs))) := by
  obtain ⟨a', us, g1, g2, g3, g4, g5, g6⟩ := s.own i ys hi
  rw [ha] at g1
  cases g1
  have hown : ∀ {j}, IsOwn (ρ.set i (some (.own xs))) j → IsOwn ρ j := fun {j} ⟨zs, h⟩ => by
    rcases get_set h with ⟨e, _, _⟩ | ⟨_, h⟩
    · subst e; exact ⟨ys, hi⟩
    · exact ⟨zs, h⟩
  refine ⟨by simpa using s.len, s.e0, fun b o h => ?_, s.fresh, fun b o h q => ?_, fun q hq => ?_, fun p hp => ?_, fun j y hj => ?_, fun j zs hj => ?_, fun j k b hne h1 h2 h3 h4 => s.apart j k b hne (hown h1) (hown h2) h3 h4⟩
  · have nb : b ≠ a := fun e => by rw [e, g2] at h; cases h
    rw [upd_ne nb]
    exact s.e1 b o h
  · have nb : b ≠ a := fun e => by
      subst e
      rcases g5 with g5 | ⟨q', h1, h2⟩
      · rw [g5] at h; cases h
      · exact q q' h1 h2
    rw [upd_ne nb]
    exact s.keep b o h q
  · obtain ⟨h1, zs, h2⟩ := s.pin q hq
    refine ⟨h1, ?_⟩
    by_cases e : i = q.1
    · subst e
      exact ⟨xs, List.getElem?_set_self (List.getElem?_eq_some_iff.mp hi).1⟩
    · exact ⟨zs, by rw [List.getElem?_set_ne e]; exact h2⟩
  · obtain ⟨h1, h2⟩ := s.no p hp
    exact ⟨h1, by rw [upd_ne (Ne.symm (g6 p hp))]; exact h2⟩
  · rcases get_set hj with ⟨_, e2, _⟩ | ⟨ne, hj⟩
    · cases e2
    · exact s.val j y hj
  · rcases get_set hj with ⟨e, e2, hl⟩ | ⟨ne, hj⟩
    · subst e
      cases e2
      exact ⟨a, vs, ha, g2, upd_same, h3, g5, g6⟩
    · obtain ⟨b, ws, q1, q2, q3, q4⟩ := s.own j zs hj
      have nb : b ≠ a := fun e => by
        subst e
        exact s.apart i j b ne ⟨ys, hi⟩ ⟨zs, hj⟩ ha q1
      exact ⟨b, ws, q1, q2, by rw [upd_ne nb]; exact q3, q4⟩
/-- a list of our own is known to all from now on -/
theorem SR.freeze (s : SR K C Hf H σ ρ) {i : Nat} {xs : List D} (hi : ρ[i]? = some (some (.own xs))) (hp : ∀ q, C.io = some q → q.1 ≠ i) :
    ∃ a vs, σ[i]? = some (some (.ref a)) ∧ H a = some (.lst vs) ∧ Ex Hf (upd Hf a (.lst vs)) ∧ SR K C (upd Hf a (.lst vs)) H σ (ρ.set i (some (.d (.list xs)))) := by
  obtain ⟨a, vs, g1, g2, g3, g4, g5, g6⟩ := s.own i xs hi
  have ee : Ex Hf (upd Hf a (.lst vs)) := Ex.new g2
  have hl : i < ρ.length := (List.getElem?_eq_some_iff.mp hi).1
  have old : ∀ {j zs}, (ρ.set i (some (.d (.list xs))))[j]? = some (some (.own zs)) → i ≠ j ∧ ρ[j]? = some (some (.own zs)) := fun {j zs} h => by
    rcases get_set h with ⟨_, e, _⟩ | h
    · cases e
    · exact h
  have nio : ∀ q, C.io = some q → a ≠ q.2 := fun q hq e => by
    obtain ⟨h1, zs, h2⟩ := s.pin q hq
    have ne := hp q hq
    exact s.apart i q.1 a (Ne.symm ne) ⟨xs, hi⟩ ⟨zs, h2⟩ g1 (by rw [e]; exact h1)
  refine ⟨a, vs, g1, g3, ee, by simpa using s.len, s.e0.trans ee, fun b o h => ?_, fun b o h => ?_, s.keep, fun q hq => ?_, fun p hpn => ?_, fun j y hj => ?_, fun j zs hj => ?_, fun j k b hne h1 h2 h3 h4 => ?_⟩
  · by_cases hb : b = a
    · subst hb
      rw [upd_same] at h
      rw [g3]; exact h
    · rw [upd_ne hb] at h
      exact s.e1 b o h
  · by_cases hb : b = a
    · subst hb
      rcases g5 with g5 | ⟨q', h1, h2⟩
      · exact .inr g5
      · exact absurd h2 (nio q' h1)
    · rw [upd_ne hb] at h
      exact s.fresh b o h
  · obtain ⟨h1, zs, h2⟩ := s.pin q hq
    exact ⟨h1, zs, by rw [List.getElem?_set_ne (Ne.symm (hp q hq))]; exact h2⟩
  · obtain ⟨h1, h2⟩ := s.no p hpn
    exact ⟨by rw [upd_ne (Ne.symm (g6 p hpn))]; exact h1, h2⟩
  · rcases get_set hj with ⟨e, e2, _⟩ | ⟨ne, hj⟩
    · subst e
      cases e2
      exact ⟨.ref a, g1, .lst (SqL.of upd_same) (DpAll.mono ee _ _ g4)⟩
    · obtain ⟨v, h1, h2⟩ := s.val j y hj
      exact ⟨v, h1, Dp.mono ee _ _ h2⟩
  · obtain ⟨ne, hj⟩ := old hj
    obtain ⟨b, ws, q1, q2, q3, q4, q5, q6⟩ := s.own j zs hj
    have nb : b ≠ a := fun e => by
      subst e
      exact s.apart i j b ne ⟨xs, hi⟩ ⟨zs, hj⟩ g1 q1
    exact ⟨b, ws, q1, by rw [upd_ne nb]; exact q2, q3, DpAll.mono ee _ _ q4, q5, q6⟩
  · obtain ⟨ys, h1⟩ := h1
    obtain ⟨zs, h2⟩ := h2
    obtain ⟨n1, h1⟩ := old h1
    obtain ⟨n2, h2⟩ := old h2
    exact s.apart j k b hne ⟨_, h1⟩ ⟨_, h2⟩ h3 h4
end
end PD

set_option maxRecDepth 100000
set_option maxHeartbeats 4000000
set_option autoImplicit false
namespace PD
open PySem PySem.Spec L2
open Evl (Ex)

/-! ### readings -/
section
variable (K : PySem.W.Frag) (C : Fc)
/-- what must hold of a way's end -/
def PostG {α β : Type} (σ : L2.St) (rel : Hp → Hp → DE → β → α → Prop) (Hf : Hp) (r : R α) (Q : β → Hp → Prop) : Prop :=
  match r with
  | .ok x ρ' => ∀ (b : β) (H' Hf' : Hp), Ex Hf Hf' → SR K C Hf' H' σ ρ' → rel Hf' H' ρ' b x → Q b H'
  | .ex e ρ' => ∀ (H' Hf' : Hp), Ex Hf Hf' → SR K C Hf' H' σ ρ' → C.E e H'
  | .bad => False
def tG {α β : Type} (rel : L2.St → Hp → Hp → DE → β → α → Prop) (f : M α) : L2.St → Hp → (β → Hp → Prop) → Prop := fun σ H Q =>
  ∃ Hf ρ, SR K C Hf H σ ρ ∧ PostG K C σ (rel σ) Hf (f ρ) Q
def relD : L2.St → Hp → Hp → DE → V → D → Prop := fun _ Hf _ _ v x => Dp K Hf v x
def relB : L2.St → Hp → Hp → DE → Bool → Bool → Prop := fun _ _ _ _ b x => b = x
def relO : L2.St → Hp → Hp → DE → Option Int → Option Int → Prop := fun _ _ _ _ b x => b = x
/-- a new list of ours -/
def relL : L2.St → Hp → Hp → DE → V → List D → Prop := fun σ Hf H ρ v xs => ∃ a vs, v = .ref a ∧ Hf a = none ∧ H a = some (.lst vs) ∧ DpAll K Hf vs xs ∧ C.H0 a = none ∧ (∀ p ∈ C.no, a ≠ p.1) ∧ ∀ j, IsOwn ρ j → σ[j]? ≠ some (some (.ref a))
/-- an argument: a datum, or the list at a slot -/
inductive Arg where
  | dat (x : D)
  | slot (i : Nat)
inductive ArgsRel (σ : L2.St) (Hf : Hp) : List V → List Arg → Prop
  | nil : ArgsRel σ Hf [] []
  | dat {v : V} {x : D} {vs : List V} {as : List Arg} (h : Dp K Hf v x) (t : ArgsRel σ Hf vs as) : ArgsRel σ Hf (v :: vs) (.dat x :: as)
  | slot {v : V} {i : Nat} {vs : List V} {as : List Arg} (h : σ[i]? = some (some v)) (t : ArgsRel σ Hf vs as) : ArgsRel σ Hf (v :: vs) (.slot i :: as)
def relA : L2.St → Hp → Hp → DE → List V → List Arg → Prop := fun σ Hf _ _ vs as => ArgsRel K σ Hf vs as
/-- what a loop walks: it yields just these data -/
def relI : L2.St → Hp → Hp → DE → It → List D → Prop := fun _ Hf _ _ J xs =>
  (∀ (i : Nat) (Hf1 H : Hp) (x : D), Ex Hf Hf1 → Ex Hf1 H → xs[i]? = some x → J.go i H ∧ ∀ v H2, J.yld i H v H2 → ∃ Hf2, Grow Hf1 H Hf2 H2 ∧ Dp K Hf2 v x) ∧
  ∀ (i : Nat) (Hf1 H : Hp), Ex Hf Hf1 → Ex Hf1 H → xs.length ≤ i → J.stop i H
end
section
variable (X : Cx) (C : Fc)
def PDe (e : Expr) (f : M D) : Prop := PE X e (tG X.K C (relD X.K) f)
def PDt (e : Expr) (f : M Bool) : Prop := PT X e (tG X.K C relB f)
def PDw (e : Expr) (f : M Bool) : Prop := PW X e (tG X.K C relB f)
def PDa (es : List Expr) (f : M (List Arg)) : Prop := PA X es (tG X.K C (relA X.K) f)
def PDl (e : Expr) (f : M (List D)) : Prop := PE X e (tG X.K C (relL X.K C) f)
def PDo (e : Option Expr) (f : M (Option Int)) : Prop := PO X e (tG X.K C relO f)
def PDi (tg iter : Expr) (f : M (List D)) : Prop := PI X tg iter (tG X.K C (relI X.K) f)
end
/-! ### weakening of readings -/
section
variable {X : Cx} {C : Fc}
theorem pe_imp {e : Expr} {t t' : TE} (h : PE X e t) (w : ∀ σ H Q, t' σ H Q → t σ H Q) : PE X e t' := ⟨fun pins s σ H Q I q => h.run pins s σ H Q I (w σ H Q q)⟩
theorem pt_imp {e : Expr} {t t' : TT} (h : PT X e t) (w : ∀ σ H Q, t' σ H Q → t σ H Q) : PT X e t' := ⟨fun pins s σ H Q I q => h.run pins s σ H Q I (w σ H Q q)⟩
theorem pw_imp {e : Expr} {t t' : TT} (h : PW X e t) (w : ∀ σ H Q, t' σ H Q → t σ H Q) : PW X e t' := ⟨fun wh pins s σ H Q I q => h.run wh pins s σ H Q I (w σ H Q q)⟩
theorem pa_imp {es : List Expr} {t t' : TA} (h : PA X es t) (w : ∀ σ H Q, t' σ H Q → t σ H Q) : PA X es t' := ⟨fun pos pins s σ H Q I q => h.run pos pins s σ H Q I (w σ H Q q)⟩
theorem po_imp {e : Option Expr} {t t' : TO} (h : PO X e t) (w : ∀ σ H Q, t' σ H Q → t σ H Q) : PO X e t' := ⟨fun pins s σ H Q I q => h.run pins s σ H Q I (w σ H Q q)⟩
theorem pi_imp {tg e : Expr} {t t' : TI} (h : PI X tg e t) (w : ∀ σ H Q, t' σ H Q → t σ H Q) : PI X tg e t' := ⟨fun pins s σ H Q I q => h.run pins s σ H Q I (w σ H Q q)⟩
theorem ps_imp {st : Stmt} {t t' : TS} (h : PS X st t) (w : ∀ D σ H, t' D σ H → t D σ H) : PS X st t' := ⟨fun pins s σ H D I q => h.run pins s σ H D I (w D σ H q)⟩
theorem pss_imp {st : List Stmt} {t t' : TS} (h : PSs X st t) (w : ∀ D σ H, t' D σ H → t D σ H) : PSs X st t' := ⟨fun pins s σ H D I q => h.run pins s σ H D I (w D σ H q)⟩
end
section
variable {K : PySem.W.Frag} {C : Fc} {α β γ δ : Type} {σ : L2.St} {Hf Hf' H : Hp}
theorem PostG.mono {rel : Hp → Hp → DE → β → α → Prop} {r : R α} {Q : β → Hp → Prop} (e : Ex Hf Hf') (h : PostG K C σ rel Hf r Q) : PostG K C σ rel Hf' r Q := by
  cases r with
  | ok x ρ' => exact fun b H' Hf'' e' s q => h b H' Hf'' (e.trans e') s q
  | ex x ρ' => exact fun H' Hf'' e' s => h H' Hf'' (e.trans e') s
  | bad => exact h
/-- first f, then the rest -/
theorem tG_bind {rel : L2.St → Hp → Hp → DE → β → α → Prop} {rel2 : Hp → Hp → DE → δ → γ → Prop} {f : M α} {k : α → M γ} {ρ : DE} {Q : δ → Hp → Prop} {Q1 : β → Hp → Prop} (s : SR K C Hf H σ ρ) (h : PostG K C σ rel2 Hf (M.bind f k ρ) Q)
    (w : ∀ (b : β) (x : α) (H1 Hf1 : Hp) (ρ1 : DE), Ex Hf Hf1 → SR K C Hf1 H1 σ ρ1 → rel σ Hf1 H1 ρ1 b x → PostG K C σ rel2 Hf1 (k x ρ1) Q → Q1 b H1) : tG K C rel f σ H Q1 := by
  refine ⟨Hf, ρ, s, ?_⟩
  unfold M.bind at h
  cases hf : f ρ with
  | ok x ρ1 =>
    rw [hf] at h
    exact fun b H1 Hf1 e s1 r => w b x H1 Hf1 ρ1 e s1 r (PostG.mono e h)
  | ex x ρ1 =>
    rw [hf] at h
    exact h
  | bad =>
    rw [hf] at h
    exact h.elim
/-- a value that needs nothing new -/
theorem PostG.now {rel : Hp → Hp → DE → β → α → Prop} {x : α} {ρ : DE} {Q : β → Hp → Prop} {b : β} (h : PostG K C σ rel Hf (.ok x ρ) Q) (s : SR K C Hf H σ ρ) (r : rel Hf H ρ b x) : Q b H := h b H Hf (Ex.refl _) s r
theorem PostG.nowG {rel : Hp → Hp → DE → β → α → Prop} {x : α} {ρ : DE} {Q : β → Hp → Prop} {b : β} {H' : Hp} (h : PostG K C σ rel Hf (.ok x ρ) Q) (s : SR K C Hf H σ ρ) (g : Grow Hf H Hf' H') (r : rel Hf' H' ρ b x) : Q b H' := h b H' Hf' g.f (s.grow g) r
theorem PostG.lift {rel : Hp → Hp → DE → β → α → Prop} {o : Option α} {ρ : DE} {Q : β → Hp → Prop} (h : PostG K C σ rel Hf (M.lift o ρ) Q) : ∃ x, o = some x ∧ PostG K C σ rel Hf (.ok x ρ) Q := by
  cases o with
  | some x => exact ⟨x, rfl, h⟩
  | none => exact (show False from h).elim
end

/-! ### names, constants -/
section
variable {X : Cx} {C : Fc} {pos : Pos}
def M.var (i : Nat) : M D := fun ρ => match ρ[i]? with
  | some (some (.d x)) => .ok x ρ
  | _ => .bad
theorem pd_var (i : Nat) {x : Str} (hN : X.N[i]? = some x := by rfl) (hv : Vis X.env.scope x := by first | exact Or.inl rfl | exact Or.inr (Or.inl rfl) | exact Or.inr (Or.inr rfl)) (hd : (x == ("__debug__" : Str)) = false := by decide)
    (hcd : (x == ("__classdict__" : Str)) = false := by decide) : PDe X C (.Name x pos) (M.var i) := pe_imp (pe_var hN hv hd hcd) fun σ H Q ⟨Hf, ρ, s, h⟩ => by
  unfold M.var at h
  split at h
  · rename_i y hy
    obtain ⟨v, h1, h2⟩ := s.val i y hy
    exact ⟨v, h1, h.now s h2⟩
  · exact (show False from h).elim
theorem pd_c {e : Expr} {v : V} {x : D} (h : PE X e (tC v)) (hd : ∀ H, Dp X.K H v x) : PDe X C e (M.ret x) := pe_imp h fun σ H Q ⟨Hf, ρ, s, q⟩ => PostG.now (b := v) q s (hd Hf)
theorem pd_int {i : Int} {j : Nat} : PDe X C (.Constant (.int i) j pos) (M.ret (.int i)) := pd_c pe_int fun _ => .int i
theorem pd_bl {i : Bool} {j : Nat} : PDe X C (.Constant (.bool i) j pos) (M.ret (.bool i)) := pd_c pe_bl fun _ => .bl i
theorem pd_non {j : Nat} : PDe X C (.Constant .none j pos) (M.ret .none) := pd_c pe_non fun _ => .non
theorem pd_str {x : Str} {j : Nat} : PDe X C (.Constant (.str x) j pos) (M.ret (.str x)) := pd_c pe_str fun _ => .str x
/-- a constant of the module -/
theorem pd_glob {x : Str} {v : V} {u : Value} {d : D} (hg : Gl X x) (hm : X.mg x = some u) (r : RelV v u) (hd : ∀ H, Dp X.K H v d) (hdb : (x == ("__debug__" : Str)) = false := by decide) : PDe X C (.Name x pos) (M.ret d) := pd_c (pe_glob hg hm r hdb) hd
end

/-! ### operators -/
section
variable {X : Cx} {C : Fc} {pos : Pos} {a b c : Expr} {f g k : M D}
def M.op2 (o : D → D → Option D) (f g : M D) : M D := M.bind f fun x => M.bind g fun y => M.lift (o x y)
def M.op1 (o : D → Option D) (f : M D) : M D := M.bind f fun x => M.lift (o x)
/-- a two-place operation on data -/
def Op2 (K : PySem.W.Frag) (r : R2) (o : D → D → Option D) : Prop :=
  ∀ (C : Fc) (Hf H : Hp) (σ : L2.St) (ρ : DE) (v w : V) (x y z : D) (Q : VK), SR K C Hf H σ ρ → Dp K Hf v x → Dp K Hf w y → o x y = some z → PostG K C σ (relD K σ) Hf (.ok z ρ) Q → r v w H Q
def Op1 (K : PySem.W.Frag) (r : V → Hp → VK → Prop) (o : D → Option D) : Prop :=
  ∀ (C : Fc) (Hf H : Hp) (σ : L2.St) (ρ : DE) (v : V) (x z : D) (Q : VK), SR K C Hf H σ ρ → Dp K Hf v x → o x = some z → PostG K C σ (relD K σ) Hf (.ok z ρ) Q → r v H Q
theorem op2_go {r : R2} {o : D → D → Option D} (ho : Op2 X.K r o) {σ : L2.St} {H : Hp} {Q : VK} (h : tG X.K C (relD X.K) (M.op2 o f g) σ H Q) : tOp r (tG X.K C (relD X.K) f) (tG X.K C (relD X.K) g) σ H Q := by
  obtain ⟨Hf, ρ, s, h⟩ := h
  refine tG_bind s h fun v x H1 Hf1 ρ1 e1 s1 d1 h1 => ?_
  refine tG_bind s1 h1 fun w y H2 Hf2 ρ2 e2 s2 d2 h2 => ?_
  obtain ⟨z, hz, h3⟩ := h2.lift
  exact ho C Hf2 H2 σ ρ2 v w x y z Q s2 (Dp.mono e2 _ _ d1) d2 hz h3
theorem pd_op {op : Operator} {r : R2} {o : D → D → Option D} (hr : OpR X (binaryOp op) r) (ho : Op2 X.K r o) (ha : PDe X C a f) (hb : PDe X C b g) : PDe X C (.BinOp a op b pos) (M.op2 o f g) :=
  pe_imp (pe_op hr ha hb) fun _ _ _ h => op2_go ho h
theorem pd_un {op : UnaryOp} {r : V → Hp → VK → Prop} {o : D → Option D} (hr : UnR X (unaryOp op) r) (ho : Op1 X.K r o) (ha : PDe X C a f) : PDe X C (.UnaryOp op a pos) (M.op1 o f) :=
  pe_imp (pe_un hr ha) fun σ H Q ⟨Hf, ρ, s, h⟩ => tG_bind s h fun v x H1 Hf1 ρ1 e1 s1 d1 h1 => by
    obtain ⟨z, hz, h3⟩ := h1.lift
    exact ho C Hf1 H1 σ ρ1 v x z Q s1 d1 hz h3
theorem pd_cmp {op : CmpOp} {r : R2} {o : D → D → Option D} (hr : OpR X (compareOp op) r) (ho : Op2 X.K r o) (ha : PDe X C a f) (hb : PDe X C b g) (hm : behindInMarks op b = false) : PDe X C (.Compare a [op] [b] pos) (M.op2 o f g) :=
  pe_imp (pe_cmpR hr ha hb hm) fun _ _ _ h => op2_go ho h
theorem pd_ix {r : R2} {o : D → D → Option D} (hr : IxR X r) (ho : Op2 X.K r o) (ha : PDe X C a f) (hb : PDe X C b g) (hs : PlainIx b) : PDe X C (.Subscript a b pos) (M.op2 o f g) :=
  pe_imp (pe_ix hr ha hb hs) fun _ _ _ h => op2_go ho h
/-- the truth of a comparison -/
def asB : D → Option Bool
  | .bool b => some b
  | _ => none
def M.test (f : M D) : M Bool := M.bind f fun x => M.lift (asB x)
theorem test_go {t : TE} {σ : L2.St} {H : Hp} {Q : Bool → Hp → Prop} (h : tG X.K C relB (M.test f) σ H Q) : tG X.K C (relD X.K) f σ H fun x H' => ∃ k, x = .bl k ∧ Q k H' := by
  obtain ⟨Hf, ρ, s, h⟩ := h
  refine tG_bind s h fun v x H1 Hf1 ρ1 e1 s1 d1 h1 => ?_
  obtain ⟨z, hz, h3⟩ := h1.lift
  cases x <;> first | (cases hz) | skip
  exact ⟨z, Dp.bool_of d1, h3.now s1 rfl⟩
theorem pt_of {e : Expr} {te : TE} (h : PT X e (tTest te)) (w : ∀ σ H Q, tG X.K C (relD X.K) f σ H Q → te σ H Q) : PDt X C e (M.test f) := pt_imp h fun σ H Q q => w σ H _ (test_go (t := te) q)
theorem pdt_cmp {op : CmpOp} {r : R2} {o : D → D → Option D} (hr : OpR X (compareOp op) r) (ho : Op2 X.K r o) (ha : PDe X C a f) (hb : PDe X C b g) (hm : behindInMarks op b = false) : PDt X C (.Compare a [op] [b] pos) (M.test (M.op2 o f g)) :=
  pt_of (pt_cmpR hr ha hb hm) fun _ _ _ h => op2_go ho h
/-- a value that is a truth value, as a test -/
theorem pdt_val {e : Expr} (h : PDe X C e f) (he : ∀ whole, isTrue e X.env whole = (do let v ← whole; standAt e.pos; holding [v] (truthy v)) := by intro _; rfl) : PDt X C e (M.test f) :=
  pt_imp (pt_val h he) fun σ H Q q => test_go (t := tG X.K C (relD X.K) f) q
/-- a op1 b op2 c -/
def M.chain (o o' : D → D → Option D) (f g k : M D) : M D := M.bind f fun x => M.bind g fun y => M.bind (M.lift (o x y)) fun z => M.bind (M.lift (asB z)) fun t => if t = true then M.bind k fun w => M.lift (o' y w) else M.ret (.bool false)
/-- an operation that gives a truth value and makes nothing -/
def Op2B (K : PySem.W.Frag) (r : R2) (o : D → D → Option D) : Prop :=
  ∀ (Hf H : Hp) (v w : V) (x y : D) (z : Bool) (Q : VK), Ex Hf H → Dp K Hf v x → Dp K Hf w y → o x y = some (.bool z) → Q (.bl z) H → r v w H Q
theorem Op2B.op2 {K : PySem.W.Frag} {r : R2} {o : D → D → Option D} (h : Op2B K r o) (hb : ∀ x y z, o x y = some z → ∃ b, z = .bool b) : Op2 K r o := fun C Hf H σ ρ v w x y z Q s d1 d2 e q => by
  obtain ⟨b, rfl⟩ := hb x y z e
  exact h Hf H v w x y b Q s.e1 d1 d2 e (q.now s (.bl b))
theorem chain_go {r r' : R2} {o o' : D → D → Option D} (ho : Op2B X.K r o) (ho' : Op2B X.K r' o') (hb : ∀ x y z, o' x y = some z → ∃ b, z = .bool b) {σ : L2.St} {H : Hp} {Q : VK} (h : tG X.K C (relD X.K) (M.chain o o' f g k) σ H Q) :
    tChain r r' (tG X.K C (relD X.K) f) (tG X.K C (relD X.K) g) (tG X.K C (relD X.K) k) σ H Q := by
  obtain ⟨Hf, ρ, s, h⟩ := h
  refine tG_bind s h fun v x H1 Hf1 ρ1 e1 s1 d1 h1 => ?_
  refine tG_bind s1 h1 fun w y H2 Hf2 ρ2 e2 s2 d2 h2 => ?_
  have hz : ∃ b, o x y = some (.bool b) ∧ PostG X.K C σ (relD X.K σ) Hf2 ((if b = true then M.bind k fun w => M.lift (o' y w) else M.ret (.bool false)) ρ2) Q := by
    unfold M.bind M.lift at h2
    cases hx : o x y with
    | none => rw [hx] at h2; exact (show False from h2).elim
    | some z =>
      rw [hx] at h2
      cases z <;> first | exact (show False from h2).elim | exact ⟨_, rfl, h2⟩
  obtain ⟨b, hb1, h3⟩ := hz
  refine ho Hf2 H2 v w x y b _ s2.e1 (Dp.mono e2 _ _ d1) d2 hb1 ⟨b, rfl, ?_⟩
  cases b with
  | true =>
    refine L2.iteT ?_
    refine tG_bind s2 h3 fun u t H3 Hf3 ρ3 e3 s3 d3 h4 => ?_
    obtain ⟨t', ht, h5⟩ := h4.lift
    obtain ⟨b, rfl⟩ := hb _ _ _ ht
    exact ho' Hf3 H3 w u y t b Q s3.e1 (Dp.mono e3 _ _ d2) d3 ht (h5.now s3 (.bl b))
  | false => exact L2.iteF (PostG.now (b := V.bl false) h3 s2 (.bl false))
theorem pd_chain {op op' : CmpOp} {r r' : R2} {o o' : D → D → Option D} (hr : OpR X (compareOp op) r) (hr' : OpR X (compareOp op') r') (ho : Op2B X.K r o) (ho' : Op2B X.K r' o') (hb : ∀ x y z, o' x y = some z → ∃ b, z = .bool b) (ha : PDe X C a f) (hbb : PDe X C b g) (hc : PDe X C c k)
    (hm : lastMarks [op, op'] [b, c] = false := by with_unfolding_all rfl) : PDe X C (.Compare a [op, op'] [b, c] pos) (M.chain o o' f g k) := pe_imp (pe_chain hr hr' ha hbb hc hm) fun _ _ _ h => chain_go ho ho' hb h
theorem pdt_chain {op op' : CmpOp} {r r' : R2} {o o' : D → D → Option D} (hr : OpR X (compareOp op) r) (hr' : OpR X (compareOp op') r') (ho : Op2B X.K r o) (ho' : Op2B X.K r' o') (hb : ∀ x y z, o' x y = some z → ∃ b, z = .bool b) (ha : PDe X C a f) (hbb : PDe X C b g) (hc : PDe X C c k)
    (hm : lastMarks [op, op'] [b, c] = false := by with_unfolding_all rfl) : PDt X C (.Compare a [op, op'] [b, c] pos) (M.test (M.chain o o' f g k)) := pt_of (pt_chain hr hr' ha hbb hc hm) fun _ _ _ h => chain_go ho ho' hb h
end

/-! ### and, or, not, if-else -/
section
variable {X : Cx} {C : Fc} {pos : Pos} {a b c : Expr} {rest : List Expr} {f g : M D} {p q : M Bool}
def M.andT (p q : M Bool) : M Bool := M.bind p fun b => if b = true then q else M.ret false
def M.orT (p q : M Bool) : M Bool := M.bind p fun b => if b = true then M.ret true else q
def M.notT (p : M Bool) : M Bool := M.bind p fun b => M.ret (!b)
theorem pdw_and1 (ha : PDt X C a p) : PDw X C (.BoolOp .And [a] pos) p := pw_and1 ha
theorem pdw_or1 (ha : PDt X C a p) : PDw X C (.BoolOp .Or [a] pos) p := pw_or1 ha
theorem pdw_and (ha : PDt X C a p) (hb : PDw X C (.BoolOp .And (b :: rest) pos) q) : PDw X C (.BoolOp .And (a :: b :: rest) pos) (M.andT p q) := pw_imp (pw_and ha hb) fun σ H Q ⟨Hf, ρ, s, h⟩ =>
  tG_bind s h fun v x H1 Hf1 ρ1 e1 s1 d1 h1 => by
    have d1 : v = x := d1
    subst d1
    cases v with
    | true => exact L2.iteT ⟨Hf1, ρ1, s1, h1⟩
    | false => exact L2.iteF (PostG.now (b := false) h1 s1 rfl)
theorem pdw_or (ha : PDt X C a p) (hb : PDw X C (.BoolOp .Or (b :: rest) pos) q) : PDw X C (.BoolOp .Or (a :: b :: rest) pos) (M.orT p q) := pw_imp (pw_or ha hb) fun σ H Q ⟨Hf, ρ, s, h⟩ =>
  tG_bind s h fun v x H1 Hf1 ρ1 e1 s1 d1 h1 => by
    have d1 : v = x := d1
    subst d1
    cases v with
    | true => exact L2.iteT (PostG.now (b := true) h1 s1 rfl)
    | false => exact L2.iteF ⟨Hf1, ρ1, s1, h1⟩
theorem pdt_w (h : PDw X C a p) : PDt X C a p := PW.pt h
theorem pdt_not (ha : PDt X C a p) : PDt X C (.UnaryOp .Not a pos) (M.notT p) := pt_imp (pt_not ha) fun σ H Q ⟨Hf, ρ, s, h⟩ =>
  tG_bind s h fun v x H1 Hf1 ρ1 e1 s1 d1 h1 => by
    have d1 : v = x := d1
    subst d1
    exact PostG.now (b := !v) h1 s1 rfl
/-- .. as values -/
def M.andV (f g : M D) : M D := M.bind f fun x => M.bind (M.lift (asB x)) fun b => if b = true then g else M.ret (.bool false)
def M.orV (f g : M D) : M D := M.bind f fun x => M.bind (M.lift (asB x)) fun b => if b = true then M.ret (.bool true) else g
def notD : D → Option D
  | .bool b => some (.bool !b)
  | _ => none
theorem pd_one {op} (h : PDe X C a f) : PDe X C (.BoolOp op [a] pos) f := pe_one h
theorem bv {Hf H : Hp} {σ : L2.St} {ρ : DE} {x : D} {k : Bool → M D} {Q : VK} (h : PostG X.K C σ (relD X.K σ) Hf (M.bind (M.lift (asB x)) k ρ) Q) : ∃ b, x = .bool b ∧ PostG X.K C σ (relD X.K σ) Hf (k b ρ) Q := by
  unfold M.bind M.lift at h
  cases x <;> first | exact (show False from h).elim | exact ⟨_, rfl, h⟩
theorem pd_and (ha : PDe X C a f) (hb : PDe X C (.BoolOp .And (b :: rest) pos) g) : PDe X C (.BoolOp .And (a :: b :: rest) pos) (M.andV f g) := pe_imp (pe_and ha hb) fun σ H Q ⟨Hf, ρ, s, h⟩ =>
  tG_bind s h fun v x H1 Hf1 ρ1 e1 s1 d1 h1 => by
    obtain ⟨t, rfl, h2⟩ := bv (H := H1) h1
    refine ⟨t, Dp.bool_of d1, ?_⟩
    cases t with
    | true => exact L2.iteT ⟨Hf1, ρ1, s1, h2⟩
    | false => exact L2.iteF (PostG.now (b := V.bl false) h2 s1 (.bl false))
theorem pd_or (ha : PDe X C a f) (hb : PDe X C (.BoolOp .Or (b :: rest) pos) g) : PDe X C (.BoolOp .Or (a :: b :: rest) pos) (M.orV f g) := pe_imp (pe_or ha hb) fun σ H Q ⟨Hf, ρ, s, h⟩ =>
  tG_bind s h fun v x H1 Hf1 ρ1 e1 s1 d1 h1 => by
    obtain ⟨t, rfl, h2⟩ := bv (H := H1) h1
    refine ⟨t, Dp.bool_of d1, ?_⟩
    cases t with
    | true => exact L2.iteT (PostG.now (b := V.bl true) h2 s1 (.bl true))
    | false => exact L2.iteF ⟨Hf1, ρ1, s1, h2⟩
theorem pd_not (ha : PDe X C a f) : PDe X C (.UnaryOp .Not a pos) (M.op1 notD f) := pe_imp (pe_not ha) fun σ H Q ⟨Hf, ρ, s, h⟩ =>
  tG_bind s h fun v x H1 Hf1 ρ1 e1 s1 d1 h1 => by
    obtain ⟨z, hz, h2⟩ := h1.lift
    cases x <;> first | cases hz | skip
    exact ⟨_, Dp.bool_of d1, PostG.now (b := V.bl _) h2 s1 (.bl _)⟩
def M.ite {α : Type} (p : M Bool) (f g : M α) : M α := M.bind p fun b => if b = true then f else g
theorem pd_if (hc : PDt X C c p) (ha : PDe X C a f) (hb : PDe X C b g) : PDe X C (.IfExp c a b pos) (M.ite p f g) := pe_imp (pe_ifExp hc ha hb) fun σ H Q ⟨Hf, ρ, s, h⟩ =>
  tG_bind s h fun v x H1 Hf1 ρ1 e1 s1 d1 h1 => by
    have d1 : v = x := d1
    subst d1
    cases v with
    | true => exact L2.iteT ⟨Hf1, ρ1, s1, h1⟩
    | false => exact L2.iteF ⟨Hf1, ρ1, s1, h1⟩
end

/-! ### argument lists, displays -/
section
variable {X : Cx} {C : Fc} {pos : Pos} {e : Expr} {es : List Expr} {f : M D} {g : M (List Arg)}
def M.argN : M (List Arg) := M.ret []
def M.argD (f : M D) (g : M (List Arg)) : M (List Arg) := M.bind f fun x => M.bind g fun as => M.ret (.dat x :: as)
def M.argS (i : Nat) (g : M (List Arg)) : M (List Arg) := fun ρ => match ρ[i]? with
  | some (some (.own _)) => M.bind g (fun as => M.ret (.slot i :: as)) ρ
  | _ => .bad
theorem ArgsRel.mono {K : PySem.W.Frag} {σ : L2.St} {Hf Hf' : Hp} (e : Ex Hf Hf') : ∀ {vs : List V} {as : List Arg}, ArgsRel K σ Hf vs as → ArgsRel K σ Hf' vs as
  | _, _, .nil => .nil
  | _, _, .dat h t => .dat (Dp.mono e _ _ h) (ArgsRel.mono e t)
  | _, _, .slot h t => .slot h (ArgsRel.mono e t)
theorem pda_nil : PDa X C [] M.argN := pa_imp pa_nil fun σ H Q ⟨Hf, ρ, s, h⟩ => PostG.now (b := ([] : List V)) h s .nil
theorem pda_cons (ha : PDe X C e f) (hr : PDa X C es g) (hs : starEach (e :: es) X.env = (false, eval e X.env) :: starEach es X.env := by rfl) : PDa X C (e :: es) (M.argD f g) := pa_imp (pa_cons ha hr hs) fun σ H Q ⟨Hf, ρ, s, h⟩ =>
  tG_bind s h fun v x H1 Hf1 ρ1 e1 s1 d1 h1 => tG_bind s1 h1 fun vs as H2 Hf2 ρ2 e2 s2 d2 h2 => PostG.now (b := v :: vs) h2 s2 (.dat (Dp.mono e2 _ _ d1) d2)
/-- the list at a slot, as it is -/
theorem pda_slot (i : Nat) {x : Str} {px : Pos} (hr : PDa X C es g) (hN : X.N[i]? = some x := by rfl) (hv : Vis X.env.scope x := by first | exact Or.inl rfl | exact Or.inr (Or.inl rfl) | exact Or.inr (Or.inr rfl)) (hd : (x == ("__debug__" : Str)) = false := by decide)
    (hcd : (x == ("__classdict__" : Str)) = false := by decide) (hs : starEach (.Name x px :: es) X.env = (false, eval (.Name x px) X.env) :: starEach es X.env := by rfl) : PDa X C (.Name x px :: es) (M.argS i g) :=
  pa_imp (pa_cons (pe_var hN hv hd hcd) hr hs) fun σ H Q ⟨Hf, ρ, s, h⟩ => by
    unfold M.argS at h
    split at h
    · rename_i xs hx
      obtain ⟨a, vs, h1, h2⟩ := s.own i xs hx
      refine ⟨.ref a, h1, ?_⟩
      exact tG_bind s h fun vs as H2 Hf2 ρ2 e2 s2 d2 h2 => PostG.now (b := V.ref a :: vs) h2 s2 (.slot h1 d2)
    · exact (show False from h).elim
def datOf : List Arg → Option (List D)
  | [] => some []
  | .dat x :: as => (datOf as).map (x :: ·)
  | .slot _ :: _ => none
theorem ArgsRel.dats {K : PySem.W.Frag} {σ : L2.St} {Hf : Hp} : ∀ {vs : List V} {as : List Arg} {xs : List D}, ArgsRel K σ Hf vs as → datOf as = some xs → DpAll K Hf vs xs
  | _, _, xs, .nil, e => by cases e; exact .nil
  | _, _, xs, .dat (as := as) h t, e => by
    unfold datOf at e
    cases q : datOf as with
    | none => rw [q] at e; cases e
    | some ys =>
      rw [q] at e
      cases e
      exact .cons h (ArgsRel.dats t q)
  | _, _, _, .slot _ _, e => by cases e
def M.dats (g : M (List Arg)) : M (List D) := M.bind g fun as => M.lift (datOf as)
def M.tup (g : M (List Arg)) : M D := M.bind g fun as => M.lift ((datOf as).bind fun xs => if xs.length ≤ sizeLine then some (.tuple xs) else none)
theorem pd_tup {x1} (h : PDa X C es g) : PDe X C (.Tuple es x1 pos) (M.tup g) := pe_imp (pe_tup h) fun σ H Q ⟨Hf, ρ, s, h⟩ =>
  tG_bind s h fun vs as H1 Hf1 ρ1 e1 s1 d1 h1 => by
    obtain ⟨z, hz, h2⟩ := h1.lift
    cases q : datOf as with
    | none => rw [q] at hz; cases hz
    | some xs =>
      rw [q] at hz
      simp only [Option.bind_some] at hz
      split at hz
      · rename_i hl
        cases hz
        have da := ArgsRel.dats d1 q
        refine ⟨by rw [DpAll.length da]; exact hl, fun p hp => ?_⟩
        have g := Grow.new (o := .tup vs) s1.e1 hp
        exact PostG.nowG (b := V.ref p) h2 s1 g (.tup (SqT.of upd_same) (DpAll.mono g.f _ _ da))
      · cases hz
def M.lst (g : M (List Arg)) : M (List D) := M.bind g fun as => M.lift ((datOf as).bind fun xs => if xs.length ≤ sizeLine then some xs else none)
theorem SR.newL {K : PySem.W.Frag} {Hf H : Hp} {σ : L2.St} {ρ : DE} {p : Addr} {vs : List V} {xs : List D} (s : SR K C Hf H σ ρ) (hp : H p = none) (d : DpAll K Hf vs xs) : relL K C σ Hf (upd H p (.lst vs)) ρ (.ref p) xs := by
  refine ⟨p, vs, rfl, Evl.fresh_back s.e1 hp, upd_same, d, s.h0 hp, fun q hq e => ?_, fun j ⟨ys, hj⟩ e => ?_⟩
  · obtain ⟨_, h⟩ := s.no q hq
    rw [e, h] at hp
    cases hp
  · obtain ⟨a, ws, h1, _, h3, _⟩ := s.own j ys hj
    rw [h1] at e
    cases e
    rw [h3] at hp
    cases hp
theorem pdl_lst (h : PDa X C es g) : PDl X C (.List es pos) (M.lst g) := pe_imp (pe_lst h) fun σ H Q ⟨Hf, ρ, s, h⟩ =>
  tG_bind s h fun vs as H1 Hf1 ρ1 e1 s1 d1 h1 => by
    obtain ⟨z, hz, h2⟩ := h1.lift
    cases q : datOf as with
    | none => rw [q] at hz; cases hz
    | some xs =>
      rw [q] at hz
      simp only [Option.bind_some] at hz
      split at hz
      · rename_i hl
        cases hz
        have da := ArgsRel.dats d1 q
        refine ⟨by rw [DpAll.length da]; exact hl, fun p hp => ?_⟩
        exact PostG.nowG (b := V.ref p) h2 s1 (Grow.mine (o := .lst vs) s1.e1 hp) (s1.newL hp da)
      · cases hz
/-- a new list as a datum -/
theorem SR.known {K : PySem.W.Frag} {Hf H : Hp} {σ : L2.St} {ρ : DE} {v : V} {xs : List D} (s : SR K C Hf H σ ρ) (r : relL K C σ Hf H ρ v xs) : ∃ Hf', Ex Hf Hf' ∧ SR K C Hf' H σ ρ ∧ Dp K Hf' v (.list xs) := by
  obtain ⟨a, vs, rfl, h1, h2, h3, h4, h5, h6⟩ := r
  have ee : Ex Hf (upd Hf a (.lst vs)) := Ex.new h1
  refine ⟨upd Hf a (.lst vs), ee, ⟨s.len, s.e0.trans ee, fun b o h => ?_, fun b o h => ?_, s.keep, s.pin, fun p hp => ?_, fun i x hi => ?_, fun i ys hi => ?_, s.apart⟩, .lst (SqL.of upd_same) (DpAll.mono ee _ _ h3)⟩
  · by_cases hb : b = a
    · subst hb
      rw [upd_same] at h
      rw [h2]; exact h
    · rw [upd_ne hb] at h
      exact s.e1 b o h
  · by_cases hb : b = a
    · exact .inr (hb ▸ h4)
    · rw [upd_ne hb] at h
      exact s.fresh b o h
  · obtain ⟨g1, g2⟩ := s.no p hp
    exact ⟨by rw [upd_ne (Ne.symm (h5 p hp))]; exact g1, g2⟩
  · obtain ⟨v, g1, g2⟩ := s.val i x hi
    exact ⟨v, g1, Dp.mono ee _ _ g2⟩
  · obtain ⟨b, ws, g1, g2, g3, g4, g5, g6⟩ := s.own i ys hi
    refine ⟨b, ws, g1, ?_, g3, DpAll.mono ee _ _ g4, g5, g6⟩
    rw [upd_ne (fun e => h6 i ⟨ys, hi⟩ (by rw [g1, e]))]
    exact g2
def M.known (f : M (List D)) : M D := M.bind f fun xs => M.ret (.list xs)
theorem pd_l {fl : M (List D)} (h : PDl X C e fl) : PDe X C e (M.known fl) := pe_imp h fun σ H Q ⟨Hf, ρ, s, h⟩ =>
  tG_bind s h fun v xs H1 Hf1 ρ1 e1 s1 d1 h1 => by
    obtain ⟨Hf2, e2, s2, d2⟩ := s1.known d1
    exact h1 v H1 Hf2 e2 s2 d2
end
end PD

set_option maxRecDepth 100000
set_option maxHeartbeats 4000000
set_option autoImplicit false
namespace PD
open PySem PySem.Spec L2
open Evl (Ex)

/-! ### arithmetic on data -/
section
variable {X : Cx}
def CMulB (i j : Int) : Prop := i.natAbs.log2 + j.natAbs.log2 < 100000000
theorem CMulB.ok {i j : Int} (h : CMulB i j) : IntMulOk i j := by
  have b : ∀ x : Int, Builtin.Int.intBits x ≤ x.natAbs.log2 + 1 := fun x => by
    unfold Builtin.Int.intBits
    split <;> omega
  have h1 := b i
  have h2 := b j
  have h3 : i.natAbs.log2 + j.natAbs.log2 < 100000000 := h
  have e : bitsLine = 134217728 := by decide
  unfold IntMulOk
  intro z
  rw [Bool.and_eq_true] at z
  have z2 := z.2
  unfold Builtin.Int.intTooBig at z2
  have z3 := of_decide_eq_true z2
  rw [e] at z3
  omega
theorem op_mulB : OpR X (binaryOp .Mult) (rI CMulB fun i j => .int (i * j)) := opI fun _ _ _ _ _ _ _ hc q => PyProof.Rows.mul_int q hc.ok
/-- list + list, any two lists that are read -/
def rCatL (K : PySem.W.Frag) : R2 := fun x y H Q => ∃ l b xs zs, x = .ref l ∧ y = .ref b ∧ SqL K H l xs ∧ SqL K H b zs ∧ xs.length + zs.length ≤ sizeLine ∧ ∀ p, H p = none → Q (.ref p) (upd H p (.lst (xs ++ zs)))
theorem op_catL : OpR X (binaryOp .Add) (rCatL X.K) := by
  intro pins s σ H x y v u Q I rx ry h
  obtain ⟨l, b, xs, zs, rfl, rfl, hH, hB, hz, q⟩ := h
  cases rx
  cases ry
  obtain ⟨its, r, p1, _⟩ := I.list hH
  obtain ⟨its2, r2, p2, _⟩ := I.list hB
  obtain ⟨⟨cls, dd, data, sl⟩, ho, hc, n, hd⟩ := p1.isList
  obtain ⟨⟨cls2, dd2, data2, sl2⟩, ho2, hc2, n2, hd2⟩ := p2.isList
  simp only at hc hd hc2 hd2
  subst hc hd hc2 hd2
  have l1 := r.length
  have l2 := r2.length
  have e : its.toArray ++ its2.toArray = (its ++ its2).toArray := by simp
  refine concat_meets ⟨_, ho, rfl⟩ ⟨_, ho2, rfl⟩ noFill_list_add seq_list_add PySem.F.slot_list_add PySem.F.entry_list_add (PySem.F.args_list_add_2 _ _) (PyProof.Rows.list_addW l b its.toArray its2.toArray n n2 dd dd2 sl sl2 (by simp; omega)) ⟨ho, ho2, ?_⟩
  rw [e]
  exact ⟨.ref _, _, I.lnew (t' := s.toks) (r.append r2) (by rw [List.length_append]; omega), rfl, q _ I.fresh⟩
end

def addD : D → D → Option D
  | .int i, .int j => some (.int (i + j))
  | .str a, .str b => if a.length + b.length ≤ sizeLine then some (.str (a ++ b)) else none
  | .tuple xs, .tuple ys => if xs.length + ys.length ≤ sizeLine then some (.tuple (xs ++ ys)) else none
  | _, _ => none
def subD : D → D → Option D
  | .int i, .int j => some (.int (i - j))
  | _, _ => none
def mulOk (i j : Int) : Bool := decide (i.natAbs.log2 + j.natAbs.log2 < 100000000)
def mulD : D → D → Option D
  | .int i, .int j => if mulOk i j = true then some (.int (i * j)) else none
  | _, _ => none
def divOk (j : Int) : Bool := decide (0 < j) && decide (j.natAbs.log2 < 9000)
def fdivD : D → D → Option D
  | .int i, .int j => if divOk j = true then some (.int (i / j)) else none
  | _, _ => none
def modD : D → D → Option D
  | .int i, .int j => if 0 < j then some (.int (i % j)) else none
  | _, _ => none
def powD : D → D → Option D
  | .int i, .int j => if 0 ≤ j ∧ j ≤ 1000000 ∧ i.natAbs < 2 ^ 64 then some (.int (i ^ j.toNat)) else none
  | _, _ => none
def negD : D → Option D
  | .int i => some (.int (-i))
  | _ => none
section
variable {X : Cx} {C : Fc} {pos : Pos} {a b : Expr} {f g : M D}
def rAddS : R2 := fun x y H Q => ∃ i j, x = .str i ∧ y = .str j ∧ i.length + j.length ≤ sizeLine ∧ Q (.str (i ++ j)) H
theorem add_ok : Op2 X.K (fun x y H Q => rI0 (fun i j => .int (i + j)) x y H Q ∨ (rAddS x y H Q ∨ rCatA X.K x y H Q)) addD := fun C Hf H σ ρ v w x y z Q s d1 d2 e q => by
  cases x with
  | int i =>
    cases y <;> first | cases e | skip
    exact .inl ⟨_, _, d1.int_of, d2.int_of, q.now s (.int _)⟩
  | str i =>
    cases y with
    | str j =>
      simp only [addD] at e
      split at e
      · rename_i hl
        cases e
        exact .inr (.inl ⟨_, _, d1.str_of, d2.str_of, hl, q.now s (.str _)⟩)
      · cases e
    | _ => cases e
  | tuple xs =>
    cases y with
    | tuple ys =>
      simp only [addD] at e
      split at e
      · rename_i hl
        cases e
        obtain ⟨p, vs, rfl, h1, h2⟩ := d1.tup_of
        obtain ⟨p', ws, rfl, h3, h4⟩ := d2.tup_of
        have l1 := DpAll.length h2
        have l2 := DpAll.length h4
        refine .inr (.inr ⟨p, p', vs, ws, rfl, rfl, Evl.ex_t s.e1 h1, Evl.ex_t s.e1 h3, by omega, fun e => ?_, fun _ e => ?_, fun _ _ t ht => ?_⟩)
        · subst e
          have : xs = [] := List.eq_nil_of_length_eq_zero l1.symm
          subst this
          exact q.now s (.tup h3 h4)
        · subst e
          have : ys = [] := List.eq_nil_of_length_eq_zero l2.symm
          subst this
          rw [List.append_nil] at q
          exact q.now s (.tup h1 h2)
        · have gr := Grow.new (o := .tup (vs ++ ws)) s.e1 ht
          exact q.nowG s gr (.tup (SqT.of upd_same) (DpAll.append (DpAll.mono gr.f _ _ h2) (DpAll.mono gr.f _ _ h4)))
      · cases e
    | _ => cases e
  | _ => cases e
theorem pd_add (ha : PDe X C a f) (hb : PDe X C b g) : PDe X C (.BinOp a .Add b pos) (M.op2 addD f g) := pd_op (op_add.or (op_add_str.or op_catA)) add_ok ha hb
theorem int2_ok {K : PySem.W.Frag} {c : Int → Int → Prop} {h : Int → Int → Int} {o : D → D → Option D} (ho : ∀ x y z, o x y = some z → ∃ i j, x = .int i ∧ y = .int j ∧ c i j ∧ z = .int (h i j)) : Op2 K (rI c fun i j => .int (h i j)) o := fun C Hf H σ ρ v w x y z Q s d1 d2 e q => by
  obtain ⟨i, j, rfl, rfl, hc, rfl⟩ := ho x y z e
  exact ⟨i, j, d1.int_of, d2.int_of, hc, q.now s (.int _)⟩
theorem int2_ok0 {K : PySem.W.Frag} {h : Int → Int → Int} {o : D → D → Option D} (ho : ∀ x y z, o x y = some z → ∃ i j, x = .int i ∧ y = .int j ∧ z = .int (h i j)) : Op2 K (rI0 fun i j => .int (h i j)) o := fun C Hf H σ ρ v w x y z Q s d1 d2 e q => by
  obtain ⟨i, j, rfl, rfl, rfl⟩ := ho x y z e
  exact ⟨i, j, d1.int_of, d2.int_of, q.now s (.int _)⟩
theorem pd_sub (ha : PDe X C a f) (hb : PDe X C b g) : PDe X C (.BinOp a .Sub b pos) (M.op2 subD f g) := pd_op op_sub (int2_ok0 fun x y z e => by
  cases x <;> cases y <;> cases e
  exact ⟨_, _, rfl, rfl, rfl⟩) ha hb
theorem pd_fdiv (ha : PDe X C a f) (hb : PDe X C b g) : PDe X C (.BinOp a .FloorDiv b pos) (M.op2 fdivD f g) := pd_op op_fdivW (int2_ok fun x y z e => by
  cases x <;> cases y <;> first | cases e | skip
  simp only [fdivD] at e
  split at e
  · rename_i h
    cases e
    unfold divOk at h
    rw [Bool.and_eq_true] at h
    exact ⟨_, _, rfl, rfl, ⟨of_decide_eq_true h.1, of_decide_eq_true h.2⟩, rfl⟩
  · cases e) ha hb
theorem pd_mod (ha : PDe X C a f) (hb : PDe X C b g) : PDe X C (.BinOp a .Mod b pos) (M.op2 modD f g) := pd_op op_mod (int2_ok fun x y z e => by
  cases x <;> cases y <;> first | cases e | skip
  simp only [modD] at e
  split at e
  · rename_i h
    cases e
    exact ⟨_, _, rfl, rfl, h, rfl⟩
  · cases e) ha hb
theorem pd_pow (ha : PDe X C a f) (hb : PDe X C b g) : PDe X C (.BinOp a .Pow b pos) (M.op2 powD f g) := pd_op op_pow (int2_ok fun x y z e => by
  cases x <;> cases y <;> first | cases e | skip
  simp only [powD] at e
  split at e
  · rename_i h
    cases e
    exact ⟨_, _, rfl, rfl, h, rfl⟩
  · cases e) ha hb
theorem pd_mul (ha : PDe X C a f) (hb : PDe X C b g) : PDe X C (.BinOp a .Mult b pos) (M.op2 mulD f g) := pd_op op_mulB (int2_ok fun x y z e => by
  cases x <;> cases y <;> first | cases e | skip
  simp only [mulD] at e
  split at e
  · rename_i h
    cases e
    simp only [mulOk, decide_eq_true_eq] at h
    exact ⟨_, _, rfl, rfl, h, rfl⟩
  · cases e) ha hb
theorem pd_neg (ha : PDe X C a f) : PDe X C (.UnaryOp .USub a pos) (M.op1 negD f) := pd_un un_neg (fun C Hf H σ ρ v x z Q s d e q => by
  cases x <;> cases e
  exact ⟨_, d.int_of, q.now s (.int _)⟩) ha

/-! ### comparisons -/
def ltD : D → D → Option D
  | .int i, .int j => some (.bool (decide (i < j)))
  | _, _ => none
def leD : D → D → Option D
  | .int i, .int j => some (.bool (decide (i ≤ j)))
  | _, _ => none
def gtD : D → D → Option D
  | .int i, .int j => some (.bool (decide (j < i)))
  | _, _ => none
def geD : D → D → Option D
  | .int i, .int j => some (.bool (decide (j ≤ i)))
  | _, _ => none
theorem cmpI_ok {K : PySem.W.Frag} {h : Int → Int → Bool} {o : D → D → Option D} (ho : ∀ x y z, o x y = some z → ∃ i j, x = .int i ∧ y = .int j ∧ z = .bool (h i j)) : Op2B K (rI0 fun i j => .bl (h i j)) o := fun Hf H v w x y z Q e d1 d2 ez q => by
  obtain ⟨i, j, rfl, rfl, e2⟩ := ho x y _ ez
  cases e2
  exact ⟨i, j, d1.int_of, d2.int_of, q⟩
theorem ltI {x y z : D} (e : ltD x y = some z) : ∃ i j, x = .int i ∧ y = .int j ∧ z = .bool (decide (i < j)) := by
  cases x <;> cases y <;> cases e
  exact ⟨_, _, rfl, rfl, rfl⟩
theorem leI {x y z : D} (e : leD x y = some z) : ∃ i j, x = .int i ∧ y = .int j ∧ z = .bool (decide (i ≤ j)) := by
  cases x <;> cases y <;> cases e
  exact ⟨_, _, rfl, rfl, rfl⟩
theorem gtI {x y z : D} (e : gtD x y = some z) : ∃ i j, x = .int i ∧ y = .int j ∧ z = .bool (decide (j < i)) := by
  cases x <;> cases y <;> cases e
  exact ⟨_, _, rfl, rfl, rfl⟩
theorem geI {x y z : D} (e : geD x y = some z) : ∃ i j, x = .int i ∧ y = .int j ∧ z = .bool (decide (j ≤ i)) := by
  cases x <;> cases y <;> cases e
  exact ⟨_, _, rfl, rfl, rfl⟩
theorem bI {o : D → D → Option D} {h : Int → Int → Bool} (ho : ∀ x y z, o x y = some z → ∃ i j, x = .int i ∧ y = .int j ∧ z = .bool (h i j)) : ∀ x y z, o x y = some z → ∃ b, z = .bool b := fun x y z e => by
  obtain ⟨_, _, _, _, h⟩ := ho x y z e
  exact ⟨_, h⟩
theorem lt_okB {K : PySem.W.Frag} : Op2B K (rI0 fun i j => .bl (decide (i < j))) ltD := cmpI_ok fun _ _ _ => ltI
theorem le_okB {K : PySem.W.Frag} : Op2B K (rI0 fun i j => .bl (decide (i ≤ j))) leD := cmpI_ok fun _ _ _ => leI
theorem gt_okB {K : PySem.W.Frag} : Op2B K (rI0 fun i j => .bl (decide (j < i))) gtD := cmpI_ok fun _ _ _ => gtI
theorem ge_okB {K : PySem.W.Frag} : Op2B K (rI0 fun i j => .bl (decide (j ≤ i))) geD := cmpI_ok fun _ _ _ => geI
theorem lt_b : ∀ x y z, ltD x y = some z → ∃ b, z = .bool b := bI fun _ _ _ => ltI
theorem le_b : ∀ x y z, leD x y = some z → ∃ b, z = .bool b := bI fun _ _ _ => leI
theorem gt_b : ∀ x y z, gtD x y = some z → ∃ b, z = .bool b := bI fun _ _ _ => gtI
theorem ge_b : ∀ x y z, geD x y = some z → ∃ b, z = .bool b := bI fun _ _ _ => geI
theorem pd_lt (ha : PDe X C a f) (hb : PDe X C b g) : PDe X C (.Compare a [.Lt] [b] pos) (M.op2 ltD f g) := pd_cmp op_lt (lt_okB.op2 lt_b) ha hb (nomark _)
theorem pd_le (ha : PDe X C a f) (hb : PDe X C b g) : PDe X C (.Compare a [.LtE] [b] pos) (M.op2 leD f g) := pd_cmp op_le (le_okB.op2 le_b) ha hb (nomark _)
theorem pd_gt (ha : PDe X C a f) (hb : PDe X C b g) : PDe X C (.Compare a [.Gt] [b] pos) (M.op2 gtD f g) := pd_cmp op_gt (gt_okB.op2 gt_b) ha hb (nomark _)
theorem pd_ge (ha : PDe X C a f) (hb : PDe X C b g) : PDe X C (.Compare a [.GtE] [b] pos) (M.op2 geD f g) := pd_cmp op_ge (ge_okB.op2 ge_b) ha hb (nomark _)
theorem pdt_lt (ha : PDe X C a f) (hb : PDe X C b g) : PDt X C (.Compare a [.Lt] [b] pos) (M.test (M.op2 ltD f g)) := pdt_cmp op_lt (lt_okB.op2 lt_b) ha hb (nomark _)
theorem pdt_le (ha : PDe X C a f) (hb : PDe X C b g) : PDt X C (.Compare a [.LtE] [b] pos) (M.test (M.op2 leD f g)) := pdt_cmp op_le (le_okB.op2 le_b) ha hb (nomark _)
theorem pdt_gt (ha : PDe X C a f) (hb : PDe X C b g) : PDt X C (.Compare a [.Gt] [b] pos) (M.test (M.op2 gtD f g)) := pdt_cmp op_gt (gt_okB.op2 gt_b) ha hb (nomark _)
theorem pdt_ge (ha : PDe X C a f) (hb : PDe X C b g) : PDt X C (.Compare a [.GtE] [b] pos) (M.test (M.op2 geD f g)) := pdt_cmp op_ge (ge_okB.op2 ge_b) ha hb (nomark _)
variable {c : Expr} {k : M D}
theorem pd_lele (ha : PDe X C a f) (hb : PDe X C b g) (hc : PDe X C c k) (hm : lastMarks [.LtE, .LtE] [b, c] = false := by with_unfolding_all rfl) : PDe X C (.Compare a [.LtE, .LtE] [b, c] pos) (M.chain leD leD f g k) := pd_chain op_le op_le le_okB le_okB le_b ha hb hc hm
theorem pdt_lele (ha : PDe X C a f) (hb : PDe X C b g) (hc : PDe X C c k) (hm : lastMarks [.LtE, .LtE] [b, c] = false := by with_unfolding_all rfl) : PDt X C (.Compare a [.LtE, .LtE] [b, c] pos) (M.test (M.chain leD leD f g k)) := pdt_chain op_le op_le le_okB le_okB le_b ha hb hc hm

/-- ==: scalars as they are; nested data where the texts within are sound -/
def eqD (x y : D) : Option Bool := match x, y with
  | .none, .none => some true
  | .none, .bool _ => some false
  | .none, .int _ => some false
  | .none, .str _ => some false
  | .bool _, .none => some false
  | .bool a, .bool b => some (decide (a = b))
  | .bool _, .str _ => some false
  | .int _, .none => some false
  | .int a, .int b => some (decide (a = b))
  | .int _, .str _ => some false
  | .str _, .none => some false
  | .str _, .bool _ => some false
  | .str _, .int _ => some false
  | .str a, .str b => some (decide (a = b))
  | x, y => if SeqAt.shaped x = true ∧ SeqAt.shaped y = true then some (PyData.eqv x y) else none
def eqDD (x y : D) : Option D := (eqD x y).map .bool
def neDD (x y : D) : Option D := (eqD x y).map fun b => .bool !b
theorem eq_cases {K : PySem.W.Frag} {H : Hp} {v w : V} {x y : D} {b : Bool} (d1 : Dp K H v x) (d2 : Dp K H w y) (e : eqD x y = some b) : (scal v w = true ∧ b = decide (v = w)) ∨ (SeqAt.shaped x = true ∧ SeqAt.shaped y = true ∧ b = PyData.eqv x y) := by
  unfold eqD at e
  split at e
  all_goals first
    | (split at e
       · rename_i h
         cases e
         exact .inr ⟨h.1, h.2, rfl⟩
       · cases e)
    | (cases e
       cases d1
       cases d2
       refine .inl ⟨rfl, ?_⟩
       simp)
theorem eq_okB : Op2B X.K (fun x y H Q => rEq x y H Q ∨ rEqD X.K x y H Q) eqDD := fun Hf H v w x y z Q e d1 d2 ez q => by
  unfold eqDD at ez
  cases he : eqD x y with
  | none => rw [he] at ez; cases ez
  | some b =>
    rw [he] at ez
    cases ez
    rcases eq_cases d1 d2 he with ⟨h1, rfl⟩ | ⟨h1, h2, rfl⟩
    · exact .inl ⟨h1, q⟩
    · exact .inr ⟨x, y, Dp.mono e _ _ d1, Dp.mono e _ _ d2, h1, h2, q⟩
theorem ne_okB : Op2B X.K (fun x y H Q => rNe x y H Q ∨ rNeD X.K x y H Q) neDD := fun Hf H v w x y z Q e d1 d2 ez q => by
  unfold neDD at ez
  cases he : eqD x y with
  | none => rw [he] at ez; cases ez
  | some b =>
    rw [he] at ez
    cases ez
    rcases eq_cases d1 d2 he with ⟨h1, rfl⟩ | ⟨h1, h2, rfl⟩
    · exact .inl ⟨h1, q⟩
    · exact .inr ⟨x, y, Dp.mono e _ _ d1, Dp.mono e _ _ d2, h1, h2, q⟩
theorem eq_b : ∀ x y z, eqDD x y = some z → ∃ b, z = .bool b := fun x y z e => by
  unfold eqDD at e
  cases he : eqD x y with
  | none => rw [he] at e; cases e
  | some b => rw [he] at e; cases e; exact ⟨_, rfl⟩
theorem ne_b : ∀ x y z, neDD x y = some z → ∃ b, z = .bool b := fun x y z e => by
  unfold neDD at e
  cases he : eqD x y with
  | none => rw [he] at e; cases e
  | some b => rw [he] at e; cases e; exact ⟨_, rfl⟩
theorem pd_eq (hu : X.A.units + 64 < cLine) (ha : PDe X C a f) (hb : PDe X C b g) : PDe X C (.Compare a [.Eq] [b] pos) (M.op2 eqDD f g) := pd_cmp (op_eq.or (op_eqD hu)) (eq_okB.op2 eq_b) ha hb (nomark _)
theorem pd_ne (hu : X.A.units + 64 < cLine) (ha : PDe X C a f) (hb : PDe X C b g) : PDe X C (.Compare a [.NotEq] [b] pos) (M.op2 neDD f g) := pd_cmp (op_ne.or (op_neD hu)) (ne_okB.op2 ne_b) ha hb (nomark _)
theorem pdt_eq (hu : X.A.units + 64 < cLine) (ha : PDe X C a f) (hb : PDe X C b g) : PDt X C (.Compare a [.Eq] [b] pos) (M.test (M.op2 eqDD f g)) := pdt_cmp (op_eq.or (op_eqD hu)) (eq_okB.op2 eq_b) ha hb (nomark _)
theorem pdt_ne (hu : X.A.units + 64 < cLine) (ha : PDe X C a f) (hb : PDe X C b g) : PDt X C (.Compare a [.NotEq] [b] pos) (M.test (M.op2 neDD f g)) := pdt_cmp (op_ne.or (op_neD hu)) (ne_okB.op2 ne_b) ha hb (nomark _)
def isNoneB : D → Bool
  | .none => true
  | _ => false
def isND (x y : D) : Option D := if isNoneB y = true then some (.bool (isNoneB x)) else none
def notND (x y : D) : Option D := if isNoneB y = true then some (.bool !(isNoneB x)) else none
theorem isNone_v {K : PySem.W.Frag} {H : Hp} {v : V} {x : D} (d : Dp K H v x) : decide (v = .non) = isNoneB x := by cases d <;> simp [isNoneB]
theorem isN_ok : Op2B X.K (fun x y H Q => y = .non ∧ Q (.bl (decide (x = .non))) H) isND := fun Hf H v w x y z Q e d1 d2 ez q => by
  unfold isND at ez
  split at ez
  · rename_i h
    cases y <;> first | cases h | skip
    cases ez
    exact ⟨d2.none_of, by rw [isNone_v d1]; exact q⟩
  · cases ez
theorem notN_ok : Op2B X.K (fun x y H Q => y = .non ∧ Q (.bl (!decide (x = .non))) H) notND := fun Hf H v w x y z Q e d1 d2 ez q => by
  unfold notND at ez
  split at ez
  · rename_i h
    cases y <;> first | cases h | skip
    cases ez
    exact ⟨d2.none_of, by rw [isNone_v d1]; exact q⟩
  · cases ez
theorem isN_b : ∀ x y z, isND x y = some z → ∃ b, z = .bool b := fun x y z e => by
  unfold isND at e
  split at e <;> cases e
  exact ⟨_, rfl⟩
theorem notN_b : ∀ x y z, notND x y = some z → ∃ b, z = .bool b := fun x y z e => by
  unfold notND at e
  split at e <;> cases e
  exact ⟨_, rfl⟩
theorem pd_is (ha : PDe X C a f) (hb : PDe X C b g) : PDe X C (.Compare a [.Is] [b] pos) (M.op2 isND f g) := pd_cmp op_isN (isN_ok.op2 isN_b) ha hb (nomark _)
theorem pd_isnot (ha : PDe X C a f) (hb : PDe X C b g) : PDe X C (.Compare a [.IsNot] [b] pos) (M.op2 notND f g) := pd_cmp op_notN (notN_ok.op2 notN_b) ha hb (nomark _)
theorem pdt_is (ha : PDe X C a f) (hb : PDe X C b g) : PDt X C (.Compare a [.Is] [b] pos) (M.test (M.op2 isND f g)) := pdt_cmp op_isN (isN_ok.op2 isN_b) ha hb (nomark _)
theorem pdt_isnot (ha : PDe X C a f) (hb : PDe X C b g) : PDt X C (.Compare a [.IsNot] [b] pos) (M.test (M.op2 notND f g)) := pdt_cmp op_notN (notN_ok.op2 notN_b) ha hb (nomark _)
/-- in, not in: flat data in a list or a tuple of flat data -/
def flatD : D → Option V
  | .none => some .non
  | .bool b => some (.bl b)
  | .int i => some (.int i)
  | .str x => some (.str x)
  | _ => none
def flatAll : List D → Option (List V)
  | [] => some []
  | x :: xs => (flatD x).bind fun v => (flatAll xs).map fun vs => v :: vs
def inSeq (x : D) (xs : List D) : Option Bool := (flatD x).bind fun v => (flatAll xs).bind fun vs => if flatV v = true ∧ vs.all flatV = true then some (inV v vs) else none
def inB : D → D → Option Bool
  | x, .list xs => inSeq x xs
  | x, .tuple xs => inSeq x xs
  | .str i, .str j => some (!(Builtin.Str.occurrences j i 0 j.length 1).isEmpty)
  | _, _ => none
def inDD (x y : D) : Option D := (inB x y).map .bool
def notInDD (x y : D) : Option D := (inB x y).map fun b => .bool !b
theorem flat_v {K : PySem.W.Frag} {H : Hp} {v u : V} {x : D} (d : Dp K H v x) (e : flatD x = some u) : v = u := by
  cases d <;> cases e <;> rfl
theorem flat_vs {K : PySem.W.Frag} {H : Hp} : ∀ {vs us : List V} {xs : List D}, DpAll K H vs xs → flatAll xs = some us → vs = us
  | _, us, _, .nil, e => by cases e; rfl
  | _, us, _, .cons (d := d) (ds := ds) h t, e => by
    unfold flatAll at e
    cases h1 : flatD d with
    | none => rw [h1] at e; cases e
    | some v =>
      cases h2 : flatAll ds with
      | none => rw [h1, h2] at e; cases e
      | some vs =>
        rw [h1, h2] at e
        cases e
        rw [flat_v h h1, flat_vs t h2]
theorem in_cases {K : PySem.W.Frag} {Hf H : Hp} {v w : V} {x y : D} {b : Bool} (e1 : Ex Hf H) (d1 : Dp K Hf v x) (d2 : Dp K Hf w y) (e : inB x y = some b) :
    (∃ p xs, w = .ref p ∧ (SqL K H p xs ∨ SqT K H p xs) ∧ flatV v = true ∧ xs.all flatV = true ∧ b = inV v xs) ∨ (∃ i j, v = .str i ∧ w = .str j ∧ b = !(Builtin.Str.occurrences j i 0 j.length 1).isEmpty) := by
  have seq : ∀ {xs : List D} {us : List V}, DpAll K Hf us xs → inSeq x xs = some b → flatV v = true ∧ us.all flatV = true ∧ b = inV v us := fun {xs us} da e => by
    unfold inSeq at e
    cases h1 : flatD x with
    | none => rw [h1] at e; cases e
    | some v' =>
      cases h2 : flatAll xs with
      | none => rw [h1, h2] at e; cases e
      | some vs =>
        rw [h1, h2] at e
        have a1 := flat_v d1 h1
        have a2 := flat_vs da h2
        subst a1 a2
        simp only [Option.bind_some] at e
        split at e
        · rename_i h
          cases e
          exact ⟨h.1, h.2, rfl⟩
        · cases e
  unfold inB at e
  split at e
  · obtain ⟨p, us, rfl, h1, h2⟩ := d2.list_of
    obtain ⟨a1, a2, a3⟩ := seq h2 e
    exact .inl ⟨p, us, rfl, .inl (Evl.ex_l e1 h1), a1, a2, a3⟩
  · obtain ⟨p, us, rfl, h1, h2⟩ := d2.tup_of
    obtain ⟨a1, a2, a3⟩ := seq h2 e
    exact .inl ⟨p, us, rfl, .inr (Evl.ex_t e1 h1), a1, a2, a3⟩
  · cases e
    exact .inr ⟨_, _, d1.str_of, d2.str_of, rfl⟩
  · cases e
def rInS : R2 := fun x y H Q => ∃ i j, x = .str i ∧ y = .str j ∧ Q (.bl (!(Builtin.Str.occurrences j i 0 j.length 1).isEmpty)) H
def rNotInS : R2 := fun x y H Q => ∃ i j, x = .str i ∧ y = .str j ∧ Q (.bl (!(!(Builtin.Str.occurrences j i 0 j.length 1).isEmpty))) H
theorem in_okB : Op2B X.K (fun x y H Q => rIn X.K false x y H Q ∨ rInS x y H Q) inDD := fun Hf H v w x y z Q e d1 d2 ez q => by
  unfold inDD at ez
  cases he : inB x y with
  | none => rw [he] at ez; cases ez
  | some b =>
    rw [he] at ez
    cases ez
    rcases in_cases e d1 d2 he with ⟨p, xs, rfl, h1, h2, h3, rfl⟩ | ⟨i, j, rfl, rfl, rfl⟩
    · exact .inl ⟨p, xs, rfl, h1, h2, h3, q⟩
    · exact .inr ⟨i, j, rfl, rfl, q⟩
theorem notIn_okB : Op2B X.K (fun x y H Q => rIn X.K true x y H Q ∨ rNotInS x y H Q) notInDD := fun Hf H v w x y z Q e d1 d2 ez q => by
  unfold notInDD at ez
  cases he : inB x y with
  | none => rw [he] at ez; cases ez
  | some b =>
    rw [he] at ez
    cases ez
    rcases in_cases e d1 d2 he with ⟨p, xs, rfl, h1, h2, h3, rfl⟩ | ⟨i, j, rfl, rfl, rfl⟩
    · exact .inl ⟨p, xs, rfl, h1, h2, h3, q⟩
    · exact .inr ⟨i, j, rfl, rfl, q⟩
theorem inD_b : ∀ x y z, inDD x y = some z → ∃ b, z = .bool b := fun x y z e => by
  unfold inDD at e
  cases he : inB x y with
  | none => rw [he] at e; cases e
  | some b => rw [he] at e; cases e; exact ⟨_, rfl⟩
theorem notInD_b : ∀ x y z, notInDD x y = some z → ∃ b, z = .bool b := fun x y z e => by
  unfold notInDD at e
  cases he : inB x y with
  | none => rw [he] at e; cases e
  | some b => rw [he] at e; cases e; exact ⟨_, rfl⟩
theorem pd_in (hm : behindInMarks .In b = false) (ha : PDe X C a f) (hb : PDe X C b g) : PDe X C (.Compare a [.In] [b] pos) (M.op2 inDD f g) := pd_cmp (op_in_seq.or op_in_str) (in_okB.op2 inD_b) ha hb hm
theorem pd_notIn (hm : behindInMarks .NotIn b = false) (ha : PDe X C a f) (hb : PDe X C b g) : PDe X C (.Compare a [.NotIn] [b] pos) (M.op2 notInDD f g) := pd_cmp (op_notIn_seq.or op_notin_str) (notIn_okB.op2 notInD_b) ha hb hm
theorem pdt_in (hm : behindInMarks .In b = false) (ha : PDe X C a f) (hb : PDe X C b g) : PDt X C (.Compare a [.In] [b] pos) (M.test (M.op2 inDD f g)) := pdt_cmp (op_in_seq.or op_in_str) (in_okB.op2 inD_b) ha hb hm
theorem pdt_notIn (hm : behindInMarks .NotIn b = false) (ha : PDe X C a f) (hb : PDe X C b g) : PDt X C (.Compare a [.NotIn] [b] pos) (M.test (M.op2 notInDD f g)) := pdt_cmp (op_notIn_seq.or op_notin_str) (notIn_okB.op2 notInD_b) ha hb hm
end

/-! ### subscripts, slices -/
section
variable {X : Cx} {C : Fc} {pos p2 : Pos} {a b : Expr} {lo hi : Option Expr} {f g : M D} {l u : M (Option Int)}
def ixD : D → D → Option D
  | .list xs, .int i => atI xs i
  | .tuple xs, .int i => atI xs i
  | .str z, .int i => if z.length ≤ sizeLine then (atI z.cps.toList i).map fun c => .str ⟨#[c]⟩ else none
  | _, _ => none
theorem atI_dp {K : PySem.W.Frag} {H : Hp} {vs : List V} {xs : List D} {i : Int} {x : D} (h : DpAll K H vs xs) (e : atI xs i = some x) : ∃ v, atI vs i = some v ∧ Dp K H v x := by
  unfold atI at e ⊢
  rw [DpAll.length h]
  cases q : ixN xs.length i with
  | none => rw [q] at e; cases e
  | some j =>
    rw [q] at e
    exact DpAll.get h e
theorem ix_ok : Op2 X.K (rIx X.K) ixD := fun C Hf H σ ρ v w x y z Q s d1 d2 e q => by
  cases x with
  | list xs =>
    cases y <;> first | cases e | skip
    obtain ⟨p, us, rfl, h1, h2⟩ := d1.list_of
    obtain ⟨t, h3, h4⟩ := atI_dp h2 e
    exact .inl ⟨p, us, _, t, rfl, d2.int_of, Evl.ex_l s.e1 h1, h3, q.now s h4⟩
  | tuple xs =>
    cases y <;> first | cases e | skip
    obtain ⟨p, us, rfl, h1, h2⟩ := d1.tup_of
    obtain ⟨t, h3, h4⟩ := atI_dp h2 e
    exact .inr (.inl ⟨p, us, _, t, rfl, d2.int_of, Evl.ex_t s.e1 h1, h3, q.now s h4⟩)
  | str zz =>
    cases y with
    | int i =>
      simp only [ixD] at e
      split at e
      · rename_i hl
        cases h : atI zz.cps.toList i with
        | none => rw [h] at e; cases e
        | some c =>
          rw [h] at e
          cases e
          exact .inr (.inr ⟨_, _, c, d1.str_of, d2.int_of, hl, h, q.now s (.str _)⟩)
      · cases e
    | _ => cases e
  | _ => cases e
theorem pd_sub_ (ha : PDe X C a f) (hb : PDe X C b g) (hs : PlainIx b) : PDe X C (.Subscript a b pos) (M.op2 ixD f g) := pd_ix ix_seq ix_ok ha hb hs
def asI : D → Option Int
  | .int i => some i
  | _ => none
def M.part (f : M D) : M (Option Int) := M.bind f fun x => M.lift ((asI x).map some)
theorem pdo_none : PDo X C none (M.ret none) := po_imp po_none fun σ H Q ⟨Hf, ρ, s, h⟩ => PostG.now (b := (none : Option Int)) h s rfl
theorem pdo_some (ha : PDe X C a f) : PDo X C (some a) (M.part f) := po_imp (po_some ha) fun σ H Q ⟨Hf, ρ, s, h⟩ =>
  tG_bind s h fun v x H1 Hf1 ρ1 e1 s1 d1 h1 => by
    obtain ⟨z, hz, h2⟩ := h1.lift
    cases x <;> cases hz
    exact ⟨_, d1.int_of, PostG.now (b := some _) h2 s1 rfl⟩
def cutD (xs : List D) (lo hi : Option Int) : List D := (xs.drop (HT.sIx xs.length 0 lo)).take (HT.sIx xs.length xs.length hi - HT.sIx xs.length 0 lo)
theorem cut_dp {K : PySem.W.Frag} {H : Hp} {vs : List V} {xs : List D} (lo hi : Option Int) (h : DpAll K H vs xs) : DpAll K H (cutV vs lo hi) (cutD xs lo hi) := by
  unfold cutV cutD
  rw [DpAll.length h]
  exact DpAll.take _ (DpAll.drop _ h)
def sliceD (x : D) (lo hi : Option Int) : Option D := match x with
  | .tuple xs => some (.tuple (cutD xs lo hi))
  | .str z => if z.length ≤ sizeLine then some (.str (cutS z lo hi)) else none
  | _ => none
def M.slice (f : M D) (l u : M (Option Int)) : M D := M.bind f fun x => M.bind l fun a => M.bind u fun b => M.lift (sliceD x a b)
theorem pd_slice (ha : PDe X C a f) (hl : PDo X C lo l) (hu : PDo X C hi u) : PDe X C (.Subscript a (.Slice lo hi none p2) pos) (M.slice f l u) :=
  pe_imp (pe_slice (sl_tupA.or sl_str) ha hl hu) fun σ H Q ⟨Hf, ρ, s, h⟩ =>
    tG_bind s h fun v x H1 Hf1 ρ1 e1 s1 d1 h1 => tG_bind s1 h1 fun i i' H2 Hf2 ρ2 e2 s2 d2 h2 => tG_bind s2 h2 fun j j' H3 Hf3 ρ3 e3 s3 d3 h3 => by
      have d2 : i = i' := d2
      have d3 : j = j' := d3
      subst d2 d3
      obtain ⟨z, hz, h4⟩ := h3.lift
      have d1 := Dp.mono (e2.trans e3) _ _ d1
      unfold sliceD at hz
      split at hz
      · cases hz
        obtain ⟨p, us, rfl, g1, g2⟩ := Dp.tup_of d1
        have hlen := DpAll.length g2
        refine .inl ⟨p, us, rfl, Evl.ex_t s3.e1 g1, fun hw => ?_, fun _ t ht => ?_⟩
        · refine PostG.now (b := V.ref p) h4 s3 ?_
          rename_i xs _
          have e : cutD xs i j = xs := by
            unfold cutD
            rw [← hlen, hw.1, hw.2, Nat.sub_zero, List.drop_zero, hlen, List.take_length]
          rw [e]
          exact .tup g1 g2
        · have gr := Grow.new (o := .tup (cutV us i j)) s3.e1 ht
          exact PostG.nowG (b := V.ref t) h4 s3 gr (.tup (SqT.of upd_same) (DpAll.mono gr.f _ _ (cut_dp i j g2)))
      · split at hz
        · rename_i hl
          cases hz
          have e := Dp.str_of d1
          subst e
          exact .inr ⟨_, rfl, hl, PostG.now (b := V.str _) h4 s3 (.str _)⟩
        · cases hz
      · cases hz
/-- a slice of a list: a new list -/
def M.sliceL (f : M D) (l u : M (Option Int)) : M (List D) := M.bind f fun x => M.bind l fun a => M.bind u fun b => M.lift (match x with | .list xs => some (cutD xs a b) | _ => none)
theorem pdl_slice (ha : PDe X C a f) (hl : PDo X C lo l) (hu : PDo X C hi u) : PDl X C (.Subscript a (.Slice lo hi none p2) pos) (M.sliceL f l u) :=
  pe_imp (pe_slice sl_list ha hl hu) fun σ H Q ⟨Hf, ρ, s, h⟩ =>
    tG_bind s h fun v x H1 Hf1 ρ1 e1 s1 d1 h1 => tG_bind s1 h1 fun i i' H2 Hf2 ρ2 e2 s2 d2 h2 => tG_bind s2 h2 fun j j' H3 Hf3 ρ3 e3 s3 d3 h3 => by
      have d2 : i = i' := d2
      have d3 : j = j' := d3
      subst d2 d3
      obtain ⟨z, hz, h4⟩ := h3.lift
      have d1 := Dp.mono (e2.trans e3) _ _ d1
      cases x <;> cases hz
      obtain ⟨p, us, rfl, g1, g2⟩ := Dp.list_of d1
      refine ⟨p, us, rfl, Evl.ex_l s3.e1 g1, fun t ht => ?_⟩
      exact PostG.nowG (b := V.ref t) h4 s3 (Grow.mine (o := .lst (cutV us i j)) s3.e1 ht) (s3.newL ht (cut_dp i j g2))
/-- list + list: a new list -/
def M.catL (f g : M D) : M (List D) := M.bind f fun x => M.bind g fun y => M.lift (match x, y with | .list xs, .list ys => if xs.length + ys.length ≤ sizeLine then some (xs ++ ys) else none | _, _ => none)
theorem pdl_cat (ha : PDe X C a f) (hb : PDe X C b g) : PDl X C (.BinOp a .Add b pos) (M.catL f g) := pe_imp (pe_op op_catL ha hb) fun σ H Q ⟨Hf, ρ, s, h⟩ =>
  tG_bind s h fun v x H1 Hf1 ρ1 e1 s1 d1 h1 => tG_bind s1 h1 fun w y H2 Hf2 ρ2 e2 s2 d2 h2 => by
    obtain ⟨z, hz, h4⟩ := h2.lift
    have d1 := Dp.mono e2 _ _ d1
    cases x <;> cases y <;> first | cases hz | skip
    simp only at hz
    split at hz
    · rename_i hl
      cases hz
      obtain ⟨p, us, rfl, g1, g2⟩ := Dp.list_of d1
      obtain ⟨p', ws, rfl, g3, g4⟩ := Dp.list_of d2
      have l1 := DpAll.length g2
      have l2 := DpAll.length g4
      refine ⟨p, p', us, ws, rfl, rfl, Evl.ex_l s2.e1 g1, Evl.ex_l s2.e1 g3, by omega, fun t ht => ?_⟩
      exact PostG.nowG (b := V.ref t) h4 s2 (Grow.mine (o := .lst (us ++ ws)) s2.e1 ht) (s2.newL ht (DpAll.append g2 g4))
    · cases hz
end
end PD

set_option maxRecDepth 100000
set_option maxHeartbeats 4000000
set_option autoImplicit false
namespace PD
open PySem PySem.Spec L2
open Evl (Ex)

/-! ### built-in functions on data -/
def CallD (K : PySem.W.Frag) (r : List V → Hp → VK → Prop) (o : List D → Option D) : Prop :=
  ∀ (C : Fc) (Hf H : Hp) (σ : L2.St) (ρ : DE) (vs : List V) (xs : List D) (z : D) (Q : VK), SR K C Hf H σ ρ → DpAll K Hf vs xs → o xs = some z → PostG K C σ (relD K σ) Hf (.ok z ρ) Q → r vs H Q
def M.call (o : List D → Option D) (g : M (List Arg)) : M D := M.bind (M.dats g) fun xs => M.lift (o xs)
section
variable {X : Cx} {C : Fc} {pos p : Pos} {e a b : Expr} {es : List Expr} {x : Str} {bid T : String} {r : List V → Hp → VK → Prop} {o : List D → Option D} {g : M (List Arg)} {f : M D}
theorem call_go (ho : CallD X.K r o) {σ : L2.St} {H : Hp} {Q : VK} (h : tG X.K C (relD X.K) (M.call o g) σ H Q) : tCB r (tG X.K C (relA X.K) g) σ H Q := by
  obtain ⟨Hf, ρ, s, h⟩ := h
  have h : PostG X.K C σ (relD X.K σ) Hf (M.bind g (fun as => M.bind (M.lift (datOf as)) fun xs => M.lift (o xs)) ρ) Q := by
    have e : M.call o g ρ = M.bind g (fun as => M.bind (M.lift (datOf as)) fun xs => M.lift (o xs)) ρ := by
      unfold M.call M.dats M.bind
      cases g ρ <;> rfl
    rw [← e]
    exact h
  refine tG_bind s h fun vs as H1 Hf1 ρ1 e1 s1 d1 h1 => ?_
  cases q : datOf as with
  | none =>
    unfold M.bind M.lift at h1
    rw [q] at h1
    exact (show False from h1).elim
  | some xs =>
    have h1 : PostG X.K C σ (relD X.K σ) Hf1 (M.lift (o xs) ρ1) Q := by
      unfold M.bind M.lift at h1
      rw [q] at h1
      exact h1
    obtain ⟨z, hz, h2⟩ := h1.lift
    exact ho C Hf1 H1 σ ρ1 vs xs z Q s1 (ArgsRel.dats d1 q) hz h2
theorem pd_callB (hc : CallR X (.builtin bid) r) (ho : CallD X.K r o) (hg : Gl X x) (hm : X.mg x = none) (hv : bootBuiltins x = some (.builtin bid)) (ha : PDa X C (e :: es) g) (hn : x ≠ "__name__" := by decide) (hdb : (x == ("__debug__" : Str)) = false := by decide)
    (he : starEach (e :: es) X.env = (false, eval e X.env) :: starEach es X.env := by rfl) (hpl : (backTo pos (starEach es X.env)).any (·.1) = false := by rfl) : PDe X C (.Call (.Name x p) (e :: es) [] pos) (M.call o g) :=
  pe_imp (pe_callB hc hg hm hv ha hn hdb he hpl) fun _ _ _ h => call_go ho h
theorem pd_callTy (hc : CallR X (.type T) r) (ho : CallD X.K r o) (hg : Gl X x) (hm : X.mg x = none) (hv : bootBuiltins x = some (.type T)) (ha : PDa X C (e :: es) g) (hn : x ≠ "__name__" := by decide) (hdb : (x == ("__debug__" : Str)) = false := by decide)
    (he : starEach (e :: es) X.env = (false, eval e X.env) :: starEach es X.env := by rfl) (hpl : (backTo pos (starEach es X.env)).any (·.1) = false := by rfl) : PDe X C (.Call (.Name x p) (e :: es) [] pos) (M.call o g) :=
  pe_imp (pe_callTy hc hg hm hv ha hn hdb he hpl) fun _ _ _ h => call_go ho h
theorem dp1 {K : PySem.W.Frag} {H : Hp} {vs : List V} {x : D} (h : DpAll K H vs [x]) : ∃ v, vs = [v] ∧ Dp K H v x := by
  cases h with
  | cons h t => cases t; exact ⟨_, rfl, h⟩
theorem dp2 {K : PySem.W.Frag} {H : Hp} {vs : List V} {x y : D} (h : DpAll K H vs [x, y]) : ∃ v w, vs = [v, w] ∧ Dp K H v x ∧ Dp K H w y := by
  cases h with
  | cons h t =>
    obtain ⟨w, rfl, h2⟩ := dp1 t
    exact ⟨_, _, rfl, h, h2⟩
def lenD : List D → Option D
  | [.list xs] => some (.int xs.length)
  | [.tuple xs] => some (.int xs.length)
  | [.str z] => if z.length ≤ sizeLine then some (.int z.length) else none
  | _ => none
theorem len_ok : CallD X.K (fun xs H Q => ∃ x n, xs = [x] ∧ LenV X.K x H n ∧ Q (.int n) H) lenD := fun C Hf H σ ρ vs xs z Q s d e q => by
  unfold lenD at e
  split at e
  · cases e
    obtain ⟨v, rfl, h⟩ := dp1 d
    obtain ⟨p, us, rfl, h1, h2⟩ := h.list_of
    exact ⟨.ref p, _, rfl, .inl ⟨us, Evl.ex_l s.e1 h1, h2.length.symm⟩, q.now s (.int _)⟩
  · cases e
    obtain ⟨v, rfl, h⟩ := dp1 d
    obtain ⟨p, us, rfl, h1, h2⟩ := h.tup_of
    exact ⟨.ref p, _, rfl, .inr ⟨us, Evl.ex_t s.e1 h1, h2.length.symm⟩, q.now s (.int _)⟩
  · split at e
    · rename_i hl
      cases e
      obtain ⟨v, rfl, h⟩ := dp1 d
      rw [h.str_of]
      exact ⟨_, _, rfl, ⟨hl, rfl⟩, q.now s (.int _)⟩
    · cases e
  · cases e
theorem pd_len (hm : X.mg "len" = none) (ha : PDa X C (e :: es) g) (hg : Gl X "len" := by rfl) (he : starEach (e :: es) X.env = (false, eval e X.env) :: starEach es X.env := by rfl) (hpl : (backTo pos (starEach es X.env)).any (·.1) = false := by rfl) : PDe X C (.Call (.Name "len" p) (e :: es) [] pos) (M.call lenD g) :=
  pd_callB call_len len_ok hg hm PySem.boot_len ha (by decide) (by decide) he hpl
def absD : List D → Option D
  | [.int i] => some (.int (if i < 0 then -i else i))
  | _ => none
theorem abs_ok {K : PySem.W.Frag} : CallD K (fun xs H Q => ∃ i, xs = [.int i] ∧ Q (.int (if i < 0 then -i else i)) H) absD := fun C Hf H σ ρ vs xs z Q s d e q => by
  unfold absD at e
  split at e
  · cases e
    obtain ⟨v, rfl, h⟩ := dp1 d
    exact ⟨_, by rw [h.int_of], q.now s (.int _)⟩
  · cases e
theorem pd_abs (hm : X.mg "abs" = none) (ha : PDa X C (e :: es) g) (hg : Gl X "abs" := by rfl) (he : starEach (e :: es) X.env = (false, eval e X.env) :: starEach es X.env := by rfl) (hpl : (backTo pos (starEach es X.env)).any (·.1) = false := by rfl) : PDe X C (.Call (.Name "abs" p) (e :: es) [] pos) (M.call absD g) :=
  pd_callB call_abs abs_ok hg hm (by decide +kernel) ha (by decide) (by decide) he hpl
def maxD : List D → Option D
  | [.int i, .int j] => some (.int (if j > i then j else i))
  | _ => none
def minD : List D → Option D
  | [.int i, .int j] => some (.int (if j < i then j else i))
  | _ => none
theorem max_ok {K : PySem.W.Frag} : CallD K (fun xs H Q => ∃ i j, xs = [.int i, .int j] ∧ Q (.int (if j > i then j else i)) H) maxD := fun C Hf H σ ρ vs xs z Q s d e q => by
  unfold maxD at e
  split at e
  · cases e
    obtain ⟨v, w, rfl, h, h2⟩ := dp2 d
    exact ⟨_, _, by rw [h.int_of, h2.int_of], q.now s (.int _)⟩
  · cases e
theorem min_ok {K : PySem.W.Frag} : CallD K (fun xs H Q => ∃ i j, xs = [.int i, .int j] ∧ Q (.int (if j < i then j else i)) H) minD := fun C Hf H σ ρ vs xs z Q s d e q => by
  unfold minD at e
  split at e
  · cases e
    obtain ⟨v, w, rfl, h, h2⟩ := dp2 d
    exact ⟨_, _, by rw [h.int_of, h2.int_of], q.now s (.int _)⟩
  · cases e
theorem pd_max (hc : X.calm = true) (hm : X.mg "max" = none) (ha : PDa X C (e :: es) g) (hg : Gl X "max" := by rfl) (he : starEach (e :: es) X.env = (false, eval e X.env) :: starEach es X.env := by rfl) (hpl : (backTo pos (starEach es X.env)).any (·.1) = false := by rfl) : PDe X C (.Call (.Name "max" p) (e :: es) [] pos) (M.call maxD g) :=
  pd_callB (call_max2 hc) max_ok hg hm (by decide +kernel) ha (by decide) (by decide) he hpl
theorem pd_min (hc : X.calm = true) (hm : X.mg "min" = none) (ha : PDa X C (e :: es) g) (hg : Gl X "min" := by rfl) (he : starEach (e :: es) X.env = (false, eval e X.env) :: starEach es X.env := by rfl) (hpl : (backTo pos (starEach es X.env)).any (·.1) = false := by rfl) : PDe X C (.Call (.Name "min" p) (e :: es) [] pos) (M.call minD g) :=
  pd_callB (call_min2 hc) min_ok hg hm (by decide +kernel) ha (by decide) (by decide) he hpl
def intD : List D → Option D
  | [.int i] => some (.int i)
  | [.bool k] => some (.int (if k then 1 else 0))
  | _ => none
theorem int_ok {K : PySem.W.Frag} : CallD K (fun xs H Q => (∃ i, xs = [.int i] ∧ Q (.int i) H) ∨ ∃ k, xs = [.bl k] ∧ Q (.int (if k then 1 else 0)) H) intD := fun C Hf H σ ρ vs xs z Q s d e q => by
  unfold intD at e
  split at e
  · cases e
    obtain ⟨v, rfl, h⟩ := dp1 d
    exact .inl ⟨_, by rw [h.int_of], q.now s (.int _)⟩
  · cases e
    obtain ⟨v, rfl, h⟩ := dp1 d
    exact .inr ⟨_, by rw [h.bool_of], q.now s (.int _)⟩
  · cases e
theorem pd_int1 (hm : X.mg "int" = none) (ha : PDa X C (e :: es) g) (hg : Gl X "int" := by rfl) (he : starEach (e :: es) X.env = (false, eval e X.env) :: starEach es X.env := by rfl) (hpl : (backTo pos (starEach es X.env)).any (·.1) = false := by rfl) : PDe X C (.Call (.Name "int" p) (e :: es) [] pos) (M.call intD g) :=
  pd_callTy call_int1 int_ok hg hm (by decide +kernel) ha (by decide) (by decide) he hpl
def boolsOf : List D → Option (List Bool)
  | [] => some []
  | .bool b :: xs => (boolsOf xs).map (b :: ·)
  | _ => none
theorem bools_v {K : PySem.W.Frag} {H : Hp} : ∀ {vs : List V} {xs : List D} {bs : List Bool}, DpAll K H vs xs → boolsOf xs = some bs → vs = bs.map V.bl
  | _, _, bs, .nil, e => by cases e; rfl
  | _, _, bs, .cons (d := d) (ds := ds) h t, e => by
    cases d <;> first | cases e | skip
    rename_i b
    have e : (boolsOf ds).map (b :: ·) = some bs := e
    cases q : boolsOf ds with
    | none => rw [q] at e; cases e
    | some cs =>
      rw [q] at e
      cases e
      rw [h.bool_of, bools_v t q]
      rfl
def rAllT (K : PySem.W.Frag) : List V → Hp → VK → Prop := fun vs H Q => ∃ (a : Addr) (bs : List Bool), vs = [V.ref a] ∧ SqT K H a (bs.map V.bl) ∧ Q (.bl (bs.all id)) H
theorem cr_allT (hc : X.calm = true) : CallR X (.builtin "all") (rAllT X.K) := by
  intro pins s σ H vs us Q I r h
  obtain ⟨a, bs, rfl, hs, q⟩ := h
  obtain ⟨its, rv, ht, _⟩ := I.tuple hs
  rw [Vals.ref1 r]
  have hb := rv.bls
  have hne : a ≠ s.heap.objs.size := by
    obtain ⟨o, e, _⟩ := ht
    exact Nat.ne_of_lt (Heap.lt_size e)
  refine call_all_walk (wpAny_pyIter_tuple (show s.heap.IsTuple a its.toArray from ht) ?_)
  refine ⟨_, _, _, _, _, _, _, rfl, Walks.tuple (A := X.A.in1) (I.ok.hd hc) _ a hne its.toArray, ⟨⟨_, Heap.get?_push_size _ rfl, rfl, rfl⟩, (show s.heap.IsTuple a its.toArray from ht).push _⟩, truth_bools hb, fun h' tk hk => ?_⟩
  refine ⟨.bl _, H, I.kept fun b o eo => hk b o (fun hmem => ?_) (Heap.get?_push_of_some _ eo), ?_, q⟩
  · rcases List.mem_cons.mp hmem with e1 | hmem
    · exact absurd (e1 ▸ Heap.lt_size eo) (Nat.lt_irrefl _)
    · cases hmem
  · show Value.bool _ = Value.bool _
    rw [← all_range, hb, List.size_toArray, List.length_map]
def allD : List D → Option D
  | [.list xs] => (boolsOf xs).map fun bs => .bool (bs.all id)
  | [.tuple xs] => (boolsOf xs).map fun bs => .bool (bs.all id)
  | _ => none
theorem all_ok : CallD X.K (fun vs H Q => rAll X.K vs H Q ∨ rAllT X.K vs H Q) allD := fun C Hf H σ ρ vs xs z Q s d e q => by
  unfold allD at e
  split at e
  · rename_i xs
    cases h : boolsOf xs with
    | none => rw [h] at e; cases e
    | some bs =>
      rw [h] at e
      cases e
      obtain ⟨v, rfl, hv⟩ := dp1 d
      obtain ⟨p, us, rfl, h1, h2⟩ := hv.list_of
      exact .inl ⟨p, bs, rfl, by rw [← bools_v h2 h]; exact Evl.ex_l s.e1 h1, q.now s (.bl _)⟩
  · rename_i xs
    cases h : boolsOf xs with
    | none => rw [h] at e; cases e
    | some bs =>
      rw [h] at e
      cases e
      obtain ⟨v, rfl, hv⟩ := dp1 d
      obtain ⟨p, us, rfl, h1, h2⟩ := hv.tup_of
      exact .inr ⟨p, bs, rfl, by rw [← bools_v h2 h]; exact Evl.ex_t s.e1 h1, q.now s (.bl _)⟩
  · cases e
theorem pd_all (hc : X.calm = true) (hm : X.mg "all" = none) (ha : PDa X C (e :: es) g) (hg : Gl X "all" := by rfl) (he : starEach (e :: es) X.env = (false, eval e X.env) :: starEach es X.env := by rfl) (hpl : (backTo pos (starEach es X.env)).any (·.1) = false := by rfl) : PDe X C (.Call (.Name "all" p) (e :: es) [] pos) (M.call allD g) :=
  pd_callB ((cr_all hc).or (cr_allT hc)) all_ok hg hm (by decide +kernel) ha (by decide) (by decide) he hpl
def anyD : List D → Option D
  | [.list xs] => (boolsOf xs).map fun bs => .bool (bs.any id)
  | _ => none
theorem any_ok : CallD X.K (rAny X.K) anyD := fun C Hf H σ ρ vs xs z Q s d e q => by
  unfold anyD at e
  split at e
  · rename_i xs
    cases h : boolsOf xs with
    | none => rw [h] at e; cases e
    | some bs =>
      rw [h] at e
      cases e
      obtain ⟨v, rfl, hv⟩ := dp1 d
      obtain ⟨p, us, rfl, h1, h2⟩ := hv.list_of
      exact ⟨p, bs, rfl, by rw [← bools_v h2 h]; exact Evl.ex_l s.e1 h1, q.now s (.bl _)⟩
  · cases e
theorem pd_any (hc : X.calm = true) (hm : X.mg "any" = none) (ha : PDa X C (e :: es) g) (hg : Gl X "any" := by rfl) (he : starEach (e :: es) X.env = (false, eval e X.env) :: starEach es X.env := by rfl) (hpl : (backTo pos (starEach es X.env)).any (·.1) = false := by rfl) : PDe X C (.Call (.Name "any" p) (e :: es) [] pos) (M.call anyD g) :=
  pd_callB (cr_any hc) any_ok hg hm (by decide +kernel) ha (by decide) (by decide) he hpl
def intsOf : List D → Option (List Int)
  | [] => some []
  | .int b :: xs => (intsOf xs).map (b :: ·)
  | _ => none
theorem ints_v {K : PySem.W.Frag} {H : Hp} : ∀ {vs : List V} {xs : List D} {bs : List Int}, DpAll K H vs xs → intsOf xs = some bs → vs = bs.map V.int
  | _, _, bs, .nil, e => by cases e; rfl
  | _, _, bs, .cons (d := d) (ds := ds) h t, e => by
    cases d <;> first | cases e | skip
    rename_i b
    have e : (intsOf ds).map (b :: ·) = some bs := e
    cases q : intsOf ds with
    | none => rw [q] at e; cases e
    | some cs =>
      rw [q] at e
      cases e
      rw [h.int_of, ints_v t q]
      rfl
def sumD : List D → Option D
  | [.list xs] => (intsOf xs).map fun bs => .int bs.sum
  | _ => none
theorem sum_ok : CallD X.K (rSum X.K) sumD := fun C Hf H σ ρ vs xs z Q s d e q => by
  unfold sumD at e
  split at e
  · rename_i xs
    cases h : intsOf xs with
    | none => rw [h] at e; cases e
    | some bs =>
      rw [h] at e
      cases e
      obtain ⟨v, rfl, hv⟩ := dp1 d
      obtain ⟨p, us, rfl, h1, h2⟩ := hv.list_of
      exact ⟨p, bs, rfl, by rw [← ints_v h2 h]; exact Evl.ex_l s.e1 h1, q.now s (.int _)⟩
  · cases e
theorem pd_sum (hc : X.calm = true) (hm : X.mg "sum" = none) (ha : PDa X C (e :: es) g) (hg : Gl X "sum" := by rfl) (he : starEach (e :: es) X.env = (false, eval e X.env) :: starEach es X.env := by rfl) (hpl : (backTo pos (starEach es X.env)).any (·.1) = false := by rfl) : PDe X C (.Call (.Name "sum" p) (e :: es) [] pos) (M.call sumD g) :=
  pd_callB (cr_sum hc) sum_ok hg hm (by decide +kernel) ha (by decide) (by decide) he hpl
def tupleD : List D → Option D
  | [.list xs] => some (.tuple xs)
  | [.tuple xs] => some (.tuple xs)
  | _ => none
theorem tuple_ok : CallD X.K (fun xs H Q => ∃ p ys, xs = [.ref p] ∧ ((SqL X.K H p ys ∧ ∀ l, H l = none → Q (.ref l) (upd H l (.tup ys))) ∨ (SqT X.K H p ys ∧ Q (.ref p) H))) tupleD := fun C Hf H σ ρ vs xs z Q s d e q => by
  unfold tupleD at e
  split at e
  · cases e
    obtain ⟨v, rfl, h⟩ := dp1 d
    obtain ⟨p, us, rfl, h1, h2⟩ := h.list_of
    refine ⟨p, us, rfl, .inl ⟨Evl.ex_l s.e1 h1, fun t ht => ?_⟩⟩
    have gr := Grow.new (o := .tup us) s.e1 ht
    exact q.nowG s gr (.tup (SqT.of upd_same) (DpAll.mono gr.f _ _ h2))
  · cases e
    obtain ⟨v, rfl, h⟩ := dp1 d
    obtain ⟨p, us, rfl, h1, h2⟩ := h.tup_of
    exact ⟨p, us, rfl, .inr ⟨Evl.ex_t s.e1 h1, q.now s (.tup h1 h2)⟩⟩
  · cases e
theorem pd_tuple1 (hm : X.mg "tuple" = none) (ha : PDa X C (e :: es) g) (hg : Gl X "tuple" := by rfl) (he : starEach (e :: es) X.env = (false, eval e X.env) :: starEach es X.env := by rfl) (hpl : (backTo pos (starEach es X.env)).any (·.1) = false := by rfl) : PDe X C (.Call (.Name "tuple" p) (e :: es) [] pos) (M.call tupleD g) :=
  pd_callTy call_tuple_of tuple_ok hg hm (by decide +kernel) ha (by decide) (by decide) he hpl
/-- list(..) of a list or a tuple: a new list -/
def seqOf : List D → Option (List D)
  | [.list xs] => some xs
  | [.tuple xs] => some xs
  | _ => none
def M.listL (g : M (List Arg)) : M (List D) := M.bind g fun as => M.bind (M.lift (datOf as)) fun xs => M.lift (seqOf xs)
theorem pdl_list (hm : X.mg "list" = none) (ha : PDa X C (e :: es) g) (hg : Gl X "list" := by rfl) (he : starEach (e :: es) X.env = (false, eval e X.env) :: starEach es X.env := by rfl) (hpl : (backTo pos (starEach es X.env)).any (·.1) = false := by rfl) : PDl X C (.Call (.Name "list" p) (e :: es) [] pos) (M.listL g) :=
  pe_imp (pe_callTy call_list_of hg hm (by decide +kernel) ha (by decide) (by decide) he hpl) fun σ H Q ⟨Hf, ρ, s, h⟩ =>
    tG_bind s h fun vs as H1 Hf1 ρ1 e1 s1 d1 h1 => by
      cases q : datOf as with
      | none =>
        unfold M.bind M.lift at h1
        rw [q] at h1
        exact (show False from h1).elim
      | some xs =>
        have da := ArgsRel.dats d1 q
        have h1 : PostG X.K C σ (relL X.K C σ) Hf1 (M.lift (seqOf xs) ρ1) Q := by
          unfold M.bind M.lift at h1
          rw [q] at h1
          exact h1
        obtain ⟨z, hz, h2⟩ := h1.lift
        unfold seqOf at hz
        split at hz
        · cases hz
          obtain ⟨v, rfl, h⟩ := dp1 da
          obtain ⟨p, us, rfl, g1, g2⟩ := h.list_of
          refine ⟨p, us, rfl, .inl (Evl.ex_l s1.e1 g1), fun t ht => ?_⟩
          exact PostG.nowG (b := V.ref t) h2 s1 (Grow.mine (o := .lst us) s1.e1 ht) (s1.newL ht g2)
        · cases hz
          obtain ⟨v, rfl, h⟩ := dp1 da
          obtain ⟨p, us, rfl, g1, g2⟩ := h.tup_of
          refine ⟨p, us, rfl, .inr (Evl.ex_t s1.e1 g1), fun t ht => ?_⟩
          exact PostG.nowG (b := V.ref t) h2 s1 (Grow.mine (o := .lst us) s1.e1 ht) (s1.newL ht g2)
        · cases hz

/-! ### isinstance -/
def tyName : D → String
  | .none => "NoneType" | .bool _ => "bool" | .int _ => "int" | .str _ => "str" | .list _ => "list" | .tuple _ => "tuple" | .dict _ => "dict"
theorem ty_of {K : PySem.W.Frag} {H : Hp} {v : V} {x : D} (d : Dp K H v x) : TyX K H v (.type (tyName x)) := by
  cases d with
  | non => exact .base .non
  | bl b => exact .base (.bl b)
  | int i => exact .base (.int i)
  | str x => exact .base (.str x)
  | lst h _ =>
    rcases h with (h | ⟨o, h⟩) | ⟨o, its, n, h1, h2, _⟩
    · exact .base (.lst h)
    · exact .base (.frz h)
    · exact .kList h1 h2
  | tup h _ =>
    rcases h with (h | ⟨o, h⟩) | ⟨o, its, n, h1, h2, _⟩
    · exact .base (.tup h)
    · exact .fTuple h
    · exact .kTuple h1 h2
def isD (T : D → Bool) (x : D) : Option D := some (.bool (T x))
def tInt : D → Bool | .int _ => true | .bool _ => true | _ => false
def tBool : D → Bool | .bool _ => true | _ => false
def tStr : D → Bool | .str _ => true | _ => false
def tTuple : D → Bool | .tuple _ => true | _ => false
def tList : D → Bool | .list _ => true | _ => false
def tSeq : D → Bool | .list _ => true | .tuple _ => true | _ => false
theorem seq_n {x : D} (hl : tList x = false) (ht : tTuple x = false) : tSeq x = false := by cases x <;> simp_all [tList, tTuple, tSeq]
theorem seq_t {x : D} (ht : tTuple x = true) : tSeq x = true := by cases x <;> simp_all [tTuple, tSeq]
theorem seq_l {x : D} (ht : tList x = true) : tSeq x = true := by cases x <;> simp_all [tList, tSeq]
theorem k_int (x : D) (h : ∀ kvs, x ≠ .dict kvs) : kitB (tyName x) "int" = some (tInt x) := by cases x <;> first | (exact absurd rfl (h _)) | (simp only [tyName, tInt]; decide +kernel)
theorem k_bool (x : D) (h : ∀ kvs, x ≠ .dict kvs) : kitB (tyName x) "bool" = some (tBool x) := by cases x <;> first | (exact absurd rfl (h _)) | (simp only [tyName, tBool]; decide +kernel)
theorem k_str (x : D) (h : ∀ kvs, x ≠ .dict kvs) : kitB (tyName x) "str" = some (tStr x) := by cases x <;> first | (exact absurd rfl (h _)) | (simp only [tyName, tStr]; decide +kernel)
theorem k_tuple (x : D) (h : ∀ kvs, x ≠ .dict kvs) : kitB (tyName x) "tuple" = some (tTuple x) := by cases x <;> first | (exact absurd rfl (h _)) | (simp only [tyName, tTuple]; decide +kernel)
theorem k_list (x : D) (h : ∀ kvs, x ≠ .dict kvs) : kitB (tyName x) "list" = some (tList x) := by cases x <;> first | (exact absurd rfl (h _)) | (simp only [tyName, tList]; decide +kernel)
theorem dp_nodict {K : PySem.W.Frag} {H : Hp} {v : V} {x : D} (d : Dp K H v x) : ∀ kvs, x ≠ .dict kvs := fun kvs e => by subst e; cases d
theorem pd_isi {T : String} {xT : Str} {pT : Pos} {t : D → Bool} (hk : ∀ x : D, (∀ kvs, x ≠ .dict kvs) → kitB (tyName x) T = some (t x)) (hm : X.mg "isinstance" = none) (hmT : X.mg xT = none) (hvT : bootBuiltins xT = some (.type T)) (ha : PDe X C a f) (hg : Gl X "isinstance" := by rfl) (hgT : Gl X xT := by rfl)
    (hnT : xT ≠ "__name__" := by decide) (hdT : (xT == ("__debug__" : Str)) = false := by decide) (hs1 : starEach (a :: [.Name xT pT]) X.env = (false, eval a X.env) :: starEach [.Name xT pT] X.env := by rfl)
    (hs2 : starEach [.Name xT pT] X.env = (false, eval (.Name xT pT) X.env) :: starEach [] X.env := by rfl) (hpl : (backTo pos (starEach [.Name xT pT] X.env)).any (·.1) = false := by rfl) : PDe X C (.Call (.Name "isinstance" p) [a, .Name xT pT] [] pos) (M.op1 (isD t) f) :=
  pe_imp (pe_callB call_isi hg hm (by decide +kernel) (pa_cons ha (pa_cons (pe_bltn hgT hmT hvT (show RelV (.ty T) _ from rfl) hnT hdT) pa_nil hs2) hs1) (by decide) (by decide) hs1 hpl) fun σ H Q ⟨Hf, ρ, s, h⟩ =>
    tG_bind s h fun v x H1 Hf1 ρ1 e1 s1 d1 h1 => by
      obtain ⟨z, hz, h2⟩ := h1.lift
      cases hz
      have d1 : Dp X.K Hf1 v x := d1
      exact ⟨v, .ty T, _, _, t x, rfl, .ty T, ty_of (Dp.mono s1.e1 _ _ d1), kit_ty (hk x (dp_nodict d1)), PostG.now (b := V.bl _) h2 s1 (.bl _)⟩
theorem pd_isiLT {pT p1 p2 : Pos} {k : Nat} (hm : X.mg "isinstance" = none) (hml : X.mg "list" = none) (hmt : X.mg "tuple" = none) (ha : PDe X C a f) (hg : Gl X "isinstance" := by rfl) (hgl : Gl X "list" := by rfl) (hgt : Gl X "tuple" := by rfl)
    (hs1 : starEach (a :: [.Tuple [.Name "list" p1, .Name "tuple" p2] k pT]) X.env = (false, eval a X.env) :: starEach [.Tuple [.Name "list" p1, .Name "tuple" p2] k pT] X.env := by rfl)
    (hs2 : starEach [.Tuple [.Name "list" p1, .Name "tuple" p2] k pT] X.env = (false, eval (.Tuple [.Name "list" p1, .Name "tuple" p2] k pT) X.env) :: starEach [] X.env := by rfl)
    (hs3 : starEach [.Name "list" p1, .Name "tuple" p2] X.env = (false, eval (.Name "list" p1) X.env) :: starEach [.Name "tuple" p2] X.env := by rfl) (hs4 : starEach [.Name "tuple" p2] X.env = (false, eval (.Name "tuple" p2) X.env) :: starEach [] X.env := by rfl)
    (hpl : (backTo pos (starEach [.Tuple [.Name "list" p1, .Name "tuple" p2] k pT] X.env)).any (·.1) = false := by rfl) : PDe X C (.Call (.Name "isinstance" p) [a, .Tuple [.Name "list" p1, .Name "tuple" p2] k pT] [] pos) (M.op1 (isD tSeq) f) :=
  pe_imp (pe_callB call_isiT hg hm (by decide +kernel) (pa_cons ha (pa_cons (pe_tup (pa_cons (pe_bltn hgl hml (by decide +kernel) (show RelV (.ty "list") _ from rfl)) (pa_cons (pe_bltn hgt hmt (by decide +kernel) (show RelV (.ty "tuple") _ from rfl)) pa_nil hs4) hs3)) pa_nil hs2) hs1) (by decide) (by decide) hs1 hpl) fun σ H Q ⟨Hf, ρ, s, h⟩ =>
    tG_bind s h fun v x H1 Hf1 ρ1 e1 s1 d1 h1 => by
      obtain ⟨z, hz, h2⟩ := h1.lift
      cases hz
      have d1 : Dp X.K Hf1 v x := d1
      refine ⟨by show 2 ≤ sizeLine; decide, fun t ht => ?_⟩
      have nd := dp_nodict d1
      have gr := Grow.mine (o := .tup [.ty "list", .ty "tuple"]) s1.e1 ht
      refine ⟨v, t, [.ty "list", .ty "tuple"], _, [.type "list", .type "tuple"], tSeq x, rfl, upd_same, .cons (.ty _) (.cons (.ty _) .nil), ty_of (Dp.mono (s1.e1.trans gr.h) _ _ d1), ?_, ?_⟩
      · refine kitAny_cons (kit_ty (k_list x nd)) (fun hl => kitAny_cons (kit_ty (k_tuple x nd)) (fun ht => ?_) fun ht => ?_) fun hl => ?_
        · rw [kitAny_nil]
          rw [seq_n hl ht]
        · exact seq_t ht
        · exact seq_l hl
      · exact PostG.nowG (b := V.bl _) h2 s1 gr (.bl _)
end
end PD

set_option maxRecDepth 100000
set_option maxHeartbeats 4000000
set_option autoImplicit false
namespace PD
open PySem PySem.Spec L2
open Evl (Ex)

/-! ### statements -/
inductive Fl where
  | nx (ρ : DE)
  | rt (x : D) (ρ : DE)
  | rl (xs : List D) (ρ : DE)
  | bk (ρ : DE)
  | ct (ρ : DE)
  | ex (e : EV) (ρ : DE)
  | bad
abbrev MS : Type := DE → Fl
section
variable (K : PySem.W.Frag) (C : Fc)
def PostS (Hf : Hp) (fl : Fl) (E : Ends) : Prop :=
  match fl with
  | .nx ρ' => ∀ (σ' : L2.St) (H' Hf' : Hp), Ex Hf Hf' → SR K C Hf' H' σ' ρ' → E.nx σ' H'
  | .bk ρ' => ∀ (σ' : L2.St) (H' Hf' : Hp), Ex Hf Hf' → SR K C Hf' H' σ' ρ' → E.bk σ' H'
  | .ct ρ' => ∀ (σ' : L2.St) (H' Hf' : Hp), Ex Hf Hf' → SR K C Hf' H' σ' ρ' → E.ct σ' H'
  | .rt x ρ' => ∀ (v : V) (σ' : L2.St) (H' Hf' : Hp), Ex Hf Hf' → SR K C Hf' H' σ' ρ' → Dp K Hf' v x → E.rt v H'
  | .rl xs ρ' => ∀ (a : Addr) (us : List V) (σ' : L2.St) (H' Hf' : Hp), Ex Hf Hf' → SR K C Hf' H' σ' ρ' → Hf' a = none → H' a = some (.lst us) → DpAll K Hf' us xs → C.H0 a = none → E.rt (.ref a) H'
  | .ex e ρ' => ∀ (σ' : L2.St) (H' Hf' : Hp), Ex Hf Hf' → SR K C Hf' H' σ' ρ' → C.E e H'
  | .bad => False
def tS (g : MS) : TS := fun E σ H => ∃ Hf ρ, SR K C Hf H σ ρ ∧ PostS K C Hf (g ρ) E
end
def PDs (X : Cx) (C : Fc) (st : Stmt) (g : MS) : Prop := PS X st (tS X.K C g)
def PDss (X : Cx) (C : Fc) (st : List Stmt) (g : MS) : Prop := PSs X st (tS X.K C g)
def S.ofM {α : Type} (m : M α) (k : α → MS) : MS := fun ρ => match m ρ with
  | .ok a ρ1 => k a ρ1
  | .ex e ρ1 => .ex e ρ1
  | .bad => .bad
section
variable {K : PySem.W.Frag} {C : Fc} {α β : Type} {σ : L2.St} {Hf Hf' H : Hp} {E E' : Ends}
theorem PostS.mono {fl : Fl} (e : Ex Hf Hf') (h : PostS K C Hf fl E) : PostS K C Hf' fl E := by
  cases fl with
  | nx ρ' => exact fun σ' H' Hf'' e' s => h σ' H' Hf'' (e.trans e') s
  | bk ρ' => exact fun σ' H' Hf'' e' s => h σ' H' Hf'' (e.trans e') s
  | ct ρ' => exact fun σ' H' Hf'' e' s => h σ' H' Hf'' (e.trans e') s
  | rt x ρ' => exact fun v σ' H' Hf'' e' s => h v σ' H' Hf'' (e.trans e') s
  | rl x ρ' => exact fun a us σ' H' Hf'' e' s => h a us σ' H' Hf'' (e.trans e') s
  | ex x ρ' => exact fun σ' H' Hf'' e' s => h σ' H' Hf'' (e.trans e') s
  | bad => exact h
theorem tS_bind {rel : L2.St → Hp → Hp → DE → β → α → Prop} {f : M α} {k : α → MS} {ρ : DE} {Q1 : β → Hp → Prop} (s : SR K C Hf H σ ρ) (h : PostS K C Hf (S.ofM f k ρ) E)
    (w : ∀ (b : β) (x : α) (H1 Hf1 : Hp) (ρ1 : DE), Ex Hf Hf1 → SR K C Hf1 H1 σ ρ1 → rel σ Hf1 H1 ρ1 b x → PostS K C Hf1 (k x ρ1) E → Q1 b H1) : tG K C rel f σ H Q1 := by
  refine ⟨Hf, ρ, s, ?_⟩
  unfold S.ofM at h
  cases hf : f ρ with
  | ok x ρ1 =>
    rw [hf] at h
    exact fun b H1 Hf1 e s1 r => w b x H1 Hf1 ρ1 e s1 r (PostS.mono e h)
  | ex x ρ1 =>
    rw [hf] at h
    exact fun H' Hf'' e' s' => h σ H' Hf'' e' s'
  | bad =>
    rw [hf] at h
    exact h.elim
theorem PostS.nx {ρ : DE} (h : PostS K C Hf (.nx ρ) E) {σ' : L2.St} (s : SR K C Hf H σ' ρ) : E.nx σ' H := h σ' H Hf (Ex.refl _) s
end
section
variable {X : Cx} {C : Fc} {pos : Pos} {st : Stmt} {rest : List Stmt} {g h : MS}
def S.nil : MS := fun ρ => .nx ρ
def S.seq (g h : MS) : MS := fun ρ => match g ρ with
  | .nx ρ1 => h ρ1
  | o => o
theorem pds_nil : PDss X C [] S.nil := pss_imp pss_nil fun E σ H ⟨Hf, ρ, s, q⟩ => PostS.nx q s
theorem pds_cons (h1 : PDs X C st g) (h2 : PDss X C rest h) : PDss X C (st :: rest) (S.seq g h) := pss_imp (pss_cons h1 h2) fun E σ H ⟨Hf, ρ, s, q⟩ => by
  refine ⟨Hf, ρ, s, ?_⟩
  unfold S.seq at q
  cases hg : g ρ with
  | nx ρ1 =>
    rw [hg] at q
    exact fun σ' H' Hf' e' s' => ⟨Hf', ρ1, s', PostS.mono e' q⟩
  | rt x ρ1 => rw [hg] at q; exact q
  | rl x ρ1 => rw [hg] at q; exact q
  | bk ρ1 => rw [hg] at q; exact q
  | ct ρ1 => rw [hg] at q; exact q
  | ex e ρ1 => rw [hg] at q; exact q
  | bad => rw [hg] at q; exact q
theorem pds_one (h1 : PDs X C st g) : PDss X C [st] g := pss_one h1
def S.pass : MS := fun ρ => .nx ρ
def S.brk : MS := fun ρ => .bk ρ
def S.cnt : MS := fun ρ => .ct ρ
def S.never : MS := fun _ => .bad
theorem pd_pass : PDs X C (.Pass pos) S.pass := ps_imp ps_pass fun E σ H ⟨Hf, ρ, s, q⟩ => PostS.nx q s
theorem pd_break : PDs X C (.Break pos) S.brk := ps_imp ps_break fun E σ H ⟨Hf, ρ, s, q⟩ => q σ H Hf (Ex.refl _) s
theorem pd_continue : PDs X C (.Continue pos) S.cnt := ps_imp ps_continue fun E σ H ⟨Hf, ρ, s, q⟩ => q σ H Hf (Ex.refl _) s
theorem pd_doc {x : Str} {j pos' pos} : PDs X C (.Expr (.Constant (.str x) j pos') pos) S.pass := ps_imp ps_doc fun E σ H ⟨Hf, ρ, s, q⟩ => PostS.nx q s
theorem pd_never : PDs X C st S.never := ps_imp ps_never fun E σ H ⟨Hf, ρ, s, q⟩ => q
variable {e : Expr} {f : M D} {fl : M (List D)}
def S.ret (f : M D) : MS := S.ofM f fun x ρ => .rt x ρ
theorem pd_ret (ha : PDe X C e f) : PDs X C (.Return (some e) pos) (S.ret f) := ps_imp (ps_ret ha) fun E σ H ⟨Hf, ρ, s, q⟩ => tS_bind s q fun v x H1 Hf1 ρ1 e1 s1 d1 h1 => h1 v σ H1 Hf1 (Ex.refl _) s1 d1
/-- a new list of ours is handed back -/
def S.retL (f : M (List D)) : MS := S.ofM f fun x ρ => .rl x ρ
theorem pd_retL (ha : PDl X C e fl) : PDs X C (.Return (some e) pos) (S.retL fl) := ps_imp (ps_ret ha) fun E σ H ⟨Hf, ρ, s, q⟩ => tS_bind s q fun v x H1 Hf1 ρ1 e1 s1 d1 h1 => by
  obtain ⟨a, vs, rfl, g1, g2, g3, g4, g5, g6⟩ := d1
  exact h1 a vs σ H1 Hf1 (Ex.refl _) s1 g1 g2 g3 g4
def S.retN : MS := fun ρ => .rt .none ρ
theorem pd_retN : PDs X C (.Return none pos) S.retN := ps_imp ps_retN fun E σ H ⟨Hf, ρ, s, q⟩ => q .non σ H Hf (Ex.refl _) s .non
def S.drop (f : M D) : MS := S.ofM f fun _ ρ => .nx ρ
theorem pd_expr (ha : PDe X C e f) (hs : swapsWith e none pos.line X.env = pure false := by rfl) : PDs X C (.Expr e pos) (S.drop f) := ps_imp (ps_expr ha hs) fun E σ H ⟨Hf, ρ, s, q⟩ => tS_bind s q fun v x H1 Hf1 ρ1 e1 s1 d1 h1 => h1.nx s1
def S.ite (p : M Bool) (g h : MS) : MS := S.ofM p fun b => if b = true then g else h
theorem pd_ifS {c : Expr} {a b : List Stmt} {p : M Bool} (hc : PDt X C c p) (ha : PDss X C a g) (hb : PDss X C b h) : PDs X C (.If c a b pos) (S.ite p g h) := ps_imp (ps_if hc ha hb) fun E σ H ⟨Hf, ρ, s, q⟩ =>
  tS_bind s q fun v x H1 Hf1 ρ1 e1 s1 d1 h1 => by
    have d1 : v = x := d1
    subst d1
    cases v with
    | true => exact L2.iteT ⟨Hf1, ρ1, s1, h1⟩
    | false => exact L2.iteF ⟨Hf1, ρ1, s1, h1⟩
/-! names stored -/
def S.asg (i : Nat) (f : M D) : MS := S.ofM f fun x ρ => .nx (ρ.set i (some (.d x)))
theorem pd_set {i : Nat} {x : Str} {pos' : Pos} (hp : ∀ q, C.io = some q → q.1 ≠ i) (hN : X.N.Nodup) (ha : PDe X C e f) (hi : X.N[i]? = some x := by rfl) (hx : Loc X.env.scope x := by first | exact Or.inl rfl | exact Or.inr rfl) (hs : swapsWith e (some (.Name x pos')) pos.line X.env = pure false := by rfl)
    (hf : X.fn x = true ∨ X.env.scope.names.lookup x = some .local := by first | exact .inl rfl | exact .inr rfl) : PDs X C (.Assign [.Name x pos'] e pos) (S.asg i f) :=
  ps_imp (ps_set hN hi hx ha hs hf) fun E σ H ⟨Hf, ρ, s, q⟩ => tS_bind s q fun v y H1 Hf1 ρ1 e1 s1 d1 h1 => PostS.nx h1 (s1.setD d1 hp)
def S.own (i : Nat) (f : M (List D)) : MS := S.ofM f fun x ρ => .nx (ρ.set i (some (.own x)))
theorem own_go {i : Nat} (hp : ∀ q, C.io = some q → q.1 ≠ i) {E : Ends} {σ : L2.St} {H : Hp} (q : tS X.K C (S.own i fl) E σ H) : tAsg (tG X.K C (relL X.K C) fl) (gName i) E σ H := by
  obtain ⟨Hf, ρ, s, q⟩ := q
  refine tS_bind s q fun v y H1 Hf1 ρ1 e1 s1 d1 h1 => ?_
  obtain ⟨a, vs, rfl, g1, g2, g3, g4, g5, g6⟩ := d1
  exact PostS.nx h1 (s1.setO g1 g2 g3 g4 g5 g6 hp)
theorem pd_own {i : Nat} {x : Str} {pos' : Pos} (hp : ∀ q, C.io = some q → q.1 ≠ i) (hN : X.N.Nodup) (ha : PDl X C e fl) (hi : X.N[i]? = some x := by rfl) (hx : Loc X.env.scope x := by first | exact Or.inl rfl | exact Or.inr rfl) (hs : swapsWith e (some (.Name x pos')) pos.line X.env = pure false := by rfl)
    (hf : X.fn x = true ∨ X.env.scope.names.lookup x = some .local := by first | exact .inl rfl | exact .inr rfl) : PDs X C (.Assign [.Name x pos'] e pos) (S.own i fl) :=
  ps_imp (ps_set hN hi hx ha hs hf) fun E σ H q => own_go hp q
def vals2D : List D → Option (D × D)
  | [x, y] => some (x, y)
  | _ => none
def vals3D : List D → Option (D × D × D)
  | [x, y, z] => some (x, y, z)
  | _ => none
def S.par2 (i j : Nat) (g : M (List Arg)) : MS := S.ofM g fun as => S.ofM (M.lift ((datOf as).bind vals2D)) fun p ρ => .nx ((ρ.set i (some (.d p.1))).set j (some (.d p.2)))
def S.par3 (i j l : Nat) (g : M (List Arg)) : MS := S.ofM g fun as => S.ofM (M.lift ((datOf as).bind vals3D)) fun p ρ => .nx (((ρ.set i (some (.d p.1))).set j (some (.d p.2.1))).set l (some (.d p.2.2)))
theorem lift_s {α : Type} {K : PySem.W.Frag} {Hf : Hp} {o : Option α} {k : α → MS} {ρ : DE} {E : Ends} (h : PostS K C Hf (S.ofM (M.lift o) k ρ) E) : ∃ x, o = some x ∧ PostS K C Hf (k x ρ) E := by
  unfold S.ofM M.lift at h
  cases o with
  | none => exact (show False from h).elim
  | some x => exact ⟨x, rfl, h⟩
variable {ga : M (List Arg)}
theorem pd_par2 {i j : Nat} {x y : Str} {a b : Expr} {px py pt : Pos} {kt k2 pt2} (hpi : ∀ q, C.io = some q → q.1 ≠ i) (hpj : ∀ q, C.io = some q → q.1 ≠ j) (hc : X.calm = true) (hN : X.N.Nodup) (ha : PDa X C [a, b] ga) (hi : X.N[i]? = some x := by rfl) (hj : X.N[j]? = some y := by rfl) (hij : i ≠ j := by decide)
    (hx : X.env.scope.names.lookup x = some .local := by rfl) (hy : X.env.scope.names.lookup y = some .local := by rfl)
    (hw : swappedStores [.Tuple [.Name x px, .Name y py] kt pt] (.Tuple [a, b] k2 pt2) X.env = pure (some [x, y]) := by rfl)
    (hs : swapsWithSole [.Tuple [.Name x px, .Name y py] kt pt] (.Tuple [a, b] k2 pt2) pos.line X.env = pure false := by rfl) :
    PDs X C (.Assign [.Tuple [.Name x px, .Name y py] kt pt] (.Tuple [a, b] k2 pt2) pos) (S.par2 i j ga) :=
  ps_imp (ps_par hc hN hi hj hij hx hy ha hw hs) fun E σ H ⟨Hf, ρ, s, q⟩ => tS_bind s q fun vs as H1 Hf1 ρ1 e1 s1 d1 h1 => by
    obtain ⟨p, hp, h2⟩ := lift_s h1
    cases hd : datOf as with
    | none => rw [hd] at hp; cases hp
    | some xs =>
      rw [hd] at hp
      have hp : vals2D xs = some p := hp
      unfold vals2D at hp
      split at hp
      · cases hp
        obtain ⟨v, w, rfl, g1, g2⟩ := dp2 (ArgsRel.dats d1 hd)
        exact ⟨v, w, rfl, PostS.nx h2 ((s1.setD g1 hpi).setD g2 hpj)⟩
      · cases hp
theorem dp3 {K : PySem.W.Frag} {H : Hp} {vs : List V} {x y z : D} (h : DpAll K H vs [x, y, z]) : ∃ v w u, vs = [v, w, u] ∧ Dp K H v x ∧ Dp K H w y ∧ Dp K H u z := by
  cases h with
  | cons h t =>
    obtain ⟨w, u, rfl, h2, h3⟩ := dp2 t
    exact ⟨_, _, _, rfl, h, h2, h3⟩
theorem pd_par3 {i j l : Nat} {x y z : Str} {a b c : Expr} {px py pz pt : Pos} {kt k2 pt2} (hpi : ∀ q, C.io = some q → q.1 ≠ i) (hpj : ∀ q, C.io = some q → q.1 ≠ j) (hpl : ∀ q, C.io = some q → q.1 ≠ l) (hc : X.calm = true) (hN : X.N.Nodup) (ha : PDa X C [a, b, c] ga)
    (hi : X.N[i]? = some x := by rfl) (hj : X.N[j]? = some y := by rfl) (hl : X.N[l]? = some z := by rfl) (hij : i ≠ j := by decide) (hil : i ≠ l := by decide) (hjl : j ≠ l := by decide)
    (hx : X.env.scope.names.lookup x = some .local := by rfl) (hy : X.env.scope.names.lookup y = some .local := by rfl) (hz : X.env.scope.names.lookup z = some .local := by rfl)
    (hw : swappedStores [.Tuple [.Name x px, .Name y py, .Name z pz] kt pt] (.Tuple [a, b, c] k2 pt2) X.env = pure (some [x, y, z]) := by rfl)
    (hs : swapsWithSole [.Tuple [.Name x px, .Name y py, .Name z pz] kt pt] (.Tuple [a, b, c] k2 pt2) pos.line X.env = pure false := by rfl) :
    PDs X C (.Assign [.Tuple [.Name x px, .Name y py, .Name z pz] kt pt] (.Tuple [a, b, c] k2 pt2) pos) (S.par3 i j l ga) :=
  ps_imp (ps_par3 hc hN hi hj hl hij hil hjl hx hy hz ha hw hs) fun E σ H ⟨Hf, ρ, s, q⟩ => tS_bind s q fun vs as H1 Hf1 ρ1 e1 s1 d1 h1 => by
    obtain ⟨p, hp, h2⟩ := lift_s h1
    cases hd : datOf as with
    | none => rw [hd] at hp; cases hp
    | some xs =>
      rw [hd] at hp
      have hp : vals3D xs = some p := hp
      unfold vals3D at hp
      split at hp
      · cases hp
        obtain ⟨v, w, u, rfl, g1, g2, g3⟩ := dp3 (ArgsRel.dats d1 hd)
        exact ⟨v, w, u, rfl, PostS.nx h2 (((s1.setD g1 hpi).setD g2 hpj).setD g3 hpl)⟩
      · cases hp

/-! ### targets -/
end
abbrev Gt : Type := D → DE → Option DE
abbrev Gts : Type := List D → DE → Option DE
def G.nm (i : Nat) : Gt := fun x ρ => some (ρ.set i (some (.d x)))
def G.nil : Gts := fun xs ρ => match xs with
  | [] => some ρ
  | _ => none
def G.cons (g : Gt) (gs : Gts) : Gts := fun xs ρ => match xs with
  | x :: r => (g x ρ).bind (gs r)
  | _ => none
def G.tup (n : Nat) (gs : Gts) : Gt := fun x ρ => match x with
  | .tuple xs => if xs.length = n then gs xs ρ else none
  | _ => none
section
variable (K : PySem.W.Frag) (C : Fc)
def gD (G : Gt) (sl : List Nat) : TG := fun v σ H Q => ∃ Hf ρ x ρ', SR K C Hf H σ ρ ∧ Dp K Hf v x ∧ G x ρ = some ρ' ∧ ∀ σ', SR K C Hf H σ' ρ' → σ'.length = σ.length → (∀ i : Nat, i ∉ sl → σ'[i]? = σ[i]?) → Q σ' H
def gsD (G : Gts) (sl : List Nat) : TGs := fun vs σ H Q => ∃ Hf ρ xs ρ', SR K C Hf H σ ρ ∧ DpAll K Hf vs xs ∧ G xs ρ = some ρ' ∧ ∀ σ', SR K C Hf H σ' ρ' → σ'.length = σ.length → (∀ i : Nat, i ∉ sl → σ'[i]? = σ[i]?) → Q σ' H
end
def PDg (X : Cx) (C : Fc) (tg : Expr) (G : Gt) (sl : List Nat) : Prop := PG X tg (gD X.K C G sl)
def PDgs (X : Cx) (C : Fc) (tg : List Expr) (G : Gts) (sl : List Nat) : Prop := PGs X tg (gsD X.K C G sl)
section
variable {X : Cx} {C : Fc} {pos : Pos}
theorem pg_imp {e : Expr} {t t' : TG} (h : PG X e t) (w : ∀ v σ H Q, t' v σ H Q → t v σ H Q) : PG X e t' := ⟨fun pins s σ H v u Q I r q => h.run pins s σ H v u Q I r (w v σ H Q q)⟩
theorem pgs_imp {e : List Expr} {t t' : TGs} (h : PGs X e t) (w : ∀ v σ H Q, t' v σ H Q → t v σ H Q) : PGs X e t' := ⟨fun pins s σ H v u Q I r q => h.run pins s σ H v u Q I r (w v σ H Q q)⟩
theorem pdg_nm {i : Nat} {x : Str} (hp : ∀ q, C.io = some q → q.1 ≠ i) (hN : X.N.Nodup) (hi : X.N[i]? = some x := by rfl) (hx : Loc X.env.scope x := by first | exact Or.inl rfl | exact Or.inr rfl) (hf : X.fn x = true ∨ X.env.scope.names.lookup x = some .local := by first | exact .inl rfl | exact .inr rfl) :
    PDg X C (.Name x pos) (G.nm i) [i] := pg_imp (pg_name hN hi hx hf) fun v σ H Q ⟨Hf, ρ, x, ρ', s, d, e, k⟩ => by
  cases e
  exact k _ (s.setD d hp) (List.length_set ..) fun j hj => List.getElem?_set_ne (fun h => hj (by simp [h]))
theorem pdgs_nil : PDgs X C [] G.nil [] := pgs_imp pgs_nil fun v σ H Q ⟨Hf, ρ, xs, ρ', s, d, e, k⟩ => by
  unfold G.nil at e
  cases xs with
  | nil =>
    cases e
    cases d
    exact ⟨rfl, k σ s rfl fun _ _ => rfl⟩
  | cons _ _ => cases e
theorem pdgs_cons {e : Expr} {es : List Expr} {g : Gt} {gs : Gts} {s1 s2 : List Nat} (h1 : PDg X C e g s1) (h2 : PDgs X C es gs s2) (hs : (assignEach (e :: es) X.env).map (·.2) = assign e X.env :: (assignEach es X.env).map (·.2) := by rfl) : PDgs X C (e :: es) (G.cons g gs) (s1 ++ s2) :=
  pgs_imp (pgs_cons h1 h2 hs) fun v σ H Q ⟨Hf, ρ, xs, ρ', s, d, ee, k⟩ => by
    unfold G.cons at ee
    cases xs with
    | nil => cases ee
    | cons x r =>
      cases d with
      | cons d1 d2 =>
        have ee : (g x ρ).bind (gs r) = some ρ' := ee
        cases hg : g x ρ with
        | none => rw [hg] at ee; cases ee
        | some ρ1 =>
          rw [hg] at ee
          refine ⟨_, _, rfl, Hf, ρ, x, ρ1, s, d1, hg, fun σ1 q1 l1 o1 => ⟨Hf, ρ1, r, ρ', q1, d2, ee, fun σ2 q2 l2 o2 => k σ2 q2 (l2.trans l1) fun i hi => ?_⟩⟩
          rw [List.mem_append, not_or] at hi
          rw [o2 i hi.2, o1 i hi.1]
theorem pdg_tup {es : List Expr} {k : Nat} {gs : Gts} {n : Nat} {sl : List Nat} (hc : X.calm = true) (h : PDgs X C es gs sl) (hn : (assignEach es X.env).length = n := by rfl) (hst : (assignEach es X.env).findIdx? (·.1) = none := by rfl) : PDg X C (.Tuple es k pos) (G.tup n gs) sl :=
  pg_imp (pg_tup hc h hn hst) fun v σ H Q ⟨Hf, ρ, x, ρ', s, d, ee, kk⟩ => by
    unfold G.tup at ee
    cases x <;> first | cases ee | skip
    rename_i xs
    simp only at ee
    split at ee
    · rename_i hl
      obtain ⟨a, vs, rfl, g1, g2⟩ := d.tup_of
      exact ⟨a, vs, rfl, Evl.ex_t s.e1 g1, by rw [g2.length]; exact hl, Hf, ρ, xs, ρ', s, g2, ee, kk⟩
    · cases ee
/-- target = value -/
def S.asgT (G : Gt) (f : M D) : MS := S.ofM f fun x ρ => match G x ρ with
  | some ρ' => .nx ρ'
  | none => .bad
theorem pd_asgT {tg e : Expr} {f : M D} {G : Gt} {sl : List Nat} (ha : PDe X C e f) (hg : PDg X C tg G sl) (hs : swapsWithSole [tg] e pos.line X.env = pure false := by rfl) (hw : swappedStores [tg] e X.env = pure none := by rfl)
    (h1 : (assignEach [tg] X.env).map (·.2) = [assign tg X.env] := by rfl) : PDs X C (.Assign [tg] e pos) (S.asgT G f) := ps_imp (ps_asg ha hg hs hw h1) fun E σ H ⟨Hf, ρ, s, q⟩ =>
  tS_bind s q fun v x H1 Hf1 ρ1 e1 s1 d1 h1 => by
    cases hg : G x ρ1 with
    | none => rw [hg] at h1; exact (show False from h1).elim
    | some ρ2 =>
      rw [hg] at h1
      exact ⟨Hf1, ρ1, x, ρ2, s1, d1, hg, fun σ2 s2 _ _ => PostS.nx h1 s2⟩
end

/-! ### lists of our own: read, changed, known from now on -/
def frz1 : Option LV → Option LV
  | some (.own xs) => some (.d (.list xs))
  | o => o
def frz (ρ : DE) : DE := ρ.map frz1
def frzAt (i : Nat) (ρ : DE) : DE := match ρ[i]? with
  | some (some (.own xs)) => ρ.set i (some (.d (.list xs)))
  | _ => ρ
section
variable {K : PySem.W.Frag} {C : Fc} {Hf H : Hp} {σ : L2.St} {ρ : DE}
theorem SR.frz (s : SR K C Hf H σ ρ) (E : EV → Hp → Prop) : SR K ⟨H, H, none, [], E⟩ H H σ (frz ρ) where
  len := by rw [s.len]; unfold PD.frz; rw [List.length_map]
  e0 := Ex.refl _
  e1 := Ex.refl _
  fresh := fun b o h => .inl h
  keep := fun b o h _ => h
  pin := fun q h => by cases h
  no := fun p hp => by cases hp
  val := fun i x h => by
    unfold PD.frz at h
    rw [List.getElem?_map] at h
    cases hi : ρ[i]? with
    | none => rw [hi] at h; cases h
    | some o =>
      rw [hi] at h
      cases o with
      | none => cases h
      | some l =>
        cases l with
        | d y =>
          cases h
          obtain ⟨v, h1, h2⟩ := s.val i _ hi
          exact ⟨v, h1, Dp.mono s.e1 _ _ h2⟩
        | own xs =>
          cases h
          obtain ⟨a, vs, h1, h2, h3, h4, _⟩ := s.own i _ hi
          exact ⟨.ref a, h1, .lst (SqL.of h3) (DpAll.mono s.e1 _ _ h4)⟩
  own := fun i xs h => by
    unfold PD.frz at h
    rw [List.getElem?_map] at h
    cases hi : ρ[i]? with
    | none => rw [hi] at h; cases h
    | some o =>
      rw [hi] at h
      cases o with
      | none => cases h
      | some l => cases l <;> cases h
  apart := fun i j a _ ⟨xs, h⟩ _ _ _ => by
    unfold PD.frz at h
    rw [List.getElem?_map] at h
    cases hi : ρ[i]? with
    | none => rw [hi] at h; cases h
    | some o =>
      rw [hi] at h
      cases o with
      | none => cases h
      | some l => cases l <;> cases h
/-- back from what was only looked at -/
theorem SR.back (s : SR K C Hf H σ ρ) {H' : Hp} (e : Ex H H') : SR K C Hf H' σ ρ := s.grow ⟨Ex.refl _, e, s.e1.trans e, fun _ _ h => .inl h⟩
def scalarD : D → Bool
  | .none => true | .bool _ => true | .int _ => true | .str _ => true | _ => false
theorem scalar_any {H H' : Hp} {v : V} {x : D} (h : scalarD x = true) (d : Dp K H v x) : Dp K H' v x := by
  cases d with
  | non => exact .non
  | bl b => exact .bl b
  | int b => exact .int b
  | str b => exact .str b
  | lst _ _ => cases h
  | tup _ _ => cases h
theorem frzAt_ok (i : Nat) (hp : ∀ q, C.io = some q → q.1 ≠ i) (s : SR K C Hf H σ ρ) : ∃ Hf', Ex Hf Hf' ∧ SR K C Hf' H σ (frzAt i ρ) := by
  unfold frzAt
  split
  · rename_i xs hx
    obtain ⟨a, vs, _, _, ee, s'⟩ := s.freeze hx hp
    exact ⟨_, ee, s'⟩
  · exact ⟨Hf, Ex.refl _, s⟩
theorem tG_frz {α β : Type} {rel : L2.St → Hp → Hp → DE → β → α → Prop} {f : M α} {Q : β → Hp → Prop} (i : Nat) (hp : ∀ q, C.io = some q → q.1 ≠ i) (h : tG K C rel (fun ρ => f (frzAt i ρ)) σ H Q) : tG K C rel f σ H Q := by
  obtain ⟨Hf, ρ, s, h⟩ := h
  obtain ⟨Hf', e, s'⟩ := frzAt_ok i hp s
  exact ⟨Hf', _, s', PostG.mono e h⟩
end
section
variable {X : Cx} {C : Fc} {pos : Pos} {e : Expr} {st : Stmt} {f : M D} {p : M Bool}
def M.frz {α : Type} (i : Nat) (f : M α) : M α := fun ρ => f (frzAt i ρ)
def S.frz (i : Nat) (g : MS) : MS := fun ρ => g (frzAt i ρ)
theorem pd_frz (i : Nat) (hp : ∀ q, C.io = some q → q.1 ≠ i) (h : PDe X C e f) : PDe X C e (M.frz i f) := pe_imp h fun _ _ _ q => tG_frz i hp q
theorem pdt_frz (i : Nat) (hp : ∀ q, C.io = some q → q.1 ≠ i) (h : PDt X C e p) : PDt X C e (M.frz i p) := pt_imp h fun _ _ _ q => tG_frz i hp q
theorem pdl_frz {fl : M (List D)} (i : Nat) (hp : ∀ q, C.io = some q → q.1 ≠ i) (h : PDl X C e fl) : PDl X C e (M.frz i fl) := pe_imp h fun _ _ _ q => tG_frz i hp q
theorem pda_frz {es : List Expr} {g : M (List Arg)} (i : Nat) (hp : ∀ q, C.io = some q → q.1 ≠ i) (h : PDa X C es g) : PDa X C es (M.frz i g) := pa_imp h fun _ _ _ q => tG_frz i hp q
theorem pdi_frz {tg : Expr} {fl : M (List D)} (i : Nat) (hp : ∀ q, C.io = some q → q.1 ≠ i) (h : PDi X C tg e fl) : PDi X C tg e (M.frz i fl) := pi_imp h fun _ _ _ q => tG_frz i hp q
theorem pds_frz {g : MS} (i : Nat) (hp : ∀ q, C.io = some q → q.1 ≠ i) (h : PDs X C st g) : PDs X C st (S.frz i g) := ps_imp h fun E σ H ⟨Hf, ρ, s, q⟩ => by
  obtain ⟨Hf', ee, s'⟩ := frzAt_ok i hp s
  exact ⟨Hf', _, s', PostS.mono ee q⟩
def M.borrow (f : M D) : M D := fun ρ => match f (PD.frz ρ) with
  | .ok x _ => if scalarD x = true then .ok x ρ else .bad
  | _ => .bad
def M.borrowT (f : M Bool) : M Bool := fun ρ => match f (PD.frz ρ) with
  | .ok x _ => .ok x ρ
  | _ => .bad
theorem pd_borrow (h : ∀ C' : Fc, C'.io = none → PDe X C' e f) : PDe X C e (M.borrow f) := ⟨fun pins sh σ H Q I ⟨Hf, ρ, s, q⟩ => by
  have hh := h ⟨H, H, none, [], fun _ _ => False⟩ rfl
  refine hh.run pins sh σ H Q I ⟨H, PD.frz ρ, s.frz _, ?_⟩
  unfold M.borrow at q
  cases hf : f (PD.frz ρ) with
  | ok x ρ' =>
    rw [hf] at q
    simp only at q
    split at q
    · rename_i hs
      exact fun v H' Hf' e' s' d => PostG.now (b := v) q (s.back (e'.trans s'.e1)) (scalar_any hs d)
    · exact (show False from q).elim
  | ex _ _ => rw [hf] at q; exact (show False from q).elim
  | bad => rw [hf] at q; exact (show False from q).elim⟩
theorem pdt_borrow (h : ∀ C' : Fc, C'.io = none → PDt X C' e p) : PDt X C e (M.borrowT p) := ⟨fun pins sh σ H Q I ⟨Hf, ρ, s, q⟩ => by
  have hh := h ⟨H, H, none, [], fun _ _ => False⟩ rfl
  refine hh.run pins sh σ H Q I ⟨H, PD.frz ρ, s.frz _, ?_⟩
  unfold M.borrowT at q
  cases hf : p (PD.frz ρ) with
  | ok x ρ' =>
    rw [hf] at q
    exact fun v H' Hf' e' s' d => PostG.now (b := v) q (s.back (e'.trans s'.e1)) d
  | ex _ _ => rw [hf] at q; exact (show False from q).elim
  | bad => rw [hf] at q; exact (show False from q).elim⟩
def ownAt (ρ : DE) (i : Nat) : Option (List D) := match ρ[i]? with
  | some (some (.own xs)) => some xs
  | _ => none
theorem ownAt_get {ρ : DE} {i : Nat} {xs : List D} (h : ownAt ρ i = some xs) : ρ[i]? = some (some (.own xs)) := by
  unfold ownAt at h
  split at h
  · rename_i ys hy
    cases h
    exact hy
  · cases h
/-- an item of a list of ours -/
def M.subO (i : Nat) (g : M D) : M D := fun ρ => match ownAt ρ i with
  | some _ => M.bind g (fun k ρ1 => M.lift ((ownAt ρ1 i).bind fun xs => (asI k).bind fun j => atI xs j) ρ1) ρ
  | none => .bad
theorem pd_subO (i : Nat) {x : Str} {px : Pos} {b : Expr} {g : M D} (hb : PDe X C b g) (hs : PlainIx b) (hN : X.N[i]? = some x := by rfl) (hv : Vis X.env.scope x := by first | exact Or.inl rfl | exact Or.inr (Or.inl rfl) | exact Or.inr (Or.inr rfl)) (hd : (x == ("__debug__" : Str)) = false := by decide)
    (hcd : (x == ("__classdict__" : Str)) = false := by decide) : PDe X C (.Subscript (.Name x px) b pos) (M.subO i g) := pe_imp (pe_ix ix_list (pe_var hN hv hd hcd) hb hs) fun σ H Q ⟨Hf, ρ, s, q⟩ => by
  unfold M.subO at q
  cases ho : ownAt ρ i with
  | none => rw [ho] at q; exact (show False from q).elim
  | some xs =>
    rw [ho] at q
    obtain ⟨a, vs, h1, h2⟩ := s.own i xs (ownAt_get ho)
    refine ⟨.ref a, h1, tG_bind s q fun w y H2 Hf2 ρ2 e2 s2 d2 q2 => ?_⟩
    obtain ⟨z, hz, q3⟩ := q2.lift
    cases ho2 : ownAt ρ2 i with
    | none => rw [ho2] at hz; cases hz
    | some ys =>
      rw [ho2] at hz
      obtain ⟨b, ws, g1, g2, g3, g4, _⟩ := s2.own i ys (ownAt_get ho2)
      rw [h1] at g1
      cases g1
      cases y <;> first | cases hz | skip
      obtain ⟨t, t1, t2⟩ := atI_dp g4 hz
      exact ⟨_, _, _, t, rfl, d2.int_of, SqL.of g3, t1, PostG.now (b := t) q3 s2 t2⟩
/-- found.append(e) -/
def S.app (i : Nat) (f : M D) : MS := fun ρ => match ownAt ρ i with
  | some _ => S.ofM f (fun x => S.ofM (fun ρ1 => M.lift ((ownAt ρ1 i).bind fun xs => if xs.length < sizeLine then some (xs ++ [x]) else none) ρ1) fun ys ρ1 => .nx (ρ1.set i (some (.own ys)))) ρ
  | none => .bad
theorem ofM_s {α : Type} {K : PySem.W.Frag} {C : Fc} {Hf : Hp} {o : DE → Option α} {k : α → MS} {ρ : DE} {E : Ends} (h : PostS K C Hf (S.ofM (fun ρ1 => M.lift (o ρ1) ρ1) k ρ) E) : ∃ x, o ρ = some x ∧ PostS K C Hf (k x ρ) E := by
  unfold S.ofM M.lift at h
  cases ho : o ρ with
  | none => simp only [ho] at h; exact (show False from h).elim
  | some x => simp only [ho] at h; exact ⟨x, rfl, h⟩
theorem pd_app (i : Nat) {x : Str} {px apos cpos : Pos} (ha : PDe X C e f) (hN : X.N[i]? = some x := by rfl) (hv : Vis X.env.scope x := by first | exact Or.inl rfl | exact Or.inr (Or.inl rfl) | exact Or.inr (Or.inr rfl)) (hd : (x == ("__debug__" : Str)) = false := by decide)
    (hcd : (x == ("__classdict__" : Str)) = false := by decide)
    (hbase : attributeBase (.Name x px) "append" X.env (eval (.Name x px) X.env) = eval (.Name x px) X.env := by rfl)
    (hfew : ((backTo cpos (starEach (e :: []) X.env)).all (fun x => !x.1) && (backToKw cpos (keywordEach [] X.env)).all (fun x => x.1.isSome)
      && decide ((e :: []).length + ([] : List Keyword).length + (if ([] : List Keyword).isEmpty then 0 else 1) < 30)) = true := by rfl)
    (hline : (apos.endLine == cpos.line) = true := by rfl) (hs : starEach (e :: []) X.env = (false, eval e X.env) :: starEach [] X.env := by rfl) (hplain : (backTo cpos (starEach [] X.env)).any (·.1) = false := by rfl)
    (hsw : swapsWith (.Call (.Attribute (.Name x px) "append" apos) [e] [] cpos) none pos.line X.env = pure false := by rfl) :
    PDs X C (.Expr (.Call (.Attribute (.Name x px) "append" apos) [e] [] cpos) pos) (S.app i f) :=
  ps_imp (ps_expr (pe_bm PySem.F.plainAttrs_list PySem.F.slot_list_append PySem.F.type_list_append mt_append (pe_var hN hv hd hcd) (pa_cons ha pa_nil hs) hbase hfew hline hs hplain) hsw) fun E σ H ⟨Hf, ρ, s, q⟩ => by
    unfold S.app at q
    cases ho : ownAt ρ i with
    | none => rw [ho] at q; exact (show False from q).elim
    | some xs =>
      rw [ho] at q
      obtain ⟨a, vs, h1, h2, h3, _⟩ := s.own i xs (ownAt_get ho)
      refine ⟨.ref a, h1, .inl ⟨rfl, _, SqL.of h3⟩, tS_bind s q fun w y H2 Hf2 ρ2 e2 s2 d2 q2 => ?_⟩
      obtain ⟨zs, hz, q3⟩ := ofM_s q2
      cases ho2 : ownAt ρ2 i with
      | none => rw [ho2] at hz; cases hz
      | some ys =>
        rw [ho2] at hz
        simp only [Option.bind_some] at hz
        split at hz
        · rename_i hl
          cases hz
          obtain ⟨b, ws, g1, g2, g3, g4, _⟩ := s2.own i ys (ownAt_get ho2)
          rw [h1] at g1
          cases g1
          refine ⟨_, ws, w, rfl, rfl, g3, by rw [g4.length]; exact hl, ?_⟩
          exact PostS.nx q3 (s2.mut (ownAt_get ho2) h1 (g4.append (.cons d2 .nil)))
        · cases hz
/-- xs.pop() -/
def M.pop (i : Nat) : M D := fun ρ => match ownAt ρ i with
  | some xs => match xs[xs.length - 1]? with
    | some x => .ok x (ρ.set i (some (.own xs.dropLast)))
    | none => .bad
  | none => .bad
theorem pd_pop (i : Nat) {x : Str} {px apos cpos : Pos} (hN : X.N[i]? = some x := by rfl) (hv : Vis X.env.scope x := by first | exact Or.inl rfl | exact Or.inr (Or.inl rfl) | exact Or.inr (Or.inr rfl)) (hd : (x == ("__debug__" : Str)) = false := by decide)
    (hcd : (x == ("__classdict__" : Str)) = false := by decide) (hbase : attributeBase (.Name x px) "pop" X.env (eval (.Name x px) X.env) = eval (.Name x px) X.env := by rfl) (hline : (apos.endLine == cpos.line) = true := by rfl) :
    PDe X C (.Call (.Attribute (.Name x px) "pop" apos) [] [] cpos) (M.pop i) :=
  pe_imp (pe_bm0 PySem.F.plainAttrs_list PySem.F.slot_list_pop PySem.F.type_list_pop mt_pop (pe_var hN hv hd hcd) hbase hline) fun σ H Q ⟨Hf, ρ, s, q⟩ => by
    unfold M.pop at q
    cases ho : ownAt ρ i with
    | none => rw [ho] at q; exact (show False from q).elim
    | some xs =>
      rw [ho] at q
      simp only at q
      split at q
      · rename_i y hy
        obtain ⟨a, vs, h1, h2, h3, h4, _⟩ := s.own i xs (ownAt_get ho)
        obtain ⟨v, g1, g2⟩ := h4.get hy
        refine ⟨.ref a, h1, .inl ⟨rfl, _, SqL.of h3⟩, a, vs, v, rfl, rfl, h3, by rw [h4.length]; exact g1, ?_⟩
        exact q v _ Hf (Ex.refl _) (s.mut (ownAt_get ho) h1 h4.dropLast) g2
      · exact (show False from q).elim
/-- xs[k] = e -/
def S.setIx (i : Nat) (f g : M D) : MS := S.ofM f fun x ρ0 => match ownAt ρ0 i with
  | some _ => S.ofM g (fun k => S.ofM (fun ρ1 => M.lift ((ownAt ρ1 i).bind fun xs => (asI k).bind fun j => (ixN xs.length j).map fun n => xs.set n x) ρ1) fun ys ρ1 => .nx (ρ1.set i (some (.own ys)))) ρ0
  | none => .bad
theorem pd_setIx (i : Nat) {x : Str} {px tpos : Pos} {b : Expr} {g : M D} (ha : PDe X C e f) (hb : PDe X C b g) (hN : X.N[i]? = some x := by rfl) (hv : Vis X.env.scope x := by first | exact Or.inl rfl | exact Or.inr (Or.inl rfl) | exact Or.inr (Or.inr rfl)) (hd : (x == ("__debug__" : Str)) = false := by decide)
    (hcd : (x == ("__classdict__" : Str)) = false := by decide)
    (hA : ∀ v, assign (.Subscript (.Name x px) b tpos) X.env v = (do
      let ov ← holding [v] (eval (.Name x px) X.env)
      let iv ← holding [v, ov] (eval b X.env)
      standAt tpos
      holding [v, ov, iv] (setItem ov iv v)
      release [v, ov, iv] []) := by intro _; rfl)
    (hs : swapsWithSole [.Subscript (.Name x px) b tpos] e pos.line X.env = pure false := by rfl) (hw : swappedStores [.Subscript (.Name x px) b tpos] e X.env = pure none := by rfl)
    (h1 : (assignEach [.Subscript (.Name x px) b tpos] X.env).map (·.2) = [assign (.Subscript (.Name x px) b tpos) X.env] := by rfl) : PDs X C (.Assign [.Subscript (.Name x px) b tpos] e pos) (S.setIx i f g) :=
  ps_imp (ps_asg ha (pg_sub (pe_var hN hv hd hcd) hb set_list hA) hs hw h1) fun E σ H ⟨Hf, ρ, s, q⟩ => tS_bind s q fun v y H1 Hf1 ρ1 e1 s1 d1 q1 => by
    cases ho : ownAt ρ1 i with
    | none => simp only [ho] at q1; exact (show False from q1).elim
    | some xs =>
      simp only [ho] at q1
      obtain ⟨a, vs, h1, h2, h3, _⟩ := s1.own i xs (ownAt_get ho)
      refine ⟨.ref a, h1, tS_bind s1 q1 fun w k H2 Hf2 ρ2 e2 s2 d2 q2 => ?_⟩
      obtain ⟨zs, hz, q3⟩ := ofM_s q2
      cases ho2 : ownAt ρ2 i with
      | none => rw [ho2] at hz; cases hz
      | some ys =>
        rw [ho2] at hz
        obtain ⟨b, ws, g1, g2, g3, g4, _⟩ := s2.own i ys (ownAt_get ho2)
        rw [h1] at g1
        cases g1
        cases k <;> first | cases hz | skip
        rename_i j
        have hz : (ixN ys.length j).map (fun n => ys.set n y) = some zs := hz
        cases hn : ixN ys.length j with
        | none => rw [hn] at hz; cases hz
        | some n =>
          rw [hn] at hz
          cases hz
          refine ⟨_, ws, j, n, rfl, d2.int_of, g3, by rw [g4.length]; exact hn, ?_⟩
          exact PostS.nx q3 (s2.mut (ownAt_get ho2) h1 (g4.set n (Dp.mono e2 _ _ d1)))
end
end PD

set_option maxRecDepth 100000
set_option maxHeartbeats 4000000
set_option autoImplicit false
namespace PD
open PySem PySem.Spec L2
open Evl (Ex)

/-! ### what is walked -/
section
variable {X : Cx} {C : Fc} {pos p tpos : Pos} {tg e e2 : Expr} {f : M D} {ga : M (List Arg)}
def itemsD : D → Option (List D)
  | .list xs => some xs
  | .tuple xs => some xs
  | _ => none
def M.items (f : M D) : M (List D) := M.bind f fun x => M.lift (itemsD x)
def iSeq (K : PySem.W.Frag) (tl : TE) : TI := fun σ H R => tl σ H fun x H1 => ∃ a, x = .ref a ∧ (((∃ xs, SqL K H1 a xs) ∧ R (Itl K a) H1) ∨ ((∃ xs, SqT K H1 a xs) ∧ R (Itt K a) H1))
theorem pi_seq {l : Expr} {tl : TE} (hl : PE X l tl) : PI X tg l (iSeq X.K tl) := by
  refine ⟨fun pins s σ H R I h => ?_⟩
  refine thn (hl.run pins s σ H _ I h) fun v s1 ⟨x, H1, I1, r1, q1⟩ => ?_
  obtain ⟨a, e, q1⟩ := q1
  subst e
  cases r1
  rcases q1 with ⟨⟨xs, hq⟩, q⟩ | ⟨⟨xs, hq⟩, q⟩
  · obtain ⟨its, rv, p, hz⟩ := I1.list hq
    refine wpAny_pyIter_list p.isList ?_
    refine ⟨s1.heap.objs.size, [s1.heap.objs.size], _, _, H1, rfl, I1.kept (t' := s1.toks) fun b o e => Heap.get?_push_of_some _ e, turn_list a _, ⟨_, Heap.get?_push_size _ rfl, rfl, rfl⟩, fun b hb => ?_, q⟩
    have e : b = s1.heap.objs.size := by simpa using hb
    subst e
    exact I1.fpOk (Nat.le_refl _) (I1.hok.fresh (Nat.le_refl _))
  · obtain ⟨its, rv, p, hz⟩ := I1.tuple hq
    refine wpAny_pyIter_tuple (show s1.heap.IsTuple a its.toArray from p) ?_
    refine ⟨s1.heap.objs.size, [s1.heap.objs.size], _, _, H1, rfl, I1.kept (t' := s1.toks) fun b o e => Heap.get?_push_of_some _ e, turn_tuple a _, ⟨_, Heap.get?_push_size _ rfl, rfl, rfl⟩, fun b hb => ?_, q⟩
    have e : b = s1.heap.objs.size := by simpa using hb
    subst e
    exact I1.fpOk (Nat.le_refl _) (I1.hok.fresh (Nat.le_refl _))
theorem it_list {K : PySem.W.Frag} {σ : L2.St} {Hf H0 : Hp} {ρ : DE} {a : Addr} {us : List V} {xs : List D} (h : SqL K Hf a us) (d : DpAll K Hf us xs) : relI K σ Hf H0 ρ (Itl K a) xs := by
  refine ⟨fun i Hf1 H x e1 e2 hx => ?_, fun i Hf1 H e1 e2 hi => ⟨us, Evl.ex_l (e1.trans e2) h, by rw [d.length]; exact hi⟩⟩
  obtain ⟨v, g1, g2⟩ := d.get hx
  have h' := Evl.ex_l (e1.trans e2) h
  refine ⟨⟨us, v, h', g1⟩, fun v' H2 ⟨e, hy⟩ => ?_⟩
  subst e
  have := (hy us h').symm.trans g1
  cases this
  exact ⟨Hf1, Grow.refl e2, Dp.mono e1 _ _ g2⟩
theorem it_tup {K : PySem.W.Frag} {σ : L2.St} {Hf H0 : Hp} {ρ : DE} {a : Addr} {us : List V} {xs : List D} (h : SqT K Hf a us) (d : DpAll K Hf us xs) : relI K σ Hf H0 ρ (Itt K a) xs := by
  refine ⟨fun i Hf1 H x e1 e2 hx => ?_, fun i Hf1 H e1 e2 hi => ⟨us, Evl.ex_t (e1.trans e2) h, by rw [d.length]; exact hi⟩⟩
  obtain ⟨v, g1, g2⟩ := d.get hx
  have h' := Evl.ex_t (e1.trans e2) h
  refine ⟨⟨us, v, h', g1⟩, fun v' H2 ⟨e, hy⟩ => ?_⟩
  subst e
  have := (hy us h').symm.trans g1
  cases this
  exact ⟨Hf1, Grow.refl e2, Dp.mono e1 _ _ g2⟩
theorem pdi_seq (ha : PDe X C e f) : PDi X C tg e (M.items f) := pi_imp (pi_seq ha) fun σ H Q ⟨Hf, ρ, s, h⟩ =>
  tG_bind s h fun v x H1 Hf1 ρ1 e1 s1 d1 h1 => by
    obtain ⟨z, hz, h2⟩ := h1.lift
    cases x <;> first | cases hz | skip
    · obtain ⟨a, us, rfl, g1, g2⟩ := Dp.list_of d1
      exact ⟨a, rfl, .inl ⟨⟨us, Evl.ex_l s1.e1 g1⟩, PostG.now (b := Itl X.K a) h2 s1 (it_list g1 g2)⟩⟩
    · obtain ⟨a, us, rfl, g1, g2⟩ := Dp.tup_of d1
      exact ⟨a, rfl, .inr ⟨⟨us, Evl.ex_t s1.e1 g1⟩, PostG.now (b := Itt X.K a) h2 s1 (it_tup g1 g2)⟩⟩
/-- range -/
def rangeD (lo : Int) (n : Nat) : List D := (List.range n).map fun (i : Nat) => .int (lo + (i : Int))
theorem rangeD_get {lo : Int} {n i : Nat} {x : D} (h : (rangeD lo n)[i]? = some x) : i < n ∧ x = .int (lo + i) := by
  unfold rangeD at h
  rw [List.getElem?_map] at h
  by_cases hi : i < n
  · rw [List.getElem?_range hi] at h
    cases h
    exact ⟨hi, rfl⟩
  · rw [List.getElem?_eq_none (by simpa using hi)] at h
    cases h
theorem it_range {K : PySem.W.Frag} {σ : L2.St} {Hf H0 : Hp} {ρ : DE} {lo : Int} {n : Nat} : relI K σ Hf H0 ρ (Itr lo n) (rangeD lo n) := by
  refine ⟨fun i Hf1 H x e1 e2 hx => ?_, fun i Hf1 H e1 e2 hi => by simpa [rangeD, Itr] using hi⟩
  obtain ⟨hi, rfl⟩ := rangeD_get hx
  exact ⟨hi, fun v H2 ⟨e, hy⟩ => by subst e hy; exact ⟨Hf1, Grow.refl e2, .int _⟩⟩
def rngOk (j : Int) : Bool := decide (-(2 ^ 62) ≤ j) && decide (j < 2 ^ 62)
def range1D : List D → Option (List D)
  | [.int j] => if rngOk j = true then some (rangeD 0 j.toNat) else none
  | _ => none
def range2D : List D → Option (List D)
  | [.int i, .int j] => if (rngOk i && rngOk j) = true then some (rangeD i (j - i).toNat) else none
  | _ => none
def M.callL (o : List D → Option (List D)) (g : M (List Arg)) : M (List D) := M.bind g fun as => M.lift ((datOf as).bind o)
theorem callL_go {α : Type} {K : PySem.W.Frag} {C : Fc} {σ : L2.St} {Hf : Hp} {o : List D → Option (List D)} {as : List Arg} {rel : Hp → Hp → DE → α → List D → Prop} {ρ : DE} {Q : α → Hp → Prop} (h : PostG K C σ rel Hf (M.lift ((datOf as).bind o) ρ) Q) : ∃ xs z, datOf as = some xs ∧ o xs = some z ∧ PostG K C σ rel Hf (.ok z ρ) Q := by
  obtain ⟨z, hz, h2⟩ := h.lift
  cases q : datOf as with
  | none => rw [q] at hz; cases hz
  | some xs =>
    rw [q] at hz
    exact ⟨xs, z, rfl, hz, h2⟩
theorem pdi_range1 (hm : X.mg "range" = none) (ha : PDa X C [e] ga) (hg : Gl X "range" := by rfl) (hs : starEach [e] X.env = [(false, eval e X.env)] := by rfl) : PDi X C tg (.Call (.Name "range" p) [e] [] pos) (M.callL range1D ga) :=
  pi_imp (pi_range1 hg hm ha hs) fun σ H Q ⟨Hf, ρ, s, h⟩ => tG_bind s h fun vs as H1 Hf1 ρ1 e1 s1 d1 h1 => by
    obtain ⟨xs, z, hd, hz, h2⟩ := callL_go h1
    have da := ArgsRel.dats d1 hd
    unfold range1D at hz
    split at hz
    · split at hz
      · rename_i j hj
        cases hz
        obtain ⟨v, rfl, g⟩ := dp1 da
        unfold rngOk at hj
        rw [Bool.and_eq_true] at hj
        exact ⟨j, by rw [g.int_of], of_decide_eq_true hj.1, of_decide_eq_true hj.2, PostG.now (b := Itr 0 j.toNat) h2 s1 it_range⟩
      · cases hz
    · cases hz
theorem pdi_range2 (hm : X.mg "range" = none) (ha : PDa X C [e, e2] ga) (hg : Gl X "range" := by rfl) (hs : starEach [e, e2] X.env = [(false, eval e X.env), (false, eval e2 X.env)] := by rfl) (hs2 : starEach [e2] X.env = [(false, eval e2 X.env)] := by rfl) : PDi X C tg (.Call (.Name "range" p) [e, e2] [] pos) (M.callL range2D ga) :=
  pi_imp (pi_range2 hg hm ha hs hs2) fun σ H Q ⟨Hf, ρ, s, h⟩ => tG_bind s h fun vs as H1 Hf1 ρ1 e1 s1 d1 h1 => by
    obtain ⟨xs, z, hd, hz, h2⟩ := callL_go h1
    have da := ArgsRel.dats d1 hd
    unfold range2D at hz
    split at hz
    · split at hz
      · rename_i i j hj
        cases hz
        obtain ⟨v, w, rfl, g, g'⟩ := dp2 da
        unfold rngOk at hj
        simp only [Bool.and_eq_true, decide_eq_true_eq] at hj
        exact ⟨i, j, by rw [g.int_of, g'.int_of], ⟨hj.1.1, hj.1.2, hj.2.1, hj.2.2⟩, PostG.now (b := Itr i (j - i).toNat) h2 s1 it_range⟩
      · cases hz
    · cases hz
/-- zip of two lists, of two tuples -/
def zipL (xs ys : List D) : List D := (xs.zip ys).map fun p => .tuple [p.1, p.2]
def zipD : List D → Option (List D)
  | [.list xs, .list ys] => some (zipL xs ys)
  | [.tuple xs, .tuple ys] => some (zipL xs ys)
  | _ => none
theorem zipL_get {xs ys : List D} {i : Nat} {z : D} (h : (zipL xs ys)[i]? = some z) : ∃ x y, xs[i]? = some x ∧ ys[i]? = some y ∧ z = .tuple [x, y] := by
  unfold zipL at h
  rw [List.getElem?_map] at h
  cases q : (xs.zip ys)[i]? with
  | none => rw [q] at h; cases h
  | some p =>
    rw [q] at h
    cases h
    obtain ⟨x, y⟩ := p
    have := List.getElem?_zip_eq_some.mp q
    exact ⟨x, y, this.1, this.2, rfl⟩
theorem pair_new {K : PySem.W.Frag} {Hf H : Hp} {T : Addr} {v w : V} {x y : D} (e : Ex Hf H) (hT : H T = none) (d1 : Dp K Hf v x) (d2 : Dp K Hf w y) : ∃ Hf2, Grow Hf H Hf2 (upd H T (.tup [v, w])) ∧ Dp K Hf2 (.ref T) (.tuple [x, y]) := by
  have g := Grow.new (o := .tup [v, w]) e hT
  exact ⟨_, g, .tup (SqT.of upd_same) (.cons (Dp.mono g.f _ _ d1) (.cons (Dp.mono g.f _ _ d2) .nil))⟩
theorem zip_len {xs ys : List D} {i : Nat} (h : (zipL xs ys).length ≤ i) : xs.length ≤ i ∨ ys.length ≤ i := by
  unfold zipL at h
  rw [List.length_map, List.length_zip] at h
  omega
theorem it_zipL {K : PySem.W.Frag} {σ : L2.St} {Hf H0 : Hp} {ρ : DE} {a b : Addr} {us ws : List V} {xs ys : List D} (h : SqL K Hf a us) (d : DpAll K Hf us xs) (h' : SqL K Hf b ws) (d' : DpAll K Hf ws ys) : relI K σ Hf H0 ρ (Itz K a b) (zipL xs ys) := by
  refine ⟨fun i Hf1 H z e1 e2 hz => ?_, fun i Hf1 H e1 e2 hi => ⟨us, ws, Evl.ex_l (e1.trans e2) h, Evl.ex_l (e1.trans e2) h', by rw [d.length, d'.length]; exact zip_len hi⟩⟩
  obtain ⟨x, y, hx, hy, rfl⟩ := zipL_get hz
  obtain ⟨v, g1, g2⟩ := d.get hx
  obtain ⟨w, g3, g4⟩ := d'.get hy
  have q := Evl.ex_l (e1.trans e2) h
  have q' := Evl.ex_l (e1.trans e2) h'
  refine ⟨⟨us, ws, v, w, q, q', g1, g3⟩, fun v' H2 ⟨T, x', y', ev, hT, eH, hx', hy'⟩ => ?_⟩
  subst ev eH
  have a1 := (hx' us q).symm.trans g1
  have a2 := (hy' ws q').symm.trans g3
  cases a1
  cases a2
  exact pair_new e2 hT (Dp.mono e1 _ _ g2) (Dp.mono e1 _ _ g4)
theorem it_zipT {K : PySem.W.Frag} {σ : L2.St} {Hf H0 : Hp} {ρ : DE} {a b : Addr} {us ws : List V} {xs ys : List D} (h : SqT K Hf a us) (d : DpAll K Hf us xs) (h' : SqT K Hf b ws) (d' : DpAll K Hf ws ys) : relI K σ Hf H0 ρ (RZ.ItzT K a b) (zipL xs ys) := by
  refine ⟨fun i Hf1 H z e1 e2 hz => ?_, fun i Hf1 H e1 e2 hi => ⟨us, ws, Evl.ex_t (e1.trans e2) h, Evl.ex_t (e1.trans e2) h', by rw [d.length, d'.length]; exact zip_len hi⟩⟩
  obtain ⟨x, y, hx, hy, rfl⟩ := zipL_get hz
  obtain ⟨v, g1, g2⟩ := d.get hx
  obtain ⟨w, g3, g4⟩ := d'.get hy
  have q := Evl.ex_t (e1.trans e2) h
  have q' := Evl.ex_t (e1.trans e2) h'
  refine ⟨⟨us, ws, v, w, q, q', g1, g3⟩, fun v' H2 ⟨T, x', y', ev, hT, eH, hx', hy'⟩ => ?_⟩
  subst ev eH
  have a1 := (hx' us q).symm.trans g1
  have a2 := (hy' ws q').symm.trans g3
  cases a1
  cases a2
  exact pair_new e2 hT (Dp.mono e1 _ _ g2) (Dp.mono e1 _ _ g4)
theorem pdi_zip {elts : List Expr} {kk : Nat} (hm : X.mg "zip" = none) (ha : PDa X C [e, e2] ga) (hg : Gl X "zip" := by rfl)
    (hs : starEach [e, e2] X.env = (false, eval e X.env) :: starEach [e2] X.env := by rfl) (hpl : (backTo pos (starEach [e2] X.env)).any (·.1) = false := by rfl) : PDi X C (.Tuple elts kk tpos) (.Call (.Name "zip" p) [e, e2] [] pos) (M.callL zipD ga) :=
  pi_imp (RZ.pi_zipA hg hm ha hs hpl) fun σ H Q ⟨Hf, ρ, s, h⟩ => tG_bind s h fun vs as H1 Hf1 ρ1 e1 s1 d1 h1 => by
    obtain ⟨xs, z, hd, hz, h2⟩ := callL_go h1
    have da := ArgsRel.dats d1 hd
    unfold zipD at hz
    split at hz
    · cases hz
      obtain ⟨v, w, rfl, g, g'⟩ := dp2 da
      obtain ⟨a, us, rfl, a1, a2⟩ := g.list_of
      obtain ⟨b, ws, rfl, b1, b2⟩ := g'.list_of
      exact ⟨a, b, us, ws, rfl, .inl ⟨Evl.ex_l s1.e1 a1, Evl.ex_l s1.e1 b1, PostG.now (b := Itz X.K a b) h2 s1 (it_zipL a1 a2 b1 b2)⟩⟩
    · cases hz
      obtain ⟨v, w, rfl, g, g'⟩ := dp2 da
      obtain ⟨a, us, rfl, a1, a2⟩ := g.tup_of
      obtain ⟨b, ws, rfl, b1, b2⟩ := g'.tup_of
      exact ⟨a, b, us, ws, rfl, .inr ⟨Evl.ex_t s1.e1 a1, Evl.ex_t s1.e1 b1, PostG.now (b := RZ.ItzT X.K a b) h2 s1 (it_zipT a1 a2 b1 b2)⟩⟩
    · cases hz
end

/-! ### for, while -/
def forD (G : Gt) (g : MS) : List D → MS
  | [], ρ => .nx ρ
  | x :: r, ρ => match G x ρ with
    | none => .bad
    | some ρ1 => match g ρ1 with
      | .nx ρ2 => forD G g r ρ2
      | .ct ρ2 => forD G g r ρ2
      | .bk ρ2 => .nx ρ2
      | o => o
def S.for_ (it : M (List D)) (G : Gt) (g : MS) : MS := S.ofM it fun xs => forD G g xs
def whileN (p : M Bool) (g : MS) : Nat → MS
  | 0, _ => .bad
  | n + 1, ρ => match p ρ with
    | .ok b ρ1 => if b = true then (match g ρ1 with
        | .nx ρ2 => whileN p g n ρ2
        | .ct ρ2 => whileN p g n ρ2
        | .bk ρ2 => .nx ρ2
        | o => o) else .nx ρ1
    | .ex e ρ1 => .ex e ρ1
    | .bad => .bad
def Fl.isBad : Fl → Bool
  | .bad => true
  | _ => false
theorem whileN_up {p : M Bool} {g : MS} : ∀ {n : Nat} {ρ : DE}, (whileN p g n ρ).isBad = false → whileN p g (n + 1) ρ = whileN p g n ρ
  | 0, ρ, h => by cases h
  | n + 1, ρ, h => by
    have ih := fun ρ => @whileN_up p g n ρ
    unfold whileN at h ⊢
    cases hp : p ρ with
    | bad => rfl
    | ex e ρ1 => rfl
    | ok b ρ1 =>
      rw [hp] at h
      cases b with
      | false => rfl
      | true =>
        simp only [if_true] at h ⊢
        cases hg : g ρ1 with
        | nx ρ2 => rw [hg] at h; exact ih ρ2 h
        | ct ρ2 => rw [hg] at h; exact ih ρ2 h
        | bk ρ2 => rfl
        | rt x ρ2 => rfl
        | rl x ρ2 => rfl
        | ex e ρ2 => rfl
        | bad => rfl
theorem whileN_le {p : M Bool} {g : MS} {n m : Nat} {ρ : DE} (h : (whileN p g n ρ).isBad = false) (hm : n ≤ m) : whileN p g m ρ = whileN p g n ρ := by
  induction m with
  | zero => rw [Nat.le_zero.mp hm]
  | succ m ih =>
    by_cases e : n = m + 1
    · rw [e]
    · have h1 := ih (by omega)
      rw [whileN_up (by rw [h1]; exact h), h1]
open Classical in
noncomputable def S.while_ (p : M Bool) (g : MS) : MS := fun ρ => if h : ∃ n, (whileN p g n ρ).isBad = false then whileN p g (Classical.choose h) ρ else .bad
theorem while_eq {p : M Bool} {g : MS} {n : Nat} {ρ : DE} (h : (whileN p g n ρ).isBad = false) : S.while_ p g ρ = whileN p g n ρ := by
  have hx : ∃ n, (whileN p g n ρ).isBad = false := ⟨n, h⟩
  unfold S.while_
  rw [dif_pos hx]
  have hc := Classical.choose_spec hx
  rcases Nat.le_total n (Classical.choose hx) with hl | hl
  · exact whileN_le h hl
  · exact (whileN_le hc hl).symm
section
variable {X : Cx} {C : Fc} {pos : Pos} {tg iter c : Expr} {body : List Stmt} {it : M (List D)} {G : Gt} {g : MS} {sl : List Nat} {p : M Bool}
theorem pd_for (hp : PassesOwn (model X.prog X.w) X.A X.env X.xe) (hc : X.calm = true) (hi : PDi X C tg iter it) (hg : PDg X C tg G sl) (hb : PDss X C body g) (hs : ∀ x, foldedSetIterable iter X.env x = pure x := by intro _; rfl) : PDs X C (.For tg iter body [] pos) (S.for_ it G g) :=
  ps_imp (ps_for hp hc hi hg hb hs) fun E σ H ⟨Hf, ρ, s, q⟩ => tS_bind s q fun J xs H1 Hf1 ρ1 e1 s1 r1 q1 => by
    obtain ⟨rgo, rstop⟩ := r1
    refine ⟨fun i m σ H => ∃ Hf ρ, Ex Hf1 Hf ∧ SR X.K C Hf H σ ρ ∧ i ≤ xs.length ∧ m = xs.length - i ∧ PostS X.K C Hf (forD G g (xs.drop i) ρ) E, ⟨xs.length, Hf1, ρ1, Ex.refl _, s1, Nat.zero_le _, rfl, q1⟩, ?_⟩
    rintro i m σ2 H2 ⟨Hf2, ρ2, e2, s2, hi, rfl, q2⟩
    by_cases hlt : i < xs.length
    · have hx : xs[i]? = some xs[i] := List.getElem?_eq_getElem hlt
      obtain ⟨go, yl⟩ := rgo i Hf2 H2 _ e2 s2.e1 hx
      refine .inr ⟨go, fun σ' H' => ∃ Hf' ρ', Ex Hf1 Hf' ∧ SR X.K C Hf' H' σ' ρ' ∧ PostS X.K C Hf' (forD G g (xs.drop (i + 1)) ρ') E, fun σ' H' ⟨Hf', ρ', a1, a2, a3⟩ => ⟨xs.length - (i + 1), by omega, Hf', ρ', a1, a2, hlt, rfl, a3⟩, fun v H' y => ?_⟩
      obtain ⟨Hf3, gr, d3⟩ := yl v H' y
      rw [List.drop_eq_getElem_cons hlt] at q2
      unfold forD at q2
      cases hG : G xs[i] ρ2 with
      | none => rw [hG] at q2; exact (show False from q2).elim
      | some ρ3 =>
        rw [hG] at q2
        refine ⟨Hf3, ρ2, xs[i], ρ3, s2.grow gr, d3, hG, fun σ3 s3 _ _ => ⟨Hf3, ρ3, s3, ?_⟩⟩
        simp only at q2
        cases hgb : g ρ3 with
        | nx ρ4 =>
          rw [hgb] at q2
          exact fun σ4 H4 Hf4 e4 s4 => ⟨Hf4, ρ4, (e2.trans gr.f).trans e4, s4, PostS.mono (gr.f.trans e4) q2⟩
        | ct ρ4 =>
          rw [hgb] at q2
          exact fun σ4 H4 Hf4 e4 s4 => ⟨Hf4, ρ4, (e2.trans gr.f).trans e4, s4, PostS.mono (gr.f.trans e4) q2⟩
        | bk ρ4 =>
          rw [hgb] at q2
          exact fun σ4 H4 Hf4 e4 s4 => q2 σ4 H4 Hf4 (gr.f.trans e4) s4
        | rt x ρ4 =>
          rw [hgb] at q2
          exact fun v σ4 H4 Hf4 e4 s4 d4 => q2 v σ4 H4 Hf4 (gr.f.trans e4) s4 d4
        | rl x ρ4 =>
          rw [hgb] at q2
          exact fun a us σ4 H4 Hf4 e4 s4 => q2 a us σ4 H4 Hf4 (gr.f.trans e4) s4
        | ex e ρ4 =>
          rw [hgb] at q2
          exact fun σ4 H4 Hf4 e4 s4 => q2 σ4 H4 Hf4 (gr.f.trans e4) s4
        | bad =>
          rw [hgb] at q2
          exact q2
    · have e : i = xs.length := by omega
      subst e
      rw [List.drop_length] at q2
      exact .inl ⟨rstop _ Hf2 H2 e2 s2.e1 (Nat.le_refl _), PostS.nx q2 s2⟩
theorem pd_while (hp : PassesOwn (model X.prog X.w) X.A X.env X.xe) (hc : PDt X C c p) (hb : PDss X C body g) : PDs X C (.While c body [] pos) (S.while_ p g) :=
  ps_imp (ps_while hp hc hb) fun E σ H ⟨Hf, ρ, s, q⟩ => by
    have hx : ∃ n, PostS X.K C Hf (whileN p g n ρ) E := by
      unfold S.while_ at q
      split at q
      · exact ⟨_, q⟩
      · exact (show False from q).elim
    obtain ⟨n, hn⟩ := hx
    refine ⟨fun m σ H => ∃ Hf' ρ', Ex Hf Hf' ∧ SR X.K C Hf' H σ ρ' ∧ PostS X.K C Hf' (whileN p g m ρ') E, ⟨n, Hf, ρ, Ex.refl _, s, hn⟩, ?_⟩
    rintro m σ1 H1 ⟨Hf1, ρ1, e1, s1, q1⟩
    cases m with
    | zero => exact (show False from q1).elim
    | succ m =>
      unfold whileN at q1
      refine ⟨Hf1, ρ1, s1, ?_⟩
      cases hpp : p ρ1 with
      | bad => rw [hpp] at q1; exact (show False from q1).elim
      | ex e ρ2 =>
        rw [hpp] at q1
        exact fun H' Hf'' e' s' => q1 σ1 H' Hf'' e' s'
      | ok b ρ2 =>
        rw [hpp] at q1
        intro b' H2 Hf2 e2 s2 hb'
        have hb' : b' = b := hb'
        subst hb'
        cases b' with
        | false => exact L2.iteF (PostS.nx (PostS.mono e2 q1) s2)
        | true =>
          refine L2.iteT ⟨fun σ' H' => ∃ Hf' ρ', Ex Hf Hf' ∧ SR X.K C Hf' H' σ' ρ' ∧ PostS X.K C Hf' (whileN p g m ρ') E, fun σ' H' w => ⟨m, Nat.lt_succ_self m, w⟩, Hf2, ρ2, s2, ?_⟩
          simp only [if_true] at q1
          have q2 := PostS.mono e2 q1
          cases hgb : g ρ2 with
          | nx ρ4 =>
            rw [hgb] at q2
            exact fun σ4 H4 Hf4 e4 s4 => ⟨Hf4, ρ4, (e1.trans e2).trans e4, s4, PostS.mono e4 q2⟩
          | ct ρ4 =>
            rw [hgb] at q2
            exact fun σ4 H4 Hf4 e4 s4 => ⟨Hf4, ρ4, (e1.trans e2).trans e4, s4, PostS.mono e4 q2⟩
          | bk ρ4 => rw [hgb] at q2; exact q2
          | rt x ρ4 => rw [hgb] at q2; exact q2
          | rl x ρ4 => rw [hgb] at q2; exact q2
          | ex e ρ4 => rw [hgb] at q2; exact q2
          | bad => rw [hgb] at q2; exact q2
end
end PD

set_option maxRecDepth 100000
set_option maxHeartbeats 4000000
set_option autoImplicit false
namespace PD
open PySem PySem.Spec L2
open Evl (Ex)

/-! ### comprehensions -/
def wipeD (ρ : DE) : List Nat → DE
  | [] => ρ
  | v :: vs => (wipeD ρ vs).set v none
def restoreD (ρ0 ρe : DE) : List Nat → DE
  | [] => ρe
  | v :: vs => (restoreD ρ0 ρe vs).set v (ρ0.getD v none)
def isOwnB (ρ : DE) (i : Nat) : Bool := match ρ[i]? with
  | some (some (.own _)) => true
  | _ => false
def cleanD (ρ : DE) (vs : List Nat) : Bool := vs.all fun j => !isOwnB ρ j
def lcLoop (vs : List Nat) (G : Gt) (tt : M Bool) (te : M D) : List D → List D → M (List D)
  | [], acc, ρ => .ok acc ρ
  | x :: r, acc, ρ => match G x ρ with
    | none => .bad
    | some ρ1 => match tt ρ1 with
      | .ok b ρ2 => if b = true then (match te ρ2 with
          | .ok y ρ3 => if acc.length < sizeLine then lcLoop vs G tt te r (acc ++ [y]) (wipeD ρ3 vs) else .bad
          | _ => .bad) else lcLoop vs G tt te r acc (wipeD ρ2 vs)
      | _ => .bad
def M.lc (it : M (List D)) (vs : List Nat) (G : Gt) (tt : M Bool) (te : M D) : M (List D) := M.bind it fun xs ρ1 =>
  if cleanD ρ1 vs = true then (match lcLoop vs G tt te xs [] (wipeD ρ1 vs) with
    | .ok ys ρe => .ok ys (restoreD ρ1 ρe vs)
    | _ => .bad) else .bad
section
variable {K : PySem.W.Frag} {C : Fc} {Hf H : Hp} {σ : L2.St} {ρ : DE}
theorem SR.clear (s : SR K C Hf H σ ρ) {i : Nat} (hp : ∀ q, C.io = some q → q.1 ≠ i) : SR K C Hf H (σ.set i none) (ρ.set i none) := by
  have old : ∀ {j} {y : LV}, (ρ.set i none)[j]? = some (some y) → i ≠ j ∧ ρ[j]? = some (some y) := fun {j y} h => by
    rcases get_set h with ⟨_, e, _⟩ | h
    · cases e
    · exact h
  refine ⟨by simpa using s.len, s.e0, s.e1, s.fresh, s.keep, fun q hq => ?_, s.no, fun j y hj => ?_, fun j xs hj => ?_, fun j k a hne ⟨xs, h1⟩ ⟨ys, h2⟩ h3 h4 => ?_⟩
  · have ne := hp q hq
    obtain ⟨h1, xs, h2⟩ := s.pin q hq
    exact ⟨by rw [List.getElem?_set_ne (Ne.symm ne)]; exact h1, xs, by rw [List.getElem?_set_ne (Ne.symm ne)]; exact h2⟩
  · obtain ⟨ne, hj⟩ := old hj
    obtain ⟨v', h1, h2⟩ := s.val j y hj
    exact ⟨v', by rw [List.getElem?_set_ne ne]; exact h1, h2⟩
  · obtain ⟨ne, hj⟩ := old hj
    obtain ⟨a, vs, h1, h2⟩ := s.own j xs hj
    exact ⟨a, vs, by rw [List.getElem?_set_ne ne]; exact h1, h2⟩
  · obtain ⟨n1, h1⟩ := old h1
    obtain ⟨n2, h2⟩ := old h2
    rw [List.getElem?_set_ne n1] at h3
    rw [List.getElem?_set_ne n2] at h4
    exact s.apart j k a hne ⟨xs, h1⟩ ⟨ys, h2⟩ h3 h4
theorem SR.wipe (s : SR K C Hf H σ ρ) : ∀ {vs : List Nat}, (∀ q, C.io = some q → q.1 ∉ vs) → SR K C Hf H (L2.wipe σ vs) (wipeD ρ vs)
  | [], _ => s
  | v :: vs, hp => (SR.wipe s (vs := vs) fun q hq h => hp q hq (List.mem_cons_of_mem _ h)).clear fun q hq h => hp q hq (by rw [h]; exact List.mem_cons_self)
abbrev Fc.hide (C : Fc) (a : Addr) (vs : List V) : Fc := { C with no := (a, vs) :: C.no }
theorem SR.hide (s : SR K C Hf H σ ρ) {a : Addr} {vs : List V} (h1 : Hf a = none) (h2 : H a = some (.lst vs)) (h3 : ∀ j, IsOwn ρ j → σ[j]? ≠ some (some (.ref a))) : SR K (C.hide a vs) Hf H σ ρ :=
  ⟨s.len, s.e0, s.e1, s.fresh, s.keep, s.pin, fun p hp => by
    rcases List.mem_cons.mp hp with e | hp
    · subst e; exact ⟨h1, h2⟩
    · exact s.no p hp, s.val, fun i xs hi => by
    obtain ⟨b, us, g1, g2, g3, g4, g5, g6⟩ := s.own i xs hi
    refine ⟨b, us, g1, g2, g3, g4, g5, fun p hp => ?_⟩
    rcases List.mem_cons.mp hp with e | hp
    · subst e
      exact fun e => h3 i ⟨xs, hi⟩ (by rw [g1, e])
    · exact g6 p hp, s.apart⟩
theorem SR.show_ {a : Addr} {vs : List V} (s : SR K (C.hide a vs) Hf H σ ρ) : SR K C Hf H σ ρ :=
  ⟨s.len, s.e0, s.e1, s.fresh, s.keep, s.pin, fun p hp => s.no p (List.mem_cons_of_mem _ hp), s.val, fun i xs hi => by
    obtain ⟨b, us, g1, g2, g3, g4, g5, g6⟩ := s.own i xs hi
    exact ⟨b, us, g1, g2, g3, g4, g5, fun p hp => g6 p (List.mem_cons_of_mem _ hp)⟩, s.apart⟩
theorem SR.rehide {a : Addr} {vs ws : List V} (s : SR K (C.hide a vs) Hf H σ ρ) (hno : ∀ p ∈ C.no, a ≠ p.1) (h0 : C.H0 a = none) : SR K (C.hide a ws) Hf (upd H a (.lst ws)) σ ρ := by
  obtain ⟨n1, n2⟩ := s.no (a, vs) List.mem_cons_self
  refine ⟨s.len, s.e0, fun b o h => ?_, s.fresh, fun b o h q => ?_, s.pin, fun p hp => ?_, s.val, fun i xs hi => ?_, s.apart⟩
  · have nb : b ≠ a := fun e => by rw [e] at h; rw [n1] at h; cases h
    rw [upd_ne nb]
    exact s.e1 b o h
  · have nb : b ≠ a := fun e => by
      rw [e] at h
      have h : C.H0 a = some o := h
      rw [h0] at h; cases h
    rw [upd_ne nb]
    exact s.keep b o h q
  · rcases List.mem_cons.mp hp with e | hp
    · subst e; exact ⟨n1, upd_same⟩
    · obtain ⟨g1, g2⟩ := s.no p (List.mem_cons_of_mem _ hp)
      exact ⟨g1, by rw [upd_ne (Ne.symm (hno p hp))]; exact g2⟩
  · obtain ⟨b, us, g1, g2, g3, g4, g5, g6⟩ := s.own i xs hi
    have nb : b ≠ a := g6 (a, vs) List.mem_cons_self
    refine ⟨b, us, g1, g2, by rw [upd_ne nb]; exact g3, g4, g5, fun p hp => ?_⟩
    rcases List.mem_cons.mp hp with e | hp
    · subst e; exact nb
    · exact g6 p (List.mem_cons_of_mem _ hp)
theorem restore_in {ρ0 ρe : DE} : ∀ {vs : List Nat} {i : Nat} {y : Option LV}, (restoreD ρ0 ρe vs)[i]? = some y → (i ∈ vs ∧ y = ρ0.getD i none) ∨ (i ∉ vs ∧ ρe[i]? = some y)
  | [], i, y, h => .inr ⟨by simp, h⟩
  | v :: vs, i, y, h => by
    rcases get_set h with ⟨e, e2, _⟩ | ⟨ne, h⟩
    · subst e
      exact .inl ⟨List.mem_cons_self, e2⟩
    · rcases restore_in h with ⟨h1, h2⟩ | ⟨h1, h2⟩
      · exact .inl ⟨List.mem_cons_of_mem _ h1, h2⟩
      · exact .inr ⟨by simp only [List.mem_cons, not_or]; exact ⟨Ne.symm ne, h1⟩, h2⟩
theorem restore_out {ρ0 ρe : DE} : ∀ {vs : List Nat} {i : Nat}, i ∉ vs → (restoreD ρ0 ρe vs)[i]? = ρe[i]?
  | [], i, _ => rfl
  | v :: vs, i, h => by
    simp only [List.mem_cons, not_or] at h
    show ((restoreD ρ0 ρe vs).set v _)[i]? = _
    rw [List.getElem?_set_ne (Ne.symm h.1), restore_out h.2]
theorem restore_len {ρ0 ρe : DE} : ∀ {vs : List Nat}, (restoreD ρ0 ρe vs).length = ρe.length
  | [] => rfl
  | v :: vs => by
    show ((restoreD ρ0 ρe vs).set v _).length = _
    rw [List.length_set, restore_len]
theorem wipe_out {σ : L2.St} : ∀ {vs : List Nat} {i : Nat}, i ∉ vs → (L2.wipe σ vs)[i]? = σ[i]?
  | [], i, _ => rfl
  | v :: vs, i, h => by
    simp only [List.mem_cons, not_or] at h
    show ((L2.wipe σ vs).set v none)[i]? = _
    rw [List.getElem?_set_ne (Ne.symm h.1), wipe_out h.2]
theorem wipe_at {σ : L2.St} : ∀ {vs : List Nat} {i : Nat}, i ∈ vs → i < σ.length → (L2.wipe σ vs)[i]? = some none
  | v :: vs, i, h, hl => by
    show ((L2.wipe σ vs).set v none)[i]? = _
    by_cases e : v = i
    · subst e
      rw [List.getElem?_set_self (by rw [L2.wipe_length]; exact hl)]
    · rw [List.getElem?_set_ne e]
      rcases List.mem_cons.mp h with h | h
      · exact absurd h.symm e
      · exact wipe_at h hl
theorem wipe_eq {σ σ2 : L2.St} {vs : List Nat} (hl : σ2.length = σ.length) (h : ∀ i : Nat, i ∉ vs → σ2[i]? = σ[i]?) : L2.wipe σ2 vs = L2.wipe σ vs := by
  refine List.ext_getElem? fun i => ?_
  by_cases hi : i ∈ vs
  · by_cases hb : i < σ.length
    · rw [wipe_at hi hb, wipe_at hi (by rw [hl]; exact hb)]
    · rw [List.getElem?_eq_none (by rw [L2.wipe_length]; omega), List.getElem?_eq_none (by rw [L2.wipe_length]; omega)]
  · rw [wipe_out hi, wipe_out hi, h i hi]
theorem SR.restore {Hf1 H1 : Hp} {ρ1 ρe : DE} {vs : List Nat} (s1 : SR K C Hf1 H1 σ ρ1) (e : Ex Hf1 Hf) (s : SR K C Hf H (L2.wipe σ vs) ρe) (hc : cleanD ρ1 vs = true) (hp : ∀ q, C.io = some q → q.1 ∉ vs) : SR K C Hf H σ (restoreD ρ1 ρe vs) := by
  have own' : ∀ {i} {xs : List D}, (restoreD ρ1 ρe vs)[i]? = some (some (.own xs)) → i ∉ vs ∧ ρe[i]? = some (some (.own xs)) := fun {i xs} h => by
    rcases restore_in h with ⟨h1, h2⟩ | h
    · unfold cleanD at hc
      have := List.all_eq_true.mp hc i h1
      unfold isOwnB at this
      have e : ρ1[i]? = some (some (LV.own xs)) := by
        rw [List.getD_eq_getElem?_getD] at h2
        cases q : ρ1[i]? with
        | none => rw [q] at h2; cases h2
        | some y => rw [q] at h2; exact congrArg some h2.symm
      rw [e] at this
      cases this
    · exact h
  refine ⟨by rw [restore_len, ← s.len, L2.wipe_length], s.e0, s.e1, s.fresh, s.keep, fun q hq => ?_, s.no, fun i x hi => ?_, fun i xs hi => ?_, fun i j a hne ⟨xs, h1⟩ ⟨ys, h2⟩ h3 h4 => ?_⟩
  · obtain ⟨h1, xs, h2⟩ := s.pin q hq
    exact ⟨(L2.wipe_some h1).1, xs, by rw [restore_out (hp q hq)]; exact h2⟩
  · rcases restore_in hi with ⟨h1, h2⟩ | ⟨h1, h2⟩
    · have e' : ρ1[i]? = some (some (LV.d x)) := by
        rw [List.getD_eq_getElem?_getD] at h2
        cases q : ρ1[i]? with
        | none => rw [q] at h2; cases h2
        | some y => rw [q] at h2; exact congrArg some h2.symm
      obtain ⟨v, g1, g2⟩ := s1.val i x e'
      exact ⟨v, g1, Dp.mono e _ _ g2⟩
    · obtain ⟨v, g1, g2⟩ := s.val i x h2
      exact ⟨v, by rw [wipe_out h1] at g1; exact g1, g2⟩
  · obtain ⟨h1, h2⟩ := own' hi
    obtain ⟨a, us, g1, g2⟩ := s.own i xs h2
    exact ⟨a, us, by rw [wipe_out h1] at g1; exact g1, g2⟩
  · obtain ⟨n1, h1⟩ := own' h1
    obtain ⟨n2, h2⟩ := own' h2
    exact s.apart i j a hne ⟨xs, h1⟩ ⟨ys, h2⟩ (by rw [wipe_out n1]; exact h3) (by rw [wipe_out n2]; exact h4)
end
/-- whatever lists are being made around -/
def gX (K : PySem.W.Frag) (io : Option (Nat × Addr)) (G : Gt) (sl : List Nat) : TG := fun v σ H Q => ∃ C : Fc, C.io = io ∧ gD K C G sl v σ H Q
def tX {α β : Type} (K : PySem.W.Frag) (io : Option (Nat × Addr)) (rel : L2.St → Hp → Hp → DE → β → α → Prop) (f : M α) : L2.St → Hp → (β → Hp → Prop) → Prop := fun σ H Q => ∃ C : Fc, C.io = io ∧ tG K C rel f σ H Q
theorem pg_any {X : Cx} {io : Option (Nat × Addr)} {tg : Expr} {G : Gt} {sl : List Nat} (h : ∀ C : Fc, C.io = io → PDg X C tg G sl) : PG X tg (gX X.K io G sl) := ⟨fun pins s σ H v u Q I r ⟨C, e, q⟩ => (h C e).run pins s σ H v u Q I r q⟩
theorem pe_any {X : Cx} {io : Option (Nat × Addr)} {e : Expr} {f : M D} (h : ∀ C : Fc, C.io = io → PDe X C e f) : PE X e (tX X.K io (relD X.K) f) := ⟨fun pins s σ H Q I ⟨C, ee, q⟩ => (h C ee).run pins s σ H Q I q⟩
def PDts (X : Cx) (C : Fc) (ifs : List Expr) (p : M Bool) : Prop := PTs X ifs (tG X.K C relB p)
theorem pdts_nil {X : Cx} {C : Fc} : PDts X C [] (M.ret true) := ⟨fun pins sh σ H Q I ⟨Hf, ρ, s, q⟩ => pts_nil.run pins sh σ H Q I (PostG.now (b := true) q s rfl)⟩
theorem pdts_one {X : Cx} {C : Fc} {c : Expr} {p : M Bool} (h : PDt X C c p) : PDts X C [c] p := pts_one h
theorem pts_any {X : Cx} {io : Option (Nat × Addr)} {ifs : List Expr} {p : M Bool} (h : ∀ C : Fc, C.io = io → PDts X C ifs p) : PTs X ifs (tX X.K io relB p) := ⟨fun pins s σ H Q I ⟨C, ee, q⟩ => (h C ee).run pins s σ H Q I q⟩
section
variable {X : Cx} {C : Fc} {pos : Pos} {tg iter elt : Expr} {ifs : List Expr} {scope : Scope} {own : List (Str × Nat)} {it : M (List D)} {G : Gt} {sl : List Nat} {tt : M Bool} {te : M D}
theorem lc_go {vs : List Nat} (hp : ∀ q, C.io = some q → q.1 ∉ vs) (hsl : ∀ j ∈ sl, j ∈ vs) {σ : L2.St} {H : Hp} {Q : VK} (h : tG X.K C (relL X.K C) (M.lc it vs G tt te) σ H Q) :
    tLc (tG X.K C (relI X.K) it) (gX X.K C.io G sl) (tX X.K C.io relB tt) (tX X.K C.io (relD X.K) te) vs σ H Q := by
  obtain ⟨Hf, ρ, s, h⟩ := h
  refine tG_bind s h fun J xs H1 Hf1 ρ1 e1 s1 r1 h1 => ?_
  obtain ⟨rgo, rstop⟩ := r1
  intro Dl hD
  by_cases hcl : cleanD ρ1 vs = true
  case neg => rw [if_neg hcl] at h1; exact (show False from h1).elim
  rw [if_pos hcl] at h1
  cases hfin : lcLoop vs G tt te xs [] (wipeD ρ1 vs) with
  | ex e ρe => rw [hfin] at h1; exact (show False from h1).elim
  | bad => rw [hfin] at h1; exact (show False from h1).elim
  | ok ys ρe =>
    rw [hfin] at h1
    have hno : ∀ p ∈ C.no, Dl ≠ p.1 := fun p hp e => by
      obtain ⟨_, g⟩ := s1.no p hp
      rw [e, g] at hD
      cases hD
    have h0 := s1.h0 hD
    have nf : Hf1 Dl = none := Evl.fresh_back s1.e1 hD
    have sW : SR X.K (C.hide Dl []) Hf1 (upd H1 Dl (.lst [])) (L2.wipe σ vs) (wipeD ρ1 vs) := by
      have g := s1.grow (Grow.mine (o := .lst []) s1.e1 hD)
      refine (g.wipe hp).hide nf upd_same fun j ⟨zs, hj⟩ hr => ?_
      obtain ⟨a, us, g1, _, g3, _⟩ := (s1.wipe hp).own j zs hj
      rw [hr] at g1
      cases g1
      rw [hD] at g3
      cases g3
    refine ⟨fun i m H => ∃ Hf ρ vacc acc, Ex Hf1 Hf ∧ SR X.K (C.hide Dl vacc) Hf H (L2.wipe σ vs) ρ ∧ DpAll X.K Hf vacc acc ∧ i ≤ xs.length ∧ m = xs.length - i ∧ lcLoop vs G tt te (xs.drop i) acc ρ = .ok ys ρe,
      ⟨xs.length, Hf1, _, [], [], Ex.refl _, sW, .nil, Nat.zero_le _, rfl, hfin⟩, ?_⟩
    rintro i m H2 ⟨Hf2, ρ2, vacc, acc, e2, s2, da, hi, rfl, hl⟩
    obtain ⟨n1, n2⟩ := s2.no (Dl, vacc) List.mem_cons_self
    by_cases hlt : i < xs.length
    · have hx : xs[i]? = some xs[i] := List.getElem?_eq_getElem hlt
      obtain ⟨go, yl⟩ := rgo i Hf2 H2 _ e2 s2.e1 hx
      rw [List.drop_eq_getElem_cons hlt] at hl
      unfold lcLoop at hl
      refine .inr ⟨go, fun H' => ∃ Hf ρ vacc acc, Ex Hf1 Hf ∧ SR X.K (C.hide Dl vacc) Hf H' (L2.wipe σ vs) ρ ∧ DpAll X.K Hf vacc acc ∧ lcLoop vs G tt te (xs.drop (i + 1)) acc ρ = .ok ys ρe,
        fun H' ⟨Hf', ρ', va', ac', a1, a2, a3, a4⟩ => ⟨xs.length - (i + 1), by omega, Hf', ρ', va', ac', a1, a2, a3, hlt, rfl, a4⟩, fun v H' y => ?_⟩
      obtain ⟨Hf3, gr, d3⟩ := yl v H' y
      cases hG : G xs[i] ρ2 with
      | none => rw [hG] at hl; cases hl
      | some ρ3 =>
        rw [hG] at hl
        simp only at hl
        refine ⟨C.hide Dl vacc, rfl, Hf3, ρ2, xs[i], ρ3, s2.grow gr, d3, hG, fun σ3 s3 l3 o3 => ?_⟩
        have hw : L2.wipe σ3 vs = L2.wipe σ vs := by
          rw [wipe_eq (σ := L2.wipe σ vs) (vs := vs) l3 fun i hi => o3 i fun h => hi (hsl i h)]
          exact wipe_eq (L2.wipe_length σ vs) fun i hi => wipe_out hi
        refine ⟨hw, C.hide Dl vacc, rfl, Hf3, ρ3, s3, ?_⟩
        cases htt : tt ρ3 with
        | ex e ρ4 => rw [htt] at hl; cases hl
        | bad => rw [htt] at hl; cases hl
        | ok b ρ4 =>
          rw [htt] at hl
          simp only at hl
          intro b' H4 Hf4 e4 s4 hb'
          have hb' : b' = b := hb'
          subst hb'
          cases b' with
          | false =>
            simp only [Bool.false_eq_true, if_false] at hl ⊢
            have s5 := s4.wipe (vs := vs) hp
            rw [hw] at s5
            exact ⟨Hf4, _, vacc, acc, (e2.trans gr.f).trans e4, s5, DpAll.mono (gr.f.trans e4) _ _ da, hl⟩
          | true =>
            simp only [if_true] at hl ⊢
            refine ⟨C.hide Dl vacc, rfl, Hf4, ρ4, s4, ?_⟩
            cases hte : te ρ4 with
            | ex e ρ5 => rw [hte] at hl; cases hl
            | bad => rw [hte] at hl; cases hl
            | ok y ρ5 =>
              rw [hte] at hl
              simp only at hl
              split at hl
              · rename_i hacc
                intro w H5 Hf5 e5 s5 d5
                have d5 : Dp X.K Hf5 w y := d5
                have da5 := DpAll.mono ((gr.f.trans e4).trans e5) _ _ da
                obtain ⟨m1, m2⟩ := s5.no (Dl, vacc) List.mem_cons_self
                refine ⟨vacc, m2, by rw [da.length]; exact hacc, ?_⟩
                have s6 := s5.rehide (ws := vacc ++ [w]) hno h0
                have s7 := s6.wipe (vs := vs) hp
                rw [hw] at s7
                exact ⟨Hf5, _, vacc ++ [w], acc ++ [y], ((e2.trans gr.f).trans e4).trans e5, s7, da5.append (.cons d5 .nil), hl⟩
              · cases hl
    · have e : i = xs.length := by omega
      subst e
      rw [List.drop_length] at hl
      unfold lcLoop at hl
      cases hl
      refine .inl ⟨rstop _ Hf2 H2 e2 s2.e1 (Nat.le_refl _), ?_⟩
      refine h1 (.ref Dl) H2 Hf2 e2 (s1.restore e2 s2.show_ hcl hp) ⟨Dl, vacc, rfl, n1, n2, da, h0, hno, fun j ⟨zs, hj⟩ hr => ?_⟩
      rcases restore_in hj with ⟨g1, g2⟩ | ⟨g1, g2⟩
      · have := List.all_eq_true.mp hcl j g1
        unfold isOwnB at this
        rw [List.getD_eq_getElem?_getD] at g2
        cases q : ρ1[j]? with
        | none => rw [q] at g2; cases g2
        | some y =>
          rw [q] at g2
          have g2 : some (LV.own zs) = y := g2
          subst g2
          rw [q] at this
          cases this
      · obtain ⟨a, us, a1, _, _, _, _, a6⟩ := s2.own j zs g2
        rw [wipe_out g1, hr] at a1
        cases a1
        exact a6 (Dl, vacc) List.mem_cons_self rfl
theorem pdl_lc (hp : ∀ q, C.io = some q → q.1 ∉ own.map (·.2)) (hsl : ∀ j ∈ sl, j ∈ own.map (·.2)) (hc : X.calm = true) (hN : X.N.Nodup) (ok : BlkOk X.N X.env.scope scope own) (hi : PDi X C tg iter it)
    (hg : ∀ (C' : Fc), C'.io = C.io → ∀ (s : Shared) (H : Hp) (Cc : Addr) (cl : List (Str × Addr)) (fp : List Addr), PDg (X.blk s H scope (compEnvC scope cl Cc X.env) fp) C' tg G sl)
    (ht : ∀ (C' : Fc), C'.io = C.io → ∀ (s : Shared) (H : Hp) (Cc : Addr) (cl : List (Str × Addr)) (fp : List Addr), PDts (X.blk s H scope (compEnvC scope cl Cc X.env) fp) C' ifs tt)
    (he : ∀ (C' : Fc), C'.io = C.io → ∀ (s : Shared) (H : Hp) (Cc : Addr) (cl : List (Str × Addr)) (fp : List Addr), PDe (X.blk s H scope (compEnvC scope cl Cc X.env) fp) C' elt te) (hs : ∀ x, foldedSetIterable iter X.env x = pure x := by intro _; rfl) :
    PDl X C (.ListComp elt [⟨tg, iter, ifs, 0⟩] scope pos) (M.lc it (own.map (·.2)) G tt te) :=
  pe_imp (pe_lc hc hN hi ok (fun s H Cc cl fp => pg_any fun C' e => hg C' e s H Cc cl fp) (fun s H Cc cl fp => pts_any fun C' e => ht C' e s H Cc cl fp) (fun s H Cc cl fp => pe_any fun C' e => he C' e s H Cc cl fp) hs) fun _ _ _ h => lc_go hp hsl h
/-- name = [..] -/
theorem pd_setLc {i : Nat} {y : Str} {py spos : Pos} (hpi : ∀ q, C.io = some q → q.1 ≠ i) (hp : ∀ q, C.io = some q → q.1 ∉ own.map (·.2)) (hsl : ∀ j ∈ sl, j ∈ own.map (·.2)) (hc : X.calm = true) (hN : X.N.Nodup) (ok : BlkOk X.N X.env.scope scope own) (hi : PDi X C tg iter it)
    (hg : ∀ (C' : Fc), C'.io = C.io → ∀ (s : Shared) (H : Hp) (Cc : Addr) (cl : List (Str × Addr)) (fp : List Addr), PDg (X.blk s H scope (compEnvC scope cl Cc X.env) fp) C' tg G sl)
    (ht : ∀ (C' : Fc), C'.io = C.io → ∀ (s : Shared) (H : Hp) (Cc : Addr) (cl : List (Str × Addr)) (fp : List Addr), PDts (X.blk s H scope (compEnvC scope cl Cc X.env) fp) C' ifs tt)
    (he : ∀ (C' : Fc), C'.io = C.io → ∀ (s : Shared) (H : Hp) (Cc : Addr) (cl : List (Str × Addr)) (fp : List Addr), PDe (X.blk s H scope (compEnvC scope cl Cc X.env) fp) C' elt te)
    (hsw : swapsWith (.ListComp elt [⟨tg, iter, ifs, 0⟩] scope pos) (some (.Name y py)) spos.line X.env = pure true)
    (hy : X.N[i]? = some y := by rfl) (hyl : X.env.scope.names.lookup y = some .local := by rfl)
    (hs : ∀ x, foldedSetIterable iter X.env x = pure x := by intro _; rfl) :
    PDs X C (.Assign [.Name y py] (.ListComp elt [⟨tg, iter, ifs, 0⟩] scope pos) spos) (S.own i (M.lc it (own.map (·.2)) G tt te)) :=
  ps_imp (ps_setLc hc hN hy hyl hsw hi ok (fun s H Cc cl fp => pg_any fun C' e => hg C' e s H Cc cl fp) (fun s H Cc cl fp => pts_any fun C' e => ht C' e s H Cc cl fp) (fun s H Cc cl fp => pe_any fun C' e => he C' e s H Cc cl fp) hs) fun E σ H ⟨Hf, ρ, s, q⟩ => by
    refine lc_go (it := it) (G := G) (sl := sl) (tt := tt) (te := te) hp hsl ⟨Hf, ρ, s, ?_⟩
    unfold S.own S.ofM at q
    cases hf : M.lc it (own.map (·.2)) G tt te ρ with
    | ok x ρ1 =>
      rw [hf] at q
      intro v H1 Hf1 e1 s1 d1
      obtain ⟨a, vs, rfl, g1, g2, g3, g4, g5, g6⟩ := d1
      exact PostS.nx (PostS.mono e1 q) (s1.setO g1 g2 g3 g4 g5 g6 hpi)
    | ex e ρ1 =>
      rw [hf] at q
      exact fun H' Hf'' e' s' => q σ H' Hf'' e' s'
    | bad => rw [hf] at q; exact q
/-- return of the list at a slot of ours -/
def S.retO (i : Nat) : MS := fun ρ => match ownAt ρ i with
  | some xs => .rl xs (ρ.set i none)
  | none => .bad
theorem pd_retO (i : Nat) {x : Str} {px : Pos} (hp : ∀ q, C.io = some q → q.1 ≠ i) (hN : X.N[i]? = some x := by rfl) (hv : Vis X.env.scope x := by first | exact Or.inl rfl | exact Or.inr (Or.inl rfl) | exact Or.inr (Or.inr rfl)) (hd : (x == ("__debug__" : Str)) = false := by decide)
    (hcd : (x == ("__classdict__" : Str)) = false := by decide) : PDs X C (.Return (some (.Name x px)) pos) (S.retO i) := ps_imp (ps_ret (pe_var hN hv hd hcd)) fun E σ H ⟨Hf, ρ, s, q⟩ => by
  unfold S.retO at q
  cases ho : ownAt ρ i with
  | none => rw [ho] at q; exact (show False from q).elim
  | some xs =>
    rw [ho] at q
    have hi := ownAt_get ho
    obtain ⟨a, us, g1, g2, g3, g4, g5, g6⟩ := s.own i xs hi
    refine ⟨.ref a, g1, q a us _ H Hf (Ex.refl _) (s.clear hp) g2 g3 g4 ?_⟩
    rcases g5 with g5 | ⟨q', h1, h2⟩
    · exact g5
    · obtain ⟨z1, zs, z2⟩ := s.pin q' h1
      exact absurd z1 fun z1 => s.apart i q'.1 a (Ne.symm (hp q' h1)) ⟨xs, hi⟩ ⟨zs, z2⟩ g1 (by rw [h2]; exact z1)
end
end PD

set_option maxRecDepth 100000
set_option maxHeartbeats 4000000
set_option autoImplicit false
namespace PD
open PySem PySem.Spec L2
open Evl (Ex)

/-! ### a def's promise -/
/-- what a def gives: a value, and what its own list holds then -/
inductive FR where
  | ret (x : D) (o : Option (List D))
  | retL (xs : List D) (o : Option (List D))
  | ex (e : EV) (o : Option (List D))
  | bad
def outO (io : Option Nat) (ρ : DE) : Option (List D) := match io with
  | none => none
  | some k => ownAt ρ k
def okIo (io : Option Nat) : Nat → List LV → Bool
  | _, [] => true
  | n, .d _ :: r => (match io with | some k => decide (k ≠ n) | none => true) && okIo io (n + 1) r
  | n, .own _ :: r => (match io with | some k => decide (k = n) | none => false) && okIo io (n + 1) r
def runF (np n : Nat) (io : Option Nat) (g : MS) (lvs : List LV) : FR :=
  if lvs.length = np ∧ okIo io 0 lvs = true ∧ (∀ k, io = some k → k < np) then (match g (lvs.map some ++ List.replicate (n - np) none) with
    | .rt x ρ => .ret x (outO io ρ)
    | .rl x ρ => .retL x (outO io ρ)
    | .nx ρ => .ret .none (outO io ρ)
    | .ex e ρ => .ex e (outO io ρ)
    | _ => .bad) else .bad
def ioA (io : Option Nat) (vs : List V) : Option (Nat × Addr) := match io with
  | none => none
  | some k => match vs[k]? with
    | some (.ref a) => some (k, a)
    | _ => none
section
variable (K : PySem.W.Frag)
/-- the arguments -/
def AOk (Hf H : Hp) (io : Option Nat) (vs : List V) (lvs : List LV) : Prop := vs.length = lvs.length ∧ ∀ (i : Nat) (lv : LV), lvs[i]? = some lv → ∃ v, vs[i]? = some v ∧ match lv with
  | .d x => Dp K Hf v x
  | .own xs => io = some i ∧ ∃ a us, v = .ref a ∧ Hf a = none ∧ H a = some (.lst us) ∧ DpAll K Hf us xs
def OutOk (Hf H : Hp) (q : Option (Nat × Addr)) (o : Option (List D)) : Prop := match q, o with
  | some q, some xs => Hf q.2 = none ∧ ∃ us, H q.2 = some (.lst us) ∧ DpAll K Hf us xs
  | none, _ => True
  | _, _ => False
def spF (io : Option Nat) (F : List LV → FR) : Sp := fun vs H Q E => ∃ Hf lvs, Ex Hf H ∧ AOk K Hf H io vs lvs ∧ match F lvs with
  | .ret x o => ∀ (v : V) (H' Hf' : Hp), Ex Hf Hf' → Ex Hf' H' → (∀ b u, Hf' b = some u → Hf b = some u ∨ H b = none) → (∀ b u, H b = some u → (∀ q, ioA io vs = some q → b ≠ q.2) → H' b = some u) → OutOk K Hf' H' (ioA io vs) o → Dp K Hf' v x → Q v H'
  | .retL xs o => ∀ (a : Addr) (us : List V) (H' Hf' : Hp), Ex Hf Hf' → Ex Hf' H' → (∀ b u, Hf' b = some u → Hf b = some u ∨ H b = none) → (∀ b u, H b = some u → (∀ q, ioA io vs = some q → b ≠ q.2) → H' b = some u) → OutOk K Hf' H' (ioA io vs) o → Hf' a = none → H' a = some (.lst us) → DpAll K Hf' us xs → H a = none → Q (.ref a) H'
  | .ex _ _ => False
  | .bad => False
end
theorem io_ne {io : Option Nat} {C : Fc} (h : ∀ q, C.io = some q → io = some q.1) {i : Nat} (e : io ≠ some i := by decide) : ∀ q, C.io = some q → q.1 ≠ i := fun q hq z => e ((h q hq).trans (congrArg some z))
def ioOut (io : Option Nat) (l : List Nat) : Bool := match io with
  | some k => decide (k ∉ l)
  | none => true
theorem io_nin {io : Option Nat} {C : Fc} (h : ∀ q, C.io = some q → io = some q.1) {l : List Nat} (e : ioOut io l = true := by decide) : ∀ q, C.io = some q → q.1 ∉ l := fun q hq z => by
  rw [h q hq] at e
  exact (of_decide_eq_true (show decide (q.1 ∉ l) = true from e)) z
theorem io_eq {io : Option Nat} {C C' : Fc} (h : ∀ q, C.io = some q → io = some q.1) (e : C'.io = C.io) : ∀ q, C'.io = some q → io = some q.1 := fun q hq => h q (e ▸ hq)
theorem io_no {io : Option Nat} {C : Fc} (e : C.io = none) : ∀ q, C.io = some q → io = some q.1 := fun q hq => by rw [e] at hq; cases hq
section
variable {P : Program} {w : World} {K : PySem.W.Frag} {mg : Str → Option Value} {base : Heap}
theorem okIo_d {io : Option Nat} {k : Nat} (hio : io = some k) : ∀ {lvs : List LV} {n : Nat}, okIo io n lvs = true → n ≤ k → k < n + lvs.length → ∃ xs, lvs[k - n]? = some (.own xs)
  | [], n, _, h1, h2 => by simp at h2; omega
  | .d x :: r, n, h, h1, h2 => by
    unfold okIo at h
    rw [hio] at h
    simp only [Bool.and_eq_true, decide_eq_true_eq] at h
    obtain ⟨xs, e⟩ := okIo_d hio (lvs := r) (n := n + 1) (by rw [hio]; exact h.2) (by omega) (by simp at h2; omega)
    refine ⟨xs, ?_⟩
    have : k - n = (k - (n + 1)) + 1 := by omega
    rw [this]
    simpa using e
  | .own xs :: r, n, h, h1, h2 => by
    unfold okIo at h
    rw [hio] at h
    simp only [Bool.and_eq_true, decide_eq_true_eq] at h
    exact ⟨xs, by rw [h.1, Nat.sub_self]; rfl⟩
/-- THE RULE for a def, over data -/
theorem fn_pd {x qual : Str} {st : Stmt} {f : Addr} {fd : FuncData} {N ps : List Str} {k : Nat} {io : Option Nat} {g : MS} (F : Fun K x qual st f fd) (S : FnScope N ps (defScope st)) (hN : ps.length ≤ N.length)
    (hbody : ∀ (cdv : Value) (A : Around) (outer : List Env) (s : Shared) (H : Hp) (E : XK) (C : Fc), Room k (A.deeper (PyProof.Rows.envOfC qual (defScope st) s.heap.objs.size f cdv)) → (∀ q, C.io = some q → io = some q.1) →
      PDss (cxOf CX0 P w K mg base N qual (defScope st) f cdv A outer s H E).nox C (defBody st) g) : FnOk P w K mg base CX0 (k + 1) f fd ps (spF K io (runF ps.length N.length io g)) := by
  refine F.ok S (fun vs H Q E h => ?_) (fun cdv A outer s H vs Q E hr h => ?_)
  · obtain ⟨Hf, lvs, _, ha, h⟩ := h
    rw [ha.1]
    unfold runF at h
    split at h
    · rename_i heq
      split at heq
      · rename_i hc; exact hc.1
      · cases heq
    · rename_i heq
      split at heq
      · rename_i hc; exact hc.1
      · cases heq
    · exact h.elim
    · exact h.elim
  · obtain ⟨Hf, lvs, hex, ha, h⟩ := h
    obtain ⟨hl, ha⟩ := ha
    unfold runF at h
    by_cases hc : lvs.length = ps.length ∧ okIo io 0 lvs = true ∧ (∀ k, io = some k → k < ps.length)
    case neg => rw [if_neg hc] at h; exact (show False from h).elim
    rw [if_pos hc] at h
    have hC : ∀ q, (ioA io vs) = some q → io = some q.1 ∧ vs[q.1]? = some (.ref q.2) := fun q hq => by
      unfold ioA at hq
      split at hq
      · cases hq
      · split at hq
        · cases hq
          rename_i hv
          exact ⟨rfl, hv⟩
        · cases hq
    have hσ : ∀ {i : Nat} {v : V}, vs[i]? = some v → (L2.start N vs)[i]? = some (some v) := fun {i v} e => by
      unfold L2.start
      rw [List.getElem?_append_left (by rw [List.length_map]; exact (List.getElem?_eq_some_iff.mp e).1), List.getElem?_map, e]
      rfl
    have hρ : ∀ {i : Nat} {lv : LV}, (lvs.map some ++ List.replicate (N.length - ps.length) none)[i]? = some (some lv) → lvs[i]? = some lv := fun {i lv} e => by
      by_cases hi : i < lvs.length
      · rw [List.getElem?_append_left (by rw [List.length_map]; exact hi), List.getElem?_map] at e
        cases q : lvs[i]? with
        | none => rw [q] at e; cases e
        | some y => rw [q] at e; cases e; rfl
      · rw [List.getElem?_append_right (by rw [List.length_map]; omega), List.getElem?_replicate] at e
        split at e <;> cases e
    have hρ2 : ∀ {i : Nat} {lv : LV}, lvs[i]? = some lv → (lvs.map some ++ List.replicate (N.length - ps.length) none)[i]? = some (some lv) := fun {i lv} e => by
      rw [List.getElem?_append_left (by rw [List.length_map]; exact (List.getElem?_eq_some_iff.mp e).1), List.getElem?_map, e]
      rfl
    have only : ∀ {i : Nat}, IsOwn (lvs.map some ++ List.replicate (N.length - ps.length) none) i → io = some i := fun {i} ⟨xs, e⟩ => by
      obtain ⟨v, _, h1, _⟩ := ha i _ (hρ e)
      exact h1
    have S0 : SR K ⟨Hf, H, ioA io vs, [], fun _ _ => False⟩ Hf H (L2.start N vs) (lvs.map some ++ List.replicate (N.length - ps.length) none) := by
      refine ⟨?_, Ex.refl _, hex, fun b o e => .inl e, fun b o e _ => e, fun q hq => ?_, (fun p hp => by cases hp), fun i y e => ?_, fun i xs e => ?_, fun i j a hne h1 h2 _ _ => ?_⟩
      · unfold L2.start
        simp only [List.length_append, List.length_map, List.length_replicate]
        omega
      · obtain ⟨h1, h2⟩ := hC q hq
        refine ⟨hσ h2, ?_⟩
        obtain ⟨xs, e⟩ := okIo_d h1 hc.2.1 (Nat.zero_le _) (by have := hc.2.2 _ h1; omega)
        exact ⟨xs, hρ2 (by simpa using e)⟩
      · obtain ⟨v, h1, h2⟩ := ha i _ (hρ e)
        exact ⟨v, hσ h1, h2⟩
      · obtain ⟨v, h1, h2, a, us, rfl, h3, h4, h5⟩ := ha i _ (hρ e)
        refine ⟨a, us, hσ h1, h3, h4, h5, .inr ⟨(i, a), ?_, rfl⟩, fun p hp => by cases hp⟩
        show ioA io vs = _
        unfold ioA
        rw [h2]
        simp only [h1]
      · exact hne (Option.some.inj ((only h1).symm.trans (only h2)))
    refine ⟨_, hbody cdv A outer s H E ⟨Hf, H, ioA io vs, [], fun _ _ => False⟩ hr (fun q hq => (hC q hq).1), Hf, _, S0, ?_⟩
    have out : ∀ {σ' : L2.St} {H' Hf' : Hp} {ρ' : DE}, SR K ⟨Hf, H, ioA io vs, [], fun _ _ => False⟩ Hf' H' σ' ρ' → OutOk K Hf' H' (ioA io vs) (outO io ρ') := fun {σ' H' Hf' ρ'} s' => by
      unfold OutOk
      cases hq : ioA io vs with
      | none => exact True.intro
      | some q =>
        obtain ⟨h1, h2⟩ := hC q hq
        obtain ⟨g1, xs, g2⟩ := s'.pin q hq
        obtain ⟨a, us, a1, a2, a3, a4, _⟩ := s'.own _ _ g2
        rw [g1] at a1
        cases a1
        have e : outO io ρ' = some xs := by
          unfold outO
          rw [h1]
          simp only [ownAt, g2]
        rw [e]
        exact ⟨a2, us, a3, a4⟩
    cases hg : g (lvs.map some ++ List.replicate (N.length - ps.length) none) with
    | nx ρ' =>
      rw [hg] at h
      exact fun σ' H' Hf' e' s' => h .non H' Hf' e' s'.e1 s'.fresh s'.keep (out s') .non
    | rt y ρ' =>
      rw [hg] at h
      exact fun v σ' H' Hf' e' s' d => h v H' Hf' e' s'.e1 s'.fresh s'.keep (out s') d
    | rl y ρ' =>
      rw [hg] at h
      exact fun a us σ' H' Hf' e' s' z1 z2 z3 z4 => h a us H' Hf' e' s'.e1 s'.fresh s'.keep (out s') z1 z2 z3 z4
    | bk ρ' => rw [hg] at h; exact (show False from h).elim
    | ct ρ' => rw [hg] at h; exact (show False from h).elim
    | ex e ρ' => rw [hg] at h; exact (show False from h).elim
    | bad => rw [hg] at h; exact (show False from h).elim
end

/-! ### a call -/
def lvsOf (ρ : DE) : List Arg → Option (List LV)
  | [] => some []
  | .dat x :: r => (lvsOf ρ r).map (.d x :: ·)
  | .slot i :: r => (ownAt ρ i).bind fun xs => (lvsOf ρ r).map (.own xs :: ·)
def putO (io : Option Nat) (as : List Arg) (o : Option (List D)) (ρ : DE) : Option DE := match io with
  | none => some ρ
  | some k => match as[k]?, o with
    | some (.slot i), some xs => some (ρ.set i (some (.own xs)))
    | _, _ => none
def argIo (io : Option Nat) : Nat → List Arg → Bool
  | _, [] => true
  | n, .dat _ :: r => argIo io (n + 1) r
  | n, .slot _ :: r => (match io with | some k => decide (k = n) | none => false) && argIo io (n + 1) r
def M.fn (io : Option Nat) (F : List LV → FR) (g : M (List Arg)) : M D := M.bind g fun as ρ => match lvsOf ρ as with
  | none => .bad
  | some lvs => if argIo io 0 as = true then (match F lvs with
      | .ret x o => (match putO io as o ρ with
        | some ρ' => .ok x ρ'
        | none => .bad)
      | .retL xs o => (match putO io as o ρ with
        | some ρ' => .ok (.list xs) ρ'
        | none => .bad)
      | _ => .bad) else .bad
/-- the call of a def that hands back a new list -/
def M.fnL (io : Option Nat) (F : List LV → FR) (g : M (List Arg)) : M (List D) := M.bind g fun as ρ => match lvsOf ρ as with
  | none => .bad
  | some lvs => if argIo io 0 as = true then (match F lvs with
      | .retL xs o => (match putO io as o ρ with
        | some ρ' => .ok xs ρ'
        | none => .bad)
      | _ => .bad) else .bad
section
variable {K : PySem.W.Frag} {C : Fc} {Hf H Hf' H' : Hp} {σ : L2.St} {ρ : DE}
theorem SR.called (s : SR K C Hf H σ ρ) {i : Nat} {a : Addr} {us : List V} {xs ys : List D} (hi : ρ[i]? = some (some (.own ys))) (ha : σ[i]? = some (some (.ref a))) (e : Ex Hf Hf') (e' : Ex Hf' H') (hn : ∀ b u, Hf' b = some u → Hf b = some u ∨ H b = none)
    (hk : ∀ b u, H b = some u → b ≠ a → H' b = some u) (h1 : Hf' a = none) (h2 : H' a = some (.lst us)) (h3 : DpAll K Hf' us xs) : SR K C Hf' H' σ (ρ.set i (some (.own xs))) := by
  obtain ⟨a', ws, g1, g2, g3, g4, g5, g6⟩ := s.own i ys hi
  rw [ha] at g1
  cases g1
  have hown : ∀ {j}, IsOwn (ρ.set i (some (.own xs))) j → IsOwn ρ j := fun {j} ⟨zs, h⟩ => by
    rcases get_set h with ⟨e, _, _⟩ | ⟨_, h⟩
    · subst e; exact ⟨ys, hi⟩
    · exact ⟨zs, h⟩
  refine ⟨by simpa using s.len, s.e0.trans e, e', fun b o h => ?_, fun b o h q => ?_, fun q hq => ?_, fun p hp => ?_, fun j y hj => ?_, fun j zs hj => ?_, fun j k b hne h1 h2 h3 h4 => s.apart j k b hne (hown h1) (hown h2) h3 h4⟩
  · rcases hn b o h with q | q
    · exact s.fresh b o q
    · exact .inr (s.h0 q)
  · refine hk b o (s.keep b o h q) fun eb => ?_
    subst eb
    rcases g5 with g5 | ⟨q', z1, z2⟩
    · rw [g5] at h; cases h
    · exact q q' z1 z2
  · obtain ⟨z1, zs, z2⟩ := s.pin q hq
    refine ⟨z1, ?_⟩
    by_cases ei : i = q.1
    · subst ei
      exact ⟨xs, List.getElem?_set_self (List.getElem?_eq_some_iff.mp hi).1⟩
    · exact ⟨zs, by rw [List.getElem?_set_ne ei]; exact z2⟩
  · obtain ⟨z1, z2⟩ := s.no p hp
    refine ⟨?_, hk _ _ z2 (Ne.symm (g6 p hp))⟩
    cases q : Hf' p.1 with
    | none => rfl
    | some o =>
      rcases hn _ _ q with z | z
      · rw [z1] at z; cases z
      · rw [z2] at z; cases z
  · rcases get_set hj with ⟨_, e2, _⟩ | ⟨ne, hj⟩
    · cases e2
    · obtain ⟨v, z1, z2⟩ := s.val j y hj
      exact ⟨v, z1, Dp.mono e _ _ z2⟩
  · rcases get_set hj with ⟨ej, e2, hl⟩ | ⟨ne, hj⟩
    · subst ej
      cases e2
      exact ⟨a, us, ha, h1, h2, h3, g5, g6⟩
    · obtain ⟨b, ws', q1, q2, q3, q4, q5, q6⟩ := s.own j zs hj
      have nb : b ≠ a := fun eb => by
        subst eb
        exact s.apart i j b ne ⟨ys, hi⟩ ⟨zs, hj⟩ ha q1
      refine ⟨b, ws', q1, ?_, hk _ _ q3 nb, DpAll.mono e _ _ q4, q5, q6⟩
      cases q : Hf' b with
      | none => rfl
      | some o =>
        rcases hn _ _ q with z | z
        · rw [q2] at z; cases z
        · rw [q3] at z; cases z
theorem args_ok {io : Option Nat} (s : SR K C Hf H σ ρ) : ∀ {vs : List V} {as : List Arg} {lvs : List LV} {n : Nat}, ArgsRel K σ Hf vs as → lvsOf ρ as = some lvs → argIo io n as = true →
    vs.length = lvs.length ∧ ∀ (i : Nat) (lv : LV), lvs[i]? = some lv → ∃ v, vs[i]? = some v ∧ match lv with
      | .d x => Dp K Hf v x
      | .own xs => io = some (n + i) ∧ ∃ a us, v = .ref a ∧ Hf a = none ∧ H a = some (.lst us) ∧ DpAll K Hf us xs
  | _, _, lvs, n, .nil, e, _ => by cases e; exact ⟨rfl, fun i lv h => by simp at h⟩
  | _, _, lvs, n, .dat (x := x) (vs := vs) (as := as) h t, e, ha => by
    unfold lvsOf at e
    cases q : lvsOf ρ as with
    | none => rw [q] at e; cases e
    | some l =>
      rw [q] at e
      cases e
      obtain ⟨h1, h2⟩ := args_ok (io := io) (n := n + 1) s t q ha
      refine ⟨by simp [h1], fun i lv hi => ?_⟩
      cases i with
      | zero => cases hi; exact ⟨_, rfl, h⟩
      | succ i =>
        obtain ⟨v, g1, g2⟩ := h2 i lv (by simpa using hi)
        refine ⟨v, by simpa using g1, ?_⟩
        cases lv with
        | d y => exact g2
        | own xs => exact ⟨by rw [g2.1]; congr 1; omega, g2.2⟩
  | _, _, lvs, n, .slot (v := v) (i := j) (vs := vs) (as := as) h t, e, ha => by
    unfold lvsOf at e
    cases ho : ownAt ρ j with
    | none => rw [ho] at e; cases e
    | some xs =>
      rw [ho] at e
      cases q : lvsOf ρ as with
      | none => rw [q] at e; cases e
      | some l =>
        rw [q] at e
        cases e
        unfold argIo at ha
        rw [Bool.and_eq_true] at ha
        obtain ⟨h1, h2⟩ := args_ok (io := io) (n := n + 1) s t q ha.2
        refine ⟨by simp [h1], fun i lv hi => ?_⟩
        cases i with
        | zero =>
          cases hi
          obtain ⟨a, us, z1, z2, z3, z4, _⟩ := s.own j xs (ownAt_get ho)
          rw [h] at z1
          cases z1
          refine ⟨_, rfl, ?_, a, us, rfl, z2, z3, z4⟩
          cases io with
          | none => cases ha.1
          | some k => rw [of_decide_eq_true ha.1]; rfl
        | succ i =>
          obtain ⟨v, g1, g2⟩ := h2 i lv (by simpa using hi)
          refine ⟨v, by simpa using g1, ?_⟩
          cases lv with
          | d y => exact g2
          | own xs => exact ⟨by rw [g2.1]; congr 1; omega, g2.2⟩
theorem slot_get : ∀ {vs : List V} {as : List Arg} {k i : Nat}, ArgsRel K σ Hf vs as → as[k]? = some (.slot i) → ∃ v, vs[k]? = some v ∧ σ[i]? = some (some v)
  | _, _, k, i, .nil, e => by simp at e
  | _, _, 0, i, .dat _ _, e => by cases e
  | _, _, 0, i, .slot h _, e => by cases e; exact ⟨_, rfl, h⟩
  | _, _, k + 1, i, .dat _ t, e => by
    obtain ⟨v, h1, h2⟩ := slot_get t (by simpa using e)
    exact ⟨v, by simpa using h1, h2⟩
  | _, _, k + 1, i, .slot _ t, e => by
    obtain ⟨v, h1, h2⟩ := slot_get t (by simpa using e)
    exact ⟨v, by simpa using h1, h2⟩
theorem lvs_slot {ρ : DE} : ∀ {as : List Arg} {lvs : List LV} {k i : Nat}, lvsOf ρ as = some lvs → as[k]? = some (.slot i) → ∃ xs, ownAt ρ i = some xs
  | [], _, k, i, _, h => by simp at h
  | .dat x :: r, lvs, k, i, e, h => by
    unfold lvsOf at e
    cases q : lvsOf ρ r with
    | none => rw [q] at e; cases e
    | some l =>
      cases k with
      | zero => cases h
      | succ k => exact lvs_slot q (by simpa using h)
  | .slot j :: r, lvs, k, i, e, h => by
    unfold lvsOf at e
    cases ho : ownAt ρ j with
    | none => rw [ho] at e; cases e
    | some xs =>
      rw [ho] at e
      cases q : lvsOf ρ r with
      | none => rw [q] at e; cases e
      | some l =>
        cases k with
        | zero => cases h; exact ⟨xs, ho⟩
        | succ k => exact lvs_slot q (by simpa using h)
end
section
variable {X : Cx} {C : Fc} {k : Nat} {f : Addr} {fd : FuncData} {ps : List Str} {io : Option Nat} {F : List LV → FR} {x : Str} {p pos : Pos} {e : Expr} {es : List Expr} {ga : M (List Arg)}
theorem put_go {vs : List V} {as : List Arg} {lvs : List LV} {o : Option (List D)} {σ : L2.St} {H H' Hf1 Hf' : Hp} {ρ1 ρ2 : DE} (s1 : SR X.K C Hf1 H σ ρ1) (d1 : ArgsRel X.K σ Hf1 vs as) (hl : lvsOf ρ1 as = some lvs) (hp : putO io as o ρ1 = some ρ2) (e2 : Ex Hf1 Hf') (e3 : Ex Hf' H') (hn : ∀ b u, Hf' b = some u → Hf1 b = some u ∨ H b = none)
    (hk : ∀ b u, H b = some u → (∀ q, ioA io vs = some q → b ≠ q.2) → H' b = some u) (ho : OutOk X.K Hf' H' (ioA io vs) o) : SR X.K C Hf' H' σ ρ2 ∧ ∀ j, IsOwn ρ2 j → IsOwn ρ1 j := by
  unfold putO at hp
  cases io with
  | none =>
    cases hp
    exact ⟨s1.grow ⟨e2, fun b u hb => hk b u hb (fun q hq => by cases hq), e3, hn⟩, fun _ h => h⟩
  | some kk =>
    simp only at hp
    split at hp
    · rename_i i xs hs
      cases hp
      obtain ⟨v0, b1, b2⟩ := slot_get d1 hs
      obtain ⟨zs, ho2⟩ := lvs_slot hl hs
      obtain ⟨a, us, z1, z2, z3, z4, _⟩ := s1.own i zs (ownAt_get ho2)
      rw [b2] at z1
      cases z1
      have hA : ioA (some kk) vs = some (kk, a) := by
        unfold ioA
        simp only [b1]
      rw [hA] at hk ho
      obtain ⟨o1, us2, o2, o3⟩ := ho
      refine ⟨s1.called (ownAt_get ho2) b2 e2 e3 hn (fun b u hb ne => hk b u hb (fun q hq => by cases hq; exact ne)) o1 o2 o3, fun j ⟨ws, hj⟩ => ?_⟩
      rcases get_set hj with ⟨e, _, _⟩ | ⟨_, hj⟩
      · subst e; exact ⟨zs, ownAt_get ho2⟩
      · exact ⟨ws, hj⟩
    · cases hp
theorem fresh_rel {σ : L2.St} {H H' Hf1 Hf' : Hp} {ρ1 ρ2 : DE} {a : Addr} {us : List V} {xs : List D} (s1 : SR X.K C Hf1 H σ ρ1) (hso : ∀ j, IsOwn ρ2 j → IsOwn ρ1 j) (z1 : Hf' a = none) (z2 : H' a = some (.lst us)) (z3 : DpAll X.K Hf' us xs) (z4 : H a = none) : relL X.K C σ Hf' H' ρ2 (.ref a) xs := by
  refine ⟨a, us, rfl, z1, z2, z3, s1.h0 z4, fun p hp e => ?_, fun j hj e => ?_⟩
  · obtain ⟨_, h⟩ := s1.no p hp
    rw [e, h] at z4
    cases z4
  · obtain ⟨ys, hj⟩ := hso j hj
    obtain ⟨b, ws, h1, _, h3, _⟩ := s1.own j ys hj
    rw [h1] at e
    cases e
    rw [h3] at z4
    cases z4
theorem fn_go {E : XK} {σ : L2.St} {H : Hp} {Q : VK} (h : tG X.K C (relD X.K) (M.fn io F ga) σ H Q) : tCall (spF X.K io F) [] E (tG X.K C (relA X.K) ga) σ H Q := by
  obtain ⟨Hf, ρ, s, h⟩ := h
  refine tG_bind s h fun vs as H1 Hf1 ρ1 e1 s1 d1 h1 => ?_
  rw [List.append_nil]
  cases hl : lvsOf ρ1 as with
  | none => simp only [hl] at h1; exact (show False from h1).elim
  | some lvs =>
    simp only [hl] at h1
    by_cases hio : argIo io 0 as = true
    case neg => rw [if_neg hio] at h1; exact (show False from h1).elim
    rw [if_pos hio] at h1
    obtain ⟨a1, a2⟩ := args_ok (io := io) (n := 0) s1 d1 hl hio
    refine ⟨Hf1, lvs, s1.e1, ⟨a1, fun i lv hi => ?_⟩, ?_⟩
    · obtain ⟨v, g1, g2⟩ := a2 i lv hi
      refine ⟨v, g1, ?_⟩
      cases lv with
      | d y => exact g2
      | own xs => exact ⟨by rw [g2.1, Nat.zero_add], g2.2⟩
    · cases hF : F lvs with
      | bad => simp only [hF] at h1; exact (show False from h1).elim
      | ex e o => simp only [hF] at h1; exact (show False from h1).elim
      | ret y o =>
        simp only [hF] at h1 ⊢
        intro v H' Hf' e2 e3 hn hk ho hd
        cases hp : putO io as o ρ1 with
        | none => simp only [hp] at h1; exact (show False from h1).elim
        | some ρ2 =>
          simp only [hp] at h1
          exact h1 v H' Hf' e2 (put_go s1 d1 hl hp e2 e3 hn hk ho).1 hd
      | retL ys o =>
        simp only [hF] at h1 ⊢
        intro a us H' Hf' e2 e3 hn hk ho z1 z2 z3 z4
        cases hp : putO io as o ρ1 with
        | none => simp only [hp] at h1; exact (show False from h1).elim
        | some ρ2 =>
          simp only [hp] at h1
          obtain ⟨s2, hso⟩ := put_go s1 d1 hl hp e2 e3 hn hk ho
          obtain ⟨Hf3, e3, s3, d3⟩ := s2.known (fresh_rel s1 hso z1 z2 z3 z4)
          exact h1 (.ref a) H' Hf3 (e2.trans e3) s3 d3
theorem fnL_go {E : XK} {σ : L2.St} {H : Hp} {Q : VK} (h : tG X.K C (relL X.K C) (M.fnL io F ga) σ H Q) : tCall (spF X.K io F) [] E (tG X.K C (relA X.K) ga) σ H Q := by
  obtain ⟨Hf, ρ, s, h⟩ := h
  refine tG_bind s h fun vs as H1 Hf1 ρ1 e1 s1 d1 h1 => ?_
  rw [List.append_nil]
  cases hl : lvsOf ρ1 as with
  | none => simp only [hl] at h1; exact (show False from h1).elim
  | some lvs =>
    simp only [hl] at h1
    by_cases hio : argIo io 0 as = true
    case neg => rw [if_neg hio] at h1; exact (show False from h1).elim
    rw [if_pos hio] at h1
    obtain ⟨a1, a2⟩ := args_ok (io := io) (n := 0) s1 d1 hl hio
    refine ⟨Hf1, lvs, s1.e1, ⟨a1, fun i lv hi => ?_⟩, ?_⟩
    · obtain ⟨v, g1, g2⟩ := a2 i lv hi
      refine ⟨v, g1, ?_⟩
      cases lv with
      | d y => exact g2
      | own xs => exact ⟨by rw [g2.1, Nat.zero_add], g2.2⟩
    · cases hF : F lvs with
      | bad => simp only [hF] at h1; exact (show False from h1).elim
      | ex e o => simp only [hF] at h1; exact (show False from h1).elim
      | ret y o => simp only [hF] at h1; exact (show False from h1).elim
      | retL ys o =>
        simp only [hF] at h1 ⊢
        intro a us H' Hf' e2 e3 hn hk ho z1 z2 z3 z4
        cases hp : putO io as o ρ1 with
        | none => simp only [hp] at h1; exact (show False from h1).elim
        | some ρ2 =>
          simp only [hp] at h1
          obtain ⟨s2, hso⟩ := put_go s1 d1 hl hp e2 e3 hn hk ho
          exact h1 (.ref a) H' Hf' e2 s2 (fresh_rel s1 hso z1 z2 z3 z4)
theorem pd_fn (G : FnOk X.prog X.w X.K X.mg X.base CX0 k f fd ps (spF X.K io F)) (hr : Room k X.A) (hm : X.mg x = some (.ref f)) (hk : PySem.W.keepIn X.K (.ref f) = true) (hb : Binds X.K fd ps []) (ha : PDa X C (e :: es) ga) (hg : Gl X x := by rfl)
    (hdb : (x == ("__debug__" : Str)) = false := by decide) (he : starEach (e :: es) X.env = (false, eval e X.env) :: starEach es X.env := by rfl) (hpl : (backTo pos (starEach es X.env)).any (·.1) = false := by rfl) : PDe X C (.Call (.Name x p) (e :: es) [] pos) (M.fn io F ga) :=
  pe_imp (pe_call G hr hg hm hk hb .nil pass0 ha hdb he hpl) fun _ _ _ h => fn_go h
theorem pdl_fn (G : FnOk X.prog X.w X.K X.mg X.base CX0 k f fd ps (spF X.K io F)) (hr : Room k X.A) (hm : X.mg x = some (.ref f)) (hk : PySem.W.keepIn X.K (.ref f) = true) (hb : Binds X.K fd ps []) (ha : PDa X C (e :: es) ga) (hg : Gl X x := by rfl)
    (hdb : (x == ("__debug__" : Str)) = false := by decide) (he : starEach (e :: es) X.env = (false, eval e X.env) :: starEach es X.env := by rfl) (hpl : (backTo pos (starEach es X.env)).any (·.1) = false := by rfl) : PDl X C (.Call (.Name x p) (e :: es) [] pos) (M.fnL io F ga) :=
  pe_imp (pe_call G hr hg hm hk hb .nil pass0 ha hdb he hpl) fun _ _ _ h => fnL_go h
end
/-- a weaker F (it says less) -/
theorem spF_le {K : PySem.W.Frag} {io : Option Nat} {F F' : List LV → FR} (h : ∀ lvs, F' lvs = .bad ∨ F' lvs = F lvs) : ∀ vs H Q E, spF K io F' vs H Q E → spF K io F vs H Q E := fun vs H Q E ⟨Hf, lvs, h1, h2, h3⟩ => by
  refine ⟨Hf, lvs, h1, h2, ?_⟩
  rcases h lvs with e | e
  · rw [e] at h3; exact h3.elim
  · rw [← e]; exact h3
end PD

set_option maxRecDepth 100000
set_option maxHeartbeats 4000000
set_option autoImplicit false
namespace PD
open PySem PySem.Spec L2
open Evl (Ex)
theorem tuple_mul1 (l : Addr) (items : Array Value) (n : Nat) (dd : Option Addr) (sl : Array (Option Value)) (x : Int) (u : Tok) (c0 : (decide (x < -(2 ^ 63)) || decide (x ≥ 2 ^ 63)) = false) (c1 : (items.isEmpty || x == 1) = true) :
    Meets (Builtin.«tuple.__mul__» ⟨[.ref l, .int x u], []⟩) (fun _ R s => s.heap.get? l = some { cls := .type "tuple", dict := dd, data := .seq items n, slots := sl } ∧
      R (.ok (.ret (Value.ref l))) s) :=
  .of_wp fun prog w A R s h => by
    obtain ⟨hp, g, d, tk, os⟩ := s
    obtain ⟨hl, h⟩ := h
    have f1 := AutoSeq1.idx_int
    wp_walk using wpAny_loadPart' hl
    refine wpAny_ite_false (decide_eq_false (by rw [c0]; exact Bool.false_ne_true)) ?_
    wp_walk using wpAny_loadPart' hl
    exact ⟨_, rfl, h⟩
/-- tuple * int that is the tuple itself -/
def rRepS (K : PySem.W.Frag) : R2 := fun x y H Q => ∃ l k xs, x = .ref l ∧ y = .int k ∧ SqT K H l xs ∧ (xs = [] ∨ k = 1) ∧ -1000 ≤ k ∧ k ≤ 1000 ∧ Q (.ref l) H
theorem op_repS {X : Cx} : OpR X (binaryOp .Mult) (rRepS X.K) := by
  intro pins s σ H x y v u Q I rx ry h
  obtain ⟨l, k, xs, rfl, rfl, hT, hne, h1, h2, q⟩ := h
  cases rx
  obtain ⟨t, rfl⟩ := ry
  obtain ⟨its, r, ⟨⟨cls, dd, data, sl⟩, ho, hc, n, hd⟩, hs⟩ := I.tuple hT
  simp only at hc hd
  subst hc hd
  have c0 : (decide (k < -(2 ^ 63)) || decide (k ≥ 2 ^ 63)) = false := by
    rw [decide_eq_false (by omega), decide_eq_false (by omega)] <;> rfl
  have c1 : (its.toArray.isEmpty || k == 1) = true := by
    rcases hne with e | e
    · subst e
      cases r
      rfl
    · subst e
      simp
  exact wpAny_binaryOp_repeat_ref (T := "tuple") (U := "int") (by decide) ⟨_, ho, rfl⟩ (fun s' => typeIs_int s' k t) noFill_tuple_mul F.fills_int_mul F.slot_int_rmul repeat_tuple F.slot_int_index.lookup
    (call_meets F.slot_int_rmul (typeIs_int s k t) F.entry_int_rmul (F.args_int_rmul_2 _ _) (int_rmul_tuple k t l its.toArray n dd sl)
      ⟨ho, rfl, ⟨_, ho, rfl⟩, call_meets F.slot_tuple_mul ⟨_, ho, rfl⟩ F.entry_tuple_mul (F.args_tuple_mul_2 _ _) (tuple_mul1 l its.toArray n dd sl k t c0 c1) ⟨ho, ⟨.ref l, H, I, rfl, q⟩⟩⟩)
def repTD : D → D → Option D
  | .tuple xs, .int k => if xs = [] ∧ -1000 ≤ k ∧ k ≤ 1000 then some (.tuple []) else if 1 ≤ k ∧ k ≤ 1000 ∧ xs.length ≤ 1000 then some (.tuple (List.replicate k.toNat xs).flatten) else none
  | _, _ => none
section
variable {X : Cx} {C : Fc} {pos : Pos} {a b : Expr} {f g : M D}
theorem repT_ok : Op2 X.K (fun x y H Q => rRepT X.K x y H Q ∨ rRepS X.K x y H Q) repTD := fun C Hf H σ ρ v w x y z Q s d1 d2 e q => by
  cases x with
  | tuple xs =>
    cases y with
    | int k =>
      simp only [repTD] at e
      obtain ⟨p, us, rfl, h1, h2⟩ := d1.tup_of
      have hl := h2.length
      split at e
      · rename_i h
        cases e
        obtain ⟨rfl, h3, h4⟩ := h
        have : us = [] := List.eq_nil_of_length_eq_zero hl
        subst this
        exact .inr ⟨p, k, [], rfl, d2.int_of, Evl.ex_t s.e1 h1, .inl rfl, h3, h4, q.now s (.tup h1 .nil)⟩
      · split at e
        · rename_i hn h
          cases e
          obtain ⟨h3, h4, h5⟩ := h
          by_cases hk : k = 1
          · subst hk
            have e1 : (List.replicate (1 : Int).toNat xs).flatten = xs := by simp
            rw [e1] at q
            exact .inr ⟨p, 1, us, rfl, d2.int_of, Evl.ex_t s.e1 h1, .inr rfl, by omega, by omega, q.now s (.tup h1 h2)⟩
          · refine .inl ⟨p, k, us, rfl, d2.int_of, Evl.ex_t s.e1 h1, fun e => ?_, by omega, h4, by omega, fun t ht => ?_⟩
            · subst e
              have : xs = [] := List.eq_nil_of_length_eq_zero hl.symm
              exact hn ⟨this, by omega, h4⟩
            · have gr := Grow.new (o := .tup (List.replicate k.toNat us).flatten) s.e1 ht
              exact q.nowG s gr (.tup (SqT.of upd_same) (DpAll.rep _ (DpAll.mono gr.f _ _ h2)))
        · cases e
    | _ => cases e
  | _ => cases e
/-- a if t else b, as a test -/
theorem pdt_if {c : Expr} {p q r : M Bool} (hc : PDt X C c p) (ha : PDt X C a q) (hb : PDt X C b r) : PDt X C (.IfExp c a b pos) (M.ite p q r) := ⟨fun pins sh σ H Q I ⟨Hf, ρ, s, h⟩ => by
  refine PyProof.Rows.isTrue_IfExp (thn (hc.run pins sh σ H (fun t H1 => if t = true then tG X.K C relB q σ H1 Q else tG X.K C relB r σ H1 Q) I (tG_bind s h fun v x H1 Hf1 ρ1 e1 s1 d1 h1 => ?_)) fun t s2 ⟨H2, I2, q2⟩ => ?_)
  · have d1 : v = x := d1
    subst d1
    cases v with
    | true => exact L2.iteT ⟨Hf1, ρ1, s1, h1⟩
    | false => exact L2.iteF ⟨Hf1, ρ1, s1, h1⟩
  · cases t with
    | true => exact ha.run pins s2 σ H2 Q I2 q2
    | false => exact hb.run pins s2 σ H2 Q I2 q2⟩
/-- a constant of the module -/
theorem pd_const {x : Str} {u : Value} {d : D} (hm : X.mg x = some u) (hr : ∃ v, RelV v u ∧ ∀ H, Dp X.K H v d) (hg : Gl X x := by rfl) (hdb : (x == ("__debug__" : Str)) = false := by decide) : PDe X C (.Name x pos) (M.ret d) := by
  obtain ⟨v, r, hd⟩ := hr
  exact pd_glob hg hm r hd hdb
theorem pd_mulT (ha : PDe X C a f) (hb : PDe X C b g) : PDe X C (.BinOp a .Mult b pos) (M.op2 repTD f g) := pd_op (op_repT.or op_repS) repT_ok ha hb
end
section
variable {X : Cx} {C : Fc} {pos : Pos} {tg iter elt : Expr} {ifs : List Expr} {scope : Scope} {own : List (Str × Nat)} {it : M (List D)} {G : Gt} {sl : List Nat} {tt : M Bool} {te : M D}
/-- name = [..], the list a datum -/
theorem pd_setLcF {i : Nat} {y : Str} {py spos : Pos} (hpi : ∀ q, C.io = some q → q.1 ≠ i) (hp : ∀ q, C.io = some q → q.1 ∉ own.map (·.2)) (hsl : ∀ j ∈ sl, j ∈ own.map (·.2)) (hc : X.calm = true) (hN : X.N.Nodup) (ok : BlkOk X.N X.env.scope scope own) (hi : PDi X C tg iter it)
    (hg : ∀ (C' : Fc), C'.io = C.io → ∀ (s : Shared) (H : Hp) (Cc : Addr) (cl : List (Str × Addr)) (fp : List Addr), PDg (X.blk s H scope (compEnvC scope cl Cc X.env) fp) C' tg G sl)
    (ht : ∀ (C' : Fc), C'.io = C.io → ∀ (s : Shared) (H : Hp) (Cc : Addr) (cl : List (Str × Addr)) (fp : List Addr), PDts (X.blk s H scope (compEnvC scope cl Cc X.env) fp) C' ifs tt)
    (he : ∀ (C' : Fc), C'.io = C.io → ∀ (s : Shared) (H : Hp) (Cc : Addr) (cl : List (Str × Addr)) (fp : List Addr), PDe (X.blk s H scope (compEnvC scope cl Cc X.env) fp) C' elt te)
    (hsw : swapsWith (.ListComp elt [⟨tg, iter, ifs, 0⟩] scope pos) (some (.Name y py)) spos.line X.env = pure true)
    (hy : X.N[i]? = some y := by rfl) (hyl : X.env.scope.names.lookup y = some .local := by rfl)
    (hs : ∀ x, foldedSetIterable iter X.env x = pure x := by intro _; rfl) :
    PDs X C (.Assign [.Name y py] (.ListComp elt [⟨tg, iter, ifs, 0⟩] scope pos) spos) (S.asg i (M.known (M.lc it (own.map (·.2)) G tt te))) :=
  ps_imp (ps_setLc hc hN hy hyl hsw hi ok (fun s H Cc cl fp => pg_any fun C' e => hg C' e s H Cc cl fp) (fun s H Cc cl fp => pts_any fun C' e => ht C' e s H Cc cl fp) (fun s H Cc cl fp => pe_any fun C' e => he C' e s H Cc cl fp) hs) fun E σ H ⟨Hf, ρ, s, q⟩ => by
    refine lc_go (it := it) (G := G) (sl := sl) (tt := tt) (te := te) hp hsl ⟨Hf, ρ, s, ?_⟩
    unfold S.asg S.ofM M.known M.bind at q
    cases hf : M.lc it (own.map (·.2)) G tt te ρ with
    | ok x ρ1 =>
      rw [hf] at q
      intro v H1 Hf1 e1 s1 d1
      obtain ⟨Hf2, e2, s2, d2⟩ := s1.known d1
      exact PostS.nx (PostS.mono (e1.trans e2) q) (s2.setD d2 hpi)
    | ex e ρ1 =>
      rw [hf] at q
      exact fun H' Hf'' e' s' => q σ H' Hf'' e' s'
    | bad => rw [hf] at q; exact q
end
end PD

set_option maxRecDepth 100000
set_option maxHeartbeats 4000000
set_option autoImplicit false
namespace PD
open PySem PySem.Spec L2
def bindR {α β : Type} (r : R α) (k : α → M β) : R β := match r with
  | .ok a ρ1 => k a ρ1
  | .ex e ρ1 => .ex e ρ1
  | .bad => .bad
def ofR {α : Type} (r : R α) (k : α → MS) : Fl := match r with
  | .ok a ρ1 => k a ρ1
  | .ex e ρ1 => .ex e ρ1
  | .bad => .bad
def seqR (r : Fl) (h : MS) : Fl := match r with
  | .nx ρ1 => h ρ1
  | o => o
def asgR (o : Option DE) : Fl := match o with
  | some ρ' => .nx ρ'
  | none => .bad
def varR (ρ : DE) (o : Option (Option LV)) : R D := match o with
  | some (some (.d x)) => .ok x ρ
  | _ => .bad
def ownL (o : Option (Option LV)) : Option (List D) := match o with
  | some (some (.own xs)) => some xs
  | _ => none
def frzL (i : Nat) (ρ : DE) (o : Option (Option LV)) : DE := match o with
  | some (some (.own xs)) => ρ.set i (some (.d (.list xs)))
  | _ => ρ
def isOwnL (o : Option (Option LV)) : Bool := match o with
  | some (some (.own _)) => true
  | _ => false
def catD (x y : D) : Option (List D) := match x, y with
  | .list xs, .list ys => if xs.length + ys.length ≤ sizeLine then some (xs ++ ys) else none
  | _, _ => none
def slotR {α : Type} (o : Option (List D)) (r : R α) : R α := match o with
  | some _ => r
  | none => .bad
def borrowR (ρ : DE) (r : R D) : R D := match r with
  | .ok x _ => if scalarD x = true then .ok x ρ else .bad
  | _ => .bad
def borrowTR (ρ : DE) (r : R Bool) : R Bool := match r with
  | .ok x _ => .ok x ρ
  | _ => .bad
def lcR (ρ1 : DE) (vs : List Nat) (r : R (List D)) : R (List D) := match r with
  | .ok ys ρe => .ok ys (restoreD ρ1 ρe vs)
  | _ => .bad
def putR {α : Type} (x : α) (o : Option DE) : R α := match o with
  | some ρ' => .ok x ρ'
  | none => .bad
def retR (io : Option Nat) (as : List Arg) (ρ : DE) (r : FR) : R D := match r with
  | .ret x o => putR x (putO io as o ρ)
  | .retL xs o => putR (.list xs) (putO io as o ρ)
  | _ => .bad
def retLR (io : Option Nat) (as : List Arg) (ρ : DE) (r : FR) : R (List D) := match r with
  | .retL xs o => putR xs (putO io as o ρ)
  | _ => .bad
def fnR (io : Option Nat) (F : List LV → FR) (as : List Arg) (ρ : DE) (o : Option (List LV)) : R D := match o with
  | none => .bad
  | some lvs => if argIo io 0 as = true then retR io as ρ (F lvs) else .bad
def fnLR (io : Option Nat) (F : List LV → FR) (as : List Arg) (ρ : DE) (o : Option (List LV)) : R (List D) := match o with
  | none => .bad
  | some lvs => if argIo io 0 as = true then retLR io as ρ (F lvs) else .bad
def endR (io : Option Nat) (r : Fl) : FR := match r with
  | .rt x ρ => .ret x (outO io ρ)
  | .rl x ρ => .retL x (outO io ρ)
  | .nx ρ => .ret .none (outO io ρ)
  | .ex e ρ => .ex e (outO io ρ)
  | _ => .bad
theorem runF_eq (np n : Nat) (io : Option Nat) (g : MS) (lvs : List LV) : runF np n io g lvs = if lvs.length = np ∧ okIo io 0 lvs = true ∧ (∀ k, io = some k → k < np) then endR io (g (lvs.map some ++ List.replicate (n - np) none)) else .bad := rfl
theorem ret_ap {α : Type} {a : α} {ρ : DE} : M.ret a ρ = .ok a ρ := rfl
theorem lift_some {α : Type} {a : α} {ρ : DE} : M.lift (some a) ρ = .ok a ρ := rfl
theorem lift_none {α : Type} {ρ : DE} : M.lift (none : Option α) ρ = .bad := rfl
theorem var_ap {i : Nat} {ρ : DE} : M.var i ρ = varR ρ ρ[i]? := by
  unfold M.var varR
  cases ρ[i]? with
  | none => rfl
  | some o => cases o with
    | none => rfl
    | some l => cases l <;> rfl
theorem varR_d {ρ : DE} {x : D} : varR ρ (some (some (.d x))) = .ok x ρ := rfl
theorem ownAt_ap {i : Nat} {ρ : DE} : ownAt ρ i = ownL ρ[i]? := by
  unfold ownAt ownL
  cases ρ[i]? with
  | none => rfl
  | some o => cases o with
    | none => rfl
    | some l => cases l <;> rfl
theorem ownL_own {xs : List D} : ownL (some (some (.own xs))) = some xs := rfl
theorem ownL_d {x : D} : ownL (some (some (.d x))) = none := rfl
theorem ownL_n  : ownL (some none) = none := rfl
theorem frzAt_ap {i : Nat} {ρ : DE} : frzAt i ρ = frzL i ρ ρ[i]? := by
  unfold frzAt frzL
  cases ρ[i]? with
  | none => rfl
  | some o => cases o with
    | none => rfl
    | some l => cases l <;> rfl
theorem frzL_own {i : Nat} {ρ : DE} {xs : List D} : frzL i ρ (some (some (.own xs))) = ρ.set i (some (.d (.list xs))) := rfl
theorem frzL_d {i : Nat} {ρ : DE} {x : D} : frzL i ρ (some (some (.d x))) = ρ := rfl
theorem frz_nil  : PD.frz [] = [] := rfl
theorem frz_cons {o : Option LV} {ρ : DE} : PD.frz (o :: ρ) = frz1 o :: PD.frz ρ := rfl
theorem frz1_own {xs : List D} : frz1 (some (.own xs)) = some (.d (.list xs)) := rfl
theorem frz1_d {x : D} : frz1 (some (.d x)) = some (.d x) := rfl
theorem frz1_n  : frz1 none = none := rfl
theorem wipe_nil {ρ : DE} : wipeD ρ [] = ρ := rfl
theorem wipe_cons {v : Nat} {vs : List Nat} {ρ : DE} : wipeD ρ (v :: vs) = (wipeD ρ vs).set v none := rfl
theorem restore_nil {ρ ρe : DE} : restoreD ρ ρe [] = ρe := rfl
theorem restore_cons {v : Nat} {vs : List Nat} {ρ ρe : DE} : restoreD ρ ρe (v :: vs) = (restoreD ρ ρe vs).set v (ρ.getD v none) := rfl
theorem clean_nil {ρ : DE} : cleanD ρ [] = true := rfl
theorem clean_cons {v : Nat} {vs : List Nat} {ρ : DE} : cleanD ρ (v :: vs) = (!isOwnL ρ[v]? && cleanD ρ vs) := by
  unfold cleanD isOwnB isOwnL
  rfl
theorem isOwnL_own {xs : List D} : isOwnL (some (some (.own xs))) = true := rfl
theorem isOwnL_d {x : D} : isOwnL (some (some (.d x))) = false := rfl
theorem isOwnL_n  : isOwnL (some none) = false := rfl
theorem bind_ap {α β : Type} {m : M α} {k : α → M β} {ρ : DE} : M.bind m k ρ = bindR (m ρ) k := rfl
theorem bindR_ok {α β : Type} {a : α} {k : α → M β} {ρ : DE} : bindR (.ok a ρ) k = k a ρ := rfl
theorem bindR_ex {α β : Type} {e : EV} {k : α → M β} {ρ : DE} : bindR (.ex e ρ : R α) k = .ex e ρ := rfl
theorem bindR_bad {α β : Type} {k : α → M β} : bindR (.bad : R α) k = .bad := rfl
theorem ofM_ap {α : Type} {m : M α} {k : α → MS} {ρ : DE} : S.ofM m k ρ = ofR (m ρ) k := rfl
theorem ofR_ok {α : Type} {a : α} {k : α → MS} {ρ : DE} : ofR (.ok a ρ) k = k a ρ := rfl
theorem ofR_ex {α : Type} {e : EV} {k : α → MS} {ρ : DE} : ofR (.ex e ρ : R α) k = .ex e ρ := rfl
theorem ofR_bad {α : Type} {k : α → MS} : ofR (.bad : R α) k = .bad := rfl
theorem seq_ap {g h : MS} {ρ : DE} : S.seq g h ρ = seqR (g ρ) h := rfl
theorem seqR_nx {h : MS} {ρ : DE} : seqR (.nx ρ) h = h ρ := rfl
theorem seqR_rt {h : MS} {x : D} {ρ : DE} : seqR (.rt x ρ) h = .rt x ρ := rfl
theorem seqR_rl {h : MS} {x : List D} {ρ : DE} : seqR (.rl x ρ) h = .rl x ρ := rfl
theorem seqR_bk {h : MS} {ρ : DE} : seqR (.bk ρ) h = .bk ρ := rfl
theorem seqR_ct {h : MS} {ρ : DE} : seqR (.ct ρ) h = .ct ρ := rfl
theorem seqR_ex {h : MS} {e : EV} {ρ : DE} : seqR (.ex e ρ) h = .ex e ρ := rfl
theorem seqR_bad {h : MS} : seqR .bad h = .bad := rfl
theorem nil_ap {ρ : DE} : S.nil ρ = .nx ρ := rfl
theorem pass_ap {ρ : DE} : S.pass ρ = .nx ρ := rfl
theorem never_ap {ρ : DE} : S.never ρ = .bad := rfl
theorem brk_ap {ρ : DE} : S.brk ρ = .bk ρ := rfl
theorem cnt_ap {ρ : DE} : S.cnt ρ = .ct ρ := rfl
theorem retN_ap {ρ : DE} : S.retN ρ = .rt .none ρ := rfl
theorem sret_ap {f g k : M D} {p q : M Bool} {u l : M (Option Int)} {fl : M (List D)} {ga : M (List Arg)} {i j h : Nat} {ρ : DE} : S.ret f ρ = ofR (f ρ) fun x ρ => .rt x ρ := rfl
theorem sretL_ap {f g k : M D} {p q : M Bool} {u l : M (Option Int)} {fl : M (List D)} {ga : M (List Arg)} {i j h : Nat} {ρ : DE} : S.retL fl ρ = ofR (fl ρ) fun x ρ => .rl x ρ := rfl
theorem drop_ap {f g k : M D} {p q : M Bool} {u l : M (Option Int)} {fl : M (List D)} {ga : M (List Arg)} {i j h : Nat} {ρ : DE} : S.drop f ρ = ofR (f ρ) fun _ ρ => .nx ρ := rfl
theorem site_ap {p : M Bool} {g h : MS} {ρ : DE} : S.ite p g h ρ = ofR (p ρ) fun b => if b = true then g else h := rfl
theorem asg_ap {f g k : M D} {p q : M Bool} {u l : M (Option Int)} {fl : M (List D)} {ga : M (List Arg)} {i j h : Nat} {ρ : DE} : S.asg i f ρ = ofR (f ρ) fun x ρ => .nx (ρ.set i (some (.d x))) := rfl
theorem own_ap {f g k : M D} {p q : M Bool} {u l : M (Option Int)} {fl : M (List D)} {ga : M (List Arg)} {i j h : Nat} {ρ : DE} : S.own i fl ρ = ofR (fl ρ) fun x ρ => .nx (ρ.set i (some (.own x))) := rfl
theorem par2_ap {f g k : M D} {p q : M Bool} {u l : M (Option Int)} {fl : M (List D)} {ga : M (List Arg)} {i j h : Nat} {ρ : DE} : S.par2 i j ga ρ = ofR (ga ρ) fun as => S.ofM (M.lift ((datOf as).bind vals2D)) fun p ρ => .nx ((ρ.set i (some (.d p.1))).set j (some (.d p.2))) := rfl
theorem par3_ap {f g k : M D} {p q : M Bool} {u l : M (Option Int)} {fl : M (List D)} {ga : M (List Arg)} {i j h : Nat} {ρ : DE} : S.par3 i j h ga ρ = ofR (ga ρ) fun as => S.ofM (M.lift ((datOf as).bind vals3D)) fun p ρ => .nx (((ρ.set i (some (.d p.1))).set j (some (.d p.2.1))).set h (some (.d p.2.2))) := rfl
theorem asgT_ap {G : Gt} {f g k : M D} {p q : M Bool} {u l : M (Option Int)} {fl : M (List D)} {ga : M (List Arg)} {i j h : Nat} {ρ : DE} : S.asgT G f ρ = ofR (f ρ) fun x ρ => asgR (G x ρ) := rfl
theorem asgR_some {ρ : DE} : asgR (some ρ) = .nx ρ := rfl
theorem asgR_none  : asgR none = .bad := rfl
theorem gnm_ap {i : Nat} {x : D} {ρ : DE} : G.nm i x ρ = some (ρ.set i (some (.d x))) := rfl
theorem gnil_ap {ρ : DE} : G.nil [] ρ = some ρ := rfl
theorem gcons_ap {g : Gt} {gs : Gts} {x : D} {r : List D} {ρ : DE} : G.cons g gs (x :: r) ρ = (g x ρ).bind (gs r) := rfl
theorem gtup_ap {n : Nat} {gs : Gts} {xs : List D} {ρ : DE} : G.tup n gs (.tuple xs) ρ = if xs.length = n then gs xs ρ else none := rfl
theorem andV_ap {f g k : M D} {p q : M Bool} {u l : M (Option Int)} {fl : M (List D)} {ga : M (List Arg)} {i j h : Nat} {ρ : DE} : M.andV f g ρ = bindR (f ρ) fun x => M.bind (M.lift (asB x)) fun b => if b = true then g else M.ret (.bool false) := rfl
theorem orV_ap {f g k : M D} {p q : M Bool} {u l : M (Option Int)} {fl : M (List D)} {ga : M (List Arg)} {i j h : Nat} {ρ : DE} : M.orV f g ρ = bindR (f ρ) fun x => M.bind (M.lift (asB x)) fun b => if b = true then M.ret (.bool true) else g := rfl
theorem andT_ap {f g k : M D} {p q : M Bool} {u l : M (Option Int)} {fl : M (List D)} {ga : M (List Arg)} {i j h : Nat} {ρ : DE} : M.andT p q ρ = bindR (p ρ) fun b => if b = true then q else M.ret false := rfl
theorem orT_ap {f g k : M D} {p q : M Bool} {u l : M (Option Int)} {fl : M (List D)} {ga : M (List Arg)} {i j h : Nat} {ρ : DE} : M.orT p q ρ = bindR (p ρ) fun b => if b = true then M.ret true else q := rfl
theorem notT_ap {f g k : M D} {p q : M Bool} {u l : M (Option Int)} {fl : M (List D)} {ga : M (List Arg)} {i j h : Nat} {ρ : DE} : M.notT p ρ = bindR (p ρ) fun b => M.ret (!b) := rfl
theorem test_ap {f g k : M D} {p q : M Bool} {u l : M (Option Int)} {fl : M (List D)} {ga : M (List Arg)} {i j h : Nat} {ρ : DE} : M.test f ρ = bindR (f ρ) fun x => M.lift (asB x) := rfl
theorem op1_ap {o : D → Option D} {f g k : M D} {p q : M Bool} {u l : M (Option Int)} {fl : M (List D)} {ga : M (List Arg)} {i j h : Nat} {ρ : DE} : M.op1 o f ρ = bindR (f ρ) fun x => M.lift (o x) := rfl
theorem op2_ap {o : D → D → Option D} {f g k : M D} {p q : M Bool} {u l : M (Option Int)} {fl : M (List D)} {ga : M (List Arg)} {i j h : Nat} {ρ : DE} : M.op2 o f g ρ = bindR (f ρ) fun x => M.bind g fun y => M.lift (o x y) := rfl
theorem chain_ap {o o' : D → D → Option D} {f g k : M D} {p q : M Bool} {u l : M (Option Int)} {fl : M (List D)} {ga : M (List Arg)} {i j h : Nat} {ρ : DE} : M.chain o o' f g k ρ = bindR (f ρ) fun x => M.bind g fun y => M.bind (M.lift (o x y)) fun z => M.bind (M.lift (asB z)) fun t => if t = true then M.bind k fun w => M.lift (o' y w) else M.ret (.bool false) := rfl
theorem mite_ap {α : Type} {p : M Bool} {f g : M α} {ρ : DE} : M.ite p f g ρ = bindR (p ρ) fun b => if b = true then f else g := rfl
theorem ite_apR {α : Type} {c : Prop} [Decidable c] {f g : M α} {ρ : DE} : (if c then f else g : M α) ρ = if c then f ρ else g ρ := by split <;> rfl
theorem ite_apS {c : Prop} [Decidable c] {f g : MS} {ρ : DE} : (if c then f else g : MS) ρ = if c then f ρ else g ρ := by split <;> rfl
theorem argN_ap {ρ : DE} : M.argN ρ = .ok [] ρ := rfl
theorem argD_ap {f g k : M D} {p q : M Bool} {u l : M (Option Int)} {fl : M (List D)} {ga : M (List Arg)} {i j h : Nat} {ρ : DE} : M.argD f ga ρ = bindR (f ρ) fun x => M.bind ga fun as => M.ret (.dat x :: as) := rfl
theorem argS_ap {i : Nat} {ga : M (List PD.Arg)} {ρ : DE} : M.argS i ga ρ = slotR (ownAt ρ i) (bindR (ga ρ) fun as => M.ret (.slot i :: as)) := by
  unfold M.argS ownAt slotR
  cases ρ[i]? with
  | none => rfl
  | some o => cases o with
    | none => rfl
    | some l => cases l <;> rfl
theorem slotR_some {α : Type} {xs : List D} {r : R α} : slotR (some xs) r = r := rfl
theorem tup_ap {f g k : M D} {p q : M Bool} {u l : M (Option Int)} {fl : M (List D)} {ga : M (List Arg)} {i j h : Nat} {ρ : DE} : M.tup ga ρ = bindR (ga ρ) fun as => M.lift ((datOf as).bind fun xs => if xs.length ≤ sizeLine then some (.tuple xs) else none) := rfl
theorem lst_ap {f g k : M D} {p q : M Bool} {u l : M (Option Int)} {fl : M (List D)} {ga : M (List Arg)} {i j h : Nat} {ρ : DE} : M.lst ga ρ = bindR (ga ρ) fun as => M.lift ((datOf as).bind fun xs => if xs.length ≤ sizeLine then some xs else none) := rfl
theorem known_ap {f g k : M D} {p q : M Bool} {u l : M (Option Int)} {fl : M (List D)} {ga : M (List Arg)} {i j h : Nat} {ρ : DE} : M.known fl ρ = bindR (fl ρ) fun xs => M.ret (.list xs) := rfl
theorem call_ap {o : List D → Option D} {f g k : M D} {p q : M Bool} {u l : M (Option Int)} {fl : M (List D)} {ga : M (List Arg)} {i j h : Nat} {ρ : DE} : M.call o ga ρ = bindR (bindR (ga ρ) fun as => M.lift (datOf as)) fun xs => M.lift (o xs) := rfl
theorem callL_ap {o : List D → Option (List D)} {f g k : M D} {p q : M Bool} {u l : M (Option Int)} {fl : M (List D)} {ga : M (List Arg)} {i j h : Nat} {ρ : DE} : M.callL o ga ρ = bindR (ga ρ) fun as => M.lift ((datOf as).bind o) := rfl
theorem items_ap {f g k : M D} {p q : M Bool} {u l : M (Option Int)} {fl : M (List D)} {ga : M (List Arg)} {i j h : Nat} {ρ : DE} : M.items f ρ = bindR (f ρ) fun x => M.lift (itemsD x) := rfl
theorem part_ap {f g k : M D} {p q : M Bool} {u l : M (Option Int)} {fl : M (List D)} {ga : M (List Arg)} {i j h : Nat} {ρ : DE} : M.part f ρ = bindR (f ρ) fun x => M.lift ((asI x).map some) := rfl
theorem slice_ap {f g k : M D} {p q : M Bool} {u l : M (Option Int)} {fl : M (List D)} {ga : M (List Arg)} {i j h : Nat} {ρ : DE} : M.slice f l u ρ = bindR (f ρ) fun x => M.bind l fun a => M.bind u fun b => M.lift (sliceD x a b) := rfl
theorem catL_ap {f g k : M D} {p q : M Bool} {u l : M (Option Int)} {fl : M (List D)} {ga : M (List Arg)} {i j h : Nat} {ρ : DE} : M.catL f g ρ = bindR (f ρ) fun x => M.bind g fun y => M.lift (catD x y) := rfl
theorem frz_ap {α : Type} {i : Nat} {f : M α} {ρ : DE} : M.frz i f ρ = f (frzAt i ρ) := rfl
theorem borrow_ap {f g k : M D} {p q : M Bool} {u l : M (Option Int)} {fl : M (List D)} {ga : M (List Arg)} {i j h : Nat} {ρ : DE} : M.borrow f ρ = borrowR ρ (f (PD.frz ρ)) := rfl
theorem borrowR_ok {ρ ρ1 : DE} {x : D} : borrowR ρ (.ok x ρ1) = if scalarD x = true then .ok x ρ else .bad := rfl
theorem borrowT_ap {f g k : M D} {p q : M Bool} {u l : M (Option Int)} {fl : M (List D)} {ga : M (List Arg)} {i j h : Nat} {ρ : DE} : M.borrowT p ρ = borrowTR ρ (p (PD.frz ρ)) := rfl
theorem borrowTR_ok {ρ ρ1 : DE} {x : Bool} : borrowTR ρ (.ok x ρ1) = .ok x ρ := rfl
theorem subO_ap {f g k : M D} {p q : M Bool} {u l : M (Option Int)} {fl : M (List D)} {ga : M (List Arg)} {i j h : Nat} {ρ : DE} : M.subO i g ρ = (match ownAt ρ i with | some _ => bindR (g ρ) (fun k ρ1 => M.lift ((ownAt ρ1 i).bind fun xs => (asI k).bind fun j => atI xs j) ρ1) | none => .bad) := rfl
theorem app_ap {f g k : M D} {p q : M Bool} {u l : M (Option Int)} {fl : M (List D)} {ga : M (List Arg)} {i j h : Nat} {ρ : DE} : S.app i f ρ = (match ownAt ρ i with | some _ => ofR (f ρ) (fun x => S.ofM (fun ρ1 => M.lift ((ownAt ρ1 i).bind fun xs => if xs.length < sizeLine then some (xs ++ [x]) else none) ρ1) fun ys ρ1 => .nx (ρ1.set i (some (.own ys)))) | none => .bad) := rfl
theorem setIx_ap {f g k : M D} {p q : M Bool} {u l : M (Option Int)} {fl : M (List D)} {ga : M (List Arg)} {i j h : Nat} {ρ : DE} : S.setIx i f g ρ = ofR (f ρ) fun x ρ0 => match ownAt ρ0 i with | some _ => S.ofM g (fun k => S.ofM (fun ρ1 => M.lift ((ownAt ρ1 i).bind fun xs => (asI k).bind fun j => (ixN xs.length j).map fun n => xs.set n x) ρ1) fun ys ρ1 => .nx (ρ1.set i (some (.own ys)))) ρ0 | none => .bad := rfl
theorem retO_ap {f g k : M D} {p q : M Bool} {u l : M (Option Int)} {fl : M (List D)} {ga : M (List Arg)} {i j h : Nat} {ρ : DE} : S.retO i ρ = (match ownAt ρ i with | some xs => .rl xs (ρ.set i none) | none => .bad) := rfl
theorem for_ap {G : Gt} {g : MS} {fl : M (List D)} {ρ : DE} : S.for_ fl G g ρ = ofR (fl ρ) fun xs => forD G g xs := rfl
theorem lc_ap {G : Gt} {tt : M Bool} {te : M D} {fl : M (List D)} {vs : List Nat} {ρ : DE} : M.lc fl vs G tt te ρ = bindR (fl ρ) fun xs ρ1 => if cleanD ρ1 vs = true then lcR ρ1 vs (lcLoop vs G tt te xs [] (wipeD ρ1 vs)) else .bad := rfl
theorem lcR_ok {ρ ρe : DE} {vs : List Nat} {ys : List D} : lcR ρ vs (.ok ys ρe) = .ok ys (restoreD ρ ρe vs) := rfl
theorem fn_ap {io : Option Nat} {F : List LV → FR} {ga : M (List Arg)} {ρ : DE} : M.fn io F ga ρ = bindR (ga ρ) fun as ρ => fnR io F as ρ (lvsOf ρ as) := rfl
theorem fnL_ap {io : Option Nat} {F : List LV → FR} {ga : M (List Arg)} {ρ : DE} : M.fnL io F ga ρ = bindR (ga ρ) fun as ρ => fnLR io F as ρ (lvsOf ρ as) := rfl
theorem fnR_some {io : Option Nat} {F : List LV → FR} {as : List Arg} {lvs : List LV} {ρ : DE} : fnR io F as ρ (some lvs) = if argIo io 0 as = true then retR io as ρ (F lvs) else .bad := rfl
theorem fnLR_some {io : Option Nat} {F : List LV → FR} {as : List Arg} {lvs : List LV} {ρ : DE} : fnLR io F as ρ (some lvs) = if argIo io 0 as = true then retLR io as ρ (F lvs) else .bad := rfl
theorem retR_ret {io : Option Nat} {as : List Arg} {ρ : DE} {x : D} {o : Option (List D)} : retR io as ρ (.ret x o) = putR x (putO io as o ρ) := rfl
theorem retR_retL {io : Option Nat} {as : List Arg} {ρ : DE} {x : List D} {o : Option (List D)} : retR io as ρ (.retL x o) = putR (PyData.list x) (putO io as o ρ) := rfl
theorem retLR_retL {io : Option Nat} {as : List Arg} {ρ : DE} {x : List D} {o : Option (List D)} : retLR io as ρ (.retL x o) = putR x (putO io as o ρ) := rfl
theorem putR_some {α : Type} {x : α} {ρ : DE} : putR x (some ρ) = .ok x ρ := rfl
theorem putO_none {as : List Arg} {o : Option (List D)} {ρ : DE} : putO none as o ρ = some ρ := rfl
theorem putO_s0 {i : Nat} {as : List PD.Arg} {xs : List D} {ρ : DE} : putO (some 0) (.slot i :: as) (some xs) ρ = some (ρ.set i (some (.own xs))) := rfl
theorem putO_s1 {a0 : PD.Arg} {i : Nat} {as : List PD.Arg} {xs : List D} {ρ : DE} : putO (some 1) (a0 :: .slot i :: as) (some xs) ρ = some (ρ.set i (some (.own xs))) := rfl
theorem putO_s2 {a0 a1 : PD.Arg} {i : Nat} {as : List PD.Arg} {xs : List D} {ρ : DE} : putO (some 2) (a0 :: a1 :: .slot i :: as) (some xs) ρ = some (ρ.set i (some (.own xs))) := rfl
theorem putO_s3 {a0 a1 a2 : PD.Arg} {i : Nat} {as : List PD.Arg} {xs : List D} {ρ : DE} : putO (some 3) (a0 :: a1 :: a2 :: .slot i :: as) (some xs) ρ = some (ρ.set i (some (.own xs))) := rfl
theorem putO_s4 {a0 a1 a2 a3 : PD.Arg} {i : Nat} {as : List PD.Arg} {xs : List D} {ρ : DE} : putO (some 4) (a0 :: a1 :: a2 :: a3 :: .slot i :: as) (some xs) ρ = some (ρ.set i (some (.own xs))) := rfl
theorem endR_rt {io : Option Nat} {x : D} {ρ : DE} : endR io (.rt x ρ) = .ret x (outO io ρ) := rfl
theorem endR_rl {io : Option Nat} {x : List D} {ρ : DE} : endR io (.rl x ρ) = .retL x (outO io ρ) := rfl
theorem endR_nx {io : Option Nat} {ρ : DE} : endR io (.nx ρ) = .ret .none (outO io ρ) := rfl
theorem endR_bad {io : Option Nat} : endR io .bad = .bad := rfl
theorem bindR_ite {α β : Type} {c : Prop} [Decidable c] {a b : R α} {k : α → M β} : bindR (if c then a else b) k = if c then bindR a k else bindR b k := by split <;> rfl
theorem ofR_ite {α : Type} {c : Prop} [Decidable c] {a b : R α} {k : α → MS} : ofR (if c then a else b) k = if c then ofR a k else ofR b k := by split <;> rfl
theorem seqR_ite {c : Prop} [Decidable c] {a b : Fl} {k : MS} : seqR (if c then a else b) k = if c then seqR a k else seqR b k := by split <;> rfl
theorem endR_ite {c : Prop} [Decidable c] {a b : Fl} {io : Option Nat} : endR io (if c then a else b) = if c then endR io a else endR io b := by split <;> rfl
theorem lift_ite {α : Type} {c : Prop} [Decidable c] {a b : Option α} {ρ : DE} : M.lift (if c then a else b) ρ = if c then M.lift a ρ else M.lift b ρ := by split <;> rfl
theorem addD_ii {i j : Int} : addD (.int i) (.int j) = some (.int (i + j)) := rfl
theorem addD_ss {a b : Str} : addD (.str a) (.str b) = if a.length + b.length ≤ sizeLine then some (.str (a ++ b)) else none := rfl
theorem addD_tt {a b : List D} : addD (.tuple a) (.tuple b) = if a.length + b.length ≤ sizeLine then some (.tuple (a ++ b)) else none := rfl
theorem subD_ii {i j : Int} : subD (.int i) (.int j) = some (.int (i - j)) := rfl
theorem mulD_ii {i j : Int} : mulD (.int i) (.int j) = if mulOk i j = true then some (.int (i * j)) else none := rfl
theorem fdivD_ii {i j : Int} : fdivD (.int i) (.int j) = if divOk j = true then some (.int (i / j)) else none := rfl
theorem modD_ii {i j : Int} : modD (.int i) (.int j) = if 0 < j then some (.int (i % j)) else none := rfl
theorem powD_ii {i j : Int} : powD (.int i) (.int j) = if 0 ≤ j ∧ j ≤ 1000000 ∧ i.natAbs < 2 ^ 64 then some (.int (i ^ j.toNat)) else none := rfl
theorem negD_i {i j : Int} : negD (.int i) = some (.int (-i)) := rfl
theorem ltD_ii {i j : Int} : ltD (.int i) (.int j) = some (.bool (decide (i < j))) := rfl
theorem leD_ii {i j : Int} : leD (.int i) (.int j) = some (.bool (decide (i ≤ j))) := rfl
theorem gtD_ii {i j : Int} : gtD (.int i) (.int j) = some (.bool (decide (j < i))) := rfl
theorem geD_ii {i j : Int} : geD (.int i) (.int j) = some (.bool (decide (j ≤ i))) := rfl
theorem ixD_l {xs : List D} {i : Int} : ixD (.list xs) (.int i) = atI xs i := rfl
theorem ixD_t {xs : List D} {i : Int} : ixD (.tuple xs) (.int i) = atI xs i := rfl
theorem catD_ll {a b : List D} : catD (.list a) (.list b) = if a.length + b.length ≤ sizeLine then some (a ++ b) else none := rfl
theorem itemsD_l {xs : List D} : itemsD (.list xs) = some xs := rfl
theorem itemsD_t {xs : List D} : itemsD (.tuple xs) = some xs := rfl
theorem lenD_l {xs : List D} : lenD [.list xs] = some (.int xs.length) := rfl
theorem lenD_t {xs : List D} : lenD [.tuple xs] = some (.int xs.length) := rfl
theorem lenD_s {z : Str} : lenD [.str z] = if z.length ≤ sizeLine then some (.int z.length) else none := rfl
theorem absD_i {i j : Int} : absD [.int i] = some (.int (if i < 0 then -i else i)) := rfl
theorem maxD_ii {i j : Int} : maxD [.int i, .int j] = some (.int (if j > i then j else i)) := rfl
theorem minD_ii {i j : Int} : minD [.int i, .int j] = some (.int (if j < i then j else i)) := rfl
theorem intD_i {i j : Int} : intD [.int i] = some (.int i) := rfl
theorem intD_b {k : Bool} : intD [.bool k] = some (.int (if k then 1 else 0)) := rfl
theorem tupleD_l {xs : List D} : tupleD [.list xs] = some (.tuple xs) := rfl
theorem tupleD_t {xs : List D} : tupleD [.tuple xs] = some (.tuple xs) := rfl
theorem notD_b {k : Bool} : notD (.bool k) = some (.bool !k) := rfl
theorem asB_b {k : Bool} : asB (.bool k) = some k := rfl
theorem asI_i {i j : Int} : asI (.int i) = some i := rfl
theorem eqD_ii {i j : Int} : eqD (.int i) (.int j) = some (decide (i = j)) := rfl
theorem eqD_ss {a b : Str} : eqD (.str a) (.str b) = some (decide (a = b)) := rfl
theorem eqD_bb {a b : Bool} : eqD (.bool a) (.bool b) = some (decide (a = b)) := rfl
theorem eqD_si {a : Str} {i : Int} : eqD (.str a) (.int i) = some false := rfl
theorem eqD_is {a : Str} {i : Int} : eqD (.int i) (.str a) = some false := rfl
theorem eqD_nn  : eqD .none .none = some true := rfl
theorem eqD_nb {b : Bool} : eqD .none (.bool b) = some false := rfl
theorem eqD_ni {i : Int} : eqD .none (.int i) = some false := rfl
theorem eqD_ns {a : Str} : eqD .none (.str a) = some false := rfl
theorem eqD_bn {b : Bool} : eqD (.bool b) .none = some false := rfl
theorem eqD_in {i : Int} : eqD (.int i) .none = some false := rfl
theorem eqD_sn {a : Str} : eqD (.str a) .none = some false := rfl
theorem tInt_none  : tInt (.none) = false := rfl
theorem tInt_bool {b : Bool} : tInt (.bool b) = true := rfl
theorem tInt_int {i : Int} : tInt (.int i) = true := rfl
theorem tInt_str {a : Str} : tInt (.str a) = false := rfl
theorem tInt_tuple {a : List D} : tInt (.tuple a) = false := rfl
theorem tInt_list {a : List D} : tInt (.list a) = false := rfl
theorem tInt_dict {a : List (D × D)} : tInt (.dict a) = false := rfl
theorem tBool_none  : tBool (.none) = false := rfl
theorem tBool_bool {b : Bool} : tBool (.bool b) = true := rfl
theorem tBool_int {i : Int} : tBool (.int i) = false := rfl
theorem tBool_str {a : Str} : tBool (.str a) = false := rfl
theorem tBool_tuple {a : List D} : tBool (.tuple a) = false := rfl
theorem tBool_list {a : List D} : tBool (.list a) = false := rfl
theorem tBool_dict {a : List (D × D)} : tBool (.dict a) = false := rfl
theorem tStr_none  : tStr (.none) = false := rfl
theorem tStr_bool {b : Bool} : tStr (.bool b) = false := rfl
theorem tStr_int {i : Int} : tStr (.int i) = false := rfl
theorem tStr_str {a : Str} : tStr (.str a) = true := rfl
theorem tStr_tuple {a : List D} : tStr (.tuple a) = false := rfl
theorem tStr_list {a : List D} : tStr (.list a) = false := rfl
theorem tStr_dict {a : List (D × D)} : tStr (.dict a) = false := rfl
theorem tTuple_none  : tTuple (.none) = false := rfl
theorem tTuple_bool {b : Bool} : tTuple (.bool b) = false := rfl
theorem tTuple_int {i : Int} : tTuple (.int i) = false := rfl
theorem tTuple_str {a : Str} : tTuple (.str a) = false := rfl
theorem tTuple_tuple {a : List D} : tTuple (.tuple a) = true := rfl
theorem tTuple_list {a : List D} : tTuple (.list a) = false := rfl
theorem tTuple_dict {a : List (D × D)} : tTuple (.dict a) = false := rfl
theorem tList_none  : tList (.none) = false := rfl
theorem tList_bool {b : Bool} : tList (.bool b) = false := rfl
theorem tList_int {i : Int} : tList (.int i) = false := rfl
theorem tList_str {a : Str} : tList (.str a) = false := rfl
theorem tList_tuple {a : List D} : tList (.tuple a) = false := rfl
theorem tList_list {a : List D} : tList (.list a) = true := rfl
theorem tList_dict {a : List (D × D)} : tList (.dict a) = false := rfl
theorem tSeq_none  : PD.tSeq (.none) = false := rfl
theorem tSeq_bool {b : Bool} : PD.tSeq (.bool b) = false := rfl
theorem tSeq_int {i : Int} : PD.tSeq (.int i) = false := rfl
theorem tSeq_str {a : Str} : PD.tSeq (.str a) = false := rfl
theorem tSeq_tuple {a : List D} : PD.tSeq (.tuple a) = true := rfl
theorem tSeq_list {a : List D} : PD.tSeq (.list a) = true := rfl
theorem tSeq_dict {a : List (D × D)} : PD.tSeq (.dict a) = false := rfl
theorem isNoneB_none  : isNoneB (.none) = true := rfl
theorem scalarD_none  : scalarD (.none) = true := rfl
theorem isNoneB_bool {b : Bool} : isNoneB (.bool b) = false := rfl
theorem scalarD_bool {b : Bool} : scalarD (.bool b) = true := rfl
theorem isNoneB_int {i : Int} : isNoneB (.int i) = false := rfl
theorem scalarD_int {i : Int} : scalarD (.int i) = true := rfl
theorem isNoneB_str {a : Str} : isNoneB (.str a) = false := rfl
theorem scalarD_str {a : Str} : scalarD (.str a) = true := rfl
theorem isNoneB_tuple {a : List D} : isNoneB (.tuple a) = false := rfl
theorem scalarD_tuple {a : List D} : scalarD (.tuple a) = false := rfl
theorem isNoneB_list {a : List D} : isNoneB (.list a) = false := rfl
theorem scalarD_list {a : List D} : scalarD (.list a) = false := rfl
theorem isNoneB_dict {a : List (D × D)} : isNoneB (.dict a) = false := rfl
theorem scalarD_dict {a : List (D × D)} : scalarD (.dict a) = false := rfl
theorem ixT0 {a0 : D} {r : List D} : ixD (.tuple (a0 :: r)) (.int 0) = some a0 := atI_nat (j := 0) rfl
theorem ixT1 {a0 a1 : D} {r : List D} : ixD (.tuple (a0 :: a1 :: r)) (.int 1) = some a1 := atI_nat (j := 1) rfl
theorem ixT2 {a0 a1 a2 : D} {r : List D} : ixD (.tuple (a0 :: a1 :: a2 :: r)) (.int 2) = some a2 := atI_nat (j := 2) rfl
theorem ixT3 {a0 a1 a2 a3 : D} {r : List D} : ixD (.tuple (a0 :: a1 :: a2 :: a3 :: r)) (.int 3) = some a3 := atI_nat (j := 3) rfl
theorem ixT4 {a0 a1 a2 a3 a4 : D} {r : List D} : ixD (.tuple (a0 :: a1 :: a2 :: a3 :: a4 :: r)) (.int 4) = some a4 := atI_nat (j := 4) rfl
theorem ixT5 {a0 a1 a2 a3 a4 a5 : D} {r : List D} : ixD (.tuple (a0 :: a1 :: a2 :: a3 :: a4 :: a5 :: r)) (.int 5) = some a5 := atI_nat (j := 5) rfl
theorem ixT6 {a0 a1 a2 a3 a4 a5 a6 : D} {r : List D} : ixD (.tuple (a0 :: a1 :: a2 :: a3 :: a4 :: a5 :: a6 :: r)) (.int 6) = some a6 := atI_nat (j := 6) rfl
theorem ixT7 {a0 a1 a2 a3 a4 a5 a6 a7 : D} {r : List D} : ixD (.tuple (a0 :: a1 :: a2 :: a3 :: a4 :: a5 :: a6 :: a7 :: r)) (.int 7) = some a7 := atI_nat (j := 7) rfl
theorem ixT8 {a0 a1 a2 a3 a4 a5 a6 a7 a8 : D} {r : List D} : ixD (.tuple (a0 :: a1 :: a2 :: a3 :: a4 :: a5 :: a6 :: a7 :: a8 :: r)) (.int 8) = some a8 := atI_nat (j := 8) rfl
theorem ixT9 {a0 a1 a2 a3 a4 a5 a6 a7 a8 a9 : D} {r : List D} : ixD (.tuple (a0 :: a1 :: a2 :: a3 :: a4 :: a5 :: a6 :: a7 :: a8 :: a9 :: r)) (.int 9) = some a9 := atI_nat (j := 9) rfl
theorem ixL0 {a0 : D} {r : List D} : ixD (.list (a0 :: r)) (.int 0) = some a0 := atI_nat (j := 0) rfl
theorem ixL1 {a0 a1 : D} {r : List D} : ixD (.list (a0 :: a1 :: r)) (.int 1) = some a1 := atI_nat (j := 1) rfl
theorem ixL2 {a0 a1 a2 : D} {r : List D} : ixD (.list (a0 :: a1 :: a2 :: r)) (.int 2) = some a2 := atI_nat (j := 2) rfl
theorem ixL3 {a0 a1 a2 a3 : D} {r : List D} : ixD (.list (a0 :: a1 :: a2 :: a3 :: r)) (.int 3) = some a3 := atI_nat (j := 3) rfl
theorem ixL4 {a0 a1 a2 a3 a4 : D} {r : List D} : ixD (.list (a0 :: a1 :: a2 :: a3 :: a4 :: r)) (.int 4) = some a4 := atI_nat (j := 4) rfl
theorem ixL5 {a0 a1 a2 a3 a4 a5 : D} {r : List D} : ixD (.list (a0 :: a1 :: a2 :: a3 :: a4 :: a5 :: r)) (.int 5) = some a5 := atI_nat (j := 5) rfl
theorem ixL6 {a0 a1 a2 a3 a4 a5 a6 : D} {r : List D} : ixD (.list (a0 :: a1 :: a2 :: a3 :: a4 :: a5 :: a6 :: r)) (.int 6) = some a6 := atI_nat (j := 6) rfl
theorem ixL7 {a0 a1 a2 a3 a4 a5 a6 a7 : D} {r : List D} : ixD (.list (a0 :: a1 :: a2 :: a3 :: a4 :: a5 :: a6 :: a7 :: r)) (.int 7) = some a7 := atI_nat (j := 7) rfl
theorem ixL8 {a0 a1 a2 a3 a4 a5 a6 a7 a8 : D} {r : List D} : ixD (.list (a0 :: a1 :: a2 :: a3 :: a4 :: a5 :: a6 :: a7 :: a8 :: r)) (.int 8) = some a8 := atI_nat (j := 8) rfl
theorem ixL9 {a0 a1 a2 a3 a4 a5 a6 a7 a8 a9 : D} {r : List D} : ixD (.list (a0 :: a1 :: a2 :: a3 :: a4 :: a5 :: a6 :: a7 :: a8 :: a9 :: r)) (.int 9) = some a9 := atI_nat (j := 9) rfl
theorem aI0 {a0 : D} {r : List D} : atI (a0 :: r) (0 : Int) = some a0 := atI_nat (j := 0) rfl
theorem aI1 {a0 a1 : D} {r : List D} : atI (a0 :: a1 :: r) (1 : Int) = some a1 := atI_nat (j := 1) rfl
theorem aI2 {a0 a1 a2 : D} {r : List D} : atI (a0 :: a1 :: a2 :: r) (2 : Int) = some a2 := atI_nat (j := 2) rfl
theorem aI3 {a0 a1 a2 a3 : D} {r : List D} : atI (a0 :: a1 :: a2 :: a3 :: r) (3 : Int) = some a3 := atI_nat (j := 3) rfl
theorem aI4 {a0 a1 a2 a3 a4 : D} {r : List D} : atI (a0 :: a1 :: a2 :: a3 :: a4 :: r) (4 : Int) = some a4 := atI_nat (j := 4) rfl
theorem aI5 {a0 a1 a2 a3 a4 a5 : D} {r : List D} : atI (a0 :: a1 :: a2 :: a3 :: a4 :: a5 :: r) (5 : Int) = some a5 := atI_nat (j := 5) rfl
theorem aI6 {a0 a1 a2 a3 a4 a5 a6 : D} {r : List D} : atI (a0 :: a1 :: a2 :: a3 :: a4 :: a5 :: a6 :: r) (6 : Int) = some a6 := atI_nat (j := 6) rfl
theorem aI7 {a0 a1 a2 a3 a4 a5 a6 a7 : D} {r : List D} : atI (a0 :: a1 :: a2 :: a3 :: a4 :: a5 :: a6 :: a7 :: r) (7 : Int) = some a7 := atI_nat (j := 7) rfl
theorem aI8 {a0 a1 a2 a3 a4 a5 a6 a7 a8 : D} {r : List D} : atI (a0 :: a1 :: a2 :: a3 :: a4 :: a5 :: a6 :: a7 :: a8 :: r) (8 : Int) = some a8 := atI_nat (j := 8) rfl
theorem aI9 {a0 a1 a2 a3 a4 a5 a6 a7 a8 a9 : D} {r : List D} : atI (a0 :: a1 :: a2 :: a3 :: a4 :: a5 :: a6 :: a7 :: a8 :: a9 :: r) (9 : Int) = some a9 := atI_nat (j := 9) rfl
theorem ixN1_0 : ixN 1 (0 : Int) = some 0 := by decide
theorem ixN2_0 : ixN 2 (0 : Int) = some 0 := by decide
theorem ixN2_1 : ixN 2 (1 : Int) = some 1 := by decide
theorem ixN3_0 : ixN 3 (0 : Int) = some 0 := by decide
theorem ixN3_1 : ixN 3 (1 : Int) = some 1 := by decide
theorem ixN3_2 : ixN 3 (2 : Int) = some 2 := by decide
theorem ixN4_0 : ixN 4 (0 : Int) = some 0 := by decide
theorem ixN4_1 : ixN 4 (1 : Int) = some 1 := by decide
theorem ixN4_2 : ixN 4 (2 : Int) = some 2 := by decide
theorem ixN4_3 : ixN 4 (3 : Int) = some 3 := by decide
theorem ixN5_0 : ixN 5 (0 : Int) = some 0 := by decide
theorem ixN5_1 : ixN 5 (1 : Int) = some 1 := by decide
theorem ixN5_2 : ixN 5 (2 : Int) = some 2 := by decide
theorem ixN5_3 : ixN 5 (3 : Int) = some 3 := by decide
theorem ixN5_4 : ixN 5 (4 : Int) = some 4 := by decide
theorem ixN6_0 : ixN 6 (0 : Int) = some 0 := by decide
theorem ixN6_1 : ixN 6 (1 : Int) = some 1 := by decide
theorem ixN6_2 : ixN 6 (2 : Int) = some 2 := by decide
theorem ixN6_3 : ixN 6 (3 : Int) = some 3 := by decide
theorem ixN6_4 : ixN 6 (4 : Int) = some 4 := by decide
theorem ixN6_5 : ixN 6 (5 : Int) = some 5 := by decide
end PD

set_option maxRecDepth 100000
set_option maxHeartbeats 4000000
set_option autoImplicit false
namespace PD
open PySem PySem.Spec L2
/-! ### loops, comprehensions: how they are reckoned -/
theorem lcLoop_fm {vs : List Nat} {G : Gt} {tt : M Bool} {te : M D} {ρ : DE} (p : D → Bool) (f : D → D) : ∀ (xs acc : List D), acc.length + xs.length ≤ sizeLine →
    (∀ x ∈ xs, ∃ ρ1 ρ2, G x ρ = some ρ1 ∧ tt ρ1 = .ok (p x) ρ2 ∧ (p x = true → ∃ ρ3, te ρ2 = .ok (f x) ρ3 ∧ wipeD ρ3 vs = ρ) ∧ (p x = false → wipeD ρ2 vs = ρ)) →
    lcLoop vs G tt te xs acc ρ = .ok (acc ++ (xs.filter p).map f) ρ
  | [], acc, _, _ => by simp [lcLoop]
  | x :: r, acc, hl, h => by
    obtain ⟨ρ1, ρ2, h1, h2, h3, h4⟩ := h x List.mem_cons_self
    have ih := fun acc hl => lcLoop_fm (vs := vs) (G := G) (tt := tt) (te := te) (ρ := ρ) p f r acc hl fun y hy => h y (List.mem_cons_of_mem _ hy)
    unfold lcLoop
    rw [h1]
    simp only
    rw [h2]
    simp only
    rw [List.length_cons] at hl
    cases hp : p x with
    | true =>
      obtain ⟨ρ3, h5, h6⟩ := h3 hp
      simp only [if_true]
      rw [h5]
      simp only
      rw [if_pos (by omega), h6, ih _ (by rw [List.length_append, List.length_singleton]; omega), List.filter_cons_of_pos hp, List.map_cons, List.append_assoc]
      rfl
    | false =>
      simp only [Bool.false_eq_true, if_false]
      rw [h4 hp, ih _ (by omega), List.filter_cons_of_neg (by rw [hp]; exact Bool.false_ne_true)]
/-- nothing passes the test -/
theorem lcLoop_none {vs : List Nat} {G : Gt} {tt : M Bool} {te : M D} {ρ : DE} : ∀ (xs acc : List D), (∀ x ∈ xs, ∃ ρ1 ρ2, G x ρ = some ρ1 ∧ tt ρ1 = .ok false ρ2 ∧ wipeD ρ2 vs = ρ) → lcLoop vs G tt te xs acc ρ = .ok acc ρ
  | [], acc, _ => rfl
  | x :: r, acc, h => by
    obtain ⟨ρ1, ρ2, h1, h2, h3⟩ := h x List.mem_cons_self
    unfold lcLoop
    rw [h1]
    simp only
    rw [h2]
    simp only [Bool.false_eq_true, if_false]
    rw [h3, lcLoop_none r acc fun y hy => h y (List.mem_cons_of_mem _ hy)]
theorem lcLoop_map {vs : List Nat} {G : Gt} {tt : M Bool} {te : M D} {ρ : DE} (f : D → D) (xs : List D) (hl : xs.length ≤ sizeLine)
    (h : ∀ x ∈ xs, ∃ ρ1 ρ2 ρ3, G x ρ = some ρ1 ∧ tt ρ1 = .ok true ρ2 ∧ te ρ2 = .ok (f x) ρ3 ∧ wipeD ρ3 vs = ρ) : lcLoop vs G tt te xs [] ρ = .ok (xs.map f) ρ := by
  have e := lcLoop_fm (vs := vs) (G := G) (tt := tt) (te := te) (ρ := ρ) (fun _ => true) f xs [] (by simpa using hl) fun x hx => by
    obtain ⟨ρ1, ρ2, ρ3, h1, h2, h3, h4⟩ := h x hx
    exact ⟨ρ1, ρ2, h1, h2, fun _ => ⟨ρ3, h3, h4⟩, fun e => by cases e⟩
  rw [e, List.nil_append, List.filter_eq_self.mpr (fun _ _ => rfl)]
/-- with draws within: something comes, and what holds of the slots holds -/
theorem lcLoop_any {vs : List Nat} {G : Gt} {tt : M Bool} {te : M D} (I : DE → Prop) (P : D → Prop) : ∀ (xs acc : List D) (ρ : DE), I ρ → acc.length + xs.length ≤ sizeLine →
    (∀ x ∈ xs, ∀ ρ, I ρ → ∃ ρ1 ρ2 y ρ3, G x ρ = some ρ1 ∧ tt ρ1 = .ok true ρ2 ∧ te ρ2 = .ok y ρ3 ∧ P y ∧ I (wipeD ρ3 vs)) →
    ∃ ys ρ', lcLoop vs G tt te xs acc ρ = .ok (acc ++ ys) ρ' ∧ I ρ' ∧ (∀ y ∈ ys, P y) ∧ ys.length = xs.length
  | [], acc, ρ, hI, _, _ => ⟨[], ρ, by simp [lcLoop], hI, fun _ h => by simp at h, rfl⟩
  | x :: r, acc, ρ, hI, hl, h => by
    obtain ⟨ρ1, ρ2, y, ρ3, h1, h2, h3, h4, h5⟩ := h x List.mem_cons_self ρ hI
    rw [List.length_cons] at hl
    obtain ⟨ys, ρ', e1, e2, e3, e4⟩ := lcLoop_any I P r (acc ++ [y]) _ h5 (by rw [List.length_append, List.length_singleton]; omega) fun z hz => h z (List.mem_cons_of_mem _ hz)
    refine ⟨y :: ys, ρ', ?_, e2, ?_, by rw [List.length_cons, List.length_cons, e4]⟩
    · unfold lcLoop
      rw [h1]
      simp only
      rw [h2]
      simp only [if_true]
      rw [h3]
      simp only
      rw [if_pos (by omega), e1, List.append_assoc]
      rfl
    · intro z hz
      rcases List.mem_cons.mp hz with e | hz
      · rw [e]; exact h4
      · exact e3 z hz
theorem forD_inv {G : Gt} {g : MS} (I : DE → Prop) : ∀ (xs : List D) (ρ : DE), I ρ → (∀ x ∈ xs, ∀ ρ, I ρ → ∃ ρ1, G x ρ = some ρ1 ∧ ∃ ρ2, (g ρ1 = .nx ρ2 ∨ g ρ1 = .ct ρ2) ∧ I ρ2) → ∃ ρ', forD G g xs ρ = .nx ρ' ∧ I ρ'
  | [], ρ, h, _ => ⟨ρ, rfl, h⟩
  | x :: r, ρ, h, hs => by
    obtain ⟨ρ1, h1, ρ2, h2, h3⟩ := hs x List.mem_cons_self ρ h
    obtain ⟨ρ', e1, e2⟩ := forD_inv I r ρ2 h3 fun y hy => hs y (List.mem_cons_of_mem _ hy)
    refine ⟨ρ', ?_, e2⟩
    unfold forD
    rw [h1]
    simp only
    rcases h2 with h2 | h2 <;> rw [h2] <;> exact e1
/-- what a turn may come to: I holds on, or Q of what the loop ends with -/
def StepR (I : DE → Prop) (Q : Fl → Prop) (r : Fl) : Prop := match r with
  | .nx ρ => I ρ
  | .ct ρ => I ρ
  | .bk ρ => Q (.nx ρ)
  | .rt x ρ => Q (.rt x ρ)
  | .rl x ρ => Q (.rl x ρ)
  | .ex e ρ => Q (.ex e ρ)
  | .bad => False
theorem step_nx {I : DE → Prop} {Q : Fl → Prop} {ρ : DE} : StepR I Q (.nx ρ) = I ρ := rfl
theorem step_ct {I : DE → Prop} {Q : Fl → Prop} {ρ : DE} : StepR I Q (.ct ρ) = I ρ := rfl
theorem step_bk {I : DE → Prop} {Q : Fl → Prop} {ρ : DE} : StepR I Q (.bk ρ) = Q (.nx ρ) := rfl
theorem step_rt {I : DE → Prop} {Q : Fl → Prop} {ρ : DE} {x : D} : StepR I Q (.rt x ρ) = Q (.rt x ρ) := rfl
theorem step_rl {I : DE → Prop} {Q : Fl → Prop} {ρ : DE} {x : List D} : StepR I Q (.rl x ρ) = Q (.rl x ρ) := rfl
theorem step_ite {I : DE → Prop} {Q : Fl → Prop} {c : Prop} [Decidable c] {a b : Fl} : StepR I Q (if c then a else b) = if c then StepR I Q a else StepR I Q b := by split <;> rfl
theorem forD_wpN {G : Gt} {g : MS} (I : Nat → DE → Prop) (Q : Fl → Prop) : ∀ (xs : List D) (n : Nat) (ρ : DE), I n ρ → (∀ i x ρ, xs[i]? = some x → I (n + i) ρ → ∃ ρ1, G x ρ = some ρ1 ∧ StepR (I (n + i + 1)) Q (g ρ1)) → (∀ ρ, I (n + xs.length) ρ → Q (.nx ρ)) → Q (forD G g xs ρ)
  | [], n, ρ, h, _, he => he ρ h
  | x :: r, n, ρ, h, hs, he => by
    obtain ⟨ρ1, h1, h2⟩ := hs 0 x ρ rfl h
    have ih := fun ρ2 (h3 : I (n + 1) ρ2) => forD_wpN I Q r (n + 1) ρ2 h3 (fun i y ρ hy hI => by
      have := hs (i + 1) y ρ (by simpa using hy) (by rw [show n + (i + 1) = n + 1 + i by omega]; exact hI)
      rw [show n + (i + 1) = n + 1 + i by omega] at this
      exact this) (fun ρ hI => he ρ (by rw [List.length_cons, show n + (r.length + 1) = n + 1 + r.length by omega]; exact hI))
    unfold forD
    rw [h1]
    simp only
    unfold StepR at h2
    split at h2
    · rename_i e; rw [e]; exact ih _ h2
    · rename_i e; rw [e]; exact ih _ h2
    · rename_i e; rw [e]; exact h2
    · rename_i e; rw [e]; exact h2
    · rename_i e; rw [e]; exact h2
    · rename_i e; rw [e]; exact h2
    · exact h2.elim
theorem forD_wp {G : Gt} {g : MS} (I : Nat → DE → Prop) (Q : Fl → Prop) (xs : List D) (ρ : DE) (h0 : I 0 ρ) (hs : ∀ i x ρ, xs[i]? = some x → I i ρ → ∃ ρ1, G x ρ = some ρ1 ∧ StepR (I (i + 1)) Q (g ρ1)) (he : ∀ ρ, I xs.length ρ → Q (.nx ρ)) : Q (forD G g xs ρ) :=
  forD_wpN I Q xs 0 ρ h0 (fun i x ρ hx hI => by rw [Nat.zero_add] at hI ⊢; exact hs i x ρ hx hI) (fun ρ h => he ρ (by rw [Nat.zero_add] at h; exact h))
theorem forD_invN {G : Gt} {g : MS} (I : Nat → DE → Prop) (xs : List D) (ρ : DE) (h0 : I 0 ρ) (hs : ∀ i x ρ, xs[i]? = some x → I i ρ → ∃ ρ1, G x ρ = some ρ1 ∧ StepR (I (i + 1)) (fun _ => False) (g ρ1)) : ∃ ρ', forD G g xs ρ = .nx ρ' ∧ I xs.length ρ' :=
  forD_wp I (fun r => ∃ ρ', r = .nx ρ' ∧ I xs.length ρ') xs ρ h0 (fun i x ρ hx hI => by
    obtain ⟨ρ1, h1, h2⟩ := hs i x ρ hx hI
    refine ⟨ρ1, h1, ?_⟩
    unfold StepR at h2 ⊢
    split at h2 <;> first | exact (show False from h2).elim | exact h2) fun ρ h => ⟨ρ, rfl, h⟩
theorem get_rangeD {lo : Int} {n i : Nat} {x : D} (h : (rangeD lo n)[i]? = some x) : x = .int (lo + i) ∧ i < n := by
  unfold rangeD at h
  rw [List.getElem?_map] at h
  by_cases hi : i < n
  · rw [List.getElem?_range hi] at h
    cases h
    exact ⟨rfl, hi⟩
  · rw [List.getElem?_eq_none (by rw [List.length_range]; omega)] at h
    cases h
theorem mem_rangeD {lo : Int} {n : Nat} {x : D} (h : x ∈ rangeD lo n) : ∃ i : Int, x = .int i ∧ lo ≤ i ∧ i < lo + n := by
  unfold rangeD at h
  obtain ⟨i, hi, rfl⟩ := List.mem_map.mp h
  have := List.mem_range.mp hi
  exact ⟨_, rfl, by omega, by omega⟩
theorem rangeD_length {lo : Int} {n : Nat} : (rangeD lo n).length = n := by
  unfold rangeD
  rw [List.length_map, List.length_range]
theorem range1_ok {j : Int} (h : j < 2 ^ 62 := by omega) (h2 : -(2 ^ 62) ≤ j := by omega) : range1D [.int j] = some (rangeD 0 j.toNat) := by
  show (if rngOk j = true then _ else _) = _
  rw [if_pos (by unfold rngOk; rw [decide_eq_true h, decide_eq_true h2]; rfl)]
theorem range2_ok {i j : Int} (h1 : i < 2 ^ 62 := by omega) (h2 : -(2 ^ 62) ≤ i := by omega) (h3 : j < 2 ^ 62 := by omega) (h4 : -(2 ^ 62) ≤ j := by omega) : range2D [.int i, .int j] = some (rangeD i (j - i).toNat) := by
  show (if (rngOk i && rngOk j) = true then _ else _) = _
  rw [if_pos (by unfold rngOk; rw [decide_eq_true h1, decide_eq_true h2, decide_eq_true h3, decide_eq_true h4]; rfl)]
/-- a loop over data, by its turns: F the state behind so many -/
theorem forD_fold {G : Gt} {g : MS} {σ : Type} (st : σ → DE) (f : σ → D → σ) (ok : σ → D → Prop) : ∀ (xs : List D) (a : σ), (∀ (a : σ) (x : D), x ∈ xs → ok a x → ∃ ρ1, G x (st a) = some ρ1 ∧ (g ρ1 = .nx (st (f a x)) ∨ g ρ1 = .ct (st (f a x)))) →
    (∀ (i : Nat) (x : D), xs[i]? = some x → ok ((xs.take i).foldl f a) x) → forD G g xs (st a) = .nx (st (xs.foldl f a))
  | [], a, _, _ => rfl
  | x :: r, a, hs, ho => by
    obtain ⟨ρ1, h1, h2⟩ := hs a x List.mem_cons_self (ho 0 x rfl)
    have ih := forD_fold st f ok r (f a x) (fun b y hy => hs b y (List.mem_cons_of_mem _ hy)) fun i y hy => ho (i + 1) y (by simpa using hy)
    unfold forD
    rw [h1]
    simp only
    rcases h2 with h2 | h2 <;> rw [h2] <;> exact ih
theorem while_done {p : M Bool} {g : MS} {ρ ρ1 : DE} (h : p ρ = .ok false ρ1) : S.while_ p g ρ = .nx ρ1 := by
  have e : whileN p g 1 ρ = .nx ρ1 := by
    unfold whileN
    rw [h]
    rfl
  rw [while_eq (n := 1) (by rw [e]; rfl), e]
theorem while_go {p : M Bool} {g : MS} {ρ ρ1 ρ2 : DE} (h : p ρ = .ok true ρ1) (hg : g ρ1 = .nx ρ2 ∨ g ρ1 = .ct ρ2) (hb : (S.while_ p g ρ2).isBad = false) : S.while_ p g ρ = S.while_ p g ρ2 := by
  have hx : ∃ n, (whileN p g n ρ2).isBad = false := by
    unfold S.while_ at hb
    split at hb
    · assumption
    · cases hb
  obtain ⟨n, hn⟩ := hx
  have e : whileN p g (n + 1) ρ = whileN p g n ρ2 := by
    rw [whileN, h]
    simp only [if_true]
    rcases hg with hg | hg <;> rw [hg]
  rw [while_eq hn, while_eq (n := n + 1) (by rw [e]; exact hn), e]
/-- a while by what holds and a number that falls -/
theorem while_inv {p : M Bool} {g : MS} (I : Nat → DE → Prop) (Q : DE → Prop) : ∀ (n : Nat) (ρ : DE), I n ρ → (∀ n ρ, I n ρ → (∃ ρ1, p ρ = .ok false ρ1 ∧ Q ρ1) ∨ ∃ ρ1 ρ2 m, p ρ = .ok true ρ1 ∧ (g ρ1 = .nx ρ2 ∨ g ρ1 = .ct ρ2) ∧ m < n ∧ I m ρ2) → ∃ ρ', S.while_ p g ρ = .nx ρ' ∧ Q ρ' := fun n => by
  induction n using Nat.strongRecOn with
  | _ n ih =>
    intro ρ h hs
    rcases hs n ρ h with ⟨ρ1, h1, h2⟩ | ⟨ρ1, ρ2, m, h1, h2, h3, h4⟩
    · exact ⟨ρ1, while_done h1, h2⟩
    · obtain ⟨ρ', e1, e2⟩ := ih m h3 ρ2 h4 hs
      exact ⟨ρ', by rw [while_go h1 h2 (by rw [e1]; rfl), e1], e2⟩
/-! ### slices -/
theorem sIx_neg (n d k : Nat) (hk : 0 < k) : HT.sIx n d (some (-(k : Int))) = n - k := by
  have e := HT.clip_eq (-(k : Int)) n d
  rw [if_pos (by omega)] at e
  omega
theorem cut_neg {xs : List D} {i : Int} {k : Nat} (e : i = -(k : Int)) (hk : 0 < k) : cutD xs (some i) none = xs.drop (xs.length - k) := by
  unfold cutD
  rw [e, sIx_neg _ _ _ hk, HT.sIx_none, List.take_of_length_le (by rw [List.length_drop]; omega)]
theorem cut_from {xs : List D} {i : Int} {k : Nat} (e : i = (k : Int)) : cutD xs (some i) none = xs.drop k := by
  unfold cutD
  rw [e, HT.sIx_nat, HT.sIx_none, List.take_of_length_le (by rw [List.length_drop]; omega)]
  by_cases h : k ≤ xs.length
  · rw [Nat.min_eq_left h]
  · rw [Nat.min_eq_right (by omega), List.drop_eq_nil_of_le (Nat.le_refl _), List.drop_eq_nil_of_le (by omega)]
theorem cut_to {xs : List D} {i : Int} {k : Nat} (e : i = (k : Int)) : cutD xs none (some i) = xs.take k := by
  unfold cutD
  rw [e, HT.sIx_nat, HT.sIx_none, List.drop_zero, Nat.sub_zero]
  by_cases h : k ≤ xs.length
  · rw [Nat.min_eq_left h]
  · rw [Nat.min_eq_right (by omega), List.take_of_length_le (by omega), List.take_of_length_le (by omega)]
theorem cut_ft {xs : List D} {i j : Int} {a b : Nat} (e : i = (a : Int)) (e' : j = (b : Int)) : cutD xs (some i) (some j) = (xs.drop a).take (b - a) := by
  unfold cutD
  rw [e, e', HT.sIx_nat, HT.sIx_nat]
  by_cases h : a ≤ xs.length
  · rw [Nat.min_eq_left h]
    by_cases hb : b ≤ xs.length
    · rw [Nat.min_eq_left hb]
    · rw [Nat.min_eq_right (Nat.le_of_not_le hb), List.take_of_length_le (by rw [List.length_drop]; exact Nat.le_refl _), List.take_of_length_le (by rw [List.length_drop]; omega)]
  · rw [Nat.min_eq_right (Nat.le_of_not_le h), List.drop_eq_nil_of_le (Nat.le_refl _), List.drop_eq_nil_of_le (Nat.le_of_not_le h)]
    simp
theorem slice_t {xs : List D} {lo hi : Option Int} : sliceD (.tuple xs) lo hi = some (.tuple (cutD xs lo hi)) := rfl
/-! ### truth values -/
theorem boolsOf_map : ∀ h : List Bool, boolsOf (h.map PyData.bool) = some h
  | [] => rfl
  | b :: h => by
    rw [List.map_cons]
    show (boolsOf (h.map PyData.bool)).map (b :: ·) = _
    rw [boolsOf_map h]
    rfl
theorem all_t (h : List Bool) : allD [.tuple (h.map .bool)] = some (.bool (h.all id)) := by
  show (boolsOf (h.map .bool)).map _ = _
  rw [boolsOf_map]
  rfl
theorem all_l (h : List Bool) : allD [.list (h.map .bool)] = some (.bool (h.all id)) := by
  show (boolsOf (h.map .bool)).map _ = _
  rw [boolsOf_map]
  rfl
theorem any_l (h : List Bool) : anyD [.list (h.map .bool)] = some (.bool (h.any id)) := by
  show (boolsOf (h.map .bool)).map _ = _
  rw [boolsOf_map]
  rfl
theorem all_lm {α : Type} (f : α → Bool) (xs : List α) : allD [.list (xs.map fun x => .bool (f x))] = some (.bool (xs.all f)) := by
  have e : (xs.map fun x => PyData.bool (f x)) = (xs.map f).map .bool := by rw [List.map_map]; rfl
  rw [e, all_l, List.all_map]
  rfl
theorem all_tm {α : Type} (f : α → Bool) (xs : List α) : allD [.tuple (xs.map fun x => .bool (f x))] = some (.bool (xs.all f)) := by
  have e : (xs.map fun x => PyData.bool (f x)) = (xs.map f).map .bool := by rw [List.map_map]; rfl
  rw [e, all_t, List.all_map]
  rfl
theorem any_lm {α : Type} (f : α → Bool) (xs : List α) : anyD [.list (xs.map fun x => .bool (f x))] = some (.bool (xs.any f)) := by
  have e : (xs.map fun x => PyData.bool (f x)) = (xs.map f).map .bool := by rw [List.map_map]; rfl
  rw [e, any_l, List.any_map]
  rfl
theorem sz (n : Nat) (h : n ≤ 16777216 := by decide) : (n ≤ sizeLine) = True := by
  rw [sizeLine_eq]
  exact eq_true h
theorem sz0 : (0 ≤ sizeLine) = True := sz 0
theorem sz1 : (1 ≤ sizeLine) = True := sz 1
theorem sz2 : (2 ≤ sizeLine) = True := sz 2
theorem sz3 : (3 ≤ sizeLine) = True := sz 3
theorem sz4 : (4 ≤ sizeLine) = True := sz 4
theorem sz5 : (5 ≤ sizeLine) = True := sz 5
theorem sz6 : (6 ≤ sizeLine) = True := sz 6
theorem sz7 : (7 ≤ sizeLine) = True := sz 7
theorem sz8 : (8 ≤ sizeLine) = True := sz 8
theorem sz9 : (9 ≤ sizeLine) = True := sz 9
theorem eq_nil_nil : eqD (.list []) (.list []) = some true := by decide +kernel
/-! ### the claim's own head: what a list of ints is -/
theorem dp_ints {K : PySem.W.Frag} {H : Hp} : ∀ ns : List Int, DpAll K H (ns.map V.int) (ns.map PyData.int)
  | [] => .nil
  | n :: ns => .cons (.int n) (dp_ints ns)
theorem law_sp {K : PySem.W.Frag} {H : Hp} {a : Addr} {ns : List Int} {F : List LV → FR} {E : XK} (hS : SqL K H a (ns.map V.int)) (h : F [.d (.list (ns.map .int))] = .ret (.bool true) none) : spF K none F [.ref a] H (fun v _ => v = .bl true) E := by
  refine ⟨H, [.d (.list (ns.map .int))], Evl.Ex.refl _, ⟨rfl, fun i lv hi => ?_⟩, ?_⟩
  · cases i with
    | zero => cases hi; exact ⟨_, rfl, .lst hS (dp_ints ns)⟩
    | succ i => simp at hi
  · rw [h]
    exact fun v H' Hf' _ _ _ _ _ d => d.bool_of
end PD

set_option maxRecDepth 100000
set_option maxHeartbeats 4000000
set_option autoImplicit false
namespace PD
open PySem PySem.Spec L2
/-! ### equality of data -/
/-- what == may be asked of: no dict within, so deep -/
def Sh (n : Nat) (x : D) : Prop := x.canLay0 = true ∧ x.depth ≤ n
theorem Sh.up {n m : Nat} {x : D} (h : Sh n x) (e : n ≤ m) : Sh m x := ⟨h.1, Nat.le_trans h.2 e⟩
theorem Sh.shaped {n : Nat} {x : D} (h : Sh n x) (e : n ≤ 64) : SeqAt.shaped x = true := by
  unfold SeqAt.shaped
  rw [h.1, decide_eq_true (Nat.le_trans h.2 e)]
  rfl
theorem eqv_ii (i j : Int) : PyData.eqv (.int i) (.int j) = decide (i = j) := by simp only [PyData.eqv]; rw [Bool.eq_iff_iff, decide_eq_true_eq, beq_iff_eq]
theorem eqv_bb (i j : Bool) : PyData.eqv (.bool i) (.bool j) = decide (i = j) := by simp only [PyData.eqv]; rw [Bool.eq_iff_iff, decide_eq_true_eq, beq_iff_eq]
theorem eqv_ss (i j : Str) : PyData.eqv (.str i) (.str j) = decide (i = j) := by simp only [PyData.eqv]; rw [Bool.eq_iff_iff, decide_eq_true_eq, beq_iff_eq]
theorem eqD_eqv {x y : D} (hx : SeqAt.shaped x = true) (hy : SeqAt.shaped y = true) : eqD x y = some (PyData.eqv x y) := by
  unfold eqD
  split <;> first | (simp only [PyData.eqv]; done) | (rw [eqv_bb]; done) | (rw [eqv_ii]; done) | (rw [eqv_ss]; done) | (rw [if_pos (And.intro hx hy)])
theorem eqD_sh {n m : Nat} {x y : D} (hx : Sh n x) (hy : Sh m y) (h1 : n ≤ 64) (h2 : m ≤ 64) : eqD x y = some (PyData.eqv x y) := eqD_eqv (hx.shaped h1) (hy.shaped h2)
theorem sh_int (i : Int) : Sh 0 (.int i) := ⟨by simp only [PyData.canLay0], by simp only [PyData.depth]; exact Nat.le_refl _⟩
theorem sh_bool (i : Bool) : Sh 0 (.bool i) := ⟨by simp only [PyData.canLay0], by simp only [PyData.depth]; exact Nat.le_refl _⟩
theorem sh_none : Sh 0 .none := ⟨by simp only [PyData.canLay0], by simp only [PyData.depth]; exact Nat.le_refl _⟩
theorem sh_str {x : Str} (h : PyData.strOk x = true) : Sh 0 (.str x) := ⟨by simp only [PyData.canLay0]; exact h, by simp only [PyData.depth]; exact Nat.le_refl _⟩
theorem lay_all : ∀ {xs : List D}, (∀ x ∈ xs, x.canLay0 = true) → PyData.canLayAll0 xs = true
  | [], _ => by simp only [PyData.canLayAll0]
  | x :: xs, h => by
    simp only [PyData.canLayAll0]
    rw [h x List.mem_cons_self, lay_all fun y hy => h y (List.mem_cons_of_mem _ hy)]
    rfl
theorem depth_all {n : Nat} : ∀ {xs : List D}, (∀ x ∈ xs, x.depth ≤ n) → PyData.depthAll xs ≤ n
  | [], _ => by simp only [PyData.depthAll]; exact Nat.zero_le _
  | x :: xs, h => by
    simp only [PyData.depthAll]
    have h1 := h x List.mem_cons_self
    have h2 := depth_all (n := n) (xs := xs) fun y hy => h y (List.mem_cons_of_mem _ hy)
    omega
theorem sh_tup {n : Nat} {xs : List D} (h : ∀ x ∈ xs, Sh n x) : Sh (n + 1) (.tuple xs) := by
  refine ⟨by simp only [PyData.canLay0]; exact lay_all fun x hx => (h x hx).1, ?_⟩
  simp only [PyData.depth]
  have := depth_all fun x hx => (h x hx).2
  omega
theorem sh_lst {n : Nat} {xs : List D} (h : ∀ x ∈ xs, Sh n x) : Sh (n + 1) (.list xs) := by
  refine ⟨by simp only [PyData.canLay0]; exact lay_all fun x hx => (h x hx).1, ?_⟩
  simp only [PyData.depth]
  have := depth_all fun x hx => (h x hx).2
  omega
theorem eqv_tt (xs ys : List D) : PyData.eqv (.tuple xs) (.tuple ys) = PyData.eqvAll xs ys := by simp only [PyData.eqv]
theorem eqv_ll (xs ys : List D) : PyData.eqv (.list xs) (.list ys) = PyData.eqvAll xs ys := by simp only [PyData.eqv]
theorem eqvAll_cc (x y : D) (xs ys : List D) : PyData.eqvAll (x :: xs) (y :: ys) = (PyData.eqv x y && PyData.eqvAll xs ys) := by simp only [PyData.eqvAll]
theorem eqvAll_nn : PyData.eqvAll [] [] = true := by simp only [PyData.eqvAll]
theorem eqvAll_nc (x : D) (xs : List D) : PyData.eqvAll [] (x :: xs) = false := by simp only [PyData.eqvAll]
theorem eqvAll_cn (x : D) (xs : List D) : PyData.eqvAll (x :: xs) [] = false := by simp only [PyData.eqvAll]
theorem eqvAll_map {α : Type} [DecidableEq α] {f : α → D} (h : ∀ a b, PyData.eqv (f a) (f b) = decide (a = b)) : ∀ xs ys : List α, PyData.eqvAll (xs.map f) (ys.map f) = decide (xs = ys)
  | [], [] => eqvAll_nn
  | [], y :: ys => eqvAll_nc _ _
  | x :: xs, [] => eqvAll_cn _ _
  | x :: xs, y :: ys => by
    rw [List.map_cons, List.map_cons, eqvAll_cc, h, eqvAll_map h xs ys, ← Bool.decide_and]
    exact decide_eq_decide.mpr ⟨fun e => by rw [e.1, e.2], fun e => by cases e; exact ⟨rfl, rfl⟩⟩
theorem lay_mem : ∀ {xs : List D}, PyData.canLayAll0 xs = true → ∀ x ∈ xs, x.canLay0 = true
  | [], _, _, h => by simp at h
  | x :: xs, h, y, hy => by
    simp only [PyData.canLayAll0, Bool.and_eq_true] at h
    rcases List.mem_cons.mp hy with e | e
    · rw [e]; exact h.1
    · exact lay_mem h.2 y e
theorem depth_mem : ∀ {xs : List D}, ∀ x ∈ xs, x.depth ≤ PyData.depthAll xs
  | [], _, h => by simp at h
  | x :: xs, y, hy => by
    simp only [PyData.depthAll]
    rcases List.mem_cons.mp hy with e | e
    · rw [e]; exact Nat.le_max_left _ _
    · exact Nat.le_trans (depth_mem y e) (Nat.le_max_right _ _)
theorem Sh.mem_t {n : Nat} {xs : List D} (h : Sh (n + 1) (.tuple xs)) : ∀ x ∈ xs, Sh n x := fun x hx => by
  have h1 := h.1
  have h2 := h.2
  simp only [PyData.canLay0] at h1
  simp only [PyData.depth] at h2
  exact ⟨lay_mem h1 x hx, by have := depth_mem x hx; omega⟩
theorem Sh.mem_l {n : Nat} {xs : List D} (h : Sh (n + 1) (.list xs)) : ∀ x ∈ xs, Sh n x := fun x hx => by
  have h1 := h.1
  have h2 := h.2
  simp only [PyData.canLay0] at h1
  simp only [PyData.depth] at h2
  exact ⟨lay_mem h1 x hx, by have := depth_mem x hx; omega⟩
theorem Sh.not_dict {n : Nat} {kvs : List (D × D)} (h : Sh n (.dict kvs)) : False := by
  have := h.1
  simp only [PyData.canLay0, Bool.false_eq_true] at this
theorem Sh.zero_t {xs : List D} (h : Sh 0 (.tuple xs)) : False := by
  have := h.2
  simp only [PyData.depth] at this
  omega
theorem Sh.zero_l {xs : List D} (h : Sh 0 (.list xs)) : False := by
  have := h.2
  simp only [PyData.depth] at this
  omega
mutual
theorem eqv_self : ∀ x : D, x.canLay0 = true → PyData.eqv x x = true
  | .none, _ => by simp only [PyData.eqv]
  | .bool b, _ => by rw [eqv_bb]; exact decide_eq_true rfl
  | .int b, _ => by rw [eqv_ii]; exact decide_eq_true rfl
  | .str b, _ => by rw [eqv_ss]; exact decide_eq_true rfl
  | .list xs, h => by rw [eqv_ll]; exact eqvAll_self xs (by simpa only [PyData.canLay0] using h)
  | .tuple xs, h => by rw [eqv_tt]; exact eqvAll_self xs (by simpa only [PyData.canLay0] using h)
  | .dict xs, h => by simp only [PyData.canLay0, Bool.false_eq_true] at h
theorem eqvAll_self : ∀ xs : List D, PyData.canLayAll0 xs = true → PyData.eqvAll xs xs = true
  | [], _ => eqvAll_nn
  | x :: xs, h => by
    simp only [PyData.canLayAll0, Bool.and_eq_true] at h
    rw [eqvAll_cc, eqv_self x h.1, eqvAll_self xs h.2]
    rfl
end
theorem eqD_self {n : Nat} {x : D} (h : Sh n x) (hn : n ≤ 64) : eqD x x = some true := by
  rw [eqD_sh h h hn hn, eqv_self x h.1]
theorem bools_of : ∀ {xs : List D}, (∀ y ∈ xs, ∃ b, y = PyData.bool b) → ∃ h : List Bool, xs = h.map .bool
  | [], _ => ⟨[], rfl⟩
  | x :: xs, h => by
    obtain ⟨b, rfl⟩ := h x List.mem_cons_self
    obtain ⟨bs, rfl⟩ := bools_of fun y hy => h y (List.mem_cons_of_mem _ hy)
    exact ⟨b :: bs, rfl⟩
theorem ints_of : ∀ {xs : List D}, (∀ y ∈ xs, ∃ b, y = PyData.int b) → ∃ h : List Int, xs = h.map .int
  | [], _ => ⟨[], rfl⟩
  | x :: xs, h => by
    obtain ⟨b, rfl⟩ := h x List.mem_cons_self
    obtain ⟨bs, rfl⟩ := ints_of fun y hy => h y (List.mem_cons_of_mem _ hy)
    exact ⟨b :: bs, rfl⟩
theorem zipL_self (xs : List D) : zipL xs xs = xs.map fun x => .tuple [x, x] := by
  unfold zipL
  induction xs with
  | nil => rfl
  | cons x xs ih => rw [List.zip_cons_cons, List.map_cons, List.map_cons, ih]
/-! ### in, not in -/
theorem flatAll_ints : ∀ ns : List Int, flatAll (ns.map .int) = some (ns.map V.int)
  | [] => rfl
  | n :: ns => by
    show ((flatAll (ns.map .int)).map fun vs => V.int n :: vs) = _
    rw [flatAll_ints ns]
    rfl
theorem inSeq_ints (i : Int) (ns : List Int) : inSeq (.int i) (ns.map .int) = some (ns.any fun j => decide (i = j)) := by
  unfold inSeq
  rw [flatAll_ints]
  show (if flatV (V.int i) = true ∧ (ns.map V.int).all flatV = true then some (inV (V.int i) (ns.map V.int)) else none) = _
  rw [if_pos ⟨rfl, by rw [List.all_map]; exact List.all_eq_true.mpr fun _ _ => rfl⟩]
  unfold inV
  rw [List.any_map]
  congr 2
  funext j
  show eqV (.int j) (.int i) = _
  rw [Bool.eq_iff_iff, decide_eq_true_eq]
  show ((j == i) = true) ↔ i = j
  rw [beq_iff_eq]
  exact eq_comm
theorem inDD_il (i : Int) (ns : List Int) : inDD (.int i) (.list (ns.map .int)) = some (.bool (ns.any fun j => decide (i = j))) := congrArg (Option.map PyData.bool) (inSeq_ints i ns)
theorem inDD_it (i : Int) (ns : List Int) : inDD (.int i) (.tuple (ns.map .int)) = some (.bool (ns.any fun j => decide (i = j))) := congrArg (Option.map PyData.bool) (inSeq_ints i ns)
theorem notInDD_il (i : Int) (ns : List Int) : notInDD (.int i) (.list (ns.map .int)) = some (.bool !(ns.any fun j => decide (i = j))) := congrArg (Option.map fun b => PyData.bool !b) (inSeq_ints i ns)
theorem notInDD_it (i : Int) (ns : List Int) : notInDD (.int i) (.tuple (ns.map .int)) = some (.bool !(ns.any fun j => decide (i = j))) := congrArg (Option.map fun b => PyData.bool !b) (inSeq_ints i ns)
theorem inDD_i1 (i a : Int) : inDD (.int i) (.list [.int a]) = some (.bool (decide (i = a))) := by have := inDD_il i [a]; simp only [List.map_cons, List.map_nil, List.any_cons, List.any_nil, Bool.or_false] at this; exact this
theorem inDD_i2 (i a b : Int) : inDD (.int i) (.list [.int a, .int b]) = some (.bool (decide (i = a) || decide (i = b))) := by have := inDD_il i [a, b]; simp only [List.map_cons, List.map_nil, List.any_cons, List.any_nil, Bool.or_false] at this; exact this
/-- data that == takes apart as Lean does -/
class Dat (α : Type) [DecidableEq α] where
  en : α → D
  eqv : ∀ a b, PyData.eqv (en a) (en b) = decide (a = b)
  dep : Nat
  sh : ∀ a, Sh dep (en a)
instance : Dat Int := ⟨.int, eqv_ii, 0, sh_int⟩
instance : Dat Bool := ⟨.bool, eqv_bb, 0, sh_bool⟩
section
variable {α β γ δ : Type} [DecidableEq α] [DecidableEq β] [DecidableEq γ] [DecidableEq δ] [Dat α] [Dat β] [Dat γ] [Dat δ]
/-- a list of them, as a tuple -/
instance : Dat (List α) := ⟨fun xs => .tuple (xs.map Dat.en), fun a b => by rw [eqv_tt]; exact eqvAll_map Dat.eqv a b, Dat.dep α + 1, fun a => sh_tup fun x hx => by
  obtain ⟨y, _, rfl⟩ := List.mem_map.mp hx
  exact Dat.sh y⟩
instance : Dat (α × β) := ⟨fun p => .tuple [Dat.en p.1, Dat.en p.2], fun a b => by
  rw [eqv_tt, eqvAll_cc, eqvAll_cc, eqvAll_nn, Dat.eqv, Dat.eqv, Bool.and_true, ← Bool.decide_and]
  exact decide_eq_decide.mpr Prod.ext_iff.symm, max (Dat.dep α) (Dat.dep β) + 1, fun a => sh_tup fun x hx => by
    simp only [List.mem_cons, List.not_mem_nil, or_false] at hx
    rcases hx with rfl | rfl
    · exact (Dat.sh _).up (Nat.le_max_left _ _)
    · exact (Dat.sh _).up (Nat.le_max_right _ _)⟩
theorem eqD_en (a b : α) (h : Dat.dep α ≤ 64) : eqD (Dat.en a) (Dat.en b) = some (decide (a = b)) := by
  rw [eqD_sh (Dat.sh a) (Dat.sh b) h h, Dat.eqv]
theorem eqD_enL (a b : List α) (h : Dat.dep α + 1 ≤ 64) : eqD (.list (a.map Dat.en)) (.list (b.map Dat.en)) = some (decide (a = b)) := by
  have s : ∀ c : List α, Sh (Dat.dep α + 1) (.list (c.map Dat.en)) := fun c => sh_lst fun x hx => by
    obtain ⟨y, _, rfl⟩ := List.mem_map.mp hx
    exact Dat.sh y
  rw [eqD_sh (s a) (s b) h h, eqv_ll, eqvAll_map Dat.eqv]
end
end PD

set_option maxRecDepth 100000
set_option maxHeartbeats 4000000
set_option autoImplicit false
namespace PD
open PySem PySem.Spec L2
/-! ### constants of the text, as the top has left them -/
def Cst (K : PySem.W.Frag) (u : Value) (d : D) : Prop := ∃ v, RelV v u ∧ ∀ H, Dp K H v d
def CstAll (K : PySem.W.Frag) (us : List Value) (ds : List D) : Prop := ∃ vs, Vals vs us ∧ ∀ H, DpAll K H vs ds
theorem cst_str {K : PySem.W.Frag} {x : Str} {t : Tok} : Cst K (.str x t) (.str x) := ⟨.str x, ⟨t, rfl⟩, fun _ => .str x⟩
theorem cst_int {K : PySem.W.Frag} {x : Int} {t : Tok} : Cst K (.int x t) (.int x) := ⟨.int x, ⟨t, rfl⟩, fun _ => .int x⟩
theorem cst_bool {K : PySem.W.Frag} {x : Bool} : Cst K (.bool x) (.bool x) := ⟨.bl x, rfl, fun _ => .bl x⟩
theorem cst_nil {K : PySem.W.Frag} : CstAll K [] [] := ⟨[], .nil, fun _ => .nil⟩
theorem cst_cons {K : PySem.W.Frag} {u : Value} {d : D} {us : List Value} {ds : List D} (h : Cst K u d) (h2 : CstAll K us ds) : CstAll K (u :: us) (d :: ds) := by
  obtain ⟨v, r, e⟩ := h
  obtain ⟨vs, rs, es⟩ := h2
  exact ⟨v :: vs, .cons r rs, fun H => .cons (e H) (es H)⟩
theorem cst_tup {K : PySem.W.Frag} {a : Addr} {dx : Option Addr} {its : Array Value} {n : Nat} {sl : Array (Option Value)} {ds : List D} (h : K.lookup a = some ⟨.type "tuple", dx, .seq its n, sl⟩) (hn : its.size ≤ sizeLine) (hd : CstAll K its.toList ds) : Cst K (.ref a) (.tuple ds) := by
  obtain ⟨vs, rs, es⟩ := hd
  exact ⟨.ref a, rfl, fun H => .tup (.inr ⟨_, its, n, h, rfl, rfl, hn, rs⟩) (es H)⟩
theorem log2_bits {n : Int} (h : Builtin.Int.intBits n ≤ 1048576) : n.natAbs.log2 ≤ 1048576 := by
  unfold Builtin.Int.intBits at h
  split at h
  · rename_i e
    have : n = 0 := by simpa using e
    subst this
    decide
  · omega
theorem binds_mk {K : PySem.W.Frag} {x qual : Str} {st : Stmt} {f : Addr} {oc : Value} {od an : Option Addr} {osl : Array (Option Value)} {kV doc pm cdv ct : Value} (ps : List Str)
    (l : K.lookup f = some ⟨oc, od, .func (PySem.W.fnOf x qual (defArgs st) (defBody st) (defScope st) .none kV doc pm an cdv ct), osl⟩) (c : PySem.W.codeIn K cdv qual = true) (k : PySem.W.keepIn K (.ref f) = true)
    (h : ∀ (kV doc pm : Value) (an : Option Addr) (cdv ct : Value) (us : List Value), us.length = ps.length → bindArgs (PySem.W.fnOf x qual (defArgs st) (defBody st) (defScope st) .none kV doc pm an cdv ct) ⟨us, []⟩ = pure (ps.zip us)) :
    Binds K (PySem.W.fnOf x qual (defArgs st) (defBody st) (defScope st) .none kV doc pm an cdv ct) ps [] := (fun_mk l c k).binds h
end PD

set_option maxRecDepth 100000
set_option maxHeartbeats 4000000
namespace K3
open PySem PySem.Spec L2 PD
noncomputable section
def topS (i : Nat) : Stmt := PySem.Challenge.pw_selfstarts_k03_stands_of_any_kind.main.body.getD i (.Pass ⟨0, 0, 0, 0⟩)
def cst_AWAKE : D := .str ("awake" : Str)
def cst_RECORDS : D := .str ("records" : Str)
def cst_SLEEPS : D := .str ("sleeps" : Str)
def cst_FRESH : D := .tuple [.str ("awake" : Str), .int 0, .int 0, .tuple []]
abbrev s_is_within : Stmt := topS 10
abbrev N_is_within : List Str := ["value", "low", "high"]
abbrev P_is_within : List Str := ["value", "low", "high"]
theorem sc_is_within : FnScope N_is_within P_is_within (defScope s_is_within) := ⟨rfl, rfl, rfl, by decide +kernel, rfl, by decide +kernel, by decide +kernel⟩
abbrev s_is_row_of : Stmt := topS 11
abbrev N_is_row_of : List Str := ["value", "size"]
abbrev P_is_row_of : List Str := ["value", "size"]
theorem sc_is_row_of : FnScope N_is_row_of P_is_row_of (defScope s_is_row_of) := ⟨rfl, rfl, rfl, by decide +kernel, rfl, by decide +kernel, by decide +kernel⟩
abbrev s_is_recorder : Stmt := topS 12
abbrev N_is_recorder : List Str := ["value"]
abbrev P_is_recorder : List Str := ["value"]
theorem sc_is_recorder : FnScope N_is_recorder P_is_recorder (defScope s_is_recorder) := ⟨rfl, rfl, rfl, by decide +kernel, rfl, by decide +kernel, by decide +kernel⟩
abbrev s_look_at_recorder : Stmt := topS 13
abbrev N_look_at_recorder : List Str := ["recorder"]
abbrev P_look_at_recorder : List Str := ["recorder"]
theorem sc_look_at_recorder : FnScope N_look_at_recorder P_look_at_recorder (defScope s_look_at_recorder) := ⟨rfl, rfl, rfl, by decide +kernel, rfl, by decide +kernel, by decide +kernel⟩
abbrev s_look_at_sound : Stmt := topS 14
abbrev N_look_at_sound : List Str := ["sound"]
abbrev P_look_at_sound : List Str := ["sound"]
theorem sc_look_at_sound : FnScope N_look_at_sound P_look_at_sound (defScope s_look_at_sound) := ⟨rfl, rfl, rfl, by decide +kernel, rfl, by decide +kernel, by decide +kernel⟩
abbrev s_is_heard : Stmt := topS 15
abbrev N_is_heard : List Str := ["recorder", "value", "need", "ahead", "after", "most", "rest", "sound"]
abbrev P_is_heard : List Str := ["recorder", "value"]
theorem sc_is_heard : FnScope N_is_heard P_is_heard (defScope s_is_heard) := ⟨rfl, rfl, rfl, by decide +kernel, rfl, by decide +kernel, by decide +kernel⟩
abbrev s_fits : Stmt := topS 16
abbrev N_fits : List Str := ["recorder", "value"]
abbrev P_fits : List Str := ["recorder", "value"]
theorem sc_fits : FnScope N_fits P_fits (defScope s_fits) := ⟨rfl, rfl, rfl, by decide +kernel, rfl, by decide +kernel, by decide +kernel⟩
abbrev s_is_stand : Stmt := topS 17
abbrev N_is_stand : List Str := ["recorder", "value"]
abbrev P_is_stand : List Str := ["recorder", "value"]
theorem sc_is_stand : FnScope N_is_stand P_is_stand (defScope s_is_stand) := ⟨rfl, rfl, rfl, by decide +kernel, rfl, by decide +kernel, by decide +kernel⟩
abbrev s_look_at_stand : Stmt := topS 18
abbrev N_look_at_stand : List Str := ["recorder", "stand"]
abbrev P_look_at_stand : List Str := ["recorder", "stand"]
theorem sc_look_at_stand : FnScope N_look_at_stand P_look_at_stand (defScope s_look_at_stand) := ⟨rfl, rfl, rfl, by decide +kernel, rfl, by decide +kernel, by decide +kernel⟩
abbrev s_ended : Stmt := topS 20
abbrev N_ended : List Str := ["recorder"]
abbrev P_ended : List Str := ["recorder"]
theorem sc_ended : FnScope N_ended P_ended (defScope s_ended) := ⟨rfl, rfl, rfl, by decide +kernel, rfl, by decide +kernel, by decide +kernel⟩
abbrev s_step : Stmt := topS 21
abbrev N_step : List Str := ["recorder", "stand", "sound", "need", "ahead", "after_so", "most", "rest", "mode", "count", "quiet", "heard", "kept"]
abbrev P_step : List Str := ["recorder", "stand", "sound"]
theorem sc_step : FnScope N_step P_step (defScope s_step) := ⟨rfl, rfl, rfl, by decide +kernel, rfl, by decide +kernel, by decide +kernel⟩
abbrev s_after : Stmt := topS 22
abbrev N_after : List Str := ["recorder", "stand", "sound"]
abbrev P_after : List Str := ["recorder", "stand", "sound"]
theorem sc_after : FnScope N_after P_after (defScope s_after) := ⟨rfl, rfl, rfl, by decide +kernel, rfl, by decide +kernel, by decide +kernel⟩
abbrev s_f_law_spring : Stmt := topS 24
abbrev N_f_law_spring : List Str := ["script", "at", "cell", "mixed"]
abbrev P_f_law_spring : List Str := ["script", "at"]
theorem sc_f_law_spring : FnScope N_f_law_spring P_f_law_spring (defScope s_f_law_spring) := ⟨rfl, rfl, rfl, by decide +kernel, rfl, by decide +kernel, by decide +kernel⟩
abbrev s_f_law_pick : Stmt := topS 25
abbrev N_f_law_pick : List Str := ["spring", "many", "digit"]
abbrev P_f_law_pick : List Str := ["spring", "many"]
theorem sc_f_law_pick : FnScope N_f_law_pick P_f_law_pick (defScope s_f_law_pick) := ⟨rfl, rfl, rfl, by decide +kernel, rfl, by decide +kernel, by decide +kernel⟩
abbrev s_f_law_kind : Stmt := topS 26
abbrev N_f_law_kind : List Str := ["value"]
abbrev P_f_law_kind : List Str := ["value"]
theorem sc_f_law_kind : FnScope N_f_law_kind P_f_law_kind (defScope s_f_law_kind) := ⟨rfl, rfl, rfl, by decide +kernel, rfl, by decide +kernel, by decide +kernel⟩
abbrev s_f_law_twins : Stmt := topS 27
abbrev N_f_law_twins : List Str := ["one", "other", "a", "b"]
abbrev P_f_law_twins : List Str := ["one", "other"]
theorem sc_f_law_twins : FnScope N_f_law_twins P_f_law_twins (defScope s_f_law_twins) := ⟨rfl, rfl, rfl, by decide +kernel, rfl, by decide +kernel, by decide +kernel⟩
abbrev s_f_law_recorder : Stmt := topS 28
abbrev N_f_law_recorder : List Str := ["spring", "need", "ahead", "most"]
abbrev P_f_law_recorder : List Str := ["spring"]
theorem sc_f_law_recorder : FnScope N_f_law_recorder P_f_law_recorder (defScope s_f_law_recorder) := ⟨rfl, rfl, rfl, by decide +kernel, rfl, by decide +kernel, by decide +kernel⟩
abbrev s_f_law_tick : Stmt := topS 30
abbrev N_f_law_tick : List Str := ["recorder", "stand", "sound", "need", "ahead", "hush", "most", "rest", "mode", "count", "quiet", "heard", "calm", "kept"]
abbrev P_f_law_tick : List Str := ["recorder", "stand", "sound"]
theorem sc_f_law_tick : FnScope N_f_law_tick P_f_law_tick (defScope s_f_law_tick) := ⟨rfl, rfl, rfl, by decide +kernel, rfl, by decide +kernel, by decide +kernel⟩
abbrev s_f_law_stands : Stmt := topS 33
abbrev N_f_law_stands : List Str := ["recorder", "spring", "need", "ahead", "after_so", "most", "rest", "found", "count", "turn", "heard", "quiet", "tick"]
abbrev P_f_law_stands : List Str := ["recorder", "spring"]
theorem sc_f_law_stands : FnScope N_f_law_stands P_f_law_stands (defScope s_f_law_stands) := ⟨rfl, rfl, rfl, by decide +kernel, rfl, by decide +kernel, by decide +kernel⟩
abbrev s_law : Stmt := topS 34
abbrev N_law : List Str := ["script", "at", "spring", "recorder", "stand", "sound"]
abbrev P_law : List Str := ["script"]
theorem sc_law : FnScope N_law P_law (defScope s_law) := ⟨rfl, rfl, rfl, by decide +kernel, rfl, by decide +kernel, by decide +kernel⟩
/-- what the top has left -/
structure Txt (K : PySem.W.Frag) (mg : Str → Option Value) (fs : Nat → Addr) (fds : Nat → FuncData) (us : Nat → Value) : Prop where
  f_is_within : Fun K "is_within" "is_within" s_is_within (fs 10) (fds 10)
  m_is_within : mg "is_within" = some (.ref (fs 10))
  b_is_within : Binds K (fds 10) P_is_within []
  f_is_row_of : Fun K "is_row_of" "is_row_of" s_is_row_of (fs 11) (fds 11)
  m_is_row_of : mg "is_row_of" = some (.ref (fs 11))
  b_is_row_of : Binds K (fds 11) P_is_row_of []
  f_is_recorder : Fun K "is_recorder" "is_recorder" s_is_recorder (fs 12) (fds 12)
  m_is_recorder : mg "is_recorder" = some (.ref (fs 12))
  b_is_recorder : Binds K (fds 12) P_is_recorder []
  f_look_at_recorder : Fun K "look_at_recorder" "look_at_recorder" s_look_at_recorder (fs 13) (fds 13)
  m_look_at_recorder : mg "look_at_recorder" = some (.ref (fs 13))
  b_look_at_recorder : Binds K (fds 13) P_look_at_recorder []
  f_look_at_sound : Fun K "look_at_sound" "look_at_sound" s_look_at_sound (fs 14) (fds 14)
  m_look_at_sound : mg "look_at_sound" = some (.ref (fs 14))
  b_look_at_sound : Binds K (fds 14) P_look_at_sound []
  f_is_heard : Fun K "is_heard" "is_heard" s_is_heard (fs 15) (fds 15)
  m_is_heard : mg "is_heard" = some (.ref (fs 15))
  b_is_heard : Binds K (fds 15) P_is_heard []
  f_fits : Fun K "fits" "fits" s_fits (fs 16) (fds 16)
  m_fits : mg "fits" = some (.ref (fs 16))
  b_fits : Binds K (fds 16) P_fits []
  f_is_stand : Fun K "is_stand" "is_stand" s_is_stand (fs 17) (fds 17)
  m_is_stand : mg "is_stand" = some (.ref (fs 17))
  b_is_stand : Binds K (fds 17) P_is_stand []
  f_look_at_stand : Fun K "look_at_stand" "look_at_stand" s_look_at_stand (fs 18) (fds 18)
  m_look_at_stand : mg "look_at_stand" = some (.ref (fs 18))
  b_look_at_stand : Binds K (fds 18) P_look_at_stand []
  f_ended : Fun K "ended" "ended" s_ended (fs 20) (fds 20)
  m_ended : mg "ended" = some (.ref (fs 20))
  b_ended : Binds K (fds 20) P_ended []
  f_step : Fun K "step" "step" s_step (fs 21) (fds 21)
  m_step : mg "step" = some (.ref (fs 21))
  b_step : Binds K (fds 21) P_step []
  f_after : Fun K "after" "after" s_after (fs 22) (fds 22)
  m_after : mg "after" = some (.ref (fs 22))
  b_after : Binds K (fds 22) P_after []
  f_f_law_spring : Fun K "_law_spring" "_law_spring" s_f_law_spring (fs 24) (fds 24)
  m_f_law_spring : mg "_law_spring" = some (.ref (fs 24))
  b_f_law_spring : Binds K (fds 24) P_f_law_spring []
  f_f_law_pick : Fun K "_law_pick" "_law_pick" s_f_law_pick (fs 25) (fds 25)
  m_f_law_pick : mg "_law_pick" = some (.ref (fs 25))
  b_f_law_pick : Binds K (fds 25) P_f_law_pick []
  f_f_law_kind : Fun K "_law_kind" "_law_kind" s_f_law_kind (fs 26) (fds 26)
  m_f_law_kind : mg "_law_kind" = some (.ref (fs 26))
  b_f_law_kind : Binds K (fds 26) P_f_law_kind []
  f_f_law_twins : Fun K "_law_twins" "_law_twins" s_f_law_twins (fs 27) (fds 27)
  m_f_law_twins : mg "_law_twins" = some (.ref (fs 27))
  b_f_law_twins : Binds K (fds 27) P_f_law_twins []
  f_f_law_recorder : Fun K "_law_recorder" "_law_recorder" s_f_law_recorder (fs 28) (fds 28)
  m_f_law_recorder : mg "_law_recorder" = some (.ref (fs 28))
  b_f_law_recorder : Binds K (fds 28) P_f_law_recorder []
  f_f_law_tick : Fun K "_law_tick" "_law_tick" s_f_law_tick (fs 30) (fds 30)
  m_f_law_tick : mg "_law_tick" = some (.ref (fs 30))
  b_f_law_tick : Binds K (fds 30) P_f_law_tick []
  f_f_law_stands : Fun K "_law_stands" "_law_stands" s_f_law_stands (fs 33) (fds 33)
  m_f_law_stands : mg "_law_stands" = some (.ref (fs 33))
  b_f_law_stands : Binds K (fds 33) P_f_law_stands []
  f_law : Fun K "law" "law" s_law (fs 34) (fds 34)
  m_law : mg "law" = some (.ref (fs 34))
  b_law : Binds K (fds 34) P_law []
  n_abs : mg "abs" = none
  n_all : mg "all" = none
  n_bool : mg "bool" = none
  n_int : mg "int" = none
  n_isinstance : mg "isinstance" = none
  n_len : mg "len" = none
  n_list : mg "list" = none
  n_max : mg "max" = none
  n_min : mg "min" = none
  n_range : mg "range" = none
  n_str : mg "str" = none
  n_tuple : mg "tuple" = none
  n_zip : mg "zip" = none
  c_AWAKE : mg "AWAKE" = some (us 6)
  r_AWAKE : ∃ v, RelV v (us 6) ∧ ∀ H, Dp K H v cst_AWAKE
  c_RECORDS : mg "RECORDS" = some (us 7)
  r_RECORDS : ∃ v, RelV v (us 7) ∧ ∀ H, Dp K H v cst_RECORDS
  c_SLEEPS : mg "SLEEPS" = some (us 8)
  r_SLEEPS : ∃ v, RelV v (us 8) ∧ ∀ H, Dp K H v cst_SLEEPS
  c_FRESH : mg "FRESH" = some (us 9)
  r_FRESH : ∃ v, RelV v (us 9) ∧ ∀ H, Dp K H v cst_FRESH
section
variable {P : Program} {w : World} {K : PySem.W.Frag} {mg : Str → Option Value} {base : Heap} {fs : Nat → Addr} {fds : Nat → FuncData} {us : Nat → Value}
def g_is_within : MS := S.ret (M.andV (M.op1 (isD tInt) (M.var 0)) (M.andV (M.op1 notD (M.op1 (isD tBool) (M.var 0))) (M.chain leD leD (M.var 1) (M.var 0) (M.var 2))))
def F_is_within (lvs : List LV) : FR := runF 3 3 none g_is_within lvs
theorem ok_is_within (T : Txt K mg fs fds us) : FnOk P w K mg base CX0 1 (fs 10) (fds 10) P_is_within (spF K none F_is_within) :=
  fn_pd (io := none) (k := 0) T.f_is_within sc_is_within (by decide) (fun cdv A outer s H E C hr hio => (have hu : A.units + 3 + 64 < cLine := hr.units
      (pds_one (pd_ret (pd_and (pd_isi k_int T.n_isinstance T.n_int (by decide +kernel) (pd_var 0)) (pd_and (pd_not (pd_isi k_bool T.n_isinstance T.n_bool (by decide +kernel) (pd_var 0))) (pd_one (pd_lele (pd_var 1) (pd_var 0) (pd_var 2)))))))))
def g_is_row_of : MS := S.ret (M.andV (M.op1 (isD tTuple) (M.var 0)) (M.op2 eqDD (M.call lenD (M.argD (M.var 0) (M.argN))) (M.var 1)))
def F_is_row_of (lvs : List LV) : FR := runF 2 2 none g_is_row_of lvs
theorem ok_is_row_of (T : Txt K mg fs fds us) : FnOk P w K mg base CX0 1 (fs 11) (fds 11) P_is_row_of (spF K none F_is_row_of) :=
  fn_pd (io := none) (k := 0) T.f_is_row_of sc_is_row_of (by decide) (fun cdv A outer s H E C hr hio => (have hu : A.units + 3 + 64 < cLine := hr.units
      (pds_one (pd_ret (pd_and (pd_isi k_tuple T.n_isinstance T.n_tuple (by decide +kernel) (pd_var 0)) (pd_one (pd_eq hu (pd_len T.n_len (pda_cons (pd_var 0) (pda_nil))) (pd_var 1))))))))
def g_is_recorder : MS := S.seq (S.ite (M.orT (M.notT (M.test (M.fn none (F_is_row_of) (M.argD (M.var 0) (M.argD (M.ret (PyData.int 5)) (M.argN)))))) (M.orT (M.notT (M.test (M.fn none (F_is_within) (M.argD (M.op2 ixD (M.var 0) (M.ret (PyData.int 0))) (M.argD (M.ret (PyData.int 1)) (M.argD (M.ret (PyData.int 3)) (M.argN))))))) (M.notT (M.test (M.fn none (F_is_within) (M.argD (M.op2 ixD (M.var 0) (M.ret (PyData.int 1))) (M.argD (M.ret (PyData.int 0)) (M.argD (M.ret (PyData.int 3)) (M.argN))))))))) (S.ret (M.ret (PyData.bool false))) (S.nil))
    (S.seq (S.ite (M.orT (M.notT (M.test (M.fn none (F_is_within) (M.argD (M.op2 ixD (M.var 0) (M.ret (PyData.int 2))) (M.argD (M.ret (PyData.int 1)) (M.argD (M.ret (PyData.int 3)) (M.argN))))))) (M.notT (M.test (M.fn none (F_is_within) (M.argD (M.op2 ixD (M.var 0) (M.ret (PyData.int 4))) (M.argD (M.ret (PyData.int 0)) (M.argD (M.ret (PyData.int 3)) (M.argN)))))))) (S.ret (M.ret (PyData.bool false))) (S.nil))
    (S.ret (M.fn none (F_is_within) (M.argD (M.op2 ixD (M.var 0) (M.ret (PyData.int 3))) (M.argD (M.op2 addD (M.op2 ixD (M.var 0) (M.ret (PyData.int 0))) (M.op2 ixD (M.var 0) (M.ret (PyData.int 1)))) (M.argD (M.ret (PyData.int 10)) (M.argN)))))))
def F_is_recorder (lvs : List LV) : FR := runF 1 1 none g_is_recorder lvs
theorem ok_is_recorder (T : Txt K mg fs fds us) : FnOk P w K mg base CX0 2 (fs 12) (fds 12) P_is_recorder (spF K none F_is_recorder) :=
  fn_pd (io := none) (k := 1) T.f_is_recorder sc_is_recorder (by decide) (fun cdv A outer s H E C hr hio => (have hu : A.units + 3 + 64 < cLine := hr.units
      (pds_cons (pd_ifS (pdt_w (pdw_or (pdt_not (pdt_val (pd_fn (ok_is_row_of T) (hr.mono (by omega)) T.m_is_row_of T.f_is_row_of.kp T.b_is_row_of (pda_cons (pd_var 0) (pda_cons (pd_int) (pda_nil)))))) (pdw_or (pdt_not (pdt_val (pd_fn (ok_is_within T) (hr.mono (by omega)) T.m_is_within T.f_is_within.kp T.b_is_within (pda_cons (pd_sub_ (pd_var 0) (pd_int) (fun _ _ => rfl)) (pda_cons (pd_int) (pda_cons (pd_int) (pda_nil))))))) (pdw_or1 (pdt_not (pdt_val (pd_fn (ok_is_within T) (hr.mono (by omega)) T.m_is_within T.f_is_within.kp T.b_is_within (pda_cons (pd_sub_ (pd_var 0) (pd_int) (fun _ _ => rfl)) (pda_cons (pd_int) (pda_cons (pd_int) (pda_nil))))))))))) (pds_one (pd_ret (pd_bl))) (pds_nil))
      (pds_cons (pd_ifS (pdt_w (pdw_or (pdt_not (pdt_val (pd_fn (ok_is_within T) (hr.mono (by omega)) T.m_is_within T.f_is_within.kp T.b_is_within (pda_cons (pd_sub_ (pd_var 0) (pd_int) (fun _ _ => rfl)) (pda_cons (pd_int) (pda_cons (pd_int) (pda_nil))))))) (pdw_or1 (pdt_not (pdt_val (pd_fn (ok_is_within T) (hr.mono (by omega)) T.m_is_within T.f_is_within.kp T.b_is_within (pda_cons (pd_sub_ (pd_var 0) (pd_int) (fun _ _ => rfl)) (pda_cons (pd_int) (pda_cons (pd_int) (pda_nil)))))))))) (pds_one (pd_ret (pd_bl))) (pds_nil))
      (pds_one (pd_ret (pd_fn (ok_is_within T) (hr.mono (by omega)) T.m_is_within T.f_is_within.kp T.b_is_within (pda_cons (pd_sub_ (pd_var 0) (pd_int) (fun _ _ => rfl)) (pda_cons (pd_add (pd_sub_ (pd_var 0) (pd_int) (fun _ _ => rfl)) (pd_sub_ (pd_var 0) (pd_int) (fun _ _ => rfl))) (pda_cons (pd_int) (pda_nil)))))))))))
def g_look_at_recorder : MS := S.ite (M.notT (M.test (M.fn none (F_is_recorder) (M.argD (M.var 0) (M.argN))))) (S.never) (S.nil)
def F_look_at_recorder (lvs : List LV) : FR := runF 1 1 none g_look_at_recorder lvs
theorem ok_look_at_recorder (T : Txt K mg fs fds us) : FnOk P w K mg base CX0 3 (fs 13) (fds 13) P_look_at_recorder (spF K none F_look_at_recorder) :=
  fn_pd (io := none) (k := 2) T.f_look_at_recorder sc_look_at_recorder (by decide) (fun cdv A outer s H E C hr hio => (have hu : A.units + 3 + 64 < cLine := hr.units
      (pds_one (pd_ifS (pdt_not (pdt_val (pd_fn (ok_is_recorder T) (hr.mono (by omega)) T.m_is_recorder T.f_is_recorder.kp T.b_is_recorder (pda_cons (pd_var 0) (pda_nil))))) (pds_one (pd_never)) (pds_nil)))))
def g_look_at_sound : MS := S.ite (M.notT (M.test (M.op1 (isD tBool) (M.var 0)))) (S.never) (S.nil)
def F_look_at_sound (lvs : List LV) : FR := runF 1 1 none g_look_at_sound lvs
theorem ok_look_at_sound (T : Txt K mg fs fds us) : FnOk P w K mg base CX0 1 (fs 14) (fds 14) P_look_at_sound (spF K none F_look_at_sound) :=
  fn_pd (io := none) (k := 0) T.f_look_at_sound sc_look_at_sound (by decide) (fun cdv A outer s H E C hr hio => (have hu : A.units + 3 + 64 < cLine := hr.units
      (pds_one (pd_ifS (pdt_not (pdt_val (pd_isi k_bool T.n_isinstance T.n_bool (by decide +kernel) (pd_var 0)))) (pds_one (pd_never)) (pds_nil)))))
def E_is_heard_1 : M D := M.op1 (isD tBool) (M.var 7)
def g_is_heard : MS := S.seq (S.asgT (G.tup 5 (G.cons (G.nm 2) (G.cons (G.nm 3) (G.cons (G.nm 4) (G.cons (G.nm 5) (G.cons (G.nm 6) (G.nil))))))) (M.var 0))
    (S.seq (S.ite (M.orT (M.notT (M.test (M.op1 (isD tTuple) (M.var 1)))) (M.test (M.op2 gtD (M.call lenD (M.argD (M.var 1) (M.argN))) (M.op2 subD (M.op2 addD (M.var 2) (M.var 3)) (M.ret (PyData.int 1)))))) (S.ret (M.ret (PyData.bool false))) (S.nil))
    (S.seq (S.ite (M.notT (M.test (M.call allD (M.argD (M.known (M.lc (M.items (M.var 1)) [7] (G.nm 7) (M.ret true) (E_is_heard_1))) (M.argN))))) (S.ret (M.ret (PyData.bool false))) (S.nil))
    (S.ret (M.orV (M.op2 ltD (M.call lenD (M.argD (M.var 1) (M.argN))) (M.var 2)) (M.op1 notD (M.call allD (M.argD (M.slice (M.var 1) (M.part (M.op1 negD (M.var 2))) (M.ret none)) (M.argN))))))))
def F_is_heard (lvs : List LV) : FR := runF 2 8 none g_is_heard lvs
theorem ok_is_heard (T : Txt K mg fs fds us) : FnOk P w K mg base CX0 1 (fs 15) (fds 15) P_is_heard (spF K none F_is_heard) :=
  fn_pd (io := none) (k := 0) T.f_is_heard sc_is_heard (by decide) (fun cdv A outer s H E C hr hio => (have hu : A.units + 3 + 64 < cLine := hr.units
      (pds_cons (pd_asgT (pd_var 0) (pdg_tup rfl (pdgs_cons (pdg_nm (i := 2) (io_ne hio) sc_is_heard.nd) (pdgs_cons (pdg_nm (i := 3) (io_ne hio) sc_is_heard.nd) (pdgs_cons (pdg_nm (i := 4) (io_ne hio) sc_is_heard.nd) (pdgs_cons (pdg_nm (i := 5) (io_ne hio) sc_is_heard.nd) (pdgs_cons (pdg_nm (i := 6) (io_ne hio) sc_is_heard.nd) (pdgs_nil))))))))
      (pds_cons (pd_ifS (pdt_w (pdw_or (pdt_not (pdt_val (pd_isi k_tuple T.n_isinstance T.n_tuple (by decide +kernel) (pd_var 1)))) (pdw_or1 (pdt_gt (pd_len T.n_len (pda_cons (pd_var 1) (pda_nil))) (pd_sub (pd_add (pd_var 2) (pd_var 3)) (pd_int)))))) (pds_one (pd_ret (pd_bl))) (pds_nil))
      (pds_cons (pd_ifS (pdt_not (pdt_val (pd_all rfl T.n_all (pda_cons (pd_l (pdl_lc (own := [(("sound" : Str), 7)]) (io_nin hio) (by decide) rfl sc_is_heard.nd (blkOk_by (N := N_is_heard) (sc := defScope s_is_heard) (by decide +kernel)) (pdi_seq (pd_var 1)) (fun _ hc1 _ _ _ _ _ => pdg_nm (i := 7) (io_ne (io_eq hio hc1)) sc_is_heard.nd) (fun _ hc1 _ _ _ _ _ => pdts_nil) (fun _ hc1 _ _ _ _ _ => pd_isi k_bool T.n_isinstance T.n_bool (by decide +kernel) (pd_var 7)))) (pda_nil))))) (pds_one (pd_ret (pd_bl))) (pds_nil))
      (pds_one (pd_ret (pd_or (pd_lt (pd_len T.n_len (pda_cons (pd_var 1) (pda_nil))) (pd_var 2)) (pd_one (pd_not (pd_all rfl T.n_all (pda_cons (pd_slice (pd_var 1) (pdo_some (pd_neg (pd_var 2))) (pdo_none)) (pda_nil)))))))))))))
def g_fits : MS := S.seq (S.ite (M.orT (M.notT (M.test (M.fn none (F_is_row_of) (M.argD (M.var 1) (M.argD (M.ret (PyData.int 4)) (M.argN)))))) (M.notT (M.test (M.op1 (isD tStr) (M.op2 ixD (M.var 1) (M.ret (PyData.int 0))))))) (S.ret (M.ret (PyData.bool false))) (S.nil))
    (S.seq (S.ite (M.test (M.op2 eqDD (M.op2 ixD (M.var 1) (M.ret (PyData.int 0))) (M.ret cst_AWAKE))) (S.ret (M.andV (M.fn none (F_is_within) (M.argD (M.op2 ixD (M.var 1) (M.ret (PyData.int 1))) (M.argD (M.ret (PyData.int 0)) (M.argD (M.ret (PyData.int 0)) (M.argN))))) (M.andV (M.fn none (F_is_within) (M.argD (M.op2 ixD (M.var 1) (M.ret (PyData.int 2))) (M.argD (M.ret (PyData.int 0)) (M.argD (M.ret (PyData.int 0)) (M.argN))))) (M.fn none (F_is_heard) (M.argD (M.var 0) (M.argD (M.op2 ixD (M.var 1) (M.ret (PyData.int 3))) (M.argN))))))) (S.nil))
    (S.seq (S.ite (M.notT (M.test (M.fn none (F_is_row_of) (M.argD (M.op2 ixD (M.var 1) (M.ret (PyData.int 3))) (M.argD (M.ret (PyData.int 0)) (M.argN)))))) (S.ret (M.ret (PyData.bool false))) (S.nil))
    (S.seq (S.ite (M.test (M.op2 eqDD (M.op2 ixD (M.var 1) (M.ret (PyData.int 0))) (M.ret cst_SLEEPS))) (S.ret (M.andV (M.fn none (F_is_within) (M.argD (M.op2 ixD (M.var 1) (M.ret (PyData.int 1))) (M.argD (M.ret (PyData.int 1)) (M.argD (M.op2 ixD (M.var 0) (M.ret (PyData.int 4))) (M.argN))))) (M.fn none (F_is_within) (M.argD (M.op2 ixD (M.var 1) (M.ret (PyData.int 2))) (M.argD (M.ret (PyData.int 0)) (M.argD (M.ret (PyData.int 0)) (M.argN))))))) (S.nil))
    (S.seq (S.ite (M.orT (M.test (M.op2 neDD (M.op2 ixD (M.var 1) (M.ret (PyData.int 0))) (M.ret cst_RECORDS))) (M.notT (M.test (M.fn none (F_is_within) (M.argD (M.op2 ixD (M.var 1) (M.ret (PyData.int 1))) (M.argD (M.ret (PyData.int 1)) (M.argD (M.op2 subD (M.op2 ixD (M.var 0) (M.ret (PyData.int 3))) (M.ret (PyData.int 1))) (M.argN)))))))) (S.ret (M.ret (PyData.bool false))) (S.nil))
    (S.ret (M.fn none (F_is_within) (M.argD (M.op2 ixD (M.var 1) (M.ret (PyData.int 2))) (M.argD (M.ret (PyData.int 0)) (M.argD (M.op2 subD (M.call minD (M.argD (M.op2 ixD (M.var 0) (M.ret (PyData.int 2))) (M.argD (M.op2 ixD (M.var 1) (M.ret (PyData.int 1))) (M.argN)))) (M.ret (PyData.int 1))) (M.argN))))))))))
def F_fits (lvs : List LV) : FR := runF 2 2 none g_fits lvs
theorem ok_fits (T : Txt K mg fs fds us) : FnOk P w K mg base CX0 2 (fs 16) (fds 16) P_fits (spF K none F_fits) :=
  fn_pd (io := none) (k := 1) T.f_fits sc_fits (by decide) (fun cdv A outer s H E C hr hio => (have hu : A.units + 3 + 64 < cLine := hr.units
      (pds_cons (pd_ifS (pdt_w (pdw_or (pdt_not (pdt_val (pd_fn (ok_is_row_of T) (hr.mono (by omega)) T.m_is_row_of T.f_is_row_of.kp T.b_is_row_of (pda_cons (pd_var 1) (pda_cons (pd_int) (pda_nil)))))) (pdw_or1 (pdt_not (pdt_val (pd_isi k_str T.n_isinstance T.n_str (by decide +kernel) (pd_sub_ (pd_var 1) (pd_int) (fun _ _ => rfl)))))))) (pds_one (pd_ret (pd_bl))) (pds_nil))
      (pds_cons (pd_ifS (pdt_eq hu (pd_sub_ (pd_var 1) (pd_int) (fun _ _ => rfl)) (pd_const T.c_AWAKE T.r_AWAKE)) (pds_one (pd_ret (pd_and (pd_fn (ok_is_within T) (hr.mono (by omega)) T.m_is_within T.f_is_within.kp T.b_is_within (pda_cons (pd_sub_ (pd_var 1) (pd_int) (fun _ _ => rfl)) (pda_cons (pd_int) (pda_cons (pd_int) (pda_nil))))) (pd_and (pd_fn (ok_is_within T) (hr.mono (by omega)) T.m_is_within T.f_is_within.kp T.b_is_within (pda_cons (pd_sub_ (pd_var 1) (pd_int) (fun _ _ => rfl)) (pda_cons (pd_int) (pda_cons (pd_int) (pda_nil))))) (pd_one (pd_fn (ok_is_heard T) (hr.mono (by omega)) T.m_is_heard T.f_is_heard.kp T.b_is_heard (pda_cons (pd_var 0) (pda_cons (pd_sub_ (pd_var 1) (pd_int) (fun _ _ => rfl)) (pda_nil))))))))) (pds_nil))
      (pds_cons (pd_ifS (pdt_not (pdt_val (pd_fn (ok_is_row_of T) (hr.mono (by omega)) T.m_is_row_of T.f_is_row_of.kp T.b_is_row_of (pda_cons (pd_sub_ (pd_var 1) (pd_int) (fun _ _ => rfl)) (pda_cons (pd_int) (pda_nil)))))) (pds_one (pd_ret (pd_bl))) (pds_nil))
      (pds_cons (pd_ifS (pdt_eq hu (pd_sub_ (pd_var 1) (pd_int) (fun _ _ => rfl)) (pd_const T.c_SLEEPS T.r_SLEEPS)) (pds_one (pd_ret (pd_and (pd_fn (ok_is_within T) (hr.mono (by omega)) T.m_is_within T.f_is_within.kp T.b_is_within (pda_cons (pd_sub_ (pd_var 1) (pd_int) (fun _ _ => rfl)) (pda_cons (pd_int) (pda_cons (pd_sub_ (pd_var 0) (pd_int) (fun _ _ => rfl)) (pda_nil))))) (pd_one (pd_fn (ok_is_within T) (hr.mono (by omega)) T.m_is_within T.f_is_within.kp T.b_is_within (pda_cons (pd_sub_ (pd_var 1) (pd_int) (fun _ _ => rfl)) (pda_cons (pd_int) (pda_cons (pd_int) (pda_nil))))))))) (pds_nil))
      (pds_cons (pd_ifS (pdt_w (pdw_or (pdt_ne hu (pd_sub_ (pd_var 1) (pd_int) (fun _ _ => rfl)) (pd_const T.c_RECORDS T.r_RECORDS)) (pdw_or1 (pdt_not (pdt_val (pd_fn (ok_is_within T) (hr.mono (by omega)) T.m_is_within T.f_is_within.kp T.b_is_within (pda_cons (pd_sub_ (pd_var 1) (pd_int) (fun _ _ => rfl)) (pda_cons (pd_int) (pda_cons (pd_sub (pd_sub_ (pd_var 0) (pd_int) (fun _ _ => rfl)) (pd_int)) (pda_nil)))))))))) (pds_one (pd_ret (pd_bl))) (pds_nil))
      (pds_one (pd_ret (pd_fn (ok_is_within T) (hr.mono (by omega)) T.m_is_within T.f_is_within.kp T.b_is_within (pda_cons (pd_sub_ (pd_var 1) (pd_int) (fun _ _ => rfl)) (pda_cons (pd_int) (pda_cons (pd_sub (pd_min rfl T.n_min (pda_cons (pd_sub_ (pd_var 0) (pd_int) (fun _ _ => rfl)) (pda_cons (pd_sub_ (pd_var 1) (pd_int) (fun _ _ => rfl)) (pda_nil)))) (pd_int)) (pda_nil))))))))))))))
def g_is_stand : MS := S.seq (S.drop (M.fn none (F_look_at_recorder) (M.argD (M.var 0) (M.argN))))
    (S.ret (M.fn none (F_fits) (M.argD (M.var 0) (M.argD (M.var 1) (M.argN)))))
def F_is_stand (lvs : List LV) : FR := runF 2 2 none g_is_stand lvs
theorem ok_is_stand (T : Txt K mg fs fds us) : FnOk P w K mg base CX0 4 (fs 17) (fds 17) P_is_stand (spF K none F_is_stand) :=
  fn_pd (io := none) (k := 3) T.f_is_stand sc_is_stand (by decide) (fun cdv A outer s H E C hr hio => (have hu : A.units + 3 + 64 < cLine := hr.units
      (pds_cons (pd_expr (pd_fn (ok_look_at_recorder T) (hr.mono (by omega)) T.m_look_at_recorder T.f_look_at_recorder.kp T.b_look_at_recorder (pda_cons (pd_var 0) (pda_nil))))
      (pds_one (pd_ret (pd_fn (ok_fits T) (hr.mono (by omega)) T.m_fits T.f_fits.kp T.b_fits (pda_cons (pd_var 0) (pda_cons (pd_var 1) (pda_nil)))))))))
def g_look_at_stand : MS := S.ite (M.notT (M.test (M.fn none (F_fits) (M.argD (M.var 0) (M.argD (M.var 1) (M.argN)))))) (S.never) (S.nil)
def F_look_at_stand (lvs : List LV) : FR := runF 2 2 none g_look_at_stand lvs
theorem ok_look_at_stand (T : Txt K mg fs fds us) : FnOk P w K mg base CX0 3 (fs 18) (fds 18) P_look_at_stand (spF K none F_look_at_stand) :=
  fn_pd (io := none) (k := 2) T.f_look_at_stand sc_look_at_stand (by decide) (fun cdv A outer s H E C hr hio => (have hu : A.units + 3 + 64 < cLine := hr.units
      (pds_one (pd_ifS (pdt_not (pdt_val (pd_fn (ok_fits T) (hr.mono (by omega)) T.m_fits T.f_fits.kp T.b_fits (pda_cons (pd_var 0) (pda_cons (pd_var 1) (pda_nil)))))) (pds_one (pd_never)) (pds_nil)))))
def g_ended : MS := S.ret (M.ite (M.test (M.op2 gtD (M.op2 ixD (M.var 0) (M.ret (PyData.int 4))) (M.ret (PyData.int 0)))) (M.tup (M.argD (M.ret cst_SLEEPS) (M.argD (M.op2 ixD (M.var 0) (M.ret (PyData.int 4))) (M.argD (M.ret (PyData.int 0)) (M.argD (M.tup (M.argN)) (M.argN)))))) (M.ret cst_FRESH))
def F_ended (lvs : List LV) : FR := runF 1 1 none g_ended lvs
theorem ok_ended (T : Txt K mg fs fds us) : FnOk P w K mg base CX0 1 (fs 20) (fds 20) P_ended (spF K none F_ended) :=
  fn_pd (io := none) (k := 0) T.f_ended sc_ended (by decide) (fun cdv A outer s H E C hr hio => (have hu : A.units + 3 + 64 < cLine := hr.units
      (pds_one (pd_ret (pd_if (pdt_gt (pd_sub_ (pd_var 0) (pd_int) (fun _ _ => rfl)) (pd_int)) (pd_tup (pda_cons (pd_const T.c_SLEEPS T.r_SLEEPS) (pda_cons (pd_sub_ (pd_var 0) (pd_int) (fun _ _ => rfl)) (pda_cons (pd_int) (pda_cons (pd_tup (pda_nil)) (pda_nil)))))) (pd_const T.c_FRESH T.r_FRESH))))))
def g_step : MS := S.seq (S.asgT (G.tup 5 (G.cons (G.nm 3) (G.cons (G.nm 4) (G.cons (G.nm 5) (G.cons (G.nm 6) (G.cons (G.nm 7) (G.nil))))))) (M.var 0))
    (S.seq (S.asgT (G.tup 4 (G.cons (G.nm 8) (G.cons (G.nm 9) (G.cons (G.nm 10) (G.cons (G.nm 11) (G.nil)))))) (M.var 1))
    (S.seq (S.ite (M.test (M.op2 eqDD (M.var 8) (M.ret cst_SLEEPS))) (S.ret (M.tup (M.argD (M.ite (M.test (M.op2 gtD (M.var 9) (M.ret (PyData.int 1)))) (M.tup (M.argD (M.ret cst_SLEEPS) (M.argD (M.op2 subD (M.var 9) (M.ret (PyData.int 1))) (M.argD (M.ret (PyData.int 0)) (M.argD (M.tup (M.argN)) (M.argN)))))) (M.ret cst_FRESH)) (M.argD (M.ret (PyData.int 0)) (M.argN))))) (S.nil))
    (S.seq (S.ite (M.test (M.op2 eqDD (M.var 8) (M.ret cst_AWAKE))) (S.seq (S.asg 11 (M.op2 addD (M.var 11) (M.tup (M.argD (M.var 2) (M.argN)))))
    (S.seq (S.ite (M.orT (M.test (M.op2 ltD (M.call lenD (M.argD (M.var 11) (M.argN))) (M.var 3))) (M.notT (M.test (M.call allD (M.argD (M.slice (M.var 11) (M.part (M.op1 negD (M.var 3))) (M.ret none)) (M.argN)))))) (S.ret (M.tup (M.argD (M.tup (M.argD (M.ret cst_AWAKE) (M.argD (M.ret (PyData.int 0)) (M.argD (M.ret (PyData.int 0)) (M.argD (M.slice (M.var 11) (M.part (M.call maxD (M.argD (M.ret (PyData.int 0)) (M.argD (M.op2 addD (M.op2 subD (M.op2 subD (M.call lenD (M.argD (M.var 11) (M.argN))) (M.var 3)) (M.var 4)) (M.ret (PyData.int 1))) (M.argN))))) (M.ret none)) (M.argN)))))) (M.argD (M.ret (PyData.int 0)) (M.argN))))) (S.nil))
    (S.par3 9 10 12 (M.argD (M.call lenD (M.argD (M.var 11) (M.argN))) (M.argD (M.ret (PyData.int 0)) (M.argD (M.call lenD (M.argD (M.var 11) (M.argN))) (M.argN))))))) (S.par3 9 10 12 (M.argD (M.op2 addD (M.var 9) (M.ret (PyData.int 1))) (M.argD (M.ite (M.test (M.var 2)) (M.ret (PyData.int 0)) (M.op2 addD (M.var 10) (M.ret (PyData.int 1)))) (M.argD (M.ret (PyData.int 1)) (M.argN))))))
    (S.seq (S.ite (M.orT (M.test (M.op2 eqDD (M.var 10) (M.var 5))) (M.test (M.op2 eqDD (M.var 9) (M.var 6)))) (S.ret (M.tup (M.argD (M.fn none (F_ended) (M.argD (M.var 0) (M.argN))) (M.argD (M.var 12) (M.argN))))) (S.nil))
    (S.ret (M.tup (M.argD (M.tup (M.argD (M.ret cst_RECORDS) (M.argD (M.var 9) (M.argD (M.var 10) (M.argD (M.tup (M.argN)) (M.argN)))))) (M.argD (M.var 12) (M.argN)))))))))
def F_step (lvs : List LV) : FR := runF 3 13 none g_step lvs
theorem ok_step (T : Txt K mg fs fds us) : FnOk P w K mg base CX0 2 (fs 21) (fds 21) P_step (spF K none F_step) :=
  fn_pd (io := none) (k := 1) T.f_step sc_step (by decide) (fun cdv A outer s H E C hr hio => (have hu : A.units + 3 + 64 < cLine := hr.units
      (pds_cons (pd_asgT (pd_var 0) (pdg_tup rfl (pdgs_cons (pdg_nm (i := 3) (io_ne hio) sc_step.nd) (pdgs_cons (pdg_nm (i := 4) (io_ne hio) sc_step.nd) (pdgs_cons (pdg_nm (i := 5) (io_ne hio) sc_step.nd) (pdgs_cons (pdg_nm (i := 6) (io_ne hio) sc_step.nd) (pdgs_cons (pdg_nm (i := 7) (io_ne hio) sc_step.nd) (pdgs_nil))))))))
      (pds_cons (pd_asgT (pd_var 1) (pdg_tup rfl (pdgs_cons (pdg_nm (i := 8) (io_ne hio) sc_step.nd) (pdgs_cons (pdg_nm (i := 9) (io_ne hio) sc_step.nd) (pdgs_cons (pdg_nm (i := 10) (io_ne hio) sc_step.nd) (pdgs_cons (pdg_nm (i := 11) (io_ne hio) sc_step.nd) (pdgs_nil)))))))
      (pds_cons (pd_ifS (pdt_eq hu (pd_var 8) (pd_const T.c_SLEEPS T.r_SLEEPS)) (pds_one (pd_ret (pd_tup (pda_cons (pd_if (pdt_gt (pd_var 9) (pd_int)) (pd_tup (pda_cons (pd_const T.c_SLEEPS T.r_SLEEPS) (pda_cons (pd_sub (pd_var 9) (pd_int)) (pda_cons (pd_int) (pda_cons (pd_tup (pda_nil)) (pda_nil)))))) (pd_const T.c_FRESH T.r_FRESH)) (pda_cons (pd_int) (pda_nil)))))) (pds_nil))
      (pds_cons (pd_ifS (pdt_eq hu (pd_var 8) (pd_const T.c_AWAKE T.r_AWAKE)) (pds_cons (pd_set (i := 11) (io_ne hio) sc_step.nd (pd_add (pd_var 11) (pd_tup (pda_cons (pd_var 2) (pda_nil)))))
      (pds_cons (pd_ifS (pdt_w (pdw_or (pdt_lt (pd_len T.n_len (pda_cons (pd_var 11) (pda_nil))) (pd_var 3)) (pdw_or1 (pdt_not (pdt_val (pd_all rfl T.n_all (pda_cons (pd_slice (pd_var 11) (pdo_some (pd_neg (pd_var 3))) (pdo_none)) (pda_nil)))))))) (pds_one (pd_ret (pd_tup (pda_cons (pd_tup (pda_cons (pd_const T.c_AWAKE T.r_AWAKE) (pda_cons (pd_int) (pda_cons (pd_int) (pda_cons (pd_slice (pd_var 11) (pdo_some (pd_max rfl T.n_max (pda_cons (pd_int) (pda_cons (pd_add (pd_sub (pd_sub (pd_len T.n_len (pda_cons (pd_var 11) (pda_nil))) (pd_var 3)) (pd_var 4)) (pd_int)) (pda_nil))))) (pdo_none)) (pda_nil)))))) (pda_cons (pd_int) (pda_nil)))))) (pds_nil))
      (pds_one (pd_par3 (i := 9) (j := 10) (l := 12) (io_ne hio) (io_ne hio) (io_ne hio) rfl sc_step.nd (pda_cons (pd_len T.n_len (pda_cons (pd_var 11) (pda_nil))) (pda_cons (pd_int) (pda_cons (pd_len T.n_len (pda_cons (pd_var 11) (pda_nil))) (pda_nil)))))))) (pds_one (pd_par3 (i := 9) (j := 10) (l := 12) (io_ne hio) (io_ne hio) (io_ne hio) rfl sc_step.nd (pda_cons (pd_add (pd_var 9) (pd_int)) (pda_cons (pd_if (pdt_val (pd_var 2)) (pd_int) (pd_add (pd_var 10) (pd_int))) (pda_cons (pd_int) (pda_nil)))))))
      (pds_cons (pd_ifS (pdt_w (pdw_or (pdt_eq hu (pd_var 10) (pd_var 5)) (pdw_or1 (pdt_eq hu (pd_var 9) (pd_var 6))))) (pds_one (pd_ret (pd_tup (pda_cons (pd_fn (ok_ended T) (hr.mono (by omega)) T.m_ended T.f_ended.kp T.b_ended (pda_cons (pd_var 0) (pda_nil))) (pda_cons (pd_var 12) (pda_nil)))))) (pds_nil))
      (pds_one (pd_ret (pd_tup (pda_cons (pd_tup (pda_cons (pd_const T.c_RECORDS T.r_RECORDS) (pda_cons (pd_var 9) (pda_cons (pd_var 10) (pda_cons (pd_tup (pda_nil)) (pda_nil)))))) (pda_cons (pd_var 12) (pda_nil)))))))))))))
def g_after : MS := S.seq (S.drop (M.fn none (F_look_at_recorder) (M.argD (M.var 0) (M.argN))))
    (S.seq (S.drop (M.fn none (F_look_at_stand) (M.argD (M.var 0) (M.argD (M.var 1) (M.argN)))))
    (S.seq (S.drop (M.fn none (F_look_at_sound) (M.argD (M.var 2) (M.argN))))
    (S.ret (M.op2 ixD (M.fn none (F_step) (M.argD (M.var 0) (M.argD (M.var 1) (M.argD (M.var 2) (M.argN))))) (M.ret (PyData.int 0))))))
def F_after (lvs : List LV) : FR := runF 3 3 none g_after lvs
theorem ok_after (T : Txt K mg fs fds us) : FnOk P w K mg base CX0 4 (fs 22) (fds 22) P_after (spF K none F_after) :=
  fn_pd (io := none) (k := 3) T.f_after sc_after (by decide) (fun cdv A outer s H E C hr hio => (have hu : A.units + 3 + 64 < cLine := hr.units
      (pds_cons (pd_expr (pd_fn (ok_look_at_recorder T) (hr.mono (by omega)) T.m_look_at_recorder T.f_look_at_recorder.kp T.b_look_at_recorder (pda_cons (pd_var 0) (pda_nil))))
      (pds_cons (pd_expr (pd_fn (ok_look_at_stand T) (hr.mono (by omega)) T.m_look_at_stand T.f_look_at_stand.kp T.b_look_at_stand (pda_cons (pd_var 0) (pda_cons (pd_var 1) (pda_nil)))))
      (pds_cons (pd_expr (pd_fn (ok_look_at_sound T) (hr.mono (by omega)) T.m_look_at_sound T.f_look_at_sound.kp T.b_look_at_sound (pda_cons (pd_var 2) (pda_nil))))
      (pds_one (pd_ret (pd_sub_ (pd_fn (ok_step T) (hr.mono (by omega)) T.m_step T.f_step.kp T.b_step (pda_cons (pd_var 0) (pda_cons (pd_var 1) (pda_cons (pd_var 2) (pda_nil))))) (pd_int) (fun _ _ => rfl)))))))))
def g_f_law_spring : MS := S.seq (S.asg 2 (M.ret (PyData.int 7)))
    (S.seq (S.ite (M.test (M.op2 ltD (M.var 1) (M.call lenD (M.argD (M.var 0) (M.argN))))) (S.asg 2 (M.call absD (M.argD (M.op2 ixD (M.var 0) (M.var 1)) (M.argN)))) (S.nil))
    (S.seq (S.asg 3 (M.op2 modD (M.call intD (M.argD (M.op2 addD (M.op2 addD (M.op2 mulD (M.var 2) (M.ret (PyData.int 863))) (M.op2 mulD (M.ret (PyData.int 524287)) (M.var 1))) (M.ret (PyData.int 1))) (M.argN))) (M.ret (PyData.int 999999999989))))
    (S.retL (M.lst (M.argD (M.ite (M.test (M.op2 geD (M.var 2) (M.op2 powD (M.ret (PyData.int 10)) (M.ret (PyData.int 18))))) (M.var 2) (M.ret (PyData.int 0))) (M.argD (M.var 3) (M.argN)))))))
def F_f_law_spring (lvs : List LV) : FR := runF 2 4 none g_f_law_spring lvs
theorem ok_f_law_spring (T : Txt K mg fs fds us) : FnOk P w K mg base CX0 1 (fs 24) (fds 24) P_f_law_spring (spF K none F_f_law_spring) :=
  fn_pd (io := none) (k := 0) T.f_f_law_spring sc_f_law_spring (by decide) (fun cdv A outer s H E C hr hio => (have hu : A.units + 3 + 64 < cLine := hr.units
      (pds_cons (pd_set (i := 2) (io_ne hio) sc_f_law_spring.nd (pd_int))
      (pds_cons (pd_ifS (pdt_lt (pd_var 1) (pd_len T.n_len (pda_cons (pd_var 0) (pda_nil)))) (pds_one (pd_set (i := 2) (io_ne hio) sc_f_law_spring.nd (pd_abs T.n_abs (pda_cons (pd_sub_ (pd_var 0) (pd_var 1) (fun _ _ => rfl)) (pda_nil))))) (pds_nil))
      (pds_cons (pd_set (i := 3) (io_ne hio) sc_f_law_spring.nd (pd_mod (pd_int1 T.n_int (pda_cons (pd_add (pd_add (pd_mul (pd_var 2) (pd_int)) (pd_mul (pd_int) (pd_var 1))) (pd_int)) (pda_nil))) (pd_int)))
      (pds_one (pd_retL (pdl_lst (pda_cons (pd_if (pdt_ge (pd_var 2) (pd_pow (pd_int) (pd_int))) (pd_var 2) (pd_int)) (pda_cons (pd_var 3) (pda_nil)))))))))))
def g_f_law_pick : MS := S.seq (S.ite (M.test (M.op2 gtD (M.subO 0 (M.ret (PyData.int 0))) (M.ret (PyData.int 0)))) (S.seq (S.asg 2 (M.op2 modD (M.call intD (M.argD (M.subO 0 (M.ret (PyData.int 0))) (M.argN))) (M.var 1)))
    (S.seq (S.setIx 0 (M.op2 fdivD (M.subO 0 (M.ret (PyData.int 0))) (M.var 1)) (M.ret (PyData.int 0)))
    (S.ret (M.var 2)))) (S.nil))
    (S.seq (S.setIx 0 (M.op2 modD (M.call intD (M.argD (M.op2 addD (M.op2 mulD (M.subO 0 (M.ret (PyData.int 1))) (M.ret (PyData.int 393555900739))) (M.ret (PyData.int 8191))) (M.argN))) (M.ret (PyData.int 999999999989))) (M.ret (PyData.int 1)))
    (S.ret (M.op2 modD (M.call intD (M.argD (M.op2 fdivD (M.subO 0 (M.ret (PyData.int 1))) (M.ret (PyData.int 4093))) (M.argN))) (M.var 1))))
def F_f_law_pick (lvs : List LV) : FR := runF 2 3 (some 0) g_f_law_pick lvs
theorem ok_f_law_pick (T : Txt K mg fs fds us) : FnOk P w K mg base CX0 1 (fs 25) (fds 25) P_f_law_pick (spF K (some 0) F_f_law_pick) :=
  fn_pd (io := (some 0)) (k := 0) T.f_f_law_pick sc_f_law_pick (by decide) (fun cdv A outer s H E C hr hio => (have hu : A.units + 3 + 64 < cLine := hr.units
      (pds_cons (pd_ifS (pdt_gt (pd_subO 0 (pd_int) (fun _ _ => rfl)) (pd_int)) (pds_cons (pd_set (i := 2) (io_ne hio) sc_f_law_pick.nd (pd_mod (pd_int1 T.n_int (pda_cons (pd_subO 0 (pd_int) (fun _ _ => rfl)) (pda_nil))) (pd_var 1)))
      (pds_cons (pd_setIx 0 (pd_fdiv (pd_subO 0 (pd_int) (fun _ _ => rfl)) (pd_var 1)) (pd_int))
      (pds_one (pd_ret (pd_var 2))))) (pds_nil))
      (pds_cons (pd_setIx 0 (pd_mod (pd_int1 T.n_int (pda_cons (pd_add (pd_mul (pd_subO 0 (pd_int) (fun _ _ => rfl)) (pd_int)) (pd_int)) (pda_nil))) (pd_int)) (pd_int))
      (pds_one (pd_ret (pd_mod (pd_int1 T.n_int (pda_cons (pd_fdiv (pd_subO 0 (pd_int) (fun _ _ => rfl)) (pd_int)) (pda_nil))) (pd_var 1))))))))
def g_f_law_kind : MS := S.seq (S.ite (M.orT (M.test (M.op2 isND (M.var 0) (M.ret PyData.none))) (M.test (M.op1 (isD tBool) (M.var 0)))) (S.ret (M.ite (M.test (M.op2 isND (M.var 0) (M.ret PyData.none))) (M.ret (PyData.int 0)) (M.ret (PyData.int 1)))) (S.nil))
    (S.seq (S.ite (M.test (M.op1 (isD tSeq) (M.var 0))) (S.ret (M.ite (M.test (M.op1 (isD tList) (M.var 0))) (M.ret (PyData.int 2)) (M.ret (PyData.int 3)))) (S.nil))
    (S.ret (M.ite (M.test (M.op1 (isD tInt) (M.var 0))) (M.ret (PyData.int 4)) (M.ite (M.test (M.op1 (isD tStr) (M.var 0))) (M.ret (PyData.int 5)) (M.ret (PyData.int 6))))))
def F_f_law_kind (lvs : List LV) : FR := runF 1 1 none g_f_law_kind lvs
theorem ok_f_law_kind (T : Txt K mg fs fds us) : FnOk P w K mg base CX0 1 (fs 26) (fds 26) P_f_law_kind (spF K none F_f_law_kind) :=
  fn_pd (io := none) (k := 0) T.f_f_law_kind sc_f_law_kind (by decide) (fun cdv A outer s H E C hr hio => (have hu : A.units + 3 + 64 < cLine := hr.units
      (pds_cons (pd_ifS (pdt_w (pdw_or (pdt_is (pd_var 0) (pd_non)) (pdw_or1 (pdt_val (pd_isi k_bool T.n_isinstance T.n_bool (by decide +kernel) (pd_var 0)))))) (pds_one (pd_ret (pd_if (pdt_is (pd_var 0) (pd_non)) (pd_int) (pd_int)))) (pds_nil))
      (pds_cons (pd_ifS (pdt_val (pd_isiLT T.n_isinstance T.n_list T.n_tuple (pd_var 0))) (pds_one (pd_ret (pd_if (pdt_val (pd_isi k_list T.n_isinstance T.n_list (by decide +kernel) (pd_var 0))) (pd_int) (pd_int)))) (pds_nil))
      (pds_one (pd_ret (pd_if (pdt_val (pd_isi k_int T.n_isinstance T.n_int (by decide +kernel) (pd_var 0))) (pd_int) (pd_if (pdt_val (pd_isi k_str T.n_isinstance T.n_str (by decide +kernel) (pd_var 0))) (pd_int) (pd_int)))))))))
def E_f_law_twins_1 (self_ : List LV → FR) : M D := M.ret (PyData.int 1)
def T_f_law_twins_1 (self_ : List LV → FR) : M Bool := M.notT (M.test (M.fn none self_ (M.argD (M.var 2) (M.argD (M.var 3) (M.argN)))))
def g_f_law_twins (self_ : List LV → FR) : MS := S.seq (S.ite (M.test (M.op2 neDD (M.fn none (F_f_law_kind) (M.argD (M.var 0) (M.argN))) (M.fn none (F_f_law_kind) (M.argD (M.var 1) (M.argN))))) (S.ret (M.ret (PyData.bool false))) (S.nil))
    (S.seq (S.ite (M.test (M.op2 inDD (M.fn none (F_f_law_kind) (M.argD (M.var 0) (M.argN))) (M.known (M.lst (M.argD (M.ret (PyData.int 2)) (M.argD (M.ret (PyData.int 3)) (M.argN))))))) (S.ret (M.andV (M.op2 eqDD (M.call lenD (M.argD (M.var 0) (M.argN))) (M.call lenD (M.argD (M.var 1) (M.argN)))) (M.op2 eqDD (M.known (M.lc (M.callL zipD (M.argD (M.var 0) (M.argD (M.var 1) (M.argN)))) [2, 3] (G.tup 2 (G.cons (G.nm 2) (G.cons (G.nm 3) (G.nil)))) ((T_f_law_twins_1 self_)) ((E_f_law_twins_1 self_)))) (M.known (M.lst (M.argN)))))) (S.nil))
    (S.ret (M.op2 eqDD (M.var 0) (M.var 1))))
def F_f_law_twins : Nat → List LV → FR
  | 0, _ => .bad
  | n + 1, lvs => runF 2 4 none (g_f_law_twins (F_f_law_twins n)) lvs
theorem ok_f_law_twins (T : Txt K mg fs fds us) : ∀ (n : Nat), FnOk P w K mg base CX0 (1 + n) (fs 27) (fds 27) P_f_law_twins (spF K none (F_f_law_twins n))
  | 0 => ⟨fun vs H Q E h => by obtain ⟨_, _, _, _, h⟩ := h; exact h.elim, fun _ _ _ _ _ _ _ _ _ _ _ _ _ h => by obtain ⟨_, _, _, _, h⟩ := h; exact h.elim⟩
  | n + 1 => by
    have Gself := ok_f_law_twins T n
    have hself : 1 + n ≤ 1 + n := Nat.le_refl _
    exact fn_pd (io := none) (k := 1 + n) T.f_f_law_twins sc_f_law_twins (by decide) (fun cdv A outer s H E C hr hio => (have hu : A.units + 3 + 64 < cLine := hr.units
      (pds_cons (pd_ifS (pdt_ne hu (pd_fn (ok_f_law_kind T) (hr.mono (by omega)) T.m_f_law_kind T.f_f_law_kind.kp T.b_f_law_kind (pda_cons (pd_var 0) (pda_nil))) (pd_fn (ok_f_law_kind T) (hr.mono (by omega)) T.m_f_law_kind T.f_f_law_kind.kp T.b_f_law_kind (pda_cons (pd_var 1) (pda_nil)))) (pds_one (pd_ret (pd_bl))) (pds_nil))
      (pds_cons (pd_ifS (pdt_in (by rfl) (pd_fn (ok_f_law_kind T) (hr.mono (by omega)) T.m_f_law_kind T.f_f_law_kind.kp T.b_f_law_kind (pda_cons (pd_var 0) (pda_nil))) (pd_l (pdl_lst (pda_cons (pd_int) (pda_cons (pd_int) (pda_nil)))))) (pds_one (pd_ret (pd_and (pd_eq hu (pd_len T.n_len (pda_cons (pd_var 0) (pda_nil))) (pd_len T.n_len (pda_cons (pd_var 1) (pda_nil)))) (pd_one (pd_eq hu (pd_l (pdl_lc (own := [(("a" : Str), 2), (("b" : Str), 3)]) (io_nin hio) (by decide) rfl sc_f_law_twins.nd (blkOk_by (N := N_f_law_twins) (sc := defScope s_f_law_twins) (by decide +kernel)) (pdi_zip T.n_zip (pda_cons (pd_var 0) (pda_cons (pd_var 1) (pda_nil)))) (fun _ hc1 _ _ _ _ _ => pdg_tup rfl (pdgs_cons (pdg_nm (i := 2) (io_ne (io_eq hio hc1)) sc_f_law_twins.nd) (pdgs_cons (pdg_nm (i := 3) (io_ne (io_eq hio hc1)) sc_f_law_twins.nd) (pdgs_nil)))) (fun _ hc1 _ _ _ _ _ => pdts_one (pdt_not (pdt_val (pd_fn Gself (hr.mono hself) T.m_f_law_twins T.f_f_law_twins.kp T.b_f_law_twins (pda_cons (pd_var 2) (pda_cons (pd_var 3) (pda_nil))))))) (fun _ hc1 _ _ _ _ _ => pd_int))) (pd_l (pdl_lst (pda_nil)))))))) (pds_nil))
      (pds_one (pd_ret (pd_eq hu (pd_var 0) (pd_var 1))))))))
def g_f_law_recorder : MS := S.seq (S.par2 1 2 (M.argD (M.op2 addD (M.ret (PyData.int 1)) (M.fn (some 0) (F_f_law_pick) (M.argS 0 (M.argD (M.ret (PyData.int 3)) (M.argN))))) (M.argD (M.fn (some 0) (F_f_law_pick) (M.argS 0 (M.argD (M.ret (PyData.int 4)) (M.argN)))) (M.argN))))
    (S.seq (S.asg 3 (M.op2 addD (M.op2 addD (M.var 1) (M.var 2)) (M.fn (some 0) (F_f_law_pick) (M.argS 0 (M.argD (M.op2 subD (M.op2 subD (M.ret (PyData.int 11)) (M.var 1)) (M.var 2)) (M.argN))))))
    (S.ret (M.tup (M.argD (M.var 1) (M.argD (M.var 2) (M.argD (M.op2 addD (M.ret (PyData.int 1)) (M.fn (some 0) (F_f_law_pick) (M.argS 0 (M.argD (M.ret (PyData.int 3)) (M.argN))))) (M.argD (M.var 3) (M.argD (M.op2 ixD (M.known (M.lst (M.argD (M.ret (PyData.int 0)) (M.argD (M.ret (PyData.int 1)) (M.argD (M.ret (PyData.int 1)) (M.argD (M.ret (PyData.int 2)) (M.argD (M.ret (PyData.int 3)) (M.argN)))))))) (M.fn (some 0) (F_f_law_pick) (M.argS 0 (M.argD (M.ret (PyData.int 5)) (M.argN))))) (M.argN)))))))))
def F_f_law_recorder (lvs : List LV) : FR := runF 1 4 (some 0) g_f_law_recorder lvs
theorem ok_f_law_recorder (T : Txt K mg fs fds us) : FnOk P w K mg base CX0 2 (fs 28) (fds 28) P_f_law_recorder (spF K (some 0) F_f_law_recorder) :=
  fn_pd (io := (some 0)) (k := 1) T.f_f_law_recorder sc_f_law_recorder (by decide) (fun cdv A outer s H E C hr hio => (have hu : A.units + 3 + 64 < cLine := hr.units
      (pds_cons (pd_par2 (i := 1) (j := 2) (io_ne hio) (io_ne hio) rfl sc_f_law_recorder.nd (pda_cons (pd_add (pd_int) (pd_fn (ok_f_law_pick T) (hr.mono (by omega)) T.m_f_law_pick T.f_f_law_pick.kp T.b_f_law_pick (pda_slot 0 (pda_cons (pd_int) (pda_nil))))) (pda_cons (pd_fn (ok_f_law_pick T) (hr.mono (by omega)) T.m_f_law_pick T.f_f_law_pick.kp T.b_f_law_pick (pda_slot 0 (pda_cons (pd_int) (pda_nil)))) (pda_nil))))
      (pds_cons (pd_set (i := 3) (io_ne hio) sc_f_law_recorder.nd (pd_add (pd_add (pd_var 1) (pd_var 2)) (pd_fn (ok_f_law_pick T) (hr.mono (by omega)) T.m_f_law_pick T.f_f_law_pick.kp T.b_f_law_pick (pda_slot 0 (pda_cons (pd_sub (pd_sub (pd_int) (pd_var 1)) (pd_var 2)) (pda_nil))))))
      (pds_one (pd_ret (pd_tup (pda_cons (pd_var 1) (pda_cons (pd_var 2) (pda_cons (pd_add (pd_int) (pd_fn (ok_f_law_pick T) (hr.mono (by omega)) T.m_f_law_pick T.f_f_law_pick.kp T.b_f_law_pick (pda_slot 0 (pda_cons (pd_int) (pda_nil))))) (pda_cons (pd_var 3) (pda_cons (pd_sub_ (pd_l (pdl_lst (pda_cons (pd_int) (pda_cons (pd_int) (pda_cons (pd_int) (pda_cons (pd_int) (pda_cons (pd_int) (pda_nil)))))))) (pd_fn (ok_f_law_pick T) (hr.mono (by omega)) T.m_f_law_pick T.f_f_law_pick.kp T.b_f_law_pick (pda_slot 0 (pda_cons (pd_int) (pda_nil)))) (fun _ _ => rfl)) (pda_nil)))))))))))))
def W_f_law_tick_1 : M Bool := M.test (M.op2 geD (M.call lenD (M.argD (M.var 11) (M.argN))) (M.op2 addD (M.var 3) (M.var 4)))
def B_f_law_tick_1 : MS := S.asg 11 (M.slice (M.var 11) (M.part (M.ret (PyData.int 1))) (M.ret none))
def g_f_law_tick : MS := S.seq (S.asgT (G.tup 5 (G.cons (G.nm 3) (G.cons (G.nm 4) (G.cons (G.nm 5) (G.cons (G.nm 6) (G.cons (G.nm 7) (G.nil))))))) (M.var 0))
    (S.seq (S.asgT (G.tup 4 (G.cons (G.nm 8) (G.cons (G.nm 9) (G.cons (G.nm 10) (G.cons (G.nm 11) (G.nil)))))) (M.var 1))
    (S.seq (S.asg 12 (M.ite (M.test (M.op2 gtD (M.var 7) (M.ret (PyData.int 0)))) (M.tup (M.argD (M.ret (PyData.str ("sleeps" : Str))) (M.argD (M.var 7) (M.argD (M.ret (PyData.int 0)) (M.argD (M.tup (M.argN)) (M.argN)))))) (M.tup (M.argD (M.ret (PyData.str ("awake" : Str))) (M.argD (M.ret (PyData.int 0)) (M.argD (M.ret (PyData.int 0)) (M.argD (M.tup (M.argN)) (M.argN))))))))
    (S.seq (S.ite (M.test (M.op2 eqDD (M.var 8) (M.ret (PyData.str ("sleeps" : Str))))) (S.ret (M.tup (M.argD (M.ite (M.test (M.op2 neDD (M.var 9) (M.ret (PyData.int 1)))) (M.tup (M.argD (M.ret (PyData.str ("sleeps" : Str))) (M.argD (M.op2 subD (M.var 9) (M.ret (PyData.int 1))) (M.argD (M.ret (PyData.int 0)) (M.argD (M.tup (M.argN)) (M.argN)))))) (M.tup (M.argD (M.ret (PyData.str ("awake" : Str))) (M.argD (M.ret (PyData.int 0)) (M.argD (M.ret (PyData.int 0)) (M.argD (M.tup (M.argN)) (M.argN))))))) (M.argD (M.ret (PyData.int 0)) (M.argN))))) (S.nil))
    (S.seq (S.asg 13 (M.ret (PyData.int 1)))
    (S.seq (S.ite (M.test (M.op2 eqDD (M.var 8) (M.ret (PyData.str ("awake" : Str))))) (S.seq (S.asg 11 (M.op2 addD (M.var 11) (M.tup (M.argD (M.var 2) (M.argN)))))
    (S.seq (S.ite (M.test (M.op2 neDD (M.slice (M.var 11) (M.part (M.op1 negD (M.var 3))) (M.ret none)) (M.op2 repTD (M.tup (M.argD (M.ret (PyData.bool true)) (M.argN))) (M.var 3)))) (S.seq (S.while_ (W_f_law_tick_1) (B_f_law_tick_1))
    (S.ret (M.tup (M.argD (M.tup (M.argD (M.ret (PyData.str ("awake" : Str))) (M.argD (M.ret (PyData.int 0)) (M.argD (M.ret (PyData.int 0)) (M.argD (M.var 11) (M.argN)))))) (M.argD (M.ret (PyData.int 0)) (M.argN)))))) (S.nil))
    (S.seq (S.asg 13 (M.call lenD (M.argD (M.var 11) (M.argN))))
    (S.par2 9 10 (M.argD (M.var 13) (M.argD (M.ret (PyData.int 0)) (M.argN))))))) (S.ite (M.test (M.var 2)) (S.par2 9 10 (M.argD (M.op2 addD (M.var 9) (M.ret (PyData.int 1))) (M.argD (M.ret (PyData.int 0)) (M.argN)))) (S.par2 9 10 (M.argD (M.op2 addD (M.var 9) (M.ret (PyData.int 1))) (M.argD (M.op2 addD (M.var 10) (M.ret (PyData.int 1))) (M.argN))))))
    (S.ret (M.tup (M.argD (M.ite (M.orT (M.test (M.op2 geD (M.var 9) (M.var 6))) (M.test (M.op2 geD (M.var 10) (M.var 5)))) (M.var 12) (M.tup (M.argD (M.ret (PyData.str ("records" : Str))) (M.argD (M.var 9) (M.argD (M.var 10) (M.argD (M.tup (M.argN)) (M.argN))))))) (M.argD (M.var 13) (M.argN))))))))))
def F_f_law_tick (lvs : List LV) : FR := runF 3 14 none g_f_law_tick lvs
theorem ok_f_law_tick (T : Txt K mg fs fds us) : FnOk P w K mg base CX0 1 (fs 30) (fds 30) P_f_law_tick (spF K none F_f_law_tick) :=
  fn_pd (io := none) (k := 0) T.f_f_law_tick sc_f_law_tick (by decide) (fun cdv A outer s H E C hr hio => (have hu : A.units + 3 + 64 < cLine := hr.units
      (pds_cons (pd_asgT (pd_var 0) (pdg_tup rfl (pdgs_cons (pdg_nm (i := 3) (io_ne hio) sc_f_law_tick.nd) (pdgs_cons (pdg_nm (i := 4) (io_ne hio) sc_f_law_tick.nd) (pdgs_cons (pdg_nm (i := 5) (io_ne hio) sc_f_law_tick.nd) (pdgs_cons (pdg_nm (i := 6) (io_ne hio) sc_f_law_tick.nd) (pdgs_cons (pdg_nm (i := 7) (io_ne hio) sc_f_law_tick.nd) (pdgs_nil))))))))
      (pds_cons (pd_asgT (pd_var 1) (pdg_tup rfl (pdgs_cons (pdg_nm (i := 8) (io_ne hio) sc_f_law_tick.nd) (pdgs_cons (pdg_nm (i := 9) (io_ne hio) sc_f_law_tick.nd) (pdgs_cons (pdg_nm (i := 10) (io_ne hio) sc_f_law_tick.nd) (pdgs_cons (pdg_nm (i := 11) (io_ne hio) sc_f_law_tick.nd) (pdgs_nil)))))))
      (pds_cons (pd_set (i := 12) (io_ne hio) sc_f_law_tick.nd (pd_if (pdt_gt (pd_var 7) (pd_int)) (pd_tup (pda_cons (pd_str) (pda_cons (pd_var 7) (pda_cons (pd_int) (pda_cons (pd_tup (pda_nil)) (pda_nil)))))) (pd_tup (pda_cons (pd_str) (pda_cons (pd_int) (pda_cons (pd_int) (pda_cons (pd_tup (pda_nil)) (pda_nil))))))))
      (pds_cons (pd_ifS (pdt_eq hu (pd_var 8) (pd_str)) (pds_one (pd_ret (pd_tup (pda_cons (pd_if (pdt_ne hu (pd_var 9) (pd_int)) (pd_tup (pda_cons (pd_str) (pda_cons (pd_sub (pd_var 9) (pd_int)) (pda_cons (pd_int) (pda_cons (pd_tup (pda_nil)) (pda_nil)))))) (pd_tup (pda_cons (pd_str) (pda_cons (pd_int) (pda_cons (pd_int) (pda_cons (pd_tup (pda_nil)) (pda_nil))))))) (pda_cons (pd_int) (pda_nil)))))) (pds_nil))
      (pds_cons (pd_set (i := 13) (io_ne hio) sc_f_law_tick.nd (pd_int))
      (pds_cons (pd_ifS (pdt_eq hu (pd_var 8) (pd_str)) (pds_cons (pd_set (i := 11) (io_ne hio) sc_f_law_tick.nd (pd_add (pd_var 11) (pd_tup (pda_cons (pd_var 2) (pda_nil)))))
      (pds_cons (pd_ifS (pdt_ne hu (pd_slice (pd_var 11) (pdo_some (pd_neg (pd_var 3))) (pdo_none)) (pd_mulT (pd_tup (pda_cons (pd_bl) (pda_nil))) (pd_var 3))) (pds_cons (pd_while PassesOwn.never (pdt_ge (pd_len T.n_len (pda_cons (pd_var 11) (pda_nil))) (pd_add (pd_var 3) (pd_var 4))) (pds_one (pd_set (i := 11) (io_ne hio) sc_f_law_tick.nd (pd_slice (pd_var 11) (pdo_some (pd_int)) (pdo_none)))))
      (pds_one (pd_ret (pd_tup (pda_cons (pd_tup (pda_cons (pd_str) (pda_cons (pd_int) (pda_cons (pd_int) (pda_cons (pd_var 11) (pda_nil)))))) (pda_cons (pd_int) (pda_nil))))))) (pds_nil))
      (pds_cons (pd_set (i := 13) (io_ne hio) sc_f_law_tick.nd (pd_len T.n_len (pda_cons (pd_var 11) (pda_nil))))
      (pds_one (pd_par2 (i := 9) (j := 10) (io_ne hio) (io_ne hio) rfl sc_f_law_tick.nd (pda_cons (pd_var 13) (pda_cons (pd_int) (pda_nil)))))))) (pds_one (pd_ifS (pdt_val (pd_var 2)) (pds_one (pd_par2 (i := 9) (j := 10) (io_ne hio) (io_ne hio) rfl sc_f_law_tick.nd (pda_cons (pd_add (pd_var 9) (pd_int)) (pda_cons (pd_int) (pda_nil))))) (pds_one (pd_par2 (i := 9) (j := 10) (io_ne hio) (io_ne hio) rfl sc_f_law_tick.nd (pda_cons (pd_add (pd_var 9) (pd_int)) (pda_cons (pd_add (pd_var 10) (pd_int)) (pda_nil))))))))
      (pds_one (pd_ret (pd_tup (pda_cons (pd_if (pdt_w (pdw_or (pdt_ge (pd_var 9) (pd_var 6)) (pdw_or1 (pdt_ge (pd_var 10) (pd_var 5))))) (pd_var 12) (pd_tup (pda_cons (pd_str) (pda_cons (pd_var 9) (pda_cons (pd_var 10) (pda_cons (pd_tup (pda_nil)) (pda_nil))))))) (pda_cons (pd_var 13) (pda_nil))))))))))))))
def E_f_law_stands_2 : M D := M.op2 gtD (M.fn (some 0) (F_f_law_pick) (M.argS 1 (M.argD (M.ret (PyData.int 3)) (M.argN)))) (M.ret (PyData.int 0))
def B_f_law_stands_1 : MS := S.seq (S.asg 10 (M.call tupleD (M.argD (M.known (M.lc (M.callL range1D (M.argD (M.fn (some 0) (F_f_law_pick) (M.argS 1 (M.argD (M.op2 addD (M.var 2) (M.var 3)) (M.argN)))) (M.argN))) [12] (G.nm 12) (M.ret true) (E_f_law_stands_2))) (M.argN))))
    (S.ite (M.test (M.op2 neDD (M.slice (M.var 10) (M.part (M.op1 negD (M.var 2))) (M.ret none)) (M.op2 repTD (M.tup (M.argD (M.ret (PyData.bool true)) (M.argN))) (M.var 2)))) (S.app 7 (M.tup (M.argD (M.ret (PyData.str ("awake" : Str))) (M.argD (M.ret (PyData.int 0)) (M.argD (M.ret (PyData.int 0)) (M.argD (M.var 10) (M.argN))))))) (S.nil))
def E_f_law_stands_4 : M D := M.tup (M.argD (M.ret (PyData.str ("records" : Str))) (M.argD (M.var 8) (M.argD (M.var 11) (M.argD (M.tup (M.argN)) (M.argN)))))
def B_f_law_stands_3 : MS := S.own 7 (M.catL (M.frz 7 (M.var 7)) (M.known (M.lc (M.callL range1D (M.argD (M.call minD (M.argD (M.var 4) (M.argD (M.var 8) (M.argN)))) (M.argN))) [11] (G.nm 11) (M.ret true) (E_f_law_stands_4))))
def E_f_law_stands_5 : M D := M.tup (M.argD (M.ret (PyData.str ("sleeps" : Str))) (M.argD (M.var 8) (M.argD (M.ret (PyData.int 0)) (M.argD (M.tup (M.argN)) (M.argN)))))
def g_f_law_stands : MS := S.seq (S.asgT (G.tup 5 (G.cons (G.nm 2) (G.cons (G.nm 3) (G.cons (G.nm 4) (G.cons (G.nm 5) (G.cons (G.nm 6) (G.nil))))))) (M.var 0))
    (S.seq (S.own 7 (M.lc (M.callL range2D (M.argD (M.ret (PyData.int 1)) (M.argD (M.op2 addD (M.var 6) (M.ret (PyData.int 1))) (M.argN)))) [8] (G.nm 8) (M.ret true) (E_f_law_stands_5)))
    (S.seq (S.for_ (M.callL range2D (M.argD (M.ret (PyData.int 1)) (M.argD (M.var 5) (M.argN)))) (G.nm 8) (B_f_law_stands_3))
    (S.seq (S.for_ (M.callL range1D (M.argD (M.ret (PyData.int 12)) (M.argN))) (G.nm 9) (B_f_law_stands_1))
    (S.retO 7))))
def F_f_law_stands (lvs : List LV) : FR := runF 2 13 (some 1) g_f_law_stands lvs
theorem ok_f_law_stands (T : Txt K mg fs fds us) : FnOk P w K mg base CX0 2 (fs 33) (fds 33) P_f_law_stands (spF K (some 1) F_f_law_stands) :=
  fn_pd (io := (some 1)) (k := 1) T.f_f_law_stands sc_f_law_stands (by decide) (fun cdv A outer s H E C hr hio => (have hu : A.units + 3 + 64 < cLine := hr.units
      (pds_cons (pd_asgT (pd_var 0) (pdg_tup rfl (pdgs_cons (pdg_nm (i := 2) (io_ne hio) sc_f_law_stands.nd) (pdgs_cons (pdg_nm (i := 3) (io_ne hio) sc_f_law_stands.nd) (pdgs_cons (pdg_nm (i := 4) (io_ne hio) sc_f_law_stands.nd) (pdgs_cons (pdg_nm (i := 5) (io_ne hio) sc_f_law_stands.nd) (pdgs_cons (pdg_nm (i := 6) (io_ne hio) sc_f_law_stands.nd) (pdgs_nil))))))))
      (pds_cons (pd_setLc (i := 7) (io_ne hio) (own := [(("count" : Str), 8)]) (io_nin hio) (by decide) rfl sc_f_law_stands.nd (blkOk_by (N := N_f_law_stands) (sc := defScope s_f_law_stands) (by decide +kernel)) (pdi_range2 T.n_range (pda_cons (pd_int) (pda_cons (pd_add (pd_var 6) (pd_int)) (pda_nil)))) (fun _ hc3 _ _ _ _ _ => pdg_nm (i := 8) (io_ne (io_eq hio hc3)) sc_f_law_stands.nd) (fun _ hc3 _ _ _ _ _ => pdts_nil) (fun _ hc3 _ _ _ _ _ => pd_tup (pda_cons (pd_str) (pda_cons (pd_var 8) (pda_cons (pd_int) (pda_cons (pd_tup (pda_nil)) (pda_nil)))))) (sw_true rfl rfl rfl (by decide +kernel)))
      (pds_cons (pd_for PassesOwn.never rfl (pdi_range2 T.n_range (pda_cons (pd_int) (pda_cons (pd_var 5) (pda_nil)))) (pdg_nm (i := 8) (io_ne hio) sc_f_law_stands.nd) (pds_one (pd_own (i := 7) (io_ne hio) sc_f_law_stands.nd (pdl_cat (pd_frz 7 (io_ne hio) (pd_var 7)) (pd_l (pdl_lc (own := [(("quiet" : Str), 11)]) (io_nin hio) (by decide) rfl sc_f_law_stands.nd (blkOk_by (N := N_f_law_stands) (sc := defScope s_f_law_stands) (by decide +kernel)) (pdi_range1 T.n_range (pda_cons (pd_min rfl T.n_min (pda_cons (pd_var 4) (pda_cons (pd_var 8) (pda_nil)))) (pda_nil))) (fun _ hc2 _ _ _ _ _ => pdg_nm (i := 11) (io_ne (io_eq hio hc2)) sc_f_law_stands.nd) (fun _ hc2 _ _ _ _ _ => pdts_nil) (fun _ hc2 _ _ _ _ _ => pd_tup (pda_cons (pd_str) (pda_cons (pd_var 8) (pda_cons (pd_var 11) (pda_cons (pd_tup (pda_nil)) (pda_nil))))))))))))
      (pds_cons (pd_for PassesOwn.never rfl (pdi_range1 T.n_range (pda_cons (pd_int) (pda_nil))) (pdg_nm (i := 9) (io_ne hio) sc_f_law_stands.nd) (pds_cons (pd_set (i := 10) (io_ne hio) sc_f_law_stands.nd (pd_tuple1 T.n_tuple (pda_cons (pd_l (pdl_lc (own := [(("tick" : Str), 12)]) (io_nin hio) (by decide) rfl sc_f_law_stands.nd (blkOk_by (N := N_f_law_stands) (sc := defScope s_f_law_stands) (by decide +kernel)) (pdi_range1 T.n_range (pda_cons (pd_fn (ok_f_law_pick T) (hr.mono (by omega)) T.m_f_law_pick T.f_f_law_pick.kp T.b_f_law_pick (pda_slot 1 (pda_cons (pd_add (pd_var 2) (pd_var 3)) (pda_nil)))) (pda_nil))) (fun _ hc1 _ _ _ _ _ => pdg_nm (i := 12) (io_ne (io_eq hio hc1)) sc_f_law_stands.nd) (fun _ hc1 _ _ _ _ _ => pdts_nil) (fun _ hc1 _ _ _ _ _ => pd_gt (pd_fn (ok_f_law_pick T) (hr.mono (by omega)) T.m_f_law_pick T.f_f_law_pick.kp T.b_f_law_pick (pda_slot 1 (pda_cons (pd_int) (pda_nil)))) (pd_int)))) (pda_nil))))
      (pds_one (pd_ifS (pdt_ne hu (pd_slice (pd_var 10) (pdo_some (pd_neg (pd_var 2))) (pdo_none)) (pd_mulT (pd_tup (pda_cons (pd_bl) (pda_nil))) (pd_var 2))) (pds_one (pd_app 7 (pd_tup (pda_cons (pd_str) (pda_cons (pd_int) (pda_cons (pd_int) (pda_cons (pd_var 10) (pda_nil)))))))) (pds_nil)))))
      (pds_one (pd_retO 7 (io_ne hio)))))))))
def B_law_3 : MS := S.ite (M.notT (M.test (M.fn none (F_f_law_twins 8) (M.argD (M.fn none (F_after) (M.argD (M.var 3) (M.argD (M.var 4) (M.argD (M.var 5) (M.argN))))) (M.argD (M.op2 ixD (M.fn none (F_f_law_tick) (M.argD (M.var 3) (M.argD (M.var 4) (M.argD (M.var 5) (M.argN))))) (M.ret (PyData.int 0))) (M.argN)))))) (S.ret (M.ret (PyData.bool false))) (S.nil)
def B_law_2 : MS := S.seq (S.ite (M.notT (M.test (M.fn none (F_is_stand) (M.argD (M.var 3) (M.argD (M.var 4) (M.argN)))))) (S.ret (M.ret (PyData.bool false))) (S.nil))
    (S.for_ (M.items (M.known (M.lst (M.argD (M.ret (PyData.bool false)) (M.argD (M.ret (PyData.bool true)) (M.argN)))))) (G.nm 5) (B_law_3))
def B_law_1 : MS := S.seq (S.own 2 (M.fnL none (F_f_law_spring) (M.argD (M.var 0) (M.argD (M.var 1) (M.argN)))))
    (S.seq (S.asg 3 (M.fn (some 0) (F_f_law_recorder) (M.argS 2 (M.argN))))
    (S.for_ (M.items (M.fn (some 1) (F_f_law_stands) (M.argD (M.var 3) (M.argS 2 (M.argN))))) (G.nm 4) (B_law_2)))
def g_law : MS := S.seq (S.for_ (M.callL range1D (M.argD (M.op2 addD (M.call minD (M.argD (M.call lenD (M.argD (M.var 0) (M.argN))) (M.argD (M.ret (PyData.int 8)) (M.argN)))) (M.ret (PyData.int 1))) (M.argN))) (G.nm 1) (B_law_1))
    (S.ret (M.ret (PyData.bool true)))
def F_law (lvs : List LV) : FR := runF 1 6 none g_law lvs
theorem ok_law (T : Txt K mg fs fds us) : FnOk P w K mg base CX0 10 (fs 34) (fds 34) P_law (spF K none F_law) :=
  fn_pd (io := none) (k := 9) T.f_law sc_law (by decide) (fun cdv A outer s H E C hr hio => (have hu : A.units + 3 + 64 < cLine := hr.units
      (pds_cons (pd_for PassesOwn.never rfl (pdi_range1 T.n_range (pda_cons (pd_add (pd_min rfl T.n_min (pda_cons (pd_len T.n_len (pda_cons (pd_var 0) (pda_nil))) (pda_cons (pd_int) (pda_nil)))) (pd_int)) (pda_nil))) (pdg_nm (i := 1) (io_ne hio) sc_law.nd) (pds_cons (pd_own (i := 2) (io_ne hio) sc_law.nd (pdl_fn (ok_f_law_spring T) (hr.mono (by omega)) T.m_f_law_spring T.f_f_law_spring.kp T.b_f_law_spring (pda_cons (pd_var 0) (pda_cons (pd_var 1) (pda_nil)))))
      (pds_cons (pd_set (i := 3) (io_ne hio) sc_law.nd (pd_fn (ok_f_law_recorder T) (hr.mono (by omega)) T.m_f_law_recorder T.f_f_law_recorder.kp T.b_f_law_recorder (pda_slot 2 (pda_nil))))
      (pds_one (pd_for PassesOwn.never rfl (pdi_seq (pd_fn (ok_f_law_stands T) (hr.mono (by omega)) T.m_f_law_stands T.f_f_law_stands.kp T.b_f_law_stands (pda_cons (pd_var 3) (pda_slot 2 (pda_nil))))) (pdg_nm (i := 4) (io_ne hio) sc_law.nd) (pds_cons (pd_ifS (pdt_not (pdt_val (pd_fn (ok_is_stand T) (hr.mono (by omega)) T.m_is_stand T.f_is_stand.kp T.b_is_stand (pda_cons (pd_var 3) (pda_cons (pd_var 4) (pda_nil)))))) (pds_one (pd_ret (pd_bl))) (pds_nil))
      (pds_one (pd_for PassesOwn.never rfl (pdi_seq (pd_l (pdl_lst (pda_cons (pd_bl) (pda_cons (pd_bl) (pda_nil)))))) (pdg_nm (i := 5) (io_ne hio) sc_law.nd) (pds_one (pd_ifS (pdt_not (pdt_val (pd_fn (ok_f_law_twins T 8) (hr.mono (by omega)) T.m_f_law_twins T.f_f_law_twins.kp T.b_f_law_twins (pda_cons (pd_fn (ok_after T) (hr.mono (by omega)) T.m_after T.f_after.kp T.b_after (pda_cons (pd_var 3) (pda_cons (pd_var 4) (pda_cons (pd_var 5) (pda_nil))))) (pda_cons (pd_sub_ (pd_fn (ok_f_law_tick T) (hr.mono (by omega)) T.m_f_law_tick T.f_f_law_tick.kp T.b_f_law_tick (pda_cons (pd_var 3) (pda_cons (pd_var 4) (pda_cons (pd_var 5) (pda_nil))))) (pd_int) (fun _ _ => rfl)) (pda_nil)))))) (pds_one (pd_ret (pd_bl))) (pds_nil)))))))))))
      (pds_one (pd_ret (pd_bl))))))
end
end
end K3

set_option maxRecDepth 100000
set_option maxHeartbeats 4000000
namespace K3
open PySem PySem.Spec L2 PD
/-! ### plain recorders and stands -/
structure Rec where
  need : Int
  ahead : Int
  hush : Int
  most : Int
  rest : Int
structure Rec.Ok (r : Rec) : Prop where
  n1 : 1 ≤ r.need
  n3 : r.need ≤ 3
  a0 : 0 ≤ r.ahead
  a3 : r.ahead ≤ 3
  h1 : 1 ≤ r.hush
  h3 : r.hush ≤ 3
  m1 : r.need + r.ahead ≤ r.most
  m2 : r.most ≤ 10
  r0 : 0 ≤ r.rest
  r3 : r.rest ≤ 3
def encR (r : Rec) : D := .tuple [.int r.need, .int r.ahead, .int r.hush, .int r.most, .int r.rest]
def encB (h : List Bool) : D := .tuple (h.map .bool)
inductive Sd where
  | aw (h : List Bool)
  | rc (c q : Int)
  | sl (c : Int)
def sAw : Str := "awake"
def sRc : Str := "records"
def sSl : Str := "sleeps"
def encS : Sd → D
  | .aw h => .tuple [.str sAw, .int 0, .int 0, encB h]
  | .rc c q => .tuple [.str sRc, .int c, .int q, .tuple []]
  | .sl c => .tuple [.str sSl, .int c, .int 0, .tuple []]
theorem cA : cst_AWAKE = .str sAw := rfl
theorem cR : cst_RECORDS = .str sRc := rfl
theorem cS : cst_SLEEPS = .str sSl := rfl
theorem cF : cst_FRESH = encS (.aw []) := rfl
theorem t_A : Str.ofString "awake" = sAw := rfl
theorem t_R : Str.ofString "records" = sRc := rfl
theorem t_S : Str.ofString "sleeps" = sSl := rfl
theorem e_AA : (sAw = sAw) = True := eq_true rfl
theorem e_AR : (sAw = sRc) = False := eq_false (by decide +kernel)
theorem e_AS : (sAw = sSl) = False := eq_false (by decide +kernel)
theorem e_RA : (sRc = sAw) = False := eq_false (by decide +kernel)
theorem e_RR : (sRc = sRc) = True := eq_true rfl
theorem e_RS : (sRc = sSl) = False := eq_false (by decide +kernel)
theorem e_SA : (sSl = sAw) = False := eq_false (by decide +kernel)
theorem e_SR : (sSl = sRc) = False := eq_false (by decide +kernel)
theorem e_SS : (sSl = sSl) = True := eq_true rfl
def isWithin (x : D) (lo hi : Int) : Bool := match x with
  | .int i => decide (lo ≤ i) && decide (i ≤ hi)
  | _ => false
theorem F_is_within_eq (x : D) (lo hi : Int) : F_is_within [.d x, .d (.int lo), .d (.int hi)] = .ret (.bool (isWithin x lo hi)) none := by
  unfold F_is_within g_is_within
  cases x <;> simp only [ret_ap, lift_some, lift_none, var_ap, varR_d, ownAt_ap, ownL_own, ownL_d, ownL_n, frzAt_ap, frzL_own, frzL_d, frz_nil, frz_cons, frz1_own, frz1_d, frz1_n, wipe_nil, wipe_cons, restore_nil, restore_cons, clean_nil, clean_cons, isOwnL_own, isOwnL_d, isOwnL_n, bind_ap, bindR_ok, bindR_ex, bindR_bad, ofM_ap, ofR_ok, ofR_ex, ofR_bad, seq_ap, seqR_nx, seqR_rt, seqR_rl, seqR_bk, seqR_ct, seqR_ex, seqR_bad, nil_ap, pass_ap, never_ap, brk_ap, cnt_ap, retN_ap, sret_ap, sretL_ap, drop_ap, site_ap, asg_ap, own_ap, par2_ap, par3_ap, asgT_ap, asgR_some, asgR_none, gnm_ap, gnil_ap, gcons_ap, gtup_ap, andV_ap, orV_ap, andT_ap, orT_ap, notT_ap, test_ap, op1_ap, op2_ap, chain_ap, mite_ap, ite_apR, ite_apS, argN_ap, argD_ap, argS_ap, slotR_some, tup_ap, lst_ap, known_ap, call_ap, callL_ap, items_ap, part_ap, slice_ap, catL_ap, frz_ap, borrow_ap, borrowR_ok, borrowT_ap, borrowTR_ok, subO_ap, app_ap, setIx_ap, retO_ap, for_ap, lc_ap, lcR_ok, fn_ap, fnL_ap, fnR_some, fnLR_some, retR_ret, retR_retL, retLR_retL, putR_some, putO_none, putO_s0, putO_s1, putO_s2, putO_s3, putO_s4, endR_rt, endR_rl, endR_nx, endR_bad, bindR_ite, ofR_ite, seqR_ite, endR_ite, lift_ite, addD_ii, addD_ss, addD_tt, subD_ii, mulD_ii, fdivD_ii, modD_ii, powD_ii, negD_i, ltD_ii, leD_ii, gtD_ii, geD_ii, ixD_l, ixD_t, catD_ll, itemsD_l, itemsD_t, lenD_l, lenD_t, lenD_s, absD_i, maxD_ii, minD_ii, intD_i, intD_b, tupleD_l, tupleD_t, notD_b, asB_b, asI_i, eqD_ii, eqD_ss, eqD_bb, eqD_si, eqD_is, eqD_nn, eqD_nb, eqD_ni, eqD_ns, eqD_bn, eqD_in, eqD_sn, tInt_none, tInt_bool, tInt_int, tInt_str, tInt_tuple, tInt_list, tInt_dict, tBool_none, tBool_bool, tBool_int, tBool_str, tBool_tuple, tBool_list, tBool_dict, tStr_none, tStr_bool, tStr_int, tStr_str, tStr_tuple, tStr_list, tStr_dict, tTuple_none, tTuple_bool, tTuple_int, tTuple_str, tTuple_tuple, tTuple_list, tTuple_dict, tList_none, tList_bool, tList_int, tList_str, tList_tuple, tList_list, tList_dict, tSeq_none, tSeq_bool, tSeq_int, tSeq_str, tSeq_tuple, tSeq_list, tSeq_dict, isNoneB_none, scalarD_none, isNoneB_bool, scalarD_bool, isNoneB_int, scalarD_int, isNoneB_str, scalarD_str, isNoneB_tuple, scalarD_tuple, isNoneB_list, scalarD_list, isNoneB_dict, scalarD_dict, ixT0, ixT1, ixT2, ixT3, ixT4, ixT5, ixT6, ixT7, ixT8, ixT9, ixL0, ixL1, ixL2, ixL3, ixL4, ixL5, ixL6, ixL7, ixL8, ixL9, aI0, aI1, aI2, aI3, aI4, aI5, aI6, aI7, aI8, aI9, ixN1_0, ixN2_0, ixN2_1, ixN3_0, ixN3_1, ixN3_2, ixN4_0, ixN4_1, ixN4_2, ixN4_3, ixN5_0, ixN5_1, ixN5_2, ixN5_3, ixN5_4, ixN6_0, ixN6_1, ixN6_2, ixN6_3, ixN6_4, ixN6_5, List.map_cons, List.map_nil, List.cons_append, List.nil_append, List.replicate_zero, List.replicate_succ, List.length_cons, List.length_nil, List.getElem?_cons_zero, List.getElem?_cons_succ, List.set_cons_zero, List.set_cons_succ, List.getD_cons_zero, List.getD_cons_succ, Bool.and_true, Bool.true_and, Bool.not_false, Bool.not_true, Nat.sub_self, Nat.reduceSub, Nat.reduceAdd, Nat.zero_add, true_and, and_true, and_self, if_true, if_false, ite_true, ite_false, reduceCtorEq, false_implies, implies_true, forall_const, Bool.false_eq_true, Option.bind_some, Option.map_some, Option.bind_none, Option.map_none, runF_eq, okIo, datOf, lvsOf, argIo, isD, outO, isND, notND, vals2D, vals3D, eqDD, neDD, decide_true, decide_false, Bool.decide_eq_true, sz0, sz1, sz2, sz3, sz4, sz5, sz6, sz7, sz8, sz9, slice_t, all_t, all_l, any_l, all_lm, all_tm, any_lm, Function.comp_def, step_nx, step_ct, step_bk, step_rt, step_rl, step_ite, decide_eq_true_eq, Int.cast_ofNat_Int, Int.reduceLE, Int.reduceLT, Int.reduceAdd, Int.reduceSub, Int.reduceMul, Int.reduceNeg, Int.reduceEq, Int.reduceGT, Nat.reduceEqDiff, ne_eq, not_false_eq_true, Option.some.injEq, forall_eq', Nat.reduceLT, Bool.and_false, Bool.or_false, Bool.false_or, Bool.true_or, Bool.false_and, Bool.or_true] <;> simp [isWithin]
  rename_i i
  by_cases h : lo ≤ i <;> simp [h]
def isRowOf (x : D) (n : Int) : Bool := match x with
  | .tuple xs => decide ((xs.length : Int) = n)
  | _ => false
theorem F_is_row_of_eq (x : D) (n : Int) : F_is_row_of [.d x, .d (.int n)] = .ret (.bool (isRowOf x n)) none := by
  unfold F_is_row_of g_is_row_of
  cases x <;> simp only [ret_ap, lift_some, lift_none, var_ap, varR_d, ownAt_ap, ownL_own, ownL_d, ownL_n, frzAt_ap, frzL_own, frzL_d, frz_nil, frz_cons, frz1_own, frz1_d, frz1_n, wipe_nil, wipe_cons, restore_nil, restore_cons, clean_nil, clean_cons, isOwnL_own, isOwnL_d, isOwnL_n, bind_ap, bindR_ok, bindR_ex, bindR_bad, ofM_ap, ofR_ok, ofR_ex, ofR_bad, seq_ap, seqR_nx, seqR_rt, seqR_rl, seqR_bk, seqR_ct, seqR_ex, seqR_bad, nil_ap, pass_ap, never_ap, brk_ap, cnt_ap, retN_ap, sret_ap, sretL_ap, drop_ap, site_ap, asg_ap, own_ap, par2_ap, par3_ap, asgT_ap, asgR_some, asgR_none, gnm_ap, gnil_ap, gcons_ap, gtup_ap, andV_ap, orV_ap, andT_ap, orT_ap, notT_ap, test_ap, op1_ap, op2_ap, chain_ap, mite_ap, ite_apR, ite_apS, argN_ap, argD_ap, argS_ap, slotR_some, tup_ap, lst_ap, known_ap, call_ap, callL_ap, items_ap, part_ap, slice_ap, catL_ap, frz_ap, borrow_ap, borrowR_ok, borrowT_ap, borrowTR_ok, subO_ap, app_ap, setIx_ap, retO_ap, for_ap, lc_ap, lcR_ok, fn_ap, fnL_ap, fnR_some, fnLR_some, retR_ret, retR_retL, retLR_retL, putR_some, putO_none, putO_s0, putO_s1, putO_s2, putO_s3, putO_s4, endR_rt, endR_rl, endR_nx, endR_bad, bindR_ite, ofR_ite, seqR_ite, endR_ite, lift_ite, addD_ii, addD_ss, addD_tt, subD_ii, mulD_ii, fdivD_ii, modD_ii, powD_ii, negD_i, ltD_ii, leD_ii, gtD_ii, geD_ii, ixD_l, ixD_t, catD_ll, itemsD_l, itemsD_t, lenD_l, lenD_t, lenD_s, absD_i, maxD_ii, minD_ii, intD_i, intD_b, tupleD_l, tupleD_t, notD_b, asB_b, asI_i, eqD_ii, eqD_ss, eqD_bb, eqD_si, eqD_is, eqD_nn, eqD_nb, eqD_ni, eqD_ns, eqD_bn, eqD_in, eqD_sn, tInt_none, tInt_bool, tInt_int, tInt_str, tInt_tuple, tInt_list, tInt_dict, tBool_none, tBool_bool, tBool_int, tBool_str, tBool_tuple, tBool_list, tBool_dict, tStr_none, tStr_bool, tStr_int, tStr_str, tStr_tuple, tStr_list, tStr_dict, tTuple_none, tTuple_bool, tTuple_int, tTuple_str, tTuple_tuple, tTuple_list, tTuple_dict, tList_none, tList_bool, tList_int, tList_str, tList_tuple, tList_list, tList_dict, tSeq_none, tSeq_bool, tSeq_int, tSeq_str, tSeq_tuple, tSeq_list, tSeq_dict, isNoneB_none, scalarD_none, isNoneB_bool, scalarD_bool, isNoneB_int, scalarD_int, isNoneB_str, scalarD_str, isNoneB_tuple, scalarD_tuple, isNoneB_list, scalarD_list, isNoneB_dict, scalarD_dict, ixT0, ixT1, ixT2, ixT3, ixT4, ixT5, ixT6, ixT7, ixT8, ixT9, ixL0, ixL1, ixL2, ixL3, ixL4, ixL5, ixL6, ixL7, ixL8, ixL9, aI0, aI1, aI2, aI3, aI4, aI5, aI6, aI7, aI8, aI9, ixN1_0, ixN2_0, ixN2_1, ixN3_0, ixN3_1, ixN3_2, ixN4_0, ixN4_1, ixN4_2, ixN4_3, ixN5_0, ixN5_1, ixN5_2, ixN5_3, ixN5_4, ixN6_0, ixN6_1, ixN6_2, ixN6_3, ixN6_4, ixN6_5, List.map_cons, List.map_nil, List.cons_append, List.nil_append, List.replicate_zero, List.replicate_succ, List.length_cons, List.length_nil, List.getElem?_cons_zero, List.getElem?_cons_succ, List.set_cons_zero, List.set_cons_succ, List.getD_cons_zero, List.getD_cons_succ, Bool.and_true, Bool.true_and, Bool.not_false, Bool.not_true, Nat.sub_self, Nat.reduceSub, Nat.reduceAdd, Nat.zero_add, true_and, and_true, and_self, if_true, if_false, ite_true, ite_false, reduceCtorEq, false_implies, implies_true, forall_const, Bool.false_eq_true, Option.bind_some, Option.map_some, Option.bind_none, Option.map_none, runF_eq, okIo, datOf, lvsOf, argIo, isD, outO, isND, notND, vals2D, vals3D, eqDD, neDD, decide_true, decide_false, Bool.decide_eq_true, sz0, sz1, sz2, sz3, sz4, sz5, sz6, sz7, sz8, sz9, slice_t, all_t, all_l, any_l, all_lm, all_tm, any_lm, Function.comp_def, step_nx, step_ct, step_bk, step_rt, step_rl, step_ite, decide_eq_true_eq, Int.cast_ofNat_Int, Int.reduceLE, Int.reduceLT, Int.reduceAdd, Int.reduceSub, Int.reduceMul, Int.reduceNeg, Int.reduceEq, Int.reduceGT, Nat.reduceEqDiff, ne_eq, not_false_eq_true, Option.some.injEq, forall_eq', Nat.reduceLT, Bool.and_false, Bool.or_false, Bool.false_or, Bool.true_or, Bool.false_and, Bool.or_true] <;> simp [isRowOf]
theorem F_is_recorder_ok {r : Rec} (h : r.Ok) : F_is_recorder [.d (encR r)] = .ret (.bool true) none := by
  obtain ⟨h1, h2, h3, h4, h5, h6, h7, h8, h9, h10⟩ := h
  unfold F_is_recorder g_is_recorder encR
  simp only [ret_ap, lift_some, lift_none, var_ap, varR_d, ownAt_ap, ownL_own, ownL_d, ownL_n, frzAt_ap, frzL_own, frzL_d, frz_nil, frz_cons, frz1_own, frz1_d, frz1_n, wipe_nil, wipe_cons, restore_nil, restore_cons, clean_nil, clean_cons, isOwnL_own, isOwnL_d, isOwnL_n, bind_ap, bindR_ok, bindR_ex, bindR_bad, ofM_ap, ofR_ok, ofR_ex, ofR_bad, seq_ap, seqR_nx, seqR_rt, seqR_rl, seqR_bk, seqR_ct, seqR_ex, seqR_bad, nil_ap, pass_ap, never_ap, brk_ap, cnt_ap, retN_ap, sret_ap, sretL_ap, drop_ap, site_ap, asg_ap, own_ap, par2_ap, par3_ap, asgT_ap, asgR_some, asgR_none, gnm_ap, gnil_ap, gcons_ap, gtup_ap, andV_ap, orV_ap, andT_ap, orT_ap, notT_ap, test_ap, op1_ap, op2_ap, chain_ap, mite_ap, ite_apR, ite_apS, argN_ap, argD_ap, argS_ap, slotR_some, tup_ap, lst_ap, known_ap, call_ap, callL_ap, items_ap, part_ap, slice_ap, catL_ap, frz_ap, borrow_ap, borrowR_ok, borrowT_ap, borrowTR_ok, subO_ap, app_ap, setIx_ap, retO_ap, for_ap, lc_ap, lcR_ok, fn_ap, fnL_ap, fnR_some, fnLR_some, retR_ret, retR_retL, retLR_retL, putR_some, putO_none, putO_s0, putO_s1, putO_s2, putO_s3, putO_s4, endR_rt, endR_rl, endR_nx, endR_bad, bindR_ite, ofR_ite, seqR_ite, endR_ite, lift_ite, addD_ii, addD_ss, addD_tt, subD_ii, mulD_ii, fdivD_ii, modD_ii, powD_ii, negD_i, ltD_ii, leD_ii, gtD_ii, geD_ii, ixD_l, ixD_t, catD_ll, itemsD_l, itemsD_t, lenD_l, lenD_t, lenD_s, absD_i, maxD_ii, minD_ii, intD_i, intD_b, tupleD_l, tupleD_t, notD_b, asB_b, asI_i, eqD_ii, eqD_ss, eqD_bb, eqD_si, eqD_is, eqD_nn, eqD_nb, eqD_ni, eqD_ns, eqD_bn, eqD_in, eqD_sn, tInt_none, tInt_bool, tInt_int, tInt_str, tInt_tuple, tInt_list, tInt_dict, tBool_none, tBool_bool, tBool_int, tBool_str, tBool_tuple, tBool_list, tBool_dict, tStr_none, tStr_bool, tStr_int, tStr_str, tStr_tuple, tStr_list, tStr_dict, tTuple_none, tTuple_bool, tTuple_int, tTuple_str, tTuple_tuple, tTuple_list, tTuple_dict, tList_none, tList_bool, tList_int, tList_str, tList_tuple, tList_list, tList_dict, tSeq_none, tSeq_bool, tSeq_int, tSeq_str, tSeq_tuple, tSeq_list, tSeq_dict, isNoneB_none, scalarD_none, isNoneB_bool, scalarD_bool, isNoneB_int, scalarD_int, isNoneB_str, scalarD_str, isNoneB_tuple, scalarD_tuple, isNoneB_list, scalarD_list, isNoneB_dict, scalarD_dict, ixT0, ixT1, ixT2, ixT3, ixT4, ixT5, ixT6, ixT7, ixT8, ixT9, ixL0, ixL1, ixL2, ixL3, ixL4, ixL5, ixL6, ixL7, ixL8, ixL9, aI0, aI1, aI2, aI3, aI4, aI5, aI6, aI7, aI8, aI9, ixN1_0, ixN2_0, ixN2_1, ixN3_0, ixN3_1, ixN3_2, ixN4_0, ixN4_1, ixN4_2, ixN4_3, ixN5_0, ixN5_1, ixN5_2, ixN5_3, ixN5_4, ixN6_0, ixN6_1, ixN6_2, ixN6_3, ixN6_4, ixN6_5, List.map_cons, List.map_nil, List.cons_append, List.nil_append, List.replicate_zero, List.replicate_succ, List.length_cons, List.length_nil, List.getElem?_cons_zero, List.getElem?_cons_succ, List.set_cons_zero, List.set_cons_succ, List.getD_cons_zero, List.getD_cons_succ, Bool.and_true, Bool.true_and, Bool.not_false, Bool.not_true, Nat.sub_self, Nat.reduceSub, Nat.reduceAdd, Nat.zero_add, true_and, and_true, and_self, if_true, if_false, ite_true, ite_false, reduceCtorEq, false_implies, implies_true, forall_const, Bool.false_eq_true, Option.bind_some, Option.map_some, Option.bind_none, Option.map_none, runF_eq, okIo, datOf, lvsOf, argIo, isD, outO, isND, notND, vals2D, vals3D, eqDD, neDD, decide_true, decide_false, Bool.decide_eq_true, sz0, sz1, sz2, sz3, sz4, sz5, sz6, sz7, sz8, sz9, slice_t, all_t, all_l, any_l, all_lm, all_tm, any_lm, Function.comp_def, step_nx, step_ct, step_bk, step_rt, step_rl, step_ite, decide_eq_true_eq, Int.cast_ofNat_Int, Int.reduceLE, Int.reduceLT, Int.reduceAdd, Int.reduceSub, Int.reduceMul, Int.reduceNeg, Int.reduceEq, Int.reduceGT, Nat.reduceEqDiff, ne_eq, not_false_eq_true, Option.some.injEq, forall_eq', Nat.reduceLT, Bool.and_false, Bool.or_false, Bool.false_or, Bool.true_or, Bool.false_and, Bool.or_true, F_is_row_of_eq, F_is_within_eq, isRowOf, isWithin]
  simp [*]

/-! ### lists of truth values -/
theorem all_encB (h : List Bool) : allD [encB h] = some (.bool (h.all id)) := all_t h
theorem len_encB (h : List Bool) : lenD [encB h] = some (.int (h.length : Int)) := by
  show some (PyData.int _) = _
  rw [List.length_map]
theorem slice_from (h : List Bool) {i : Int} {k : Nat} (e : i = (k : Int)) : sliceD (encB h) (some i) none = some (encB (h.drop k)) := by
  show some (PyData.tuple _) = some (PyData.tuple _)
  rw [cut_from e, List.map_drop]
theorem slice_neg (h : List Bool) {i : Int} {k : Nat} (e : i = -(k : Int)) (hk : 0 < k) : sliceD (encB h) (some i) none = some (encB (h.drop (h.length - k))) := by
  show some (PyData.tuple _) = some (PyData.tuple _)
  rw [cut_neg e hk, List.map_drop, List.length_map]
theorem add_one (h : List Bool) (b : Bool) (hl : h.length + 1 ≤ sizeLine) : addD (encB h) (.tuple [.bool b]) = some (encB (h ++ [b])) := by
  show (if (h.map PyData.bool).length + 1 ≤ sizeLine then _ else _) = _
  rw [List.length_map, if_pos hl]
  show some (PyData.tuple _) = some (PyData.tuple _)
  rw [List.map_append]
  rfl
theorem slice_max (h : List Bool) (i : Int) : sliceD (encB h) (some (if i > 0 then i else 0)) none = some (encB (h.drop i.toNat)) := slice_from h (by split <;> omega)
def isRowB (h : List Bool) : Prop := h.length + 1 ≤ sizeLine
/-! ### what a recorder does in a tick -/
def fullB (need : Int) (h : List Bool) : Bool := decide (need ≤ (h.length : Int)) && (h.drop (h.length - need.toNat)).all id
def endedS (r : Rec) : Sd := if 0 < r.rest then .sl r.rest else .aw []
def finS (r : Rec) (c q k : Int) : Sd × Int := if q = r.hush ∨ c = r.most then (endedS r, k) else (.rc c q, k)
def stepS (r : Rec) (s : Sd) (b : Bool) : Sd × Int := match s with
  | .sl c => (if 1 < c then .sl (c - 1) else .aw [], 0)
  | .aw h => if fullB r.need (h ++ [b]) = true then finS r ((h ++ [b]).length : Int) 0 ((h ++ [b]).length : Int)
      else (.aw ((h ++ [b]).drop (((h ++ [b]).length : Int) - r.need - r.ahead + 1).toNat), 0)
  | .rc c q => finS r (c + 1) (if b = true then 0 else q + 1) 1
theorem F_ended_eq (r : Rec) : F_ended [.d (encR r)] = .ret (encS (endedS r)) none := by
  unfold F_ended g_ended encR endedS
  simp only [ret_ap, lift_some, lift_none, var_ap, varR_d, ownAt_ap, ownL_own, ownL_d, ownL_n, frzAt_ap, frzL_own, frzL_d, frz_nil, frz_cons, frz1_own, frz1_d, frz1_n, wipe_nil, wipe_cons, restore_nil, restore_cons, clean_nil, clean_cons, isOwnL_own, isOwnL_d, isOwnL_n, bind_ap, bindR_ok, bindR_ex, bindR_bad, ofM_ap, ofR_ok, ofR_ex, ofR_bad, seq_ap, seqR_nx, seqR_rt, seqR_rl, seqR_bk, seqR_ct, seqR_ex, seqR_bad, nil_ap, pass_ap, never_ap, brk_ap, cnt_ap, retN_ap, sret_ap, sretL_ap, drop_ap, site_ap, asg_ap, own_ap, par2_ap, par3_ap, asgT_ap, asgR_some, asgR_none, gnm_ap, gnil_ap, gcons_ap, gtup_ap, andV_ap, orV_ap, andT_ap, orT_ap, notT_ap, test_ap, op1_ap, op2_ap, chain_ap, mite_ap, ite_apR, ite_apS, argN_ap, argD_ap, argS_ap, slotR_some, tup_ap, lst_ap, known_ap, call_ap, callL_ap, items_ap, part_ap, slice_ap, catL_ap, frz_ap, borrow_ap, borrowR_ok, borrowT_ap, borrowTR_ok, subO_ap, app_ap, setIx_ap, retO_ap, for_ap, lc_ap, lcR_ok, fn_ap, fnL_ap, fnR_some, fnLR_some, retR_ret, retR_retL, retLR_retL, putR_some, putO_none, putO_s0, putO_s1, putO_s2, putO_s3, putO_s4, endR_rt, endR_rl, endR_nx, endR_bad, bindR_ite, ofR_ite, seqR_ite, endR_ite, lift_ite, addD_ii, addD_ss, addD_tt, subD_ii, mulD_ii, fdivD_ii, modD_ii, powD_ii, negD_i, ltD_ii, leD_ii, gtD_ii, geD_ii, ixD_l, ixD_t, catD_ll, itemsD_l, itemsD_t, lenD_l, lenD_t, lenD_s, absD_i, maxD_ii, minD_ii, intD_i, intD_b, tupleD_l, tupleD_t, notD_b, asB_b, asI_i, eqD_ii, eqD_ss, eqD_bb, eqD_si, eqD_is, eqD_nn, eqD_nb, eqD_ni, eqD_ns, eqD_bn, eqD_in, eqD_sn, tInt_none, tInt_bool, tInt_int, tInt_str, tInt_tuple, tInt_list, tInt_dict, tBool_none, tBool_bool, tBool_int, tBool_str, tBool_tuple, tBool_list, tBool_dict, tStr_none, tStr_bool, tStr_int, tStr_str, tStr_tuple, tStr_list, tStr_dict, tTuple_none, tTuple_bool, tTuple_int, tTuple_str, tTuple_tuple, tTuple_list, tTuple_dict, tList_none, tList_bool, tList_int, tList_str, tList_tuple, tList_list, tList_dict, tSeq_none, tSeq_bool, tSeq_int, tSeq_str, tSeq_tuple, tSeq_list, tSeq_dict, isNoneB_none, scalarD_none, isNoneB_bool, scalarD_bool, isNoneB_int, scalarD_int, isNoneB_str, scalarD_str, isNoneB_tuple, scalarD_tuple, isNoneB_list, scalarD_list, isNoneB_dict, scalarD_dict, ixT0, ixT1, ixT2, ixT3, ixT4, ixT5, ixT6, ixT7, ixT8, ixT9, ixL0, ixL1, ixL2, ixL3, ixL4, ixL5, ixL6, ixL7, ixL8, ixL9, aI0, aI1, aI2, aI3, aI4, aI5, aI6, aI7, aI8, aI9, ixN1_0, ixN2_0, ixN2_1, ixN3_0, ixN3_1, ixN3_2, ixN4_0, ixN4_1, ixN4_2, ixN4_3, ixN5_0, ixN5_1, ixN5_2, ixN5_3, ixN5_4, ixN6_0, ixN6_1, ixN6_2, ixN6_3, ixN6_4, ixN6_5, List.map_cons, List.map_nil, List.cons_append, List.nil_append, List.replicate_zero, List.replicate_succ, List.length_cons, List.length_nil, List.getElem?_cons_zero, List.getElem?_cons_succ, List.set_cons_zero, List.set_cons_succ, List.getD_cons_zero, List.getD_cons_succ, Bool.and_true, Bool.true_and, Bool.not_false, Bool.not_true, Nat.sub_self, Nat.reduceSub, Nat.reduceAdd, Nat.zero_add, true_and, and_true, and_self, if_true, if_false, ite_true, ite_false, reduceCtorEq, false_implies, implies_true, forall_const, Bool.false_eq_true, Option.bind_some, Option.map_some, Option.bind_none, Option.map_none, runF_eq, okIo, datOf, lvsOf, argIo, isD, outO, isND, notND, vals2D, vals3D, eqDD, neDD, decide_true, decide_false, Bool.decide_eq_true, sz0, sz1, sz2, sz3, sz4, sz5, sz6, sz7, sz8, sz9, slice_t, all_t, all_l, any_l, all_lm, all_tm, any_lm, Function.comp_def, step_nx, step_ct, step_bk, step_rt, step_rl, step_ite, decide_eq_true_eq, Int.cast_ofNat_Int, Int.reduceLE, Int.reduceLT, Int.reduceAdd, Int.reduceSub, Int.reduceMul, Int.reduceNeg, Int.reduceEq, Int.reduceGT, Nat.reduceEqDiff, ne_eq, not_false_eq_true, Option.some.injEq, forall_eq', Nat.reduceLT, Bool.and_false, Bool.or_false, Bool.false_or, Bool.true_or, Bool.false_and, Bool.or_true, cA, cS, cF]
  by_cases h : 0 < r.rest <;> simp [h, encS]
theorem F_step_sl (r : Rec) (c : Int) (b : Bool) : F_step [.d (encR r), .d (encS (.sl c)), .d (.bool b)] = .ret (.tuple [encS (stepS r (.sl c) b).1, .int (stepS r (.sl c) b).2]) none := by
  unfold F_step g_step encR encS stepS
  simp only [ret_ap, lift_some, lift_none, var_ap, varR_d, ownAt_ap, ownL_own, ownL_d, ownL_n, frzAt_ap, frzL_own, frzL_d, frz_nil, frz_cons, frz1_own, frz1_d, frz1_n, wipe_nil, wipe_cons, restore_nil, restore_cons, clean_nil, clean_cons, isOwnL_own, isOwnL_d, isOwnL_n, bind_ap, bindR_ok, bindR_ex, bindR_bad, ofM_ap, ofR_ok, ofR_ex, ofR_bad, seq_ap, seqR_nx, seqR_rt, seqR_rl, seqR_bk, seqR_ct, seqR_ex, seqR_bad, nil_ap, pass_ap, never_ap, brk_ap, cnt_ap, retN_ap, sret_ap, sretL_ap, drop_ap, site_ap, asg_ap, own_ap, par2_ap, par3_ap, asgT_ap, asgR_some, asgR_none, gnm_ap, gnil_ap, gcons_ap, gtup_ap, andV_ap, orV_ap, andT_ap, orT_ap, notT_ap, test_ap, op1_ap, op2_ap, chain_ap, mite_ap, ite_apR, ite_apS, argN_ap, argD_ap, argS_ap, slotR_some, tup_ap, lst_ap, known_ap, call_ap, callL_ap, items_ap, part_ap, slice_ap, catL_ap, frz_ap, borrow_ap, borrowR_ok, borrowT_ap, borrowTR_ok, subO_ap, app_ap, setIx_ap, retO_ap, for_ap, lc_ap, lcR_ok, fn_ap, fnL_ap, fnR_some, fnLR_some, retR_ret, retR_retL, retLR_retL, putR_some, putO_none, putO_s0, putO_s1, putO_s2, putO_s3, putO_s4, endR_rt, endR_rl, endR_nx, endR_bad, bindR_ite, ofR_ite, seqR_ite, endR_ite, lift_ite, addD_ii, addD_ss, addD_tt, subD_ii, mulD_ii, fdivD_ii, modD_ii, powD_ii, negD_i, ltD_ii, leD_ii, gtD_ii, geD_ii, ixD_l, ixD_t, catD_ll, itemsD_l, itemsD_t, lenD_l, lenD_t, lenD_s, absD_i, maxD_ii, minD_ii, intD_i, intD_b, tupleD_l, tupleD_t, notD_b, asB_b, asI_i, eqD_ii, eqD_ss, eqD_bb, eqD_si, eqD_is, eqD_nn, eqD_nb, eqD_ni, eqD_ns, eqD_bn, eqD_in, eqD_sn, tInt_none, tInt_bool, tInt_int, tInt_str, tInt_tuple, tInt_list, tInt_dict, tBool_none, tBool_bool, tBool_int, tBool_str, tBool_tuple, tBool_list, tBool_dict, tStr_none, tStr_bool, tStr_int, tStr_str, tStr_tuple, tStr_list, tStr_dict, tTuple_none, tTuple_bool, tTuple_int, tTuple_str, tTuple_tuple, tTuple_list, tTuple_dict, tList_none, tList_bool, tList_int, tList_str, tList_tuple, tList_list, tList_dict, tSeq_none, tSeq_bool, tSeq_int, tSeq_str, tSeq_tuple, tSeq_list, tSeq_dict, isNoneB_none, scalarD_none, isNoneB_bool, scalarD_bool, isNoneB_int, scalarD_int, isNoneB_str, scalarD_str, isNoneB_tuple, scalarD_tuple, isNoneB_list, scalarD_list, isNoneB_dict, scalarD_dict, ixT0, ixT1, ixT2, ixT3, ixT4, ixT5, ixT6, ixT7, ixT8, ixT9, ixL0, ixL1, ixL2, ixL3, ixL4, ixL5, ixL6, ixL7, ixL8, ixL9, aI0, aI1, aI2, aI3, aI4, aI5, aI6, aI7, aI8, aI9, ixN1_0, ixN2_0, ixN2_1, ixN3_0, ixN3_1, ixN3_2, ixN4_0, ixN4_1, ixN4_2, ixN4_3, ixN5_0, ixN5_1, ixN5_2, ixN5_3, ixN5_4, ixN6_0, ixN6_1, ixN6_2, ixN6_3, ixN6_4, ixN6_5, List.map_cons, List.map_nil, List.cons_append, List.nil_append, List.replicate_zero, List.replicate_succ, List.length_cons, List.length_nil, List.getElem?_cons_zero, List.getElem?_cons_succ, List.set_cons_zero, List.set_cons_succ, List.getD_cons_zero, List.getD_cons_succ, Bool.and_true, Bool.true_and, Bool.not_false, Bool.not_true, Nat.sub_self, Nat.reduceSub, Nat.reduceAdd, Nat.zero_add, true_and, and_true, and_self, if_true, if_false, ite_true, ite_false, reduceCtorEq, false_implies, implies_true, forall_const, Bool.false_eq_true, Option.bind_some, Option.map_some, Option.bind_none, Option.map_none, runF_eq, okIo, datOf, lvsOf, argIo, isD, outO, isND, notND, vals2D, vals3D, eqDD, neDD, decide_true, decide_false, Bool.decide_eq_true, sz0, sz1, sz2, sz3, sz4, sz5, sz6, sz7, sz8, sz9, slice_t, all_t, all_l, any_l, all_lm, all_tm, any_lm, Function.comp_def, step_nx, step_ct, step_bk, step_rt, step_rl, step_ite, decide_eq_true_eq, Int.cast_ofNat_Int, Int.reduceLE, Int.reduceLT, Int.reduceAdd, Int.reduceSub, Int.reduceMul, Int.reduceNeg, Int.reduceEq, Int.reduceGT, Nat.reduceEqDiff, ne_eq, not_false_eq_true, Option.some.injEq, forall_eq', Nat.reduceLT, Bool.and_false, Bool.or_false, Bool.false_or, Bool.true_or, Bool.false_and, Bool.or_true, cA, cS, cF, cR, e_SS]
  by_cases h : 1 < c <;> simp [h, encS]
theorem F_step_rc (r : Rec) (c q : Int) (b : Bool) : F_step [.d (encR r), .d (encS (.rc c q)), .d (.bool b)] = .ret (.tuple [encS (stepS r (.rc c q) b).1, .int (stepS r (.rc c q) b).2]) none := by
  unfold F_step g_step encS stepS finS
  have eR := F_ended_eq r
  unfold encR at eR ⊢
  simp only [ret_ap, lift_some, lift_none, var_ap, varR_d, ownAt_ap, ownL_own, ownL_d, ownL_n, frzAt_ap, frzL_own, frzL_d, frz_nil, frz_cons, frz1_own, frz1_d, frz1_n, wipe_nil, wipe_cons, restore_nil, restore_cons, clean_nil, clean_cons, isOwnL_own, isOwnL_d, isOwnL_n, bind_ap, bindR_ok, bindR_ex, bindR_bad, ofM_ap, ofR_ok, ofR_ex, ofR_bad, seq_ap, seqR_nx, seqR_rt, seqR_rl, seqR_bk, seqR_ct, seqR_ex, seqR_bad, nil_ap, pass_ap, never_ap, brk_ap, cnt_ap, retN_ap, sret_ap, sretL_ap, drop_ap, site_ap, asg_ap, own_ap, par2_ap, par3_ap, asgT_ap, asgR_some, asgR_none, gnm_ap, gnil_ap, gcons_ap, gtup_ap, andV_ap, orV_ap, andT_ap, orT_ap, notT_ap, test_ap, op1_ap, op2_ap, chain_ap, mite_ap, ite_apR, ite_apS, argN_ap, argD_ap, argS_ap, slotR_some, tup_ap, lst_ap, known_ap, call_ap, callL_ap, items_ap, part_ap, slice_ap, catL_ap, frz_ap, borrow_ap, borrowR_ok, borrowT_ap, borrowTR_ok, subO_ap, app_ap, setIx_ap, retO_ap, for_ap, lc_ap, lcR_ok, fn_ap, fnL_ap, fnR_some, fnLR_some, retR_ret, retR_retL, retLR_retL, putR_some, putO_none, putO_s0, putO_s1, putO_s2, putO_s3, putO_s4, endR_rt, endR_rl, endR_nx, endR_bad, bindR_ite, ofR_ite, seqR_ite, endR_ite, lift_ite, addD_ii, addD_ss, addD_tt, subD_ii, mulD_ii, fdivD_ii, modD_ii, powD_ii, negD_i, ltD_ii, leD_ii, gtD_ii, geD_ii, ixD_l, ixD_t, catD_ll, itemsD_l, itemsD_t, lenD_l, lenD_t, lenD_s, absD_i, maxD_ii, minD_ii, intD_i, intD_b, tupleD_l, tupleD_t, notD_b, asB_b, asI_i, eqD_ii, eqD_ss, eqD_bb, eqD_si, eqD_is, eqD_nn, eqD_nb, eqD_ni, eqD_ns, eqD_bn, eqD_in, eqD_sn, tInt_none, tInt_bool, tInt_int, tInt_str, tInt_tuple, tInt_list, tInt_dict, tBool_none, tBool_bool, tBool_int, tBool_str, tBool_tuple, tBool_list, tBool_dict, tStr_none, tStr_bool, tStr_int, tStr_str, tStr_tuple, tStr_list, tStr_dict, tTuple_none, tTuple_bool, tTuple_int, tTuple_str, tTuple_tuple, tTuple_list, tTuple_dict, tList_none, tList_bool, tList_int, tList_str, tList_tuple, tList_list, tList_dict, tSeq_none, tSeq_bool, tSeq_int, tSeq_str, tSeq_tuple, tSeq_list, tSeq_dict, isNoneB_none, scalarD_none, isNoneB_bool, scalarD_bool, isNoneB_int, scalarD_int, isNoneB_str, scalarD_str, isNoneB_tuple, scalarD_tuple, isNoneB_list, scalarD_list, isNoneB_dict, scalarD_dict, ixT0, ixT1, ixT2, ixT3, ixT4, ixT5, ixT6, ixT7, ixT8, ixT9, ixL0, ixL1, ixL2, ixL3, ixL4, ixL5, ixL6, ixL7, ixL8, ixL9, aI0, aI1, aI2, aI3, aI4, aI5, aI6, aI7, aI8, aI9, ixN1_0, ixN2_0, ixN2_1, ixN3_0, ixN3_1, ixN3_2, ixN4_0, ixN4_1, ixN4_2, ixN4_3, ixN5_0, ixN5_1, ixN5_2, ixN5_3, ixN5_4, ixN6_0, ixN6_1, ixN6_2, ixN6_3, ixN6_4, ixN6_5, List.map_cons, List.map_nil, List.cons_append, List.nil_append, List.replicate_zero, List.replicate_succ, List.length_cons, List.length_nil, List.getElem?_cons_zero, List.getElem?_cons_succ, List.set_cons_zero, List.set_cons_succ, List.getD_cons_zero, List.getD_cons_succ, Bool.and_true, Bool.true_and, Bool.not_false, Bool.not_true, Nat.sub_self, Nat.reduceSub, Nat.reduceAdd, Nat.zero_add, true_and, and_true, and_self, if_true, if_false, ite_true, ite_false, reduceCtorEq, false_implies, implies_true, forall_const, Bool.false_eq_true, Option.bind_some, Option.map_some, Option.bind_none, Option.map_none, runF_eq, okIo, datOf, lvsOf, argIo, isD, outO, isND, notND, vals2D, vals3D, eqDD, neDD, decide_true, decide_false, Bool.decide_eq_true, sz0, sz1, sz2, sz3, sz4, sz5, sz6, sz7, sz8, sz9, slice_t, all_t, all_l, any_l, all_lm, all_tm, any_lm, Function.comp_def, step_nx, step_ct, step_bk, step_rt, step_rl, step_ite, decide_eq_true_eq, Int.cast_ofNat_Int, Int.reduceLE, Int.reduceLT, Int.reduceAdd, Int.reduceSub, Int.reduceMul, Int.reduceNeg, Int.reduceEq, Int.reduceGT, Nat.reduceEqDiff, ne_eq, not_false_eq_true, Option.some.injEq, forall_eq', Nat.reduceLT, Bool.and_false, Bool.or_false, Bool.false_or, Bool.true_or, Bool.false_and, Bool.or_true, cA, cS, cF, cR, e_RS, e_RA, eR]
  cases b
  · by_cases h : q + 1 = r.hush <;> by_cases h' : c + 1 = r.most <;> simp [h, h', encS]
  · by_cases h : 0 = r.hush <;> by_cases h' : c + 1 = r.most <;> simp [h, h', encS]
theorem F_step_aw (r : Rec) (hr : r.Ok) (h : List Bool) (b : Bool) (hl : h.length + 1 ≤ sizeLine) : F_step [.d (encR r), .d (encS (.aw h)), .d (.bool b)] = .ret (.tuple [encS (stepS r (.aw h) b).1, .int (stepS r (.aw h) b).2]) none := by
  unfold F_step g_step stepS finS fullB
  have eR := F_ended_eq r
  have hn : -r.need = -((r.need.toNat : Nat) : Int) := by have := hr.n1; omega
  have hn' : 0 < r.need.toNat := by have := hr.n1; omega
  have h0 : ¬ (0 = r.hush) := by have := hr.h1; omega
  unfold encR at eR ⊢
  conv => lhs; unfold encS
  simp only [ret_ap, lift_some, lift_none, var_ap, varR_d, ownAt_ap, ownL_own, ownL_d, ownL_n, frzAt_ap, frzL_own, frzL_d, frz_nil, frz_cons, frz1_own, frz1_d, frz1_n, wipe_nil, wipe_cons, restore_nil, restore_cons, clean_nil, clean_cons, isOwnL_own, isOwnL_d, isOwnL_n, bind_ap, bindR_ok, bindR_ex, bindR_bad, ofM_ap, ofR_ok, ofR_ex, ofR_bad, seq_ap, seqR_nx, seqR_rt, seqR_rl, seqR_bk, seqR_ct, seqR_ex, seqR_bad, nil_ap, pass_ap, never_ap, brk_ap, cnt_ap, retN_ap, sret_ap, sretL_ap, drop_ap, site_ap, asg_ap, own_ap, par2_ap, par3_ap, asgT_ap, asgR_some, asgR_none, gnm_ap, gnil_ap, gcons_ap, gtup_ap, andV_ap, orV_ap, andT_ap, orT_ap, notT_ap, test_ap, op1_ap, op2_ap, chain_ap, mite_ap, ite_apR, ite_apS, argN_ap, argD_ap, argS_ap, slotR_some, tup_ap, lst_ap, known_ap, call_ap, callL_ap, items_ap, part_ap, slice_ap, catL_ap, frz_ap, borrow_ap, borrowR_ok, borrowT_ap, borrowTR_ok, subO_ap, app_ap, setIx_ap, retO_ap, for_ap, lc_ap, lcR_ok, fn_ap, fnL_ap, fnR_some, fnLR_some, retR_ret, retR_retL, retLR_retL, putR_some, putO_none, putO_s0, putO_s1, putO_s2, putO_s3, putO_s4, endR_rt, endR_rl, endR_nx, endR_bad, bindR_ite, ofR_ite, seqR_ite, endR_ite, lift_ite, addD_ii, addD_ss, addD_tt, subD_ii, mulD_ii, fdivD_ii, modD_ii, powD_ii, negD_i, ltD_ii, leD_ii, gtD_ii, geD_ii, ixD_l, ixD_t, catD_ll, itemsD_l, itemsD_t, lenD_l, lenD_t, lenD_s, absD_i, maxD_ii, minD_ii, intD_i, intD_b, tupleD_l, tupleD_t, notD_b, asB_b, asI_i, eqD_ii, eqD_ss, eqD_bb, eqD_si, eqD_is, eqD_nn, eqD_nb, eqD_ni, eqD_ns, eqD_bn, eqD_in, eqD_sn, tInt_none, tInt_bool, tInt_int, tInt_str, tInt_tuple, tInt_list, tInt_dict, tBool_none, tBool_bool, tBool_int, tBool_str, tBool_tuple, tBool_list, tBool_dict, tStr_none, tStr_bool, tStr_int, tStr_str, tStr_tuple, tStr_list, tStr_dict, tTuple_none, tTuple_bool, tTuple_int, tTuple_str, tTuple_tuple, tTuple_list, tTuple_dict, tList_none, tList_bool, tList_int, tList_str, tList_tuple, tList_list, tList_dict, tSeq_none, tSeq_bool, tSeq_int, tSeq_str, tSeq_tuple, tSeq_list, tSeq_dict, isNoneB_none, scalarD_none, isNoneB_bool, scalarD_bool, isNoneB_int, scalarD_int, isNoneB_str, scalarD_str, isNoneB_tuple, scalarD_tuple, isNoneB_list, scalarD_list, isNoneB_dict, scalarD_dict, ixT0, ixT1, ixT2, ixT3, ixT4, ixT5, ixT6, ixT7, ixT8, ixT9, ixL0, ixL1, ixL2, ixL3, ixL4, ixL5, ixL6, ixL7, ixL8, ixL9, aI0, aI1, aI2, aI3, aI4, aI5, aI6, aI7, aI8, aI9, ixN1_0, ixN2_0, ixN2_1, ixN3_0, ixN3_1, ixN3_2, ixN4_0, ixN4_1, ixN4_2, ixN4_3, ixN5_0, ixN5_1, ixN5_2, ixN5_3, ixN5_4, ixN6_0, ixN6_1, ixN6_2, ixN6_3, ixN6_4, ixN6_5, List.map_cons, List.map_nil, List.cons_append, List.nil_append, List.replicate_zero, List.replicate_succ, List.length_cons, List.length_nil, List.getElem?_cons_zero, List.getElem?_cons_succ, List.set_cons_zero, List.set_cons_succ, List.getD_cons_zero, List.getD_cons_succ, Bool.and_true, Bool.true_and, Bool.not_false, Bool.not_true, Nat.sub_self, Nat.reduceSub, Nat.reduceAdd, Nat.zero_add, true_and, and_true, and_self, if_true, if_false, ite_true, ite_false, reduceCtorEq, false_implies, implies_true, forall_const, Bool.false_eq_true, Option.bind_some, Option.map_some, Option.bind_none, Option.map_none, runF_eq, okIo, datOf, lvsOf, argIo, isD, outO, isND, notND, vals2D, vals3D, eqDD, neDD, decide_true, decide_false, Bool.decide_eq_true, sz0, sz1, sz2, sz3, sz4, sz5, sz6, sz7, sz8, sz9, slice_t, all_t, all_l, any_l, all_lm, all_tm, any_lm, Function.comp_def, step_nx, step_ct, step_bk, step_rt, step_rl, step_ite, decide_eq_true_eq, Int.cast_ofNat_Int, Int.reduceLE, Int.reduceLT, Int.reduceAdd, Int.reduceSub, Int.reduceMul, Int.reduceNeg, Int.reduceEq, Int.reduceGT, Nat.reduceEqDiff, ne_eq, not_false_eq_true, Option.some.injEq, forall_eq', Nat.reduceLT, Bool.and_false, Bool.or_false, Bool.false_or, Bool.true_or, Bool.false_and, Bool.or_true, cA, cS, cF, cR, e_AS, e_AA, eR, add_one h b hl, len_encB, slice_neg _ hn hn', all_encB, slice_max]
  by_cases h1 : ((h ++ [b]).length : Int) < r.need
  · simp only [h1, Int.not_le.mpr h1, if_true, decide_false, Bool.false_and, Bool.false_eq_true, if_false, encS]
  · have h1' := Int.not_lt.mp h1
    simp only [h1, h1', if_false, decide_true, Bool.true_and]
    cases h2 : (List.drop ((h ++ [b]).length - r.need.toNat) (h ++ [b])).all id
    · simp only [Bool.not_false, if_true, Bool.false_eq_true, if_false, encS]
    · simp only [Bool.not_true, Bool.false_eq_true, if_false, if_true, h0, false_or]
      by_cases h3 : ((h ++ [b]).length : Int) = r.most
      · simp only [h3, if_true]
      · simp only [h3, if_false, encS]
theorem F_step_eq (r : Rec) (hr : r.Ok) (s : Sd) (b : Bool) (hl : ∀ h, s = .aw h → h.length + 1 ≤ sizeLine) : F_step [.d (encR r), .d (encS s), .d (.bool b)] = .ret (.tuple [encS (stepS r s b).1, .int (stepS r s b).2]) none := by
  cases s with
  | aw h => exact F_step_aw r hr h b (hl h rfl)
  | rc c q => exact F_step_rc r c q b
  | sl c => exact F_step_sl r c b
/-! ### which stands there are -/
def heardS (r : Rec) (h : List Bool) : Prop := (h.length : Int) ≤ r.need + r.ahead - 1 ∧ ((h.length : Int) < r.need ∨ (h.drop (h.length - r.need.toNat)).all id = false)
def Sd.Ok (r : Rec) : Sd → Prop
  | .aw h => heardS r h
  | .rc c q => 1 ≤ c ∧ c ≤ r.most - 1 ∧ 0 ≤ q ∧ q ≤ (if c < r.hush then c else r.hush) - 1
  | .sl c => 1 ≤ c ∧ c ≤ r.rest
theorem F_look_at_recorder_ok {r : Rec} (h : r.Ok) : F_look_at_recorder [.d (encR r)] = .ret .none none := by
  unfold F_look_at_recorder g_look_at_recorder
  simp only [ret_ap, lift_some, lift_none, var_ap, varR_d, ownAt_ap, ownL_own, ownL_d, ownL_n, frzAt_ap, frzL_own, frzL_d, frz_nil, frz_cons, frz1_own, frz1_d, frz1_n, wipe_nil, wipe_cons, restore_nil, restore_cons, clean_nil, clean_cons, isOwnL_own, isOwnL_d, isOwnL_n, bind_ap, bindR_ok, bindR_ex, bindR_bad, ofM_ap, ofR_ok, ofR_ex, ofR_bad, seq_ap, seqR_nx, seqR_rt, seqR_rl, seqR_bk, seqR_ct, seqR_ex, seqR_bad, nil_ap, pass_ap, never_ap, brk_ap, cnt_ap, retN_ap, sret_ap, sretL_ap, drop_ap, site_ap, asg_ap, own_ap, par2_ap, par3_ap, asgT_ap, asgR_some, asgR_none, gnm_ap, gnil_ap, gcons_ap, gtup_ap, andV_ap, orV_ap, andT_ap, orT_ap, notT_ap, test_ap, op1_ap, op2_ap, chain_ap, mite_ap, ite_apR, ite_apS, argN_ap, argD_ap, argS_ap, slotR_some, tup_ap, lst_ap, known_ap, call_ap, callL_ap, items_ap, part_ap, slice_ap, catL_ap, frz_ap, borrow_ap, borrowR_ok, borrowT_ap, borrowTR_ok, subO_ap, app_ap, setIx_ap, retO_ap, for_ap, lc_ap, lcR_ok, fn_ap, fnL_ap, fnR_some, fnLR_some, retR_ret, retR_retL, retLR_retL, putR_some, putO_none, putO_s0, putO_s1, putO_s2, putO_s3, putO_s4, endR_rt, endR_rl, endR_nx, endR_bad, bindR_ite, ofR_ite, seqR_ite, endR_ite, lift_ite, addD_ii, addD_ss, addD_tt, subD_ii, mulD_ii, fdivD_ii, modD_ii, powD_ii, negD_i, ltD_ii, leD_ii, gtD_ii, geD_ii, ixD_l, ixD_t, catD_ll, itemsD_l, itemsD_t, lenD_l, lenD_t, lenD_s, absD_i, maxD_ii, minD_ii, intD_i, intD_b, tupleD_l, tupleD_t, notD_b, asB_b, asI_i, eqD_ii, eqD_ss, eqD_bb, eqD_si, eqD_is, eqD_nn, eqD_nb, eqD_ni, eqD_ns, eqD_bn, eqD_in, eqD_sn, tInt_none, tInt_bool, tInt_int, tInt_str, tInt_tuple, tInt_list, tInt_dict, tBool_none, tBool_bool, tBool_int, tBool_str, tBool_tuple, tBool_list, tBool_dict, tStr_none, tStr_bool, tStr_int, tStr_str, tStr_tuple, tStr_list, tStr_dict, tTuple_none, tTuple_bool, tTuple_int, tTuple_str, tTuple_tuple, tTuple_list, tTuple_dict, tList_none, tList_bool, tList_int, tList_str, tList_tuple, tList_list, tList_dict, tSeq_none, tSeq_bool, tSeq_int, tSeq_str, tSeq_tuple, tSeq_list, tSeq_dict, isNoneB_none, scalarD_none, isNoneB_bool, scalarD_bool, isNoneB_int, scalarD_int, isNoneB_str, scalarD_str, isNoneB_tuple, scalarD_tuple, isNoneB_list, scalarD_list, isNoneB_dict, scalarD_dict, ixT0, ixT1, ixT2, ixT3, ixT4, ixT5, ixT6, ixT7, ixT8, ixT9, ixL0, ixL1, ixL2, ixL3, ixL4, ixL5, ixL6, ixL7, ixL8, ixL9, aI0, aI1, aI2, aI3, aI4, aI5, aI6, aI7, aI8, aI9, ixN1_0, ixN2_0, ixN2_1, ixN3_0, ixN3_1, ixN3_2, ixN4_0, ixN4_1, ixN4_2, ixN4_3, ixN5_0, ixN5_1, ixN5_2, ixN5_3, ixN5_4, ixN6_0, ixN6_1, ixN6_2, ixN6_3, ixN6_4, ixN6_5, List.map_cons, List.map_nil, List.cons_append, List.nil_append, List.replicate_zero, List.replicate_succ, List.length_cons, List.length_nil, List.getElem?_cons_zero, List.getElem?_cons_succ, List.set_cons_zero, List.set_cons_succ, List.getD_cons_zero, List.getD_cons_succ, Bool.and_true, Bool.true_and, Bool.not_false, Bool.not_true, Nat.sub_self, Nat.reduceSub, Nat.reduceAdd, Nat.zero_add, true_and, and_true, and_self, if_true, if_false, ite_true, ite_false, reduceCtorEq, false_implies, implies_true, forall_const, Bool.false_eq_true, Option.bind_some, Option.map_some, Option.bind_none, Option.map_none, runF_eq, okIo, datOf, lvsOf, argIo, isD, outO, isND, notND, vals2D, vals3D, eqDD, neDD, decide_true, decide_false, Bool.decide_eq_true, sz0, sz1, sz2, sz3, sz4, sz5, sz6, sz7, sz8, sz9, slice_t, all_t, all_l, any_l, all_lm, all_tm, any_lm, Function.comp_def, step_nx, step_ct, step_bk, step_rt, step_rl, step_ite, decide_eq_true_eq, Int.cast_ofNat_Int, Int.reduceLE, Int.reduceLT, Int.reduceAdd, Int.reduceSub, Int.reduceMul, Int.reduceNeg, Int.reduceEq, Int.reduceGT, Nat.reduceEqDiff, ne_eq, not_false_eq_true, Option.some.injEq, forall_eq', Nat.reduceLT, Bool.and_false, Bool.or_false, Bool.false_or, Bool.true_or, Bool.false_and, Bool.or_true, F_is_recorder_ok h]
theorem F_look_at_sound_ok (b : Bool) : F_look_at_sound [.d (.bool b)] = .ret .none none := by
  unfold F_look_at_sound g_look_at_sound
  simp only [ret_ap, lift_some, lift_none, var_ap, varR_d, ownAt_ap, ownL_own, ownL_d, ownL_n, frzAt_ap, frzL_own, frzL_d, frz_nil, frz_cons, frz1_own, frz1_d, frz1_n, wipe_nil, wipe_cons, restore_nil, restore_cons, clean_nil, clean_cons, isOwnL_own, isOwnL_d, isOwnL_n, bind_ap, bindR_ok, bindR_ex, bindR_bad, ofM_ap, ofR_ok, ofR_ex, ofR_bad, seq_ap, seqR_nx, seqR_rt, seqR_rl, seqR_bk, seqR_ct, seqR_ex, seqR_bad, nil_ap, pass_ap, never_ap, brk_ap, cnt_ap, retN_ap, sret_ap, sretL_ap, drop_ap, site_ap, asg_ap, own_ap, par2_ap, par3_ap, asgT_ap, asgR_some, asgR_none, gnm_ap, gnil_ap, gcons_ap, gtup_ap, andV_ap, orV_ap, andT_ap, orT_ap, notT_ap, test_ap, op1_ap, op2_ap, chain_ap, mite_ap, ite_apR, ite_apS, argN_ap, argD_ap, argS_ap, slotR_some, tup_ap, lst_ap, known_ap, call_ap, callL_ap, items_ap, part_ap, slice_ap, catL_ap, frz_ap, borrow_ap, borrowR_ok, borrowT_ap, borrowTR_ok, subO_ap, app_ap, setIx_ap, retO_ap, for_ap, lc_ap, lcR_ok, fn_ap, fnL_ap, fnR_some, fnLR_some, retR_ret, retR_retL, retLR_retL, putR_some, putO_none, putO_s0, putO_s1, putO_s2, putO_s3, putO_s4, endR_rt, endR_rl, endR_nx, endR_bad, bindR_ite, ofR_ite, seqR_ite, endR_ite, lift_ite, addD_ii, addD_ss, addD_tt, subD_ii, mulD_ii, fdivD_ii, modD_ii, powD_ii, negD_i, ltD_ii, leD_ii, gtD_ii, geD_ii, ixD_l, ixD_t, catD_ll, itemsD_l, itemsD_t, lenD_l, lenD_t, lenD_s, absD_i, maxD_ii, minD_ii, intD_i, intD_b, tupleD_l, tupleD_t, notD_b, asB_b, asI_i, eqD_ii, eqD_ss, eqD_bb, eqD_si, eqD_is, eqD_nn, eqD_nb, eqD_ni, eqD_ns, eqD_bn, eqD_in, eqD_sn, tInt_none, tInt_bool, tInt_int, tInt_str, tInt_tuple, tInt_list, tInt_dict, tBool_none, tBool_bool, tBool_int, tBool_str, tBool_tuple, tBool_list, tBool_dict, tStr_none, tStr_bool, tStr_int, tStr_str, tStr_tuple, tStr_list, tStr_dict, tTuple_none, tTuple_bool, tTuple_int, tTuple_str, tTuple_tuple, tTuple_list, tTuple_dict, tList_none, tList_bool, tList_int, tList_str, tList_tuple, tList_list, tList_dict, tSeq_none, tSeq_bool, tSeq_int, tSeq_str, tSeq_tuple, tSeq_list, tSeq_dict, isNoneB_none, scalarD_none, isNoneB_bool, scalarD_bool, isNoneB_int, scalarD_int, isNoneB_str, scalarD_str, isNoneB_tuple, scalarD_tuple, isNoneB_list, scalarD_list, isNoneB_dict, scalarD_dict, ixT0, ixT1, ixT2, ixT3, ixT4, ixT5, ixT6, ixT7, ixT8, ixT9, ixL0, ixL1, ixL2, ixL3, ixL4, ixL5, ixL6, ixL7, ixL8, ixL9, aI0, aI1, aI2, aI3, aI4, aI5, aI6, aI7, aI8, aI9, ixN1_0, ixN2_0, ixN2_1, ixN3_0, ixN3_1, ixN3_2, ixN4_0, ixN4_1, ixN4_2, ixN4_3, ixN5_0, ixN5_1, ixN5_2, ixN5_3, ixN5_4, ixN6_0, ixN6_1, ixN6_2, ixN6_3, ixN6_4, ixN6_5, List.map_cons, List.map_nil, List.cons_append, List.nil_append, List.replicate_zero, List.replicate_succ, List.length_cons, List.length_nil, List.getElem?_cons_zero, List.getElem?_cons_succ, List.set_cons_zero, List.set_cons_succ, List.getD_cons_zero, List.getD_cons_succ, Bool.and_true, Bool.true_and, Bool.not_false, Bool.not_true, Nat.sub_self, Nat.reduceSub, Nat.reduceAdd, Nat.zero_add, true_and, and_true, and_self, if_true, if_false, ite_true, ite_false, reduceCtorEq, false_implies, implies_true, forall_const, Bool.false_eq_true, Option.bind_some, Option.map_some, Option.bind_none, Option.map_none, runF_eq, okIo, datOf, lvsOf, argIo, isD, outO, isND, notND, vals2D, vals3D, eqDD, neDD, decide_true, decide_false, Bool.decide_eq_true, sz0, sz1, sz2, sz3, sz4, sz5, sz6, sz7, sz8, sz9, slice_t, all_t, all_l, any_l, all_lm, all_tm, any_lm, Function.comp_def, step_nx, step_ct, step_bk, step_rt, step_rl, step_ite, decide_eq_true_eq, Int.cast_ofNat_Int, Int.reduceLE, Int.reduceLT, Int.reduceAdd, Int.reduceSub, Int.reduceMul, Int.reduceNeg, Int.reduceEq, Int.reduceGT, Nat.reduceEqDiff, ne_eq, not_false_eq_true, Option.some.injEq, forall_eq', Nat.reduceLT, Bool.and_false, Bool.or_false, Bool.false_or, Bool.true_or, Bool.false_and, Bool.or_true]
theorem lc_bools (h : List Bool) (ρ : DE) : True := trivial
theorem tTuple_encB (h : List Bool) : tTuple (encB h) = true := rfl
theorem itemsD_encB (h : List Bool) : itemsD (encB h) = some (h.map .bool) := rfl
theorem F_is_heard_ok {r : Rec} (hr : r.Ok) {h : List Bool} (hh : heardS r h) : F_is_heard [.d (encR r), .d (encB h)] = .ret (.bool true) none := by
  have hn : -r.need = -((r.need.toNat : Nat) : Int) := by have := hr.n1; omega
  have hn' : 0 < r.need.toNat := by have := hr.n1; omega
  obtain ⟨hh1, hh2⟩ := hh
  have hz : h.length ≤ sizeLine := by have := hr.n3; have := hr.a3; rw [sizeLine_eq]; omega
  unfold F_is_heard g_is_heard encR
  simp only [ret_ap, lift_some, lift_none, var_ap, varR_d, ownAt_ap, ownL_own, ownL_d, ownL_n, frzAt_ap, frzL_own, frzL_d, frz_nil, frz_cons, frz1_own, frz1_d, frz1_n, wipe_nil, wipe_cons, restore_nil, restore_cons, clean_nil, clean_cons, isOwnL_own, isOwnL_d, isOwnL_n, bind_ap, bindR_ok, bindR_ex, bindR_bad, ofM_ap, ofR_ok, ofR_ex, ofR_bad, seq_ap, seqR_nx, seqR_rt, seqR_rl, seqR_bk, seqR_ct, seqR_ex, seqR_bad, nil_ap, pass_ap, never_ap, brk_ap, cnt_ap, retN_ap, sret_ap, sretL_ap, drop_ap, site_ap, asg_ap, own_ap, par2_ap, par3_ap, asgT_ap, asgR_some, asgR_none, gnm_ap, gnil_ap, gcons_ap, gtup_ap, andV_ap, orV_ap, andT_ap, orT_ap, notT_ap, test_ap, op1_ap, op2_ap, chain_ap, mite_ap, ite_apR, ite_apS, argN_ap, argD_ap, argS_ap, slotR_some, tup_ap, lst_ap, known_ap, call_ap, callL_ap, items_ap, part_ap, slice_ap, catL_ap, frz_ap, borrow_ap, borrowR_ok, borrowT_ap, borrowTR_ok, subO_ap, app_ap, setIx_ap, retO_ap, for_ap, lc_ap, lcR_ok, fn_ap, fnL_ap, fnR_some, fnLR_some, retR_ret, retR_retL, retLR_retL, putR_some, putO_none, putO_s0, putO_s1, putO_s2, putO_s3, putO_s4, endR_rt, endR_rl, endR_nx, endR_bad, bindR_ite, ofR_ite, seqR_ite, endR_ite, lift_ite, addD_ii, addD_ss, addD_tt, subD_ii, mulD_ii, fdivD_ii, modD_ii, powD_ii, negD_i, ltD_ii, leD_ii, gtD_ii, geD_ii, ixD_l, ixD_t, catD_ll, itemsD_l, itemsD_t, lenD_l, lenD_t, lenD_s, absD_i, maxD_ii, minD_ii, intD_i, intD_b, tupleD_l, tupleD_t, notD_b, asB_b, asI_i, eqD_ii, eqD_ss, eqD_bb, eqD_si, eqD_is, eqD_nn, eqD_nb, eqD_ni, eqD_ns, eqD_bn, eqD_in, eqD_sn, tInt_none, tInt_bool, tInt_int, tInt_str, tInt_tuple, tInt_list, tInt_dict, tBool_none, tBool_bool, tBool_int, tBool_str, tBool_tuple, tBool_list, tBool_dict, tStr_none, tStr_bool, tStr_int, tStr_str, tStr_tuple, tStr_list, tStr_dict, tTuple_none, tTuple_bool, tTuple_int, tTuple_str, tTuple_tuple, tTuple_list, tTuple_dict, tList_none, tList_bool, tList_int, tList_str, tList_tuple, tList_list, tList_dict, tSeq_none, tSeq_bool, tSeq_int, tSeq_str, tSeq_tuple, tSeq_list, tSeq_dict, isNoneB_none, scalarD_none, isNoneB_bool, scalarD_bool, isNoneB_int, scalarD_int, isNoneB_str, scalarD_str, isNoneB_tuple, scalarD_tuple, isNoneB_list, scalarD_list, isNoneB_dict, scalarD_dict, ixT0, ixT1, ixT2, ixT3, ixT4, ixT5, ixT6, ixT7, ixT8, ixT9, ixL0, ixL1, ixL2, ixL3, ixL4, ixL5, ixL6, ixL7, ixL8, ixL9, aI0, aI1, aI2, aI3, aI4, aI5, aI6, aI7, aI8, aI9, ixN1_0, ixN2_0, ixN2_1, ixN3_0, ixN3_1, ixN3_2, ixN4_0, ixN4_1, ixN4_2, ixN4_3, ixN5_0, ixN5_1, ixN5_2, ixN5_3, ixN5_4, ixN6_0, ixN6_1, ixN6_2, ixN6_3, ixN6_4, ixN6_5, List.map_cons, List.map_nil, List.cons_append, List.nil_append, List.replicate_zero, List.replicate_succ, List.length_cons, List.length_nil, List.getElem?_cons_zero, List.getElem?_cons_succ, List.set_cons_zero, List.set_cons_succ, List.getD_cons_zero, List.getD_cons_succ, Bool.and_true, Bool.true_and, Bool.not_false, Bool.not_true, Nat.sub_self, Nat.reduceSub, Nat.reduceAdd, Nat.zero_add, true_and, and_true, and_self, if_true, if_false, ite_true, ite_false, reduceCtorEq, false_implies, implies_true, forall_const, Bool.false_eq_true, Option.bind_some, Option.map_some, Option.bind_none, Option.map_none, runF_eq, okIo, datOf, lvsOf, argIo, isD, outO, isND, notND, vals2D, vals3D, eqDD, neDD, decide_true, decide_false, Bool.decide_eq_true, sz0, sz1, sz2, sz3, sz4, sz5, sz6, sz7, sz8, sz9, slice_t, all_t, all_l, any_l, all_lm, all_tm, any_lm, Function.comp_def, step_nx, step_ct, step_bk, step_rt, step_rl, step_ite, decide_eq_true_eq, Int.cast_ofNat_Int, Int.reduceLE, Int.reduceLT, Int.reduceAdd, Int.reduceSub, Int.reduceMul, Int.reduceNeg, Int.reduceEq, Int.reduceGT, Nat.reduceEqDiff, ne_eq, not_false_eq_true, Option.some.injEq, forall_eq', Nat.reduceLT, Bool.and_false, Bool.or_false, Bool.false_or, Bool.true_or, Bool.false_and, Bool.or_true, len_encB, slice_neg _ hn hn', all_encB, tTuple_encB, itemsD_encB, if_neg (Int.not_lt.mpr hh1)]
  rw [lcLoop_map (f := fun _ => .bool true) _ (by rw [List.length_map]; exact hz) (by
    intro x hx
    obtain ⟨b, _, rfl⟩ := List.mem_map.mp hx
    exact ⟨_, _, _, rfl, rfl, rfl, rfl⟩)]
  simp only [ret_ap, lift_some, lift_none, var_ap, varR_d, ownAt_ap, ownL_own, ownL_d, ownL_n, frzAt_ap, frzL_own, frzL_d, frz_nil, frz_cons, frz1_own, frz1_d, frz1_n, wipe_nil, wipe_cons, restore_nil, restore_cons, clean_nil, clean_cons, isOwnL_own, isOwnL_d, isOwnL_n, bind_ap, bindR_ok, bindR_ex, bindR_bad, ofM_ap, ofR_ok, ofR_ex, ofR_bad, seq_ap, seqR_nx, seqR_rt, seqR_rl, seqR_bk, seqR_ct, seqR_ex, seqR_bad, nil_ap, pass_ap, never_ap, brk_ap, cnt_ap, retN_ap, sret_ap, sretL_ap, drop_ap, site_ap, asg_ap, own_ap, par2_ap, par3_ap, asgT_ap, asgR_some, asgR_none, gnm_ap, gnil_ap, gcons_ap, gtup_ap, andV_ap, orV_ap, andT_ap, orT_ap, notT_ap, test_ap, op1_ap, op2_ap, chain_ap, mite_ap, ite_apR, ite_apS, argN_ap, argD_ap, argS_ap, slotR_some, tup_ap, lst_ap, known_ap, call_ap, callL_ap, items_ap, part_ap, slice_ap, catL_ap, frz_ap, borrow_ap, borrowR_ok, borrowT_ap, borrowTR_ok, subO_ap, app_ap, setIx_ap, retO_ap, for_ap, lc_ap, lcR_ok, fn_ap, fnL_ap, fnR_some, fnLR_some, retR_ret, retR_retL, retLR_retL, putR_some, putO_none, putO_s0, putO_s1, putO_s2, putO_s3, putO_s4, endR_rt, endR_rl, endR_nx, endR_bad, bindR_ite, ofR_ite, seqR_ite, endR_ite, lift_ite, addD_ii, addD_ss, addD_tt, subD_ii, mulD_ii, fdivD_ii, modD_ii, powD_ii, negD_i, ltD_ii, leD_ii, gtD_ii, geD_ii, ixD_l, ixD_t, catD_ll, itemsD_l, itemsD_t, lenD_l, lenD_t, lenD_s, absD_i, maxD_ii, minD_ii, intD_i, intD_b, tupleD_l, tupleD_t, notD_b, asB_b, asI_i, eqD_ii, eqD_ss, eqD_bb, eqD_si, eqD_is, eqD_nn, eqD_nb, eqD_ni, eqD_ns, eqD_bn, eqD_in, eqD_sn, tInt_none, tInt_bool, tInt_int, tInt_str, tInt_tuple, tInt_list, tInt_dict, tBool_none, tBool_bool, tBool_int, tBool_str, tBool_tuple, tBool_list, tBool_dict, tStr_none, tStr_bool, tStr_int, tStr_str, tStr_tuple, tStr_list, tStr_dict, tTuple_none, tTuple_bool, tTuple_int, tTuple_str, tTuple_tuple, tTuple_list, tTuple_dict, tList_none, tList_bool, tList_int, tList_str, tList_tuple, tList_list, tList_dict, tSeq_none, tSeq_bool, tSeq_int, tSeq_str, tSeq_tuple, tSeq_list, tSeq_dict, isNoneB_none, scalarD_none, isNoneB_bool, scalarD_bool, isNoneB_int, scalarD_int, isNoneB_str, scalarD_str, isNoneB_tuple, scalarD_tuple, isNoneB_list, scalarD_list, isNoneB_dict, scalarD_dict, ixT0, ixT1, ixT2, ixT3, ixT4, ixT5, ixT6, ixT7, ixT8, ixT9, ixL0, ixL1, ixL2, ixL3, ixL4, ixL5, ixL6, ixL7, ixL8, ixL9, aI0, aI1, aI2, aI3, aI4, aI5, aI6, aI7, aI8, aI9, ixN1_0, ixN2_0, ixN2_1, ixN3_0, ixN3_1, ixN3_2, ixN4_0, ixN4_1, ixN4_2, ixN4_3, ixN5_0, ixN5_1, ixN5_2, ixN5_3, ixN5_4, ixN6_0, ixN6_1, ixN6_2, ixN6_3, ixN6_4, ixN6_5, List.map_cons, List.map_nil, List.cons_append, List.nil_append, List.replicate_zero, List.replicate_succ, List.length_cons, List.length_nil, List.getElem?_cons_zero, List.getElem?_cons_succ, List.set_cons_zero, List.set_cons_succ, List.getD_cons_zero, List.getD_cons_succ, Bool.and_true, Bool.true_and, Bool.not_false, Bool.not_true, Nat.sub_self, Nat.reduceSub, Nat.reduceAdd, Nat.zero_add, true_and, and_true, and_self, if_true, if_false, ite_true, ite_false, reduceCtorEq, false_implies, implies_true, forall_const, Bool.false_eq_true, Option.bind_some, Option.map_some, Option.bind_none, Option.map_none, runF_eq, okIo, datOf, lvsOf, argIo, isD, outO, isND, notND, vals2D, vals3D, eqDD, neDD, decide_true, decide_false, Bool.decide_eq_true, sz0, sz1, sz2, sz3, sz4, sz5, sz6, sz7, sz8, sz9, slice_t, all_t, all_l, any_l, all_lm, all_tm, any_lm, Function.comp_def, step_nx, step_ct, step_bk, step_rt, step_rl, step_ite, decide_eq_true_eq, Int.cast_ofNat_Int, Int.reduceLE, Int.reduceLT, Int.reduceAdd, Int.reduceSub, Int.reduceMul, Int.reduceNeg, Int.reduceEq, Int.reduceGT, Nat.reduceEqDiff, ne_eq, not_false_eq_true, Option.some.injEq, forall_eq', Nat.reduceLT, Bool.and_false, Bool.or_false, Bool.false_or, Bool.true_or, Bool.false_and, Bool.or_true, len_encB, slice_neg _ hn hn', all_encB, List.map_map]
  rw [List.all_eq_true.mpr (fun _ _ => rfl)]
  simp only [ret_ap, lift_some, lift_none, var_ap, varR_d, ownAt_ap, ownL_own, ownL_d, ownL_n, frzAt_ap, frzL_own, frzL_d, frz_nil, frz_cons, frz1_own, frz1_d, frz1_n, wipe_nil, wipe_cons, restore_nil, restore_cons, clean_nil, clean_cons, isOwnL_own, isOwnL_d, isOwnL_n, bind_ap, bindR_ok, bindR_ex, bindR_bad, ofM_ap, ofR_ok, ofR_ex, ofR_bad, seq_ap, seqR_nx, seqR_rt, seqR_rl, seqR_bk, seqR_ct, seqR_ex, seqR_bad, nil_ap, pass_ap, never_ap, brk_ap, cnt_ap, retN_ap, sret_ap, sretL_ap, drop_ap, site_ap, asg_ap, own_ap, par2_ap, par3_ap, asgT_ap, asgR_some, asgR_none, gnm_ap, gnil_ap, gcons_ap, gtup_ap, andV_ap, orV_ap, andT_ap, orT_ap, notT_ap, test_ap, op1_ap, op2_ap, chain_ap, mite_ap, ite_apR, ite_apS, argN_ap, argD_ap, argS_ap, slotR_some, tup_ap, lst_ap, known_ap, call_ap, callL_ap, items_ap, part_ap, slice_ap, catL_ap, frz_ap, borrow_ap, borrowR_ok, borrowT_ap, borrowTR_ok, subO_ap, app_ap, setIx_ap, retO_ap, for_ap, lc_ap, lcR_ok, fn_ap, fnL_ap, fnR_some, fnLR_some, retR_ret, retR_retL, retLR_retL, putR_some, putO_none, putO_s0, putO_s1, putO_s2, putO_s3, putO_s4, endR_rt, endR_rl, endR_nx, endR_bad, bindR_ite, ofR_ite, seqR_ite, endR_ite, lift_ite, addD_ii, addD_ss, addD_tt, subD_ii, mulD_ii, fdivD_ii, modD_ii, powD_ii, negD_i, ltD_ii, leD_ii, gtD_ii, geD_ii, ixD_l, ixD_t, catD_ll, itemsD_l, itemsD_t, lenD_l, lenD_t, lenD_s, absD_i, maxD_ii, minD_ii, intD_i, intD_b, tupleD_l, tupleD_t, notD_b, asB_b, asI_i, eqD_ii, eqD_ss, eqD_bb, eqD_si, eqD_is, eqD_nn, eqD_nb, eqD_ni, eqD_ns, eqD_bn, eqD_in, eqD_sn, tInt_none, tInt_bool, tInt_int, tInt_str, tInt_tuple, tInt_list, tInt_dict, tBool_none, tBool_bool, tBool_int, tBool_str, tBool_tuple, tBool_list, tBool_dict, tStr_none, tStr_bool, tStr_int, tStr_str, tStr_tuple, tStr_list, tStr_dict, tTuple_none, tTuple_bool, tTuple_int, tTuple_str, tTuple_tuple, tTuple_list, tTuple_dict, tList_none, tList_bool, tList_int, tList_str, tList_tuple, tList_list, tList_dict, tSeq_none, tSeq_bool, tSeq_int, tSeq_str, tSeq_tuple, tSeq_list, tSeq_dict, isNoneB_none, scalarD_none, isNoneB_bool, scalarD_bool, isNoneB_int, scalarD_int, isNoneB_str, scalarD_str, isNoneB_tuple, scalarD_tuple, isNoneB_list, scalarD_list, isNoneB_dict, scalarD_dict, ixT0, ixT1, ixT2, ixT3, ixT4, ixT5, ixT6, ixT7, ixT8, ixT9, ixL0, ixL1, ixL2, ixL3, ixL4, ixL5, ixL6, ixL7, ixL8, ixL9, aI0, aI1, aI2, aI3, aI4, aI5, aI6, aI7, aI8, aI9, ixN1_0, ixN2_0, ixN2_1, ixN3_0, ixN3_1, ixN3_2, ixN4_0, ixN4_1, ixN4_2, ixN4_3, ixN5_0, ixN5_1, ixN5_2, ixN5_3, ixN5_4, ixN6_0, ixN6_1, ixN6_2, ixN6_3, ixN6_4, ixN6_5, List.map_cons, List.map_nil, List.cons_append, List.nil_append, List.replicate_zero, List.replicate_succ, List.length_cons, List.length_nil, List.getElem?_cons_zero, List.getElem?_cons_succ, List.set_cons_zero, List.set_cons_succ, List.getD_cons_zero, List.getD_cons_succ, Bool.and_true, Bool.true_and, Bool.not_false, Bool.not_true, Nat.sub_self, Nat.reduceSub, Nat.reduceAdd, Nat.zero_add, true_and, and_true, and_self, if_true, if_false, ite_true, ite_false, reduceCtorEq, false_implies, implies_true, forall_const, Bool.false_eq_true, Option.bind_some, Option.map_some, Option.bind_none, Option.map_none, runF_eq, okIo, datOf, lvsOf, argIo, isD, outO, isND, notND, vals2D, vals3D, eqDD, neDD, decide_true, decide_false, Bool.decide_eq_true, sz0, sz1, sz2, sz3, sz4, sz5, sz6, sz7, sz8, sz9, slice_t, all_t, all_l, any_l, all_lm, all_tm, any_lm, Function.comp_def, step_nx, step_ct, step_bk, step_rt, step_rl, step_ite, decide_eq_true_eq, Int.cast_ofNat_Int, Int.reduceLE, Int.reduceLT, Int.reduceAdd, Int.reduceSub, Int.reduceMul, Int.reduceNeg, Int.reduceEq, Int.reduceGT, Nat.reduceEqDiff, ne_eq, not_false_eq_true, Option.some.injEq, forall_eq', Nat.reduceLT, Bool.and_false, Bool.or_false, Bool.false_or, Bool.true_or, Bool.false_and, Bool.or_true, len_encB, slice_neg _ hn hn', all_encB]
  rcases hh2 with h2 | h2
  · simp only [h2, if_true]
  · simp only [h2, Bool.not_false, ite_self]
def leneq (x : D) (n : Int) : Bool := isRowOf x n
theorem F_fits_ok {r : Rec} (hr : r.Ok) {s : Sd} (hs : s.Ok r) : F_fits [.d (encR r), .d (encS s)] = .ret (.bool true) none := by
  unfold F_fits g_fits
  cases s with
  | aw h =>
    have e := F_is_heard_ok hr hs
    unfold encS
    simp only [ret_ap, lift_some, lift_none, var_ap, varR_d, ownAt_ap, ownL_own, ownL_d, ownL_n, frzAt_ap, frzL_own, frzL_d, frz_nil, frz_cons, frz1_own, frz1_d, frz1_n, wipe_nil, wipe_cons, restore_nil, restore_cons, clean_nil, clean_cons, isOwnL_own, isOwnL_d, isOwnL_n, bind_ap, bindR_ok, bindR_ex, bindR_bad, ofM_ap, ofR_ok, ofR_ex, ofR_bad, seq_ap, seqR_nx, seqR_rt, seqR_rl, seqR_bk, seqR_ct, seqR_ex, seqR_bad, nil_ap, pass_ap, never_ap, brk_ap, cnt_ap, retN_ap, sret_ap, sretL_ap, drop_ap, site_ap, asg_ap, own_ap, par2_ap, par3_ap, asgT_ap, asgR_some, asgR_none, gnm_ap, gnil_ap, gcons_ap, gtup_ap, andV_ap, orV_ap, andT_ap, orT_ap, notT_ap, test_ap, op1_ap, op2_ap, chain_ap, mite_ap, ite_apR, ite_apS, argN_ap, argD_ap, argS_ap, slotR_some, tup_ap, lst_ap, known_ap, call_ap, callL_ap, items_ap, part_ap, slice_ap, catL_ap, frz_ap, borrow_ap, borrowR_ok, borrowT_ap, borrowTR_ok, subO_ap, app_ap, setIx_ap, retO_ap, for_ap, lc_ap, lcR_ok, fn_ap, fnL_ap, fnR_some, fnLR_some, retR_ret, retR_retL, retLR_retL, putR_some, putO_none, putO_s0, putO_s1, putO_s2, putO_s3, putO_s4, endR_rt, endR_rl, endR_nx, endR_bad, bindR_ite, ofR_ite, seqR_ite, endR_ite, lift_ite, addD_ii, addD_ss, addD_tt, subD_ii, mulD_ii, fdivD_ii, modD_ii, powD_ii, negD_i, ltD_ii, leD_ii, gtD_ii, geD_ii, ixD_l, ixD_t, catD_ll, itemsD_l, itemsD_t, lenD_l, lenD_t, lenD_s, absD_i, maxD_ii, minD_ii, intD_i, intD_b, tupleD_l, tupleD_t, notD_b, asB_b, asI_i, eqD_ii, eqD_ss, eqD_bb, eqD_si, eqD_is, eqD_nn, eqD_nb, eqD_ni, eqD_ns, eqD_bn, eqD_in, eqD_sn, tInt_none, tInt_bool, tInt_int, tInt_str, tInt_tuple, tInt_list, tInt_dict, tBool_none, tBool_bool, tBool_int, tBool_str, tBool_tuple, tBool_list, tBool_dict, tStr_none, tStr_bool, tStr_int, tStr_str, tStr_tuple, tStr_list, tStr_dict, tTuple_none, tTuple_bool, tTuple_int, tTuple_str, tTuple_tuple, tTuple_list, tTuple_dict, tList_none, tList_bool, tList_int, tList_str, tList_tuple, tList_list, tList_dict, tSeq_none, tSeq_bool, tSeq_int, tSeq_str, tSeq_tuple, tSeq_list, tSeq_dict, isNoneB_none, scalarD_none, isNoneB_bool, scalarD_bool, isNoneB_int, scalarD_int, isNoneB_str, scalarD_str, isNoneB_tuple, scalarD_tuple, isNoneB_list, scalarD_list, isNoneB_dict, scalarD_dict, ixT0, ixT1, ixT2, ixT3, ixT4, ixT5, ixT6, ixT7, ixT8, ixT9, ixL0, ixL1, ixL2, ixL3, ixL4, ixL5, ixL6, ixL7, ixL8, ixL9, aI0, aI1, aI2, aI3, aI4, aI5, aI6, aI7, aI8, aI9, ixN1_0, ixN2_0, ixN2_1, ixN3_0, ixN3_1, ixN3_2, ixN4_0, ixN4_1, ixN4_2, ixN4_3, ixN5_0, ixN5_1, ixN5_2, ixN5_3, ixN5_4, ixN6_0, ixN6_1, ixN6_2, ixN6_3, ixN6_4, ixN6_5, List.map_cons, List.map_nil, List.cons_append, List.nil_append, List.replicate_zero, List.replicate_succ, List.length_cons, List.length_nil, List.getElem?_cons_zero, List.getElem?_cons_succ, List.set_cons_zero, List.set_cons_succ, List.getD_cons_zero, List.getD_cons_succ, Bool.and_true, Bool.true_and, Bool.not_false, Bool.not_true, Nat.sub_self, Nat.reduceSub, Nat.reduceAdd, Nat.zero_add, true_and, and_true, and_self, if_true, if_false, ite_true, ite_false, reduceCtorEq, false_implies, implies_true, forall_const, Bool.false_eq_true, Option.bind_some, Option.map_some, Option.bind_none, Option.map_none, runF_eq, okIo, datOf, lvsOf, argIo, isD, outO, isND, notND, vals2D, vals3D, eqDD, neDD, decide_true, decide_false, Bool.decide_eq_true, sz0, sz1, sz2, sz3, sz4, sz5, sz6, sz7, sz8, sz9, slice_t, all_t, all_l, any_l, all_lm, all_tm, any_lm, Function.comp_def, step_nx, step_ct, step_bk, step_rt, step_rl, step_ite, decide_eq_true_eq, Int.cast_ofNat_Int, Int.reduceLE, Int.reduceLT, Int.reduceAdd, Int.reduceSub, Int.reduceMul, Int.reduceNeg, Int.reduceEq, Int.reduceGT, Nat.reduceEqDiff, ne_eq, not_false_eq_true, Option.some.injEq, forall_eq', Nat.reduceLT, Bool.and_false, Bool.or_false, Bool.false_or, Bool.true_or, Bool.false_and, Bool.or_true, cA, cS, cR, e_AA, F_is_row_of_eq, F_is_within_eq, isRowOf, isWithin, e]
  | rc c q =>
    obtain ⟨h1, h2, h3, h4⟩ := hs
    unfold encS encR
    simp only [ret_ap, lift_some, lift_none, var_ap, varR_d, ownAt_ap, ownL_own, ownL_d, ownL_n, frzAt_ap, frzL_own, frzL_d, frz_nil, frz_cons, frz1_own, frz1_d, frz1_n, wipe_nil, wipe_cons, restore_nil, restore_cons, clean_nil, clean_cons, isOwnL_own, isOwnL_d, isOwnL_n, bind_ap, bindR_ok, bindR_ex, bindR_bad, ofM_ap, ofR_ok, ofR_ex, ofR_bad, seq_ap, seqR_nx, seqR_rt, seqR_rl, seqR_bk, seqR_ct, seqR_ex, seqR_bad, nil_ap, pass_ap, never_ap, brk_ap, cnt_ap, retN_ap, sret_ap, sretL_ap, drop_ap, site_ap, asg_ap, own_ap, par2_ap, par3_ap, asgT_ap, asgR_some, asgR_none, gnm_ap, gnil_ap, gcons_ap, gtup_ap, andV_ap, orV_ap, andT_ap, orT_ap, notT_ap, test_ap, op1_ap, op2_ap, chain_ap, mite_ap, ite_apR, ite_apS, argN_ap, argD_ap, argS_ap, slotR_some, tup_ap, lst_ap, known_ap, call_ap, callL_ap, items_ap, part_ap, slice_ap, catL_ap, frz_ap, borrow_ap, borrowR_ok, borrowT_ap, borrowTR_ok, subO_ap, app_ap, setIx_ap, retO_ap, for_ap, lc_ap, lcR_ok, fn_ap, fnL_ap, fnR_some, fnLR_some, retR_ret, retR_retL, retLR_retL, putR_some, putO_none, putO_s0, putO_s1, putO_s2, putO_s3, putO_s4, endR_rt, endR_rl, endR_nx, endR_bad, bindR_ite, ofR_ite, seqR_ite, endR_ite, lift_ite, addD_ii, addD_ss, addD_tt, subD_ii, mulD_ii, fdivD_ii, modD_ii, powD_ii, negD_i, ltD_ii, leD_ii, gtD_ii, geD_ii, ixD_l, ixD_t, catD_ll, itemsD_l, itemsD_t, lenD_l, lenD_t, lenD_s, absD_i, maxD_ii, minD_ii, intD_i, intD_b, tupleD_l, tupleD_t, notD_b, asB_b, asI_i, eqD_ii, eqD_ss, eqD_bb, eqD_si, eqD_is, eqD_nn, eqD_nb, eqD_ni, eqD_ns, eqD_bn, eqD_in, eqD_sn, tInt_none, tInt_bool, tInt_int, tInt_str, tInt_tuple, tInt_list, tInt_dict, tBool_none, tBool_bool, tBool_int, tBool_str, tBool_tuple, tBool_list, tBool_dict, tStr_none, tStr_bool, tStr_int, tStr_str, tStr_tuple, tStr_list, tStr_dict, tTuple_none, tTuple_bool, tTuple_int, tTuple_str, tTuple_tuple, tTuple_list, tTuple_dict, tList_none, tList_bool, tList_int, tList_str, tList_tuple, tList_list, tList_dict, tSeq_none, tSeq_bool, tSeq_int, tSeq_str, tSeq_tuple, tSeq_list, tSeq_dict, isNoneB_none, scalarD_none, isNoneB_bool, scalarD_bool, isNoneB_int, scalarD_int, isNoneB_str, scalarD_str, isNoneB_tuple, scalarD_tuple, isNoneB_list, scalarD_list, isNoneB_dict, scalarD_dict, ixT0, ixT1, ixT2, ixT3, ixT4, ixT5, ixT6, ixT7, ixT8, ixT9, ixL0, ixL1, ixL2, ixL3, ixL4, ixL5, ixL6, ixL7, ixL8, ixL9, aI0, aI1, aI2, aI3, aI4, aI5, aI6, aI7, aI8, aI9, ixN1_0, ixN2_0, ixN2_1, ixN3_0, ixN3_1, ixN3_2, ixN4_0, ixN4_1, ixN4_2, ixN4_3, ixN5_0, ixN5_1, ixN5_2, ixN5_3, ixN5_4, ixN6_0, ixN6_1, ixN6_2, ixN6_3, ixN6_4, ixN6_5, List.map_cons, List.map_nil, List.cons_append, List.nil_append, List.replicate_zero, List.replicate_succ, List.length_cons, List.length_nil, List.getElem?_cons_zero, List.getElem?_cons_succ, List.set_cons_zero, List.set_cons_succ, List.getD_cons_zero, List.getD_cons_succ, Bool.and_true, Bool.true_and, Bool.not_false, Bool.not_true, Nat.sub_self, Nat.reduceSub, Nat.reduceAdd, Nat.zero_add, true_and, and_true, and_self, if_true, if_false, ite_true, ite_false, reduceCtorEq, false_implies, implies_true, forall_const, Bool.false_eq_true, Option.bind_some, Option.map_some, Option.bind_none, Option.map_none, runF_eq, okIo, datOf, lvsOf, argIo, isD, outO, isND, notND, vals2D, vals3D, eqDD, neDD, decide_true, decide_false, Bool.decide_eq_true, sz0, sz1, sz2, sz3, sz4, sz5, sz6, sz7, sz8, sz9, slice_t, all_t, all_l, any_l, all_lm, all_tm, any_lm, Function.comp_def, step_nx, step_ct, step_bk, step_rt, step_rl, step_ite, decide_eq_true_eq, Int.cast_ofNat_Int, Int.reduceLE, Int.reduceLT, Int.reduceAdd, Int.reduceSub, Int.reduceMul, Int.reduceNeg, Int.reduceEq, Int.reduceGT, Nat.reduceEqDiff, ne_eq, not_false_eq_true, Option.some.injEq, forall_eq', Nat.reduceLT, Bool.and_false, Bool.or_false, Bool.false_or, Bool.true_or, Bool.false_and, Bool.or_true, cA, cS, cR, e_RR, e_RA, e_RS, F_is_row_of_eq, F_is_within_eq, isRowOf, isWithin]
    simp only [h1, h2, h3, h4, decide_true, Bool.not_true, Bool.false_eq_true, if_false, Bool.and_self]
  | sl c =>
    obtain ⟨h1, h2⟩ := hs
    unfold encS encR
    simp only [ret_ap, lift_some, lift_none, var_ap, varR_d, ownAt_ap, ownL_own, ownL_d, ownL_n, frzAt_ap, frzL_own, frzL_d, frz_nil, frz_cons, frz1_own, frz1_d, frz1_n, wipe_nil, wipe_cons, restore_nil, restore_cons, clean_nil, clean_cons, isOwnL_own, isOwnL_d, isOwnL_n, bind_ap, bindR_ok, bindR_ex, bindR_bad, ofM_ap, ofR_ok, ofR_ex, ofR_bad, seq_ap, seqR_nx, seqR_rt, seqR_rl, seqR_bk, seqR_ct, seqR_ex, seqR_bad, nil_ap, pass_ap, never_ap, brk_ap, cnt_ap, retN_ap, sret_ap, sretL_ap, drop_ap, site_ap, asg_ap, own_ap, par2_ap, par3_ap, asgT_ap, asgR_some, asgR_none, gnm_ap, gnil_ap, gcons_ap, gtup_ap, andV_ap, orV_ap, andT_ap, orT_ap, notT_ap, test_ap, op1_ap, op2_ap, chain_ap, mite_ap, ite_apR, ite_apS, argN_ap, argD_ap, argS_ap, slotR_some, tup_ap, lst_ap, known_ap, call_ap, callL_ap, items_ap, part_ap, slice_ap, catL_ap, frz_ap, borrow_ap, borrowR_ok, borrowT_ap, borrowTR_ok, subO_ap, app_ap, setIx_ap, retO_ap, for_ap, lc_ap, lcR_ok, fn_ap, fnL_ap, fnR_some, fnLR_some, retR_ret, retR_retL, retLR_retL, putR_some, putO_none, putO_s0, putO_s1, putO_s2, putO_s3, putO_s4, endR_rt, endR_rl, endR_nx, endR_bad, bindR_ite, ofR_ite, seqR_ite, endR_ite, lift_ite, addD_ii, addD_ss, addD_tt, subD_ii, mulD_ii, fdivD_ii, modD_ii, powD_ii, negD_i, ltD_ii, leD_ii, gtD_ii, geD_ii, ixD_l, ixD_t, catD_ll, itemsD_l, itemsD_t, lenD_l, lenD_t, lenD_s, absD_i, maxD_ii, minD_ii, intD_i, intD_b, tupleD_l, tupleD_t, notD_b, asB_b, asI_i, eqD_ii, eqD_ss, eqD_bb, eqD_si, eqD_is, eqD_nn, eqD_nb, eqD_ni, eqD_ns, eqD_bn, eqD_in, eqD_sn, tInt_none, tInt_bool, tInt_int, tInt_str, tInt_tuple, tInt_list, tInt_dict, tBool_none, tBool_bool, tBool_int, tBool_str, tBool_tuple, tBool_list, tBool_dict, tStr_none, tStr_bool, tStr_int, tStr_str, tStr_tuple, tStr_list, tStr_dict, tTuple_none, tTuple_bool, tTuple_int, tTuple_str, tTuple_tuple, tTuple_list, tTuple_dict, tList_none, tList_bool, tList_int, tList_str, tList_tuple, tList_list, tList_dict, tSeq_none, tSeq_bool, tSeq_int, tSeq_str, tSeq_tuple, tSeq_list, tSeq_dict, isNoneB_none, scalarD_none, isNoneB_bool, scalarD_bool, isNoneB_int, scalarD_int, isNoneB_str, scalarD_str, isNoneB_tuple, scalarD_tuple, isNoneB_list, scalarD_list, isNoneB_dict, scalarD_dict, ixT0, ixT1, ixT2, ixT3, ixT4, ixT5, ixT6, ixT7, ixT8, ixT9, ixL0, ixL1, ixL2, ixL3, ixL4, ixL5, ixL6, ixL7, ixL8, ixL9, aI0, aI1, aI2, aI3, aI4, aI5, aI6, aI7, aI8, aI9, ixN1_0, ixN2_0, ixN2_1, ixN3_0, ixN3_1, ixN3_2, ixN4_0, ixN4_1, ixN4_2, ixN4_3, ixN5_0, ixN5_1, ixN5_2, ixN5_3, ixN5_4, ixN6_0, ixN6_1, ixN6_2, ixN6_3, ixN6_4, ixN6_5, List.map_cons, List.map_nil, List.cons_append, List.nil_append, List.replicate_zero, List.replicate_succ, List.length_cons, List.length_nil, List.getElem?_cons_zero, List.getElem?_cons_succ, List.set_cons_zero, List.set_cons_succ, List.getD_cons_zero, List.getD_cons_succ, Bool.and_true, Bool.true_and, Bool.not_false, Bool.not_true, Nat.sub_self, Nat.reduceSub, Nat.reduceAdd, Nat.zero_add, true_and, and_true, and_self, if_true, if_false, ite_true, ite_false, reduceCtorEq, false_implies, implies_true, forall_const, Bool.false_eq_true, Option.bind_some, Option.map_some, Option.bind_none, Option.map_none, runF_eq, okIo, datOf, lvsOf, argIo, isD, outO, isND, notND, vals2D, vals3D, eqDD, neDD, decide_true, decide_false, Bool.decide_eq_true, sz0, sz1, sz2, sz3, sz4, sz5, sz6, sz7, sz8, sz9, slice_t, all_t, all_l, any_l, all_lm, all_tm, any_lm, Function.comp_def, step_nx, step_ct, step_bk, step_rt, step_rl, step_ite, decide_eq_true_eq, Int.cast_ofNat_Int, Int.reduceLE, Int.reduceLT, Int.reduceAdd, Int.reduceSub, Int.reduceMul, Int.reduceNeg, Int.reduceEq, Int.reduceGT, Nat.reduceEqDiff, ne_eq, not_false_eq_true, Option.some.injEq, forall_eq', Nat.reduceLT, Bool.and_false, Bool.or_false, Bool.false_or, Bool.true_or, Bool.false_and, Bool.or_true, cA, cS, cR, e_SS, e_SA, e_SR, F_is_row_of_eq, F_is_within_eq, isRowOf, isWithin]
    simp only [h1, h2, decide_true, Bool.not_true, Bool.false_eq_true, if_false, if_true, Bool.and_self]
theorem Sd.Ok.short {r : Rec} (hr : r.Ok) {s : Sd} (hs : s.Ok r) : ∀ h, s = .aw h → h.length + 1 ≤ sizeLine := fun h e => by
  subst e
  have := hs.1
  have := hr.n3
  have := hr.a3
  rw [sizeLine_eq]
  omega
theorem F_look_at_stand_ok {r : Rec} (hr : r.Ok) {s : Sd} (hs : s.Ok r) : F_look_at_stand [.d (encR r), .d (encS s)] = .ret .none none := by
  unfold F_look_at_stand g_look_at_stand
  simp only [ret_ap, lift_some, lift_none, var_ap, varR_d, ownAt_ap, ownL_own, ownL_d, ownL_n, frzAt_ap, frzL_own, frzL_d, frz_nil, frz_cons, frz1_own, frz1_d, frz1_n, wipe_nil, wipe_cons, restore_nil, restore_cons, clean_nil, clean_cons, isOwnL_own, isOwnL_d, isOwnL_n, bind_ap, bindR_ok, bindR_ex, bindR_bad, ofM_ap, ofR_ok, ofR_ex, ofR_bad, seq_ap, seqR_nx, seqR_rt, seqR_rl, seqR_bk, seqR_ct, seqR_ex, seqR_bad, nil_ap, pass_ap, never_ap, brk_ap, cnt_ap, retN_ap, sret_ap, sretL_ap, drop_ap, site_ap, asg_ap, own_ap, par2_ap, par3_ap, asgT_ap, asgR_some, asgR_none, gnm_ap, gnil_ap, gcons_ap, gtup_ap, andV_ap, orV_ap, andT_ap, orT_ap, notT_ap, test_ap, op1_ap, op2_ap, chain_ap, mite_ap, ite_apR, ite_apS, argN_ap, argD_ap, argS_ap, slotR_some, tup_ap, lst_ap, known_ap, call_ap, callL_ap, items_ap, part_ap, slice_ap, catL_ap, frz_ap, borrow_ap, borrowR_ok, borrowT_ap, borrowTR_ok, subO_ap, app_ap, setIx_ap, retO_ap, for_ap, lc_ap, lcR_ok, fn_ap, fnL_ap, fnR_some, fnLR_some, retR_ret, retR_retL, retLR_retL, putR_some, putO_none, putO_s0, putO_s1, putO_s2, putO_s3, putO_s4, endR_rt, endR_rl, endR_nx, endR_bad, bindR_ite, ofR_ite, seqR_ite, endR_ite, lift_ite, addD_ii, addD_ss, addD_tt, subD_ii, mulD_ii, fdivD_ii, modD_ii, powD_ii, negD_i, ltD_ii, leD_ii, gtD_ii, geD_ii, ixD_l, ixD_t, catD_ll, itemsD_l, itemsD_t, lenD_l, lenD_t, lenD_s, absD_i, maxD_ii, minD_ii, intD_i, intD_b, tupleD_l, tupleD_t, notD_b, asB_b, asI_i, eqD_ii, eqD_ss, eqD_bb, eqD_si, eqD_is, eqD_nn, eqD_nb, eqD_ni, eqD_ns, eqD_bn, eqD_in, eqD_sn, tInt_none, tInt_bool, tInt_int, tInt_str, tInt_tuple, tInt_list, tInt_dict, tBool_none, tBool_bool, tBool_int, tBool_str, tBool_tuple, tBool_list, tBool_dict, tStr_none, tStr_bool, tStr_int, tStr_str, tStr_tuple, tStr_list, tStr_dict, tTuple_none, tTuple_bool, tTuple_int, tTuple_str, tTuple_tuple, tTuple_list, tTuple_dict, tList_none, tList_bool, tList_int, tList_str, tList_tuple, tList_list, tList_dict, tSeq_none, tSeq_bool, tSeq_int, tSeq_str, tSeq_tuple, tSeq_list, tSeq_dict, isNoneB_none, scalarD_none, isNoneB_bool, scalarD_bool, isNoneB_int, scalarD_int, isNoneB_str, scalarD_str, isNoneB_tuple, scalarD_tuple, isNoneB_list, scalarD_list, isNoneB_dict, scalarD_dict, ixT0, ixT1, ixT2, ixT3, ixT4, ixT5, ixT6, ixT7, ixT8, ixT9, ixL0, ixL1, ixL2, ixL3, ixL4, ixL5, ixL6, ixL7, ixL8, ixL9, aI0, aI1, aI2, aI3, aI4, aI5, aI6, aI7, aI8, aI9, ixN1_0, ixN2_0, ixN2_1, ixN3_0, ixN3_1, ixN3_2, ixN4_0, ixN4_1, ixN4_2, ixN4_3, ixN5_0, ixN5_1, ixN5_2, ixN5_3, ixN5_4, ixN6_0, ixN6_1, ixN6_2, ixN6_3, ixN6_4, ixN6_5, List.map_cons, List.map_nil, List.cons_append, List.nil_append, List.replicate_zero, List.replicate_succ, List.length_cons, List.length_nil, List.getElem?_cons_zero, List.getElem?_cons_succ, List.set_cons_zero, List.set_cons_succ, List.getD_cons_zero, List.getD_cons_succ, Bool.and_true, Bool.true_and, Bool.not_false, Bool.not_true, Nat.sub_self, Nat.reduceSub, Nat.reduceAdd, Nat.zero_add, true_and, and_true, and_self, if_true, if_false, ite_true, ite_false, reduceCtorEq, false_implies, implies_true, forall_const, Bool.false_eq_true, Option.bind_some, Option.map_some, Option.bind_none, Option.map_none, runF_eq, okIo, datOf, lvsOf, argIo, isD, outO, isND, notND, vals2D, vals3D, eqDD, neDD, decide_true, decide_false, Bool.decide_eq_true, sz0, sz1, sz2, sz3, sz4, sz5, sz6, sz7, sz8, sz9, slice_t, all_t, all_l, any_l, all_lm, all_tm, any_lm, Function.comp_def, step_nx, step_ct, step_bk, step_rt, step_rl, step_ite, decide_eq_true_eq, Int.cast_ofNat_Int, Int.reduceLE, Int.reduceLT, Int.reduceAdd, Int.reduceSub, Int.reduceMul, Int.reduceNeg, Int.reduceEq, Int.reduceGT, Nat.reduceEqDiff, ne_eq, not_false_eq_true, Option.some.injEq, forall_eq', Nat.reduceLT, Bool.and_false, Bool.or_false, Bool.false_or, Bool.true_or, Bool.false_and, Bool.or_true, F_fits_ok hr hs]
theorem F_is_stand_ok {r : Rec} (hr : r.Ok) {s : Sd} (hs : s.Ok r) : F_is_stand [.d (encR r), .d (encS s)] = .ret (.bool true) none := by
  unfold F_is_stand g_is_stand
  simp only [ret_ap, lift_some, lift_none, var_ap, varR_d, ownAt_ap, ownL_own, ownL_d, ownL_n, frzAt_ap, frzL_own, frzL_d, frz_nil, frz_cons, frz1_own, frz1_d, frz1_n, wipe_nil, wipe_cons, restore_nil, restore_cons, clean_nil, clean_cons, isOwnL_own, isOwnL_d, isOwnL_n, bind_ap, bindR_ok, bindR_ex, bindR_bad, ofM_ap, ofR_ok, ofR_ex, ofR_bad, seq_ap, seqR_nx, seqR_rt, seqR_rl, seqR_bk, seqR_ct, seqR_ex, seqR_bad, nil_ap, pass_ap, never_ap, brk_ap, cnt_ap, retN_ap, sret_ap, sretL_ap, drop_ap, site_ap, asg_ap, own_ap, par2_ap, par3_ap, asgT_ap, asgR_some, asgR_none, gnm_ap, gnil_ap, gcons_ap, gtup_ap, andV_ap, orV_ap, andT_ap, orT_ap, notT_ap, test_ap, op1_ap, op2_ap, chain_ap, mite_ap, ite_apR, ite_apS, argN_ap, argD_ap, argS_ap, slotR_some, tup_ap, lst_ap, known_ap, call_ap, callL_ap, items_ap, part_ap, slice_ap, catL_ap, frz_ap, borrow_ap, borrowR_ok, borrowT_ap, borrowTR_ok, subO_ap, app_ap, setIx_ap, retO_ap, for_ap, lc_ap, lcR_ok, fn_ap, fnL_ap, fnR_some, fnLR_some, retR_ret, retR_retL, retLR_retL, putR_some, putO_none, putO_s0, putO_s1, putO_s2, putO_s3, putO_s4, endR_rt, endR_rl, endR_nx, endR_bad, bindR_ite, ofR_ite, seqR_ite, endR_ite, lift_ite, addD_ii, addD_ss, addD_tt, subD_ii, mulD_ii, fdivD_ii, modD_ii, powD_ii, negD_i, ltD_ii, leD_ii, gtD_ii, geD_ii, ixD_l, ixD_t, catD_ll, itemsD_l, itemsD_t, lenD_l, lenD_t, lenD_s, absD_i, maxD_ii, minD_ii, intD_i, intD_b, tupleD_l, tupleD_t, notD_b, asB_b, asI_i, eqD_ii, eqD_ss, eqD_bb, eqD_si, eqD_is, eqD_nn, eqD_nb, eqD_ni, eqD_ns, eqD_bn, eqD_in, eqD_sn, tInt_none, tInt_bool, tInt_int, tInt_str, tInt_tuple, tInt_list, tInt_dict, tBool_none, tBool_bool, tBool_int, tBool_str, tBool_tuple, tBool_list, tBool_dict, tStr_none, tStr_bool, tStr_int, tStr_str, tStr_tuple, tStr_list, tStr_dict, tTuple_none, tTuple_bool, tTuple_int, tTuple_str, tTuple_tuple, tTuple_list, tTuple_dict, tList_none, tList_bool, tList_int, tList_str, tList_tuple, tList_list, tList_dict, tSeq_none, tSeq_bool, tSeq_int, tSeq_str, tSeq_tuple, tSeq_list, tSeq_dict, isNoneB_none, scalarD_none, isNoneB_bool, scalarD_bool, isNoneB_int, scalarD_int, isNoneB_str, scalarD_str, isNoneB_tuple, scalarD_tuple, isNoneB_list, scalarD_list, isNoneB_dict, scalarD_dict, ixT0, ixT1, ixT2, ixT3, ixT4, ixT5, ixT6, ixT7, ixT8, ixT9, ixL0, ixL1, ixL2, ixL3, ixL4, ixL5, ixL6, ixL7, ixL8, ixL9, aI0, aI1, aI2, aI3, aI4, aI5, aI6, aI7, aI8, aI9, ixN1_0, ixN2_0, ixN2_1, ixN3_0, ixN3_1, ixN3_2, ixN4_0, ixN4_1, ixN4_2, ixN4_3, ixN5_0, ixN5_1, ixN5_2, ixN5_3, ixN5_4, ixN6_0, ixN6_1, ixN6_2, ixN6_3, ixN6_4, ixN6_5, List.map_cons, List.map_nil, List.cons_append, List.nil_append, List.replicate_zero, List.replicate_succ, List.length_cons, List.length_nil, List.getElem?_cons_zero, List.getElem?_cons_succ, List.set_cons_zero, List.set_cons_succ, List.getD_cons_zero, List.getD_cons_succ, Bool.and_true, Bool.true_and, Bool.not_false, Bool.not_true, Nat.sub_self, Nat.reduceSub, Nat.reduceAdd, Nat.zero_add, true_and, and_true, and_self, if_true, if_false, ite_true, ite_false, reduceCtorEq, false_implies, implies_true, forall_const, Bool.false_eq_true, Option.bind_some, Option.map_some, Option.bind_none, Option.map_none, runF_eq, okIo, datOf, lvsOf, argIo, isD, outO, isND, notND, vals2D, vals3D, eqDD, neDD, decide_true, decide_false, Bool.decide_eq_true, sz0, sz1, sz2, sz3, sz4, sz5, sz6, sz7, sz8, sz9, slice_t, all_t, all_l, any_l, all_lm, all_tm, any_lm, Function.comp_def, step_nx, step_ct, step_bk, step_rt, step_rl, step_ite, decide_eq_true_eq, Int.cast_ofNat_Int, Int.reduceLE, Int.reduceLT, Int.reduceAdd, Int.reduceSub, Int.reduceMul, Int.reduceNeg, Int.reduceEq, Int.reduceGT, Nat.reduceEqDiff, ne_eq, not_false_eq_true, Option.some.injEq, forall_eq', Nat.reduceLT, Bool.and_false, Bool.or_false, Bool.false_or, Bool.true_or, Bool.false_and, Bool.or_true, F_fits_ok hr hs, F_look_at_recorder_ok hr]
theorem F_after_ok {r : Rec} (hr : r.Ok) {s : Sd} (hs : s.Ok r) (b : Bool) : F_after [.d (encR r), .d (encS s), .d (.bool b)] = .ret (encS (stepS r s b).1) none := by
  unfold F_after g_after
  simp only [ret_ap, lift_some, lift_none, var_ap, varR_d, ownAt_ap, ownL_own, ownL_d, ownL_n, frzAt_ap, frzL_own, frzL_d, frz_nil, frz_cons, frz1_own, frz1_d, frz1_n, wipe_nil, wipe_cons, restore_nil, restore_cons, clean_nil, clean_cons, isOwnL_own, isOwnL_d, isOwnL_n, bind_ap, bindR_ok, bindR_ex, bindR_bad, ofM_ap, ofR_ok, ofR_ex, ofR_bad, seq_ap, seqR_nx, seqR_rt, seqR_rl, seqR_bk, seqR_ct, seqR_ex, seqR_bad, nil_ap, pass_ap, never_ap, brk_ap, cnt_ap, retN_ap, sret_ap, sretL_ap, drop_ap, site_ap, asg_ap, own_ap, par2_ap, par3_ap, asgT_ap, asgR_some, asgR_none, gnm_ap, gnil_ap, gcons_ap, gtup_ap, andV_ap, orV_ap, andT_ap, orT_ap, notT_ap, test_ap, op1_ap, op2_ap, chain_ap, mite_ap, ite_apR, ite_apS, argN_ap, argD_ap, argS_ap, slotR_some, tup_ap, lst_ap, known_ap, call_ap, callL_ap, items_ap, part_ap, slice_ap, catL_ap, frz_ap, borrow_ap, borrowR_ok, borrowT_ap, borrowTR_ok, subO_ap, app_ap, setIx_ap, retO_ap, for_ap, lc_ap, lcR_ok, fn_ap, fnL_ap, fnR_some, fnLR_some, retR_ret, retR_retL, retLR_retL, putR_some, putO_none, putO_s0, putO_s1, putO_s2, putO_s3, putO_s4, endR_rt, endR_rl, endR_nx, endR_bad, bindR_ite, ofR_ite, seqR_ite, endR_ite, lift_ite, addD_ii, addD_ss, addD_tt, subD_ii, mulD_ii, fdivD_ii, modD_ii, powD_ii, negD_i, ltD_ii, leD_ii, gtD_ii, geD_ii, ixD_l, ixD_t, catD_ll, itemsD_l, itemsD_t, lenD_l, lenD_t, lenD_s, absD_i, maxD_ii, minD_ii, intD_i, intD_b, tupleD_l, tupleD_t, notD_b, asB_b, asI_i, eqD_ii, eqD_ss, eqD_bb, eqD_si, eqD_is, eqD_nn, eqD_nb, eqD_ni, eqD_ns, eqD_bn, eqD_in, eqD_sn, tInt_none, tInt_bool, tInt_int, tInt_str, tInt_tuple, tInt_list, tInt_dict, tBool_none, tBool_bool, tBool_int, tBool_str, tBool_tuple, tBool_list, tBool_dict, tStr_none, tStr_bool, tStr_int, tStr_str, tStr_tuple, tStr_list, tStr_dict, tTuple_none, tTuple_bool, tTuple_int, tTuple_str, tTuple_tuple, tTuple_list, tTuple_dict, tList_none, tList_bool, tList_int, tList_str, tList_tuple, tList_list, tList_dict, tSeq_none, tSeq_bool, tSeq_int, tSeq_str, tSeq_tuple, tSeq_list, tSeq_dict, isNoneB_none, scalarD_none, isNoneB_bool, scalarD_bool, isNoneB_int, scalarD_int, isNoneB_str, scalarD_str, isNoneB_tuple, scalarD_tuple, isNoneB_list, scalarD_list, isNoneB_dict, scalarD_dict, ixT0, ixT1, ixT2, ixT3, ixT4, ixT5, ixT6, ixT7, ixT8, ixT9, ixL0, ixL1, ixL2, ixL3, ixL4, ixL5, ixL6, ixL7, ixL8, ixL9, aI0, aI1, aI2, aI3, aI4, aI5, aI6, aI7, aI8, aI9, ixN1_0, ixN2_0, ixN2_1, ixN3_0, ixN3_1, ixN3_2, ixN4_0, ixN4_1, ixN4_2, ixN4_3, ixN5_0, ixN5_1, ixN5_2, ixN5_3, ixN5_4, ixN6_0, ixN6_1, ixN6_2, ixN6_3, ixN6_4, ixN6_5, List.map_cons, List.map_nil, List.cons_append, List.nil_append, List.replicate_zero, List.replicate_succ, List.length_cons, List.length_nil, List.getElem?_cons_zero, List.getElem?_cons_succ, List.set_cons_zero, List.set_cons_succ, List.getD_cons_zero, List.getD_cons_succ, Bool.and_true, Bool.true_and, Bool.not_false, Bool.not_true, Nat.sub_self, Nat.reduceSub, Nat.reduceAdd, Nat.zero_add, true_and, and_true, and_self, if_true, if_false, ite_true, ite_false, reduceCtorEq, false_implies, implies_true, forall_const, Bool.false_eq_true, Option.bind_some, Option.map_some, Option.bind_none, Option.map_none, runF_eq, okIo, datOf, lvsOf, argIo, isD, outO, isND, notND, vals2D, vals3D, eqDD, neDD, decide_true, decide_false, Bool.decide_eq_true, sz0, sz1, sz2, sz3, sz4, sz5, sz6, sz7, sz8, sz9, slice_t, all_t, all_l, any_l, all_lm, all_tm, any_lm, Function.comp_def, step_nx, step_ct, step_bk, step_rt, step_rl, step_ite, decide_eq_true_eq, Int.cast_ofNat_Int, Int.reduceLE, Int.reduceLT, Int.reduceAdd, Int.reduceSub, Int.reduceMul, Int.reduceNeg, Int.reduceEq, Int.reduceGT, Nat.reduceEqDiff, ne_eq, not_false_eq_true, Option.some.injEq, forall_eq', Nat.reduceLT, Bool.and_false, Bool.or_false, Bool.false_or, Bool.true_or, Bool.false_and, Bool.or_true, F_look_at_stand_ok hr hs, F_look_at_recorder_ok hr, F_look_at_sound_ok, F_step_eq r hr s b (hs.short hr)]
/-! ### the law's own tick -/
theorem rep_true {n : Int} (h1 : 1 ≤ n) (h2 : n ≤ 1000) : repTD (.tuple [.bool true]) (.int n) = some (encB (List.replicate n.toNat true)) := by
  have e : repTD (.tuple [.bool true]) (.int n) = if ([PyData.bool true] : List D) = [] ∧ -1000 ≤ n ∧ n ≤ 1000 then some (.tuple []) else if 1 ≤ n ∧ n ≤ 1000 ∧ [PyData.bool true].length ≤ 1000 then some (.tuple (List.replicate n.toNat [PyData.bool true]).flatten) else none := rfl
  rw [e, if_neg (fun h => by cases h.1), if_pos ⟨h1, h2, by decide⟩]
  unfold encB
  congr 2
  rw [List.map_replicate]
  exact List.flatten_replicate_singleton
theorem encB_nil : encB [] = .tuple [] := rfl
theorem F_tick_sl (r : Rec) (c : Int) (b : Bool) (hs : 1 ≤ c) : F_f_law_tick [.d (encR r), .d (encS (.sl c)), .d (.bool b)] = .ret (.tuple [encS (stepS r (.sl c) b).1, .int (stepS r (.sl c) b).2]) none := by
  unfold F_f_law_tick g_f_law_tick encR encS stepS
  simp only [ret_ap, lift_some, lift_none, var_ap, varR_d, ownAt_ap, ownL_own, ownL_d, ownL_n, frzAt_ap, frzL_own, frzL_d, frz_nil, frz_cons, frz1_own, frz1_d, frz1_n, wipe_nil, wipe_cons, restore_nil, restore_cons, clean_nil, clean_cons, isOwnL_own, isOwnL_d, isOwnL_n, bind_ap, bindR_ok, bindR_ex, bindR_bad, ofM_ap, ofR_ok, ofR_ex, ofR_bad, seq_ap, seqR_nx, seqR_rt, seqR_rl, seqR_bk, seqR_ct, seqR_ex, seqR_bad, nil_ap, pass_ap, never_ap, brk_ap, cnt_ap, retN_ap, sret_ap, sretL_ap, drop_ap, site_ap, asg_ap, own_ap, par2_ap, par3_ap, asgT_ap, asgR_some, asgR_none, gnm_ap, gnil_ap, gcons_ap, gtup_ap, andV_ap, orV_ap, andT_ap, orT_ap, notT_ap, test_ap, op1_ap, op2_ap, chain_ap, mite_ap, ite_apR, ite_apS, argN_ap, argD_ap, argS_ap, slotR_some, tup_ap, lst_ap, known_ap, call_ap, callL_ap, items_ap, part_ap, slice_ap, catL_ap, frz_ap, borrow_ap, borrowR_ok, borrowT_ap, borrowTR_ok, subO_ap, app_ap, setIx_ap, retO_ap, for_ap, lc_ap, lcR_ok, fn_ap, fnL_ap, fnR_some, fnLR_some, retR_ret, retR_retL, retLR_retL, putR_some, putO_none, putO_s0, putO_s1, putO_s2, putO_s3, putO_s4, endR_rt, endR_rl, endR_nx, endR_bad, bindR_ite, ofR_ite, seqR_ite, endR_ite, lift_ite, addD_ii, addD_ss, addD_tt, subD_ii, mulD_ii, fdivD_ii, modD_ii, powD_ii, negD_i, ltD_ii, leD_ii, gtD_ii, geD_ii, ixD_l, ixD_t, catD_ll, itemsD_l, itemsD_t, lenD_l, lenD_t, lenD_s, absD_i, maxD_ii, minD_ii, intD_i, intD_b, tupleD_l, tupleD_t, notD_b, asB_b, asI_i, eqD_ii, eqD_ss, eqD_bb, eqD_si, eqD_is, eqD_nn, eqD_nb, eqD_ni, eqD_ns, eqD_bn, eqD_in, eqD_sn, tInt_none, tInt_bool, tInt_int, tInt_str, tInt_tuple, tInt_list, tInt_dict, tBool_none, tBool_bool, tBool_int, tBool_str, tBool_tuple, tBool_list, tBool_dict, tStr_none, tStr_bool, tStr_int, tStr_str, tStr_tuple, tStr_list, tStr_dict, tTuple_none, tTuple_bool, tTuple_int, tTuple_str, tTuple_tuple, tTuple_list, tTuple_dict, tList_none, tList_bool, tList_int, tList_str, tList_tuple, tList_list, tList_dict, tSeq_none, tSeq_bool, tSeq_int, tSeq_str, tSeq_tuple, tSeq_list, tSeq_dict, isNoneB_none, scalarD_none, isNoneB_bool, scalarD_bool, isNoneB_int, scalarD_int, isNoneB_str, scalarD_str, isNoneB_tuple, scalarD_tuple, isNoneB_list, scalarD_list, isNoneB_dict, scalarD_dict, ixT0, ixT1, ixT2, ixT3, ixT4, ixT5, ixT6, ixT7, ixT8, ixT9, ixL0, ixL1, ixL2, ixL3, ixL4, ixL5, ixL6, ixL7, ixL8, ixL9, aI0, aI1, aI2, aI3, aI4, aI5, aI6, aI7, aI8, aI9, ixN1_0, ixN2_0, ixN2_1, ixN3_0, ixN3_1, ixN3_2, ixN4_0, ixN4_1, ixN4_2, ixN4_3, ixN5_0, ixN5_1, ixN5_2, ixN5_3, ixN5_4, ixN6_0, ixN6_1, ixN6_2, ixN6_3, ixN6_4, ixN6_5, List.map_cons, List.map_nil, List.cons_append, List.nil_append, List.replicate_zero, List.replicate_succ, List.length_cons, List.length_nil, List.getElem?_cons_zero, List.getElem?_cons_succ, List.set_cons_zero, List.set_cons_succ, List.getD_cons_zero, List.getD_cons_succ, Bool.and_true, Bool.true_and, Bool.not_false, Bool.not_true, Nat.sub_self, Nat.reduceSub, Nat.reduceAdd, Nat.zero_add, true_and, and_true, and_self, if_true, if_false, ite_true, ite_false, reduceCtorEq, false_implies, implies_true, forall_const, Bool.false_eq_true, Option.bind_some, Option.map_some, Option.bind_none, Option.map_none, runF_eq, okIo, datOf, lvsOf, argIo, isD, outO, isND, notND, vals2D, vals3D, eqDD, neDD, decide_true, decide_false, Bool.decide_eq_true, sz0, sz1, sz2, sz3, sz4, sz5, sz6, sz7, sz8, sz9, slice_t, all_t, all_l, any_l, all_lm, all_tm, any_lm, Function.comp_def, step_nx, step_ct, step_bk, step_rt, step_rl, step_ite, decide_eq_true_eq, Int.cast_ofNat_Int, Int.reduceLE, Int.reduceLT, Int.reduceAdd, Int.reduceSub, Int.reduceMul, Int.reduceNeg, Int.reduceEq, Int.reduceGT, Nat.reduceEqDiff, ne_eq, not_false_eq_true, Option.some.injEq, forall_eq', Nat.reduceLT, Bool.and_false, Bool.or_false, Bool.false_or, Bool.true_or, Bool.false_and, Bool.or_true, e_SS, t_A, t_R, t_S]
  by_cases h : 1 < c
  · have h' : c ≠ 1 := by omega
    simp [h, h', encS]
  · have h' : c = 1 := by omega
    simp [h', encS, encB_nil]
theorem endD (r : Rec) : (if 0 < r.rest then encS (.sl r.rest) else encS (.aw [])) = encS (endedS r) := by
  unfold endedS
  split <;> rfl
theorem F_tick_rc (r : Rec) (hr : r.Ok) (c q : Int) (b : Bool) (hs : Sd.Ok r (.rc c q)) : F_f_law_tick [.d (encR r), .d (encS (.rc c q)), .d (.bool b)] = .ret (.tuple [encS (stepS r (.rc c q) b).1, .int (stepS r (.rc c q) b).2]) none := by
  unfold F_f_law_tick g_f_law_tick encR encS stepS
  simp only [ret_ap, lift_some, lift_none, var_ap, varR_d, ownAt_ap, ownL_own, ownL_d, ownL_n, frzAt_ap, frzL_own, frzL_d, frz_nil, frz_cons, frz1_own, frz1_d, frz1_n, wipe_nil, wipe_cons, restore_nil, restore_cons, clean_nil, clean_cons, isOwnL_own, isOwnL_d, isOwnL_n, bind_ap, bindR_ok, bindR_ex, bindR_bad, ofM_ap, ofR_ok, ofR_ex, ofR_bad, seq_ap, seqR_nx, seqR_rt, seqR_rl, seqR_bk, seqR_ct, seqR_ex, seqR_bad, nil_ap, pass_ap, never_ap, brk_ap, cnt_ap, retN_ap, sret_ap, sretL_ap, drop_ap, site_ap, asg_ap, own_ap, par2_ap, par3_ap, asgT_ap, asgR_some, asgR_none, gnm_ap, gnil_ap, gcons_ap, gtup_ap, andV_ap, orV_ap, andT_ap, orT_ap, notT_ap, test_ap, op1_ap, op2_ap, chain_ap, mite_ap, ite_apR, ite_apS, argN_ap, argD_ap, argS_ap, slotR_some, tup_ap, lst_ap, known_ap, call_ap, callL_ap, items_ap, part_ap, slice_ap, catL_ap, frz_ap, borrow_ap, borrowR_ok, borrowT_ap, borrowTR_ok, subO_ap, app_ap, setIx_ap, retO_ap, for_ap, lc_ap, lcR_ok, fn_ap, fnL_ap, fnR_some, fnLR_some, retR_ret, retR_retL, retLR_retL, putR_some, putO_none, putO_s0, putO_s1, putO_s2, putO_s3, putO_s4, endR_rt, endR_rl, endR_nx, endR_bad, bindR_ite, ofR_ite, seqR_ite, endR_ite, lift_ite, addD_ii, addD_ss, addD_tt, subD_ii, mulD_ii, fdivD_ii, modD_ii, powD_ii, negD_i, ltD_ii, leD_ii, gtD_ii, geD_ii, ixD_l, ixD_t, catD_ll, itemsD_l, itemsD_t, lenD_l, lenD_t, lenD_s, absD_i, maxD_ii, minD_ii, intD_i, intD_b, tupleD_l, tupleD_t, notD_b, asB_b, asI_i, eqD_ii, eqD_ss, eqD_bb, eqD_si, eqD_is, eqD_nn, eqD_nb, eqD_ni, eqD_ns, eqD_bn, eqD_in, eqD_sn, tInt_none, tInt_bool, tInt_int, tInt_str, tInt_tuple, tInt_list, tInt_dict, tBool_none, tBool_bool, tBool_int, tBool_str, tBool_tuple, tBool_list, tBool_dict, tStr_none, tStr_bool, tStr_int, tStr_str, tStr_tuple, tStr_list, tStr_dict, tTuple_none, tTuple_bool, tTuple_int, tTuple_str, tTuple_tuple, tTuple_list, tTuple_dict, tList_none, tList_bool, tList_int, tList_str, tList_tuple, tList_list, tList_dict, tSeq_none, tSeq_bool, tSeq_int, tSeq_str, tSeq_tuple, tSeq_list, tSeq_dict, isNoneB_none, scalarD_none, isNoneB_bool, scalarD_bool, isNoneB_int, scalarD_int, isNoneB_str, scalarD_str, isNoneB_tuple, scalarD_tuple, isNoneB_list, scalarD_list, isNoneB_dict, scalarD_dict, ixT0, ixT1, ixT2, ixT3, ixT4, ixT5, ixT6, ixT7, ixT8, ixT9, ixL0, ixL1, ixL2, ixL3, ixL4, ixL5, ixL6, ixL7, ixL8, ixL9, aI0, aI1, aI2, aI3, aI4, aI5, aI6, aI7, aI8, aI9, ixN1_0, ixN2_0, ixN2_1, ixN3_0, ixN3_1, ixN3_2, ixN4_0, ixN4_1, ixN4_2, ixN4_3, ixN5_0, ixN5_1, ixN5_2, ixN5_3, ixN5_4, ixN6_0, ixN6_1, ixN6_2, ixN6_3, ixN6_4, ixN6_5, List.map_cons, List.map_nil, List.cons_append, List.nil_append, List.replicate_zero, List.replicate_succ, List.length_cons, List.length_nil, List.getElem?_cons_zero, List.getElem?_cons_succ, List.set_cons_zero, List.set_cons_succ, List.getD_cons_zero, List.getD_cons_succ, Bool.and_true, Bool.true_and, Bool.not_false, Bool.not_true, Nat.sub_self, Nat.reduceSub, Nat.reduceAdd, Nat.zero_add, true_and, and_true, and_self, if_true, if_false, ite_true, ite_false, reduceCtorEq, false_implies, implies_true, forall_const, Bool.false_eq_true, Option.bind_some, Option.map_some, Option.bind_none, Option.map_none, runF_eq, okIo, datOf, lvsOf, argIo, isD, outO, isND, notND, vals2D, vals3D, eqDD, neDD, decide_true, decide_false, Bool.decide_eq_true, sz0, sz1, sz2, sz3, sz4, sz5, sz6, sz7, sz8, sz9, slice_t, all_t, all_l, any_l, all_lm, all_tm, any_lm, Function.comp_def, step_nx, step_ct, step_bk, step_rt, step_rl, step_ite, decide_eq_true_eq, Int.cast_ofNat_Int, Int.reduceLE, Int.reduceLT, Int.reduceAdd, Int.reduceSub, Int.reduceMul, Int.reduceNeg, Int.reduceEq, Int.reduceGT, Nat.reduceEqDiff, ne_eq, not_false_eq_true, Option.some.injEq, forall_eq', Nat.reduceLT, Bool.and_false, Bool.or_false, Bool.false_or, Bool.true_or, Bool.false_and, Bool.or_true, e_RS, e_RA, t_A, t_R, t_S]
  obtain ⟨h1, h2, h3, h4⟩ := hs
  have h5 := hr.h1
  have h6 := hr.r0
  have e1 : (r.hush ≤ q + 1) = (q + 1 = r.hush) := propext ⟨fun h => by split at h4 <;> omega, fun h => by omega⟩
  have e2 : (r.most ≤ c + 1) = (c + 1 = r.most) := propext ⟨fun h => by omega, fun h => by omega⟩
  have e3 : (r.hush ≤ 0) = False := eq_false (by omega)
  have e4 : (0 = r.hush) = False := eq_false (by omega)
  unfold finS endedS
  simp only [e1, e2, e3]
  by_cases g1 : 0 < r.rest <;> cases b <;> by_cases g2 : c + 1 = r.most <;> by_cases g3 : q + 1 = r.hush <;> simp [g1, g2, g3, e4, encS, encB_nil]
theorem all_true_rep : ∀ h : List Bool, h.all id = true → h = List.replicate h.length true
  | [], _ => rfl
  | b :: h, e => by
    rw [List.all_cons, Bool.and_eq_true] at e
    rw [List.length_cons, List.replicate_succ, ← all_true_rep h e.2]
    exact congrArg (· :: h) e.1
theorem tail_full (n : Int) (h1 : 1 ≤ n) (h : List Bool) : (h.drop (h.length - n.toNat) = List.replicate n.toNat true) = (fullB n h = true) := by
  unfold fullB
  refine propext ⟨fun e => ?_, fun e => ?_⟩
  · rw [Bool.and_eq_true]
    have hl := congrArg List.length e
    rw [List.length_drop, List.length_replicate] at hl
    refine ⟨decide_eq_true (by omega), ?_⟩
    rw [e]
    exact List.all_eq_true.mpr fun x hx => (List.mem_replicate.mp hx).2
  · rw [Bool.and_eq_true] at e
    have e1 := of_decide_eq_true e.1
    have := all_true_rep _ e.2
    rw [List.length_drop] at this
    rw [this]
    congr 1
    omega
theorem eqD_encB (a b : List Bool) : eqD (encB a) (encB b) = some (decide (a = b)) := eqD_en a b (by decide)
theorem tick_while {need ahead : Int} (g : List Bool) (hg : (g.length : Int) ≤ need + ahead) (h0 : 1 ≤ need + ahead) (x0 x1 x2 x5 x6 x7 x8 x9 x10 x12 x13 : Option LV) :
    S.while_ W_f_law_tick_1 B_f_law_tick_1 [x0, x1, x2, some (.d (.int need)), some (.d (.int ahead)), x5, x6, x7, x8, x9, x10, some (.d (encB g)), x12, x13]
      = .nx [x0, x1, x2, some (.d (.int need)), some (.d (.int ahead)), x5, x6, x7, x8, x9, x10, some (.d (encB (g.drop ((g.length : Int) - need - ahead + 1).toNat))), x12, x13] := by
  have e1 : ∀ g : List Bool, (g.length : Int) < need + ahead → S.while_ W_f_law_tick_1 B_f_law_tick_1 [x0, x1, x2, some (.d (.int need)), some (.d (.int ahead)), x5, x6, x7, x8, x9, x10, some (.d (encB g)), x12, x13]
      = .nx [x0, x1, x2, some (.d (.int need)), some (.d (.int ahead)), x5, x6, x7, x8, x9, x10, some (.d (encB g)), x12, x13] := fun g h => by
    refine while_done ?_
    simp only [ret_ap, lift_some, lift_none, var_ap, varR_d, ownAt_ap, ownL_own, ownL_d, ownL_n, frzAt_ap, frzL_own, frzL_d, frz_nil, frz_cons, frz1_own, frz1_d, frz1_n, wipe_nil, wipe_cons, restore_nil, restore_cons, clean_nil, clean_cons, isOwnL_own, isOwnL_d, isOwnL_n, bind_ap, bindR_ok, bindR_ex, bindR_bad, ofM_ap, ofR_ok, ofR_ex, ofR_bad, seq_ap, seqR_nx, seqR_rt, seqR_rl, seqR_bk, seqR_ct, seqR_ex, seqR_bad, nil_ap, pass_ap, never_ap, brk_ap, cnt_ap, retN_ap, sret_ap, sretL_ap, drop_ap, site_ap, asg_ap, own_ap, par2_ap, par3_ap, asgT_ap, asgR_some, asgR_none, gnm_ap, gnil_ap, gcons_ap, gtup_ap, andV_ap, orV_ap, andT_ap, orT_ap, notT_ap, test_ap, op1_ap, op2_ap, chain_ap, mite_ap, ite_apR, ite_apS, argN_ap, argD_ap, argS_ap, slotR_some, tup_ap, lst_ap, known_ap, call_ap, callL_ap, items_ap, part_ap, slice_ap, catL_ap, frz_ap, borrow_ap, borrowR_ok, borrowT_ap, borrowTR_ok, subO_ap, app_ap, setIx_ap, retO_ap, for_ap, lc_ap, lcR_ok, fn_ap, fnL_ap, fnR_some, fnLR_some, retR_ret, retR_retL, retLR_retL, putR_some, putO_none, putO_s0, putO_s1, putO_s2, putO_s3, putO_s4, endR_rt, endR_rl, endR_nx, endR_bad, bindR_ite, ofR_ite, seqR_ite, endR_ite, lift_ite, addD_ii, addD_ss, addD_tt, subD_ii, mulD_ii, fdivD_ii, modD_ii, powD_ii, negD_i, ltD_ii, leD_ii, gtD_ii, geD_ii, ixD_l, ixD_t, catD_ll, itemsD_l, itemsD_t, lenD_l, lenD_t, lenD_s, absD_i, maxD_ii, minD_ii, intD_i, intD_b, tupleD_l, tupleD_t, notD_b, asB_b, asI_i, eqD_ii, eqD_ss, eqD_bb, eqD_si, eqD_is, eqD_nn, eqD_nb, eqD_ni, eqD_ns, eqD_bn, eqD_in, eqD_sn, tInt_none, tInt_bool, tInt_int, tInt_str, tInt_tuple, tInt_list, tInt_dict, tBool_none, tBool_bool, tBool_int, tBool_str, tBool_tuple, tBool_list, tBool_dict, tStr_none, tStr_bool, tStr_int, tStr_str, tStr_tuple, tStr_list, tStr_dict, tTuple_none, tTuple_bool, tTuple_int, tTuple_str, tTuple_tuple, tTuple_list, tTuple_dict, tList_none, tList_bool, tList_int, tList_str, tList_tuple, tList_list, tList_dict, tSeq_none, tSeq_bool, tSeq_int, tSeq_str, tSeq_tuple, tSeq_list, tSeq_dict, isNoneB_none, scalarD_none, isNoneB_bool, scalarD_bool, isNoneB_int, scalarD_int, isNoneB_str, scalarD_str, isNoneB_tuple, scalarD_tuple, isNoneB_list, scalarD_list, isNoneB_dict, scalarD_dict, ixT0, ixT1, ixT2, ixT3, ixT4, ixT5, ixT6, ixT7, ixT8, ixT9, ixL0, ixL1, ixL2, ixL3, ixL4, ixL5, ixL6, ixL7, ixL8, ixL9, aI0, aI1, aI2, aI3, aI4, aI5, aI6, aI7, aI8, aI9, ixN1_0, ixN2_0, ixN2_1, ixN3_0, ixN3_1, ixN3_2, ixN4_0, ixN4_1, ixN4_2, ixN4_3, ixN5_0, ixN5_1, ixN5_2, ixN5_3, ixN5_4, ixN6_0, ixN6_1, ixN6_2, ixN6_3, ixN6_4, ixN6_5, List.map_cons, List.map_nil, List.cons_append, List.nil_append, List.replicate_zero, List.replicate_succ, List.length_cons, List.length_nil, List.getElem?_cons_zero, List.getElem?_cons_succ, List.set_cons_zero, List.set_cons_succ, List.getD_cons_zero, List.getD_cons_succ, Bool.and_true, Bool.true_and, Bool.not_false, Bool.not_true, Nat.sub_self, Nat.reduceSub, Nat.reduceAdd, Nat.zero_add, true_and, and_true, and_self, if_true, if_false, ite_true, ite_false, reduceCtorEq, false_implies, implies_true, forall_const, Bool.false_eq_true, Option.bind_some, Option.map_some, Option.bind_none, Option.map_none, runF_eq, okIo, datOf, lvsOf, argIo, isD, outO, isND, notND, vals2D, vals3D, eqDD, neDD, decide_true, decide_false, Bool.decide_eq_true, sz0, sz1, sz2, sz3, sz4, sz5, sz6, sz7, sz8, sz9, slice_t, all_t, all_l, any_l, all_lm, all_tm, any_lm, Function.comp_def, step_nx, step_ct, step_bk, step_rt, step_rl, step_ite, decide_eq_true_eq, Int.cast_ofNat_Int, Int.reduceLE, Int.reduceLT, Int.reduceAdd, Int.reduceSub, Int.reduceMul, Int.reduceNeg, Int.reduceEq, Int.reduceGT, Nat.reduceEqDiff, ne_eq, not_false_eq_true, Option.some.injEq, forall_eq', Nat.reduceLT, Bool.and_false, Bool.or_false, Bool.false_or, Bool.true_or, Bool.false_and, Bool.or_true, len_encB, W_f_law_tick_1]
    rw [decide_eq_false (Int.not_le.mpr h)]
  by_cases h : (g.length : Int) < need + ahead
  · rw [e1 g h, show ((g.length : Int) - need - ahead + 1).toNat = 0 by omega, List.drop_zero]
  · have h1 : ((g.length : Int) - need - ahead + 1).toNat = 1 := by omega
    have e2 := e1 (g.drop 1) (by rw [List.length_drop]; omega)
    rw [while_go (ρ2 := [x0, x1, x2, some (.d (.int need)), some (.d (.int ahead)), x5, x6, x7, x8, x9, x10, some (.d (encB (g.drop 1))), x12, x13]) (by
      simp only [ret_ap, lift_some, lift_none, var_ap, varR_d, ownAt_ap, ownL_own, ownL_d, ownL_n, frzAt_ap, frzL_own, frzL_d, frz_nil, frz_cons, frz1_own, frz1_d, frz1_n, wipe_nil, wipe_cons, restore_nil, restore_cons, clean_nil, clean_cons, isOwnL_own, isOwnL_d, isOwnL_n, bind_ap, bindR_ok, bindR_ex, bindR_bad, ofM_ap, ofR_ok, ofR_ex, ofR_bad, seq_ap, seqR_nx, seqR_rt, seqR_rl, seqR_bk, seqR_ct, seqR_ex, seqR_bad, nil_ap, pass_ap, never_ap, brk_ap, cnt_ap, retN_ap, sret_ap, sretL_ap, drop_ap, site_ap, asg_ap, own_ap, par2_ap, par3_ap, asgT_ap, asgR_some, asgR_none, gnm_ap, gnil_ap, gcons_ap, gtup_ap, andV_ap, orV_ap, andT_ap, orT_ap, notT_ap, test_ap, op1_ap, op2_ap, chain_ap, mite_ap, ite_apR, ite_apS, argN_ap, argD_ap, argS_ap, slotR_some, tup_ap, lst_ap, known_ap, call_ap, callL_ap, items_ap, part_ap, slice_ap, catL_ap, frz_ap, borrow_ap, borrowR_ok, borrowT_ap, borrowTR_ok, subO_ap, app_ap, setIx_ap, retO_ap, for_ap, lc_ap, lcR_ok, fn_ap, fnL_ap, fnR_some, fnLR_some, retR_ret, retR_retL, retLR_retL, putR_some, putO_none, putO_s0, putO_s1, putO_s2, putO_s3, putO_s4, endR_rt, endR_rl, endR_nx, endR_bad, bindR_ite, ofR_ite, seqR_ite, endR_ite, lift_ite, addD_ii, addD_ss, addD_tt, subD_ii, mulD_ii, fdivD_ii, modD_ii, powD_ii, negD_i, ltD_ii, leD_ii, gtD_ii, geD_ii, ixD_l, ixD_t, catD_ll, itemsD_l, itemsD_t, lenD_l, lenD_t, lenD_s, absD_i, maxD_ii, minD_ii, intD_i, intD_b, tupleD_l, tupleD_t, notD_b, asB_b, asI_i, eqD_ii, eqD_ss, eqD_bb, eqD_si, eqD_is, eqD_nn, eqD_nb, eqD_ni, eqD_ns, eqD_bn, eqD_in, eqD_sn, tInt_none, tInt_bool, tInt_int, tInt_str, tInt_tuple, tInt_list, tInt_dict, tBool_none, tBool_bool, tBool_int, tBool_str, tBool_tuple, tBool_list, tBool_dict, tStr_none, tStr_bool, tStr_int, tStr_str, tStr_tuple, tStr_list, tStr_dict, tTuple_none, tTuple_bool, tTuple_int, tTuple_str, tTuple_tuple, tTuple_list, tTuple_dict, tList_none, tList_bool, tList_int, tList_str, tList_tuple, tList_list, tList_dict, tSeq_none, tSeq_bool, tSeq_int, tSeq_str, tSeq_tuple, tSeq_list, tSeq_dict, isNoneB_none, scalarD_none, isNoneB_bool, scalarD_bool, isNoneB_int, scalarD_int, isNoneB_str, scalarD_str, isNoneB_tuple, scalarD_tuple, isNoneB_list, scalarD_list, isNoneB_dict, scalarD_dict, ixT0, ixT1, ixT2, ixT3, ixT4, ixT5, ixT6, ixT7, ixT8, ixT9, ixL0, ixL1, ixL2, ixL3, ixL4, ixL5, ixL6, ixL7, ixL8, ixL9, aI0, aI1, aI2, aI3, aI4, aI5, aI6, aI7, aI8, aI9, ixN1_0, ixN2_0, ixN2_1, ixN3_0, ixN3_1, ixN3_2, ixN4_0, ixN4_1, ixN4_2, ixN4_3, ixN5_0, ixN5_1, ixN5_2, ixN5_3, ixN5_4, ixN6_0, ixN6_1, ixN6_2, ixN6_3, ixN6_4, ixN6_5, List.map_cons, List.map_nil, List.cons_append, List.nil_append, List.replicate_zero, List.replicate_succ, List.length_cons, List.length_nil, List.getElem?_cons_zero, List.getElem?_cons_succ, List.set_cons_zero, List.set_cons_succ, List.getD_cons_zero, List.getD_cons_succ, Bool.and_true, Bool.true_and, Bool.not_false, Bool.not_true, Nat.sub_self, Nat.reduceSub, Nat.reduceAdd, Nat.zero_add, true_and, and_true, and_self, if_true, if_false, ite_true, ite_false, reduceCtorEq, false_implies, implies_true, forall_const, Bool.false_eq_true, Option.bind_some, Option.map_some, Option.bind_none, Option.map_none, runF_eq, okIo, datOf, lvsOf, argIo, isD, outO, isND, notND, vals2D, vals3D, eqDD, neDD, decide_true, decide_false, Bool.decide_eq_true, sz0, sz1, sz2, sz3, sz4, sz5, sz6, sz7, sz8, sz9, slice_t, all_t, all_l, any_l, all_lm, all_tm, any_lm, Function.comp_def, step_nx, step_ct, step_bk, step_rt, step_rl, step_ite, decide_eq_true_eq, Int.cast_ofNat_Int, Int.reduceLE, Int.reduceLT, Int.reduceAdd, Int.reduceSub, Int.reduceMul, Int.reduceNeg, Int.reduceEq, Int.reduceGT, Nat.reduceEqDiff, ne_eq, not_false_eq_true, Option.some.injEq, forall_eq', Nat.reduceLT, Bool.and_false, Bool.or_false, Bool.false_or, Bool.true_or, Bool.false_and, Bool.or_true, len_encB, W_f_law_tick_1]
      rw [decide_eq_true (Int.not_lt.mp h)]) (.inl (by simp only [ret_ap, lift_some, lift_none, var_ap, varR_d, ownAt_ap, ownL_own, ownL_d, ownL_n, frzAt_ap, frzL_own, frzL_d, frz_nil, frz_cons, frz1_own, frz1_d, frz1_n, wipe_nil, wipe_cons, restore_nil, restore_cons, clean_nil, clean_cons, isOwnL_own, isOwnL_d, isOwnL_n, bind_ap, bindR_ok, bindR_ex, bindR_bad, ofM_ap, ofR_ok, ofR_ex, ofR_bad, seq_ap, seqR_nx, seqR_rt, seqR_rl, seqR_bk, seqR_ct, seqR_ex, seqR_bad, nil_ap, pass_ap, never_ap, brk_ap, cnt_ap, retN_ap, sret_ap, sretL_ap, drop_ap, site_ap, asg_ap, own_ap, par2_ap, par3_ap, asgT_ap, asgR_some, asgR_none, gnm_ap, gnil_ap, gcons_ap, gtup_ap, andV_ap, orV_ap, andT_ap, orT_ap, notT_ap, test_ap, op1_ap, op2_ap, chain_ap, mite_ap, ite_apR, ite_apS, argN_ap, argD_ap, argS_ap, slotR_some, tup_ap, lst_ap, known_ap, call_ap, callL_ap, items_ap, part_ap, slice_ap, catL_ap, frz_ap, borrow_ap, borrowR_ok, borrowT_ap, borrowTR_ok, subO_ap, app_ap, setIx_ap, retO_ap, for_ap, lc_ap, lcR_ok, fn_ap, fnL_ap, fnR_some, fnLR_some, retR_ret, retR_retL, retLR_retL, putR_some, putO_none, putO_s0, putO_s1, putO_s2, putO_s3, putO_s4, endR_rt, endR_rl, endR_nx, endR_bad, bindR_ite, ofR_ite, seqR_ite, endR_ite, lift_ite, addD_ii, addD_ss, addD_tt, subD_ii, mulD_ii, fdivD_ii, modD_ii, powD_ii, negD_i, ltD_ii, leD_ii, gtD_ii, geD_ii, ixD_l, ixD_t, catD_ll, itemsD_l, itemsD_t, lenD_l, lenD_t, lenD_s, absD_i, maxD_ii, minD_ii, intD_i, intD_b, tupleD_l, tupleD_t, notD_b, asB_b, asI_i, eqD_ii, eqD_ss, eqD_bb, eqD_si, eqD_is, eqD_nn, eqD_nb, eqD_ni, eqD_ns, eqD_bn, eqD_in, eqD_sn, tInt_none, tInt_bool, tInt_int, tInt_str, tInt_tuple, tInt_list, tInt_dict, tBool_none, tBool_bool, tBool_int, tBool_str, tBool_tuple, tBool_list, tBool_dict, tStr_none, tStr_bool, tStr_int, tStr_str, tStr_tuple, tStr_list, tStr_dict, tTuple_none, tTuple_bool, tTuple_int, tTuple_str, tTuple_tuple, tTuple_list, tTuple_dict, tList_none, tList_bool, tList_int, tList_str, tList_tuple, tList_list, tList_dict, tSeq_none, tSeq_bool, tSeq_int, tSeq_str, tSeq_tuple, tSeq_list, tSeq_dict, isNoneB_none, scalarD_none, isNoneB_bool, scalarD_bool, isNoneB_int, scalarD_int, isNoneB_str, scalarD_str, isNoneB_tuple, scalarD_tuple, isNoneB_list, scalarD_list, isNoneB_dict, scalarD_dict, ixT0, ixT1, ixT2, ixT3, ixT4, ixT5, ixT6, ixT7, ixT8, ixT9, ixL0, ixL1, ixL2, ixL3, ixL4, ixL5, ixL6, ixL7, ixL8, ixL9, aI0, aI1, aI2, aI3, aI4, aI5, aI6, aI7, aI8, aI9, ixN1_0, ixN2_0, ixN2_1, ixN3_0, ixN3_1, ixN3_2, ixN4_0, ixN4_1, ixN4_2, ixN4_3, ixN5_0, ixN5_1, ixN5_2, ixN5_3, ixN5_4, ixN6_0, ixN6_1, ixN6_2, ixN6_3, ixN6_4, ixN6_5, List.map_cons, List.map_nil, List.cons_append, List.nil_append, List.replicate_zero, List.replicate_succ, List.length_cons, List.length_nil, List.getElem?_cons_zero, List.getElem?_cons_succ, List.set_cons_zero, List.set_cons_succ, List.getD_cons_zero, List.getD_cons_succ, Bool.and_true, Bool.true_and, Bool.not_false, Bool.not_true, Nat.sub_self, Nat.reduceSub, Nat.reduceAdd, Nat.zero_add, true_and, and_true, and_self, if_true, if_false, ite_true, ite_false, reduceCtorEq, false_implies, implies_true, forall_const, Bool.false_eq_true, Option.bind_some, Option.map_some, Option.bind_none, Option.map_none, runF_eq, okIo, datOf, lvsOf, argIo, isD, outO, isND, notND, vals2D, vals3D, eqDD, neDD, decide_true, decide_false, Bool.decide_eq_true, sz0, sz1, sz2, sz3, sz4, sz5, sz6, sz7, sz8, sz9, slice_t, all_t, all_l, any_l, all_lm, all_tm, any_lm, Function.comp_def, step_nx, step_ct, step_bk, step_rt, step_rl, step_ite, decide_eq_true_eq, Int.cast_ofNat_Int, Int.reduceLE, Int.reduceLT, Int.reduceAdd, Int.reduceSub, Int.reduceMul, Int.reduceNeg, Int.reduceEq, Int.reduceGT, Nat.reduceEqDiff, ne_eq, not_false_eq_true, Option.some.injEq, forall_eq', Nat.reduceLT, Bool.and_false, Bool.or_false, Bool.false_or, Bool.true_or, Bool.false_and, Bool.or_true, B_f_law_tick_1, slice_from g (i := 1) (k := 1) rfl])) (by rw [e2]; rfl), e2, h1]
theorem F_tick_aw (r : Rec) (hr : r.Ok) (h : List Bool) (b : Bool) (hs : heardS r h) : F_f_law_tick [.d (encR r), .d (encS (.aw h)), .d (.bool b)] = .ret (.tuple [encS (stepS r (.aw h) b).1, .int (stepS r (.aw h) b).2]) none := by
  unfold F_f_law_tick g_f_law_tick stepS
  have hn : -r.need = -((r.need.toNat : Nat) : Int) := by have := hr.n1; omega
  have hn' : 0 < r.need.toNat := by have := hr.n1; omega
  have hl : h.length + 1 ≤ sizeLine := Sd.Ok.short hr (s := .aw h) hs h rfl
  have hn2 : r.need ≤ 1000 := by have := hr.n3; omega
  conv => lhs; unfold encR encS
  simp only [ret_ap, lift_some, lift_none, var_ap, varR_d, ownAt_ap, ownL_own, ownL_d, ownL_n, frzAt_ap, frzL_own, frzL_d, frz_nil, frz_cons, frz1_own, frz1_d, frz1_n, wipe_nil, wipe_cons, restore_nil, restore_cons, clean_nil, clean_cons, isOwnL_own, isOwnL_d, isOwnL_n, bind_ap, bindR_ok, bindR_ex, bindR_bad, ofM_ap, ofR_ok, ofR_ex, ofR_bad, seq_ap, seqR_nx, seqR_rt, seqR_rl, seqR_bk, seqR_ct, seqR_ex, seqR_bad, nil_ap, pass_ap, never_ap, brk_ap, cnt_ap, retN_ap, sret_ap, sretL_ap, drop_ap, site_ap, asg_ap, own_ap, par2_ap, par3_ap, asgT_ap, asgR_some, asgR_none, gnm_ap, gnil_ap, gcons_ap, gtup_ap, andV_ap, orV_ap, andT_ap, orT_ap, notT_ap, test_ap, op1_ap, op2_ap, chain_ap, mite_ap, ite_apR, ite_apS, argN_ap, argD_ap, argS_ap, slotR_some, tup_ap, lst_ap, known_ap, call_ap, callL_ap, items_ap, part_ap, slice_ap, catL_ap, frz_ap, borrow_ap, borrowR_ok, borrowT_ap, borrowTR_ok, subO_ap, app_ap, setIx_ap, retO_ap, for_ap, lc_ap, lcR_ok, fn_ap, fnL_ap, fnR_some, fnLR_some, retR_ret, retR_retL, retLR_retL, putR_some, putO_none, putO_s0, putO_s1, putO_s2, putO_s3, putO_s4, endR_rt, endR_rl, endR_nx, endR_bad, bindR_ite, ofR_ite, seqR_ite, endR_ite, lift_ite, addD_ii, addD_ss, addD_tt, subD_ii, mulD_ii, fdivD_ii, modD_ii, powD_ii, negD_i, ltD_ii, leD_ii, gtD_ii, geD_ii, ixD_l, ixD_t, catD_ll, itemsD_l, itemsD_t, lenD_l, lenD_t, lenD_s, absD_i, maxD_ii, minD_ii, intD_i, intD_b, tupleD_l, tupleD_t, notD_b, asB_b, asI_i, eqD_ii, eqD_ss, eqD_bb, eqD_si, eqD_is, eqD_nn, eqD_nb, eqD_ni, eqD_ns, eqD_bn, eqD_in, eqD_sn, tInt_none, tInt_bool, tInt_int, tInt_str, tInt_tuple, tInt_list, tInt_dict, tBool_none, tBool_bool, tBool_int, tBool_str, tBool_tuple, tBool_list, tBool_dict, tStr_none, tStr_bool, tStr_int, tStr_str, tStr_tuple, tStr_list, tStr_dict, tTuple_none, tTuple_bool, tTuple_int, tTuple_str, tTuple_tuple, tTuple_list, tTuple_dict, tList_none, tList_bool, tList_int, tList_str, tList_tuple, tList_list, tList_dict, tSeq_none, tSeq_bool, tSeq_int, tSeq_str, tSeq_tuple, tSeq_list, tSeq_dict, isNoneB_none, scalarD_none, isNoneB_bool, scalarD_bool, isNoneB_int, scalarD_int, isNoneB_str, scalarD_str, isNoneB_tuple, scalarD_tuple, isNoneB_list, scalarD_list, isNoneB_dict, scalarD_dict, ixT0, ixT1, ixT2, ixT3, ixT4, ixT5, ixT6, ixT7, ixT8, ixT9, ixL0, ixL1, ixL2, ixL3, ixL4, ixL5, ixL6, ixL7, ixL8, ixL9, aI0, aI1, aI2, aI3, aI4, aI5, aI6, aI7, aI8, aI9, ixN1_0, ixN2_0, ixN2_1, ixN3_0, ixN3_1, ixN3_2, ixN4_0, ixN4_1, ixN4_2, ixN4_3, ixN5_0, ixN5_1, ixN5_2, ixN5_3, ixN5_4, ixN6_0, ixN6_1, ixN6_2, ixN6_3, ixN6_4, ixN6_5, List.map_cons, List.map_nil, List.cons_append, List.nil_append, List.replicate_zero, List.replicate_succ, List.length_cons, List.length_nil, List.getElem?_cons_zero, List.getElem?_cons_succ, List.set_cons_zero, List.set_cons_succ, List.getD_cons_zero, List.getD_cons_succ, Bool.and_true, Bool.true_and, Bool.not_false, Bool.not_true, Nat.sub_self, Nat.reduceSub, Nat.reduceAdd, Nat.zero_add, true_and, and_true, and_self, if_true, if_false, ite_true, ite_false, reduceCtorEq, false_implies, implies_true, forall_const, Bool.false_eq_true, Option.bind_some, Option.map_some, Option.bind_none, Option.map_none, runF_eq, okIo, datOf, lvsOf, argIo, isD, outO, isND, notND, vals2D, vals3D, eqDD, neDD, decide_true, decide_false, Bool.decide_eq_true, sz0, sz1, sz2, sz3, sz4, sz5, sz6, sz7, sz8, sz9, slice_t, all_t, all_l, any_l, all_lm, all_tm, any_lm, Function.comp_def, step_nx, step_ct, step_bk, step_rt, step_rl, step_ite, decide_eq_true_eq, Int.cast_ofNat_Int, Int.reduceLE, Int.reduceLT, Int.reduceAdd, Int.reduceSub, Int.reduceMul, Int.reduceNeg, Int.reduceEq, Int.reduceGT, Nat.reduceEqDiff, ne_eq, not_false_eq_true, Option.some.injEq, forall_eq', Nat.reduceLT, Bool.and_false, Bool.or_false, Bool.false_or, Bool.true_or, Bool.false_and, Bool.or_true, e_AS, e_AA, t_A, t_R, t_S, add_one h b hl, len_encB, slice_neg _ hn hn', rep_true hr.n1 hn2, eqD_encB, tail_full _ hr.n1]
  have h0 : (r.hush ≤ 0) = False := eq_false (by have := hr.h1; omega)
  have h00 : (0 = r.hush) = False := eq_false (by have := hr.h1; omega)
  have hg : ((h ++ [b]).length : Int) ≤ r.need + r.ahead := by
    have := hs.1
    rw [List.length_append, List.length_singleton]
    omega
  have e2 : (r.most ≤ ((h ++ [b]).length : Int)) = (((h ++ [b]).length : Int) = r.most) := propext ⟨fun e => by have := hr.m1; omega, fun e => by omega⟩
  rw [tick_while _ hg (by have := hr.n1; have := hr.a0; omega), tick_while _ hg (by have := hr.n1; have := hr.a0; omega)]
  simp only [ret_ap, lift_some, lift_none, var_ap, varR_d, ownAt_ap, ownL_own, ownL_d, ownL_n, frzAt_ap, frzL_own, frzL_d, frz_nil, frz_cons, frz1_own, frz1_d, frz1_n, wipe_nil, wipe_cons, restore_nil, restore_cons, clean_nil, clean_cons, isOwnL_own, isOwnL_d, isOwnL_n, bind_ap, bindR_ok, bindR_ex, bindR_bad, ofM_ap, ofR_ok, ofR_ex, ofR_bad, seq_ap, seqR_nx, seqR_rt, seqR_rl, seqR_bk, seqR_ct, seqR_ex, seqR_bad, nil_ap, pass_ap, never_ap, brk_ap, cnt_ap, retN_ap, sret_ap, sretL_ap, drop_ap, site_ap, asg_ap, own_ap, par2_ap, par3_ap, asgT_ap, asgR_some, asgR_none, gnm_ap, gnil_ap, gcons_ap, gtup_ap, andV_ap, orV_ap, andT_ap, orT_ap, notT_ap, test_ap, op1_ap, op2_ap, chain_ap, mite_ap, ite_apR, ite_apS, argN_ap, argD_ap, argS_ap, slotR_some, tup_ap, lst_ap, known_ap, call_ap, callL_ap, items_ap, part_ap, slice_ap, catL_ap, frz_ap, borrow_ap, borrowR_ok, borrowT_ap, borrowTR_ok, subO_ap, app_ap, setIx_ap, retO_ap, for_ap, lc_ap, lcR_ok, fn_ap, fnL_ap, fnR_some, fnLR_some, retR_ret, retR_retL, retLR_retL, putR_some, putO_none, putO_s0, putO_s1, putO_s2, putO_s3, putO_s4, endR_rt, endR_rl, endR_nx, endR_bad, bindR_ite, ofR_ite, seqR_ite, endR_ite, lift_ite, addD_ii, addD_ss, addD_tt, subD_ii, mulD_ii, fdivD_ii, modD_ii, powD_ii, negD_i, ltD_ii, leD_ii, gtD_ii, geD_ii, ixD_l, ixD_t, catD_ll, itemsD_l, itemsD_t, lenD_l, lenD_t, lenD_s, absD_i, maxD_ii, minD_ii, intD_i, intD_b, tupleD_l, tupleD_t, notD_b, asB_b, asI_i, eqD_ii, eqD_ss, eqD_bb, eqD_si, eqD_is, eqD_nn, eqD_nb, eqD_ni, eqD_ns, eqD_bn, eqD_in, eqD_sn, tInt_none, tInt_bool, tInt_int, tInt_str, tInt_tuple, tInt_list, tInt_dict, tBool_none, tBool_bool, tBool_int, tBool_str, tBool_tuple, tBool_list, tBool_dict, tStr_none, tStr_bool, tStr_int, tStr_str, tStr_tuple, tStr_list, tStr_dict, tTuple_none, tTuple_bool, tTuple_int, tTuple_str, tTuple_tuple, tTuple_list, tTuple_dict, tList_none, tList_bool, tList_int, tList_str, tList_tuple, tList_list, tList_dict, tSeq_none, tSeq_bool, tSeq_int, tSeq_str, tSeq_tuple, tSeq_list, tSeq_dict, isNoneB_none, scalarD_none, isNoneB_bool, scalarD_bool, isNoneB_int, scalarD_int, isNoneB_str, scalarD_str, isNoneB_tuple, scalarD_tuple, isNoneB_list, scalarD_list, isNoneB_dict, scalarD_dict, ixT0, ixT1, ixT2, ixT3, ixT4, ixT5, ixT6, ixT7, ixT8, ixT9, ixL0, ixL1, ixL2, ixL3, ixL4, ixL5, ixL6, ixL7, ixL8, ixL9, aI0, aI1, aI2, aI3, aI4, aI5, aI6, aI7, aI8, aI9, ixN1_0, ixN2_0, ixN2_1, ixN3_0, ixN3_1, ixN3_2, ixN4_0, ixN4_1, ixN4_2, ixN4_3, ixN5_0, ixN5_1, ixN5_2, ixN5_3, ixN5_4, ixN6_0, ixN6_1, ixN6_2, ixN6_3, ixN6_4, ixN6_5, List.map_cons, List.map_nil, List.cons_append, List.nil_append, List.replicate_zero, List.replicate_succ, List.length_cons, List.length_nil, List.getElem?_cons_zero, List.getElem?_cons_succ, List.set_cons_zero, List.set_cons_succ, List.getD_cons_zero, List.getD_cons_succ, Bool.and_true, Bool.true_and, Bool.not_false, Bool.not_true, Nat.sub_self, Nat.reduceSub, Nat.reduceAdd, Nat.zero_add, true_and, and_true, and_self, if_true, if_false, ite_true, ite_false, reduceCtorEq, false_implies, implies_true, forall_const, Bool.false_eq_true, Option.bind_some, Option.map_some, Option.bind_none, Option.map_none, runF_eq, okIo, datOf, lvsOf, argIo, isD, outO, isND, notND, vals2D, vals3D, eqDD, neDD, decide_true, decide_false, Bool.decide_eq_true, sz0, sz1, sz2, sz3, sz4, sz5, sz6, sz7, sz8, sz9, slice_t, all_t, all_l, any_l, all_lm, all_tm, any_lm, Function.comp_def, step_nx, step_ct, step_bk, step_rt, step_rl, step_ite, decide_eq_true_eq, Int.cast_ofNat_Int, Int.reduceLE, Int.reduceLT, Int.reduceAdd, Int.reduceSub, Int.reduceMul, Int.reduceNeg, Int.reduceEq, Int.reduceGT, Nat.reduceEqDiff, ne_eq, not_false_eq_true, Option.some.injEq, forall_eq', Nat.reduceLT, Bool.and_false, Bool.or_false, Bool.false_or, Bool.true_or, Bool.false_and, Bool.or_true]
  unfold finS endedS
  simp only [h0, e2, if_false]
  cases fullB r.need (h ++ [b])
  · simp only [Bool.not_false, if_true, Bool.false_eq_true, if_false, encS, ite_self]
  · simp only [Bool.not_true, Bool.false_eq_true, if_false, if_true, h00, false_or]
    by_cases h3 : ((h ++ [b]).length : Int) = r.most
    · simp only [h3, if_true]
      by_cases h4 : 0 < r.rest
      · simp only [h4, if_true, encS]
      · simp only [h4, if_false, encS, encB_nil]
    · simp only [h3, if_false, encS, ite_self]
theorem F_tick_eq {r : Rec} (hr : r.Ok) {s : Sd} (hs : s.Ok r) (b : Bool) : F_f_law_tick [.d (encR r), .d (encS s), .d (.bool b)] = .ret (.tuple [encS (stepS r s b).1, .int (stepS r s b).2]) none := by
  cases s with
  | aw h => exact F_tick_aw r hr h b hs
  | rc c q => exact F_tick_rc r hr c q b hs
  | sl c => exact F_tick_sl r c b hs.1
/-! ### the law's springs -/
def SpV (xs : List D) : Prop := ∃ a b : Int, xs = [.int a, .int b] ∧ 0 ≤ a ∧ 0 ≤ b ∧ b < 999999999989
theorem mulOk_small {i j : Int} {n m : Nat} (h : i.natAbs < 2 ^ n) (h2 : j.natAbs < 2 ^ m) (h3 : n + m ≤ 100000000 := by decide) (hn : n ≠ 0 := by decide) : mulOk i j = true := by
  unfold mulOk
  refine decide_eq_true ?_
  have e1 : i.natAbs.log2 < n := by
    by_cases h0 : i.natAbs = 0
    · rw [h0]; exact Nat.pos_of_ne_zero hn
    · exact (Nat.log2_lt h0).mpr h
  have e2 : j.natAbs.log2 ≤ m := by
    by_cases h0 : j.natAbs = 0
    · rw [h0]; exact Nat.zero_le _
    · exact Nat.le_of_lt ((Nat.log2_lt h0).mpr h2)
  omega
theorem divOk_small {j : Int} (h : 0 < j) (h2 : j < 1000000) : divOk j = true := by
  unfold divOk
  rw [Bool.and_eq_true]
  refine ⟨decide_eq_true h, decide_eq_true ?_⟩
  have : j.natAbs < 2 ^ 20 := by omega
  have := (Nat.log2_lt (by omega : j.natAbs ≠ 0)).mpr this
  omega
theorem F_pick_ok {xs : List D} (hx : SpV xs) {m : Int} (h0 : 0 < m) (h1 : m < 1000000) : ∃ i ys, F_f_law_pick [.own xs, .d (.int m)] = .ret (.int i) (some ys) ∧ SpV ys ∧ 0 ≤ i ∧ i < m := by
  obtain ⟨a, b, rfl, ha, hb, hb2⟩ := hx
  have e1 : mulOk b 393555900739 = true := mulOk_small (n := 40) (m := 40) (by omega) (by decide)
  have e2 : divOk m = true := divOk_small h0 h1
  have e3 : divOk 4093 = true := by decide
  unfold F_f_law_pick g_f_law_pick
  simp only [ret_ap, lift_some, lift_none, var_ap, varR_d, ownAt_ap, ownL_own, ownL_d, ownL_n, frzAt_ap, frzL_own, frzL_d, frz_nil, frz_cons, frz1_own, frz1_d, frz1_n, wipe_nil, wipe_cons, restore_nil, restore_cons, clean_nil, clean_cons, isOwnL_own, isOwnL_d, isOwnL_n, bind_ap, bindR_ok, bindR_ex, bindR_bad, ofM_ap, ofR_ok, ofR_ex, ofR_bad, seq_ap, seqR_nx, seqR_rt, seqR_rl, seqR_bk, seqR_ct, seqR_ex, seqR_bad, nil_ap, pass_ap, never_ap, brk_ap, cnt_ap, retN_ap, sret_ap, sretL_ap, drop_ap, site_ap, asg_ap, own_ap, par2_ap, par3_ap, asgT_ap, asgR_some, asgR_none, gnm_ap, gnil_ap, gcons_ap, gtup_ap, andV_ap, orV_ap, andT_ap, orT_ap, notT_ap, test_ap, op1_ap, op2_ap, chain_ap, mite_ap, ite_apR, ite_apS, argN_ap, argD_ap, argS_ap, slotR_some, tup_ap, lst_ap, known_ap, call_ap, callL_ap, items_ap, part_ap, slice_ap, catL_ap, frz_ap, borrow_ap, borrowR_ok, borrowT_ap, borrowTR_ok, subO_ap, app_ap, setIx_ap, retO_ap, for_ap, lc_ap, lcR_ok, fn_ap, fnL_ap, fnR_some, fnLR_some, retR_ret, retR_retL, retLR_retL, putR_some, putO_none, putO_s0, putO_s1, putO_s2, putO_s3, putO_s4, endR_rt, endR_rl, endR_nx, endR_bad, bindR_ite, ofR_ite, seqR_ite, endR_ite, lift_ite, addD_ii, addD_ss, addD_tt, subD_ii, mulD_ii, fdivD_ii, modD_ii, powD_ii, negD_i, ltD_ii, leD_ii, gtD_ii, geD_ii, ixD_l, ixD_t, catD_ll, itemsD_l, itemsD_t, lenD_l, lenD_t, lenD_s, absD_i, maxD_ii, minD_ii, intD_i, intD_b, tupleD_l, tupleD_t, notD_b, asB_b, asI_i, eqD_ii, eqD_ss, eqD_bb, eqD_si, eqD_is, eqD_nn, eqD_nb, eqD_ni, eqD_ns, eqD_bn, eqD_in, eqD_sn, tInt_none, tInt_bool, tInt_int, tInt_str, tInt_tuple, tInt_list, tInt_dict, tBool_none, tBool_bool, tBool_int, tBool_str, tBool_tuple, tBool_list, tBool_dict, tStr_none, tStr_bool, tStr_int, tStr_str, tStr_tuple, tStr_list, tStr_dict, tTuple_none, tTuple_bool, tTuple_int, tTuple_str, tTuple_tuple, tTuple_list, tTuple_dict, tList_none, tList_bool, tList_int, tList_str, tList_tuple, tList_list, tList_dict, tSeq_none, tSeq_bool, tSeq_int, tSeq_str, tSeq_tuple, tSeq_list, tSeq_dict, isNoneB_none, scalarD_none, isNoneB_bool, scalarD_bool, isNoneB_int, scalarD_int, isNoneB_str, scalarD_str, isNoneB_tuple, scalarD_tuple, isNoneB_list, scalarD_list, isNoneB_dict, scalarD_dict, ixT0, ixT1, ixT2, ixT3, ixT4, ixT5, ixT6, ixT7, ixT8, ixT9, ixL0, ixL1, ixL2, ixL3, ixL4, ixL5, ixL6, ixL7, ixL8, ixL9, aI0, aI1, aI2, aI3, aI4, aI5, aI6, aI7, aI8, aI9, ixN1_0, ixN2_0, ixN2_1, ixN3_0, ixN3_1, ixN3_2, ixN4_0, ixN4_1, ixN4_2, ixN4_3, ixN5_0, ixN5_1, ixN5_2, ixN5_3, ixN5_4, ixN6_0, ixN6_1, ixN6_2, ixN6_3, ixN6_4, ixN6_5, List.map_cons, List.map_nil, List.cons_append, List.nil_append, List.replicate_zero, List.replicate_succ, List.length_cons, List.length_nil, List.getElem?_cons_zero, List.getElem?_cons_succ, List.set_cons_zero, List.set_cons_succ, List.getD_cons_zero, List.getD_cons_succ, Bool.and_true, Bool.true_and, Bool.not_false, Bool.not_true, Nat.sub_self, Nat.reduceSub, Nat.reduceAdd, Nat.zero_add, true_and, and_true, and_self, if_true, if_false, ite_true, ite_false, reduceCtorEq, false_implies, implies_true, forall_const, Bool.false_eq_true, Option.bind_some, Option.map_some, Option.bind_none, Option.map_none, runF_eq, okIo, datOf, lvsOf, argIo, isD, outO, isND, notND, vals2D, vals3D, eqDD, neDD, decide_true, decide_false, Bool.decide_eq_true, sz0, sz1, sz2, sz3, sz4, sz5, sz6, sz7, sz8, sz9, slice_t, all_t, all_l, any_l, all_lm, all_tm, any_lm, Function.comp_def, step_nx, step_ct, step_bk, step_rt, step_rl, step_ite, decide_eq_true_eq, Int.cast_ofNat_Int, Int.reduceLE, Int.reduceLT, Int.reduceAdd, Int.reduceSub, Int.reduceMul, Int.reduceNeg, Int.reduceEq, Int.reduceGT, Nat.reduceEqDiff, ne_eq, not_false_eq_true, Option.some.injEq, forall_eq', Nat.reduceLT, Bool.and_false, Bool.or_false, Bool.false_or, Bool.true_or, Bool.false_and, Bool.or_true, e1, e2, e3, if_pos h0]
  by_cases h : 0 < a
  · rw [if_pos h]
    exact ⟨_, _, rfl, ⟨_, _, rfl, Int.ediv_nonneg ha (by omega), hb, hb2⟩, Int.emod_nonneg _ (by omega), Int.emod_lt_of_pos _ h0⟩
  · rw [if_neg h]
    exact ⟨_, _, rfl, ⟨_, _, rfl, ha, Int.emod_nonneg _ (by decide), Int.emod_lt_of_pos _ (by decide)⟩, Int.emod_nonneg _ (by omega), Int.emod_lt_of_pos _ h0⟩
theorem F_spring_ok {ns : List Int} (hb : ∀ n ∈ ns, n.natAbs.log2 ≤ 1048576) (hl : ns.length ≤ 1000) {at' : Int} (h0 : 0 ≤ at') (h1 : at' ≤ 1000) : ∃ xs, F_f_law_spring [.d (.list (ns.map .int)), .d (.int at')] = .retL xs none ∧ SpV xs := by
  have e1 : ∀ n : Int, n.natAbs.log2 ≤ 1048576 → mulOk n 863 = true := fun n h => by
    unfold mulOk
    refine decide_eq_true ?_
    have : (863 : Int).natAbs.log2 ≤ 10 := by decide
    omega
  have e2 : mulOk 524287 at' = true := mulOk_small (n := 20) (m := 10) (by decide) (by omega)
  have e3 : ∀ n : Int, (if n < 0 then -n else n) = (n.natAbs : Int) := fun n => by split <;> omega
  have e4 : ∀ c : Int, 0 ≤ c → 0 ≤ (if 10 ^ 18 ≤ c then c else 0) := fun c h => by split <;> omega
  have e5 : Int.natAbs 10 < 2 ^ 64 := by decide
  have e6 : mulOk 7 863 = true := by decide
  have e7 : ¬ ((10 : Int) ^ Int.toNat 18 ≤ 7) := by decide
  unfold F_f_law_spring
  simp only [ret_ap, lift_some, lift_none, var_ap, varR_d, ownAt_ap, ownL_own, ownL_d, ownL_n, frzAt_ap, frzL_own, frzL_d, frz_nil, frz_cons, frz1_own, frz1_d, frz1_n, wipe_nil, wipe_cons, restore_nil, restore_cons, clean_nil, clean_cons, isOwnL_own, isOwnL_d, isOwnL_n, bind_ap, bindR_ok, bindR_ex, bindR_bad, ofM_ap, ofR_ok, ofR_ex, ofR_bad, seq_ap, seqR_nx, seqR_rt, seqR_rl, seqR_bk, seqR_ct, seqR_ex, seqR_bad, nil_ap, pass_ap, never_ap, brk_ap, cnt_ap, retN_ap, sret_ap, sretL_ap, drop_ap, site_ap, asg_ap, own_ap, par2_ap, par3_ap, asgT_ap, asgR_some, asgR_none, gnm_ap, gnil_ap, gcons_ap, gtup_ap, andV_ap, orV_ap, andT_ap, orT_ap, notT_ap, test_ap, op1_ap, op2_ap, chain_ap, mite_ap, ite_apR, ite_apS, argN_ap, argD_ap, argS_ap, slotR_some, tup_ap, lst_ap, known_ap, call_ap, callL_ap, items_ap, part_ap, slice_ap, catL_ap, frz_ap, borrow_ap, borrowR_ok, borrowT_ap, borrowTR_ok, subO_ap, app_ap, setIx_ap, retO_ap, for_ap, lc_ap, lcR_ok, fn_ap, fnL_ap, fnR_some, fnLR_some, retR_ret, retR_retL, retLR_retL, putR_some, putO_none, putO_s0, putO_s1, putO_s2, putO_s3, putO_s4, endR_rt, endR_rl, endR_nx, endR_bad, bindR_ite, ofR_ite, seqR_ite, endR_ite, lift_ite, addD_ii, addD_ss, addD_tt, subD_ii, mulD_ii, fdivD_ii, modD_ii, powD_ii, negD_i, ltD_ii, leD_ii, gtD_ii, geD_ii, ixD_l, ixD_t, catD_ll, itemsD_l, itemsD_t, lenD_l, lenD_t, lenD_s, absD_i, maxD_ii, minD_ii, intD_i, intD_b, tupleD_l, tupleD_t, notD_b, asB_b, asI_i, eqD_ii, eqD_ss, eqD_bb, eqD_si, eqD_is, eqD_nn, eqD_nb, eqD_ni, eqD_ns, eqD_bn, eqD_in, eqD_sn, tInt_none, tInt_bool, tInt_int, tInt_str, tInt_tuple, tInt_list, tInt_dict, tBool_none, tBool_bool, tBool_int, tBool_str, tBool_tuple, tBool_list, tBool_dict, tStr_none, tStr_bool, tStr_int, tStr_str, tStr_tuple, tStr_list, tStr_dict, tTuple_none, tTuple_bool, tTuple_int, tTuple_str, tTuple_tuple, tTuple_list, tTuple_dict, tList_none, tList_bool, tList_int, tList_str, tList_tuple, tList_list, tList_dict, tSeq_none, tSeq_bool, tSeq_int, tSeq_str, tSeq_tuple, tSeq_list, tSeq_dict, isNoneB_none, scalarD_none, isNoneB_bool, scalarD_bool, isNoneB_int, scalarD_int, isNoneB_str, scalarD_str, isNoneB_tuple, scalarD_tuple, isNoneB_list, scalarD_list, isNoneB_dict, scalarD_dict, ixT0, ixT1, ixT2, ixT3, ixT4, ixT5, ixT6, ixT7, ixT8, ixT9, ixL0, ixL1, ixL2, ixL3, ixL4, ixL5, ixL6, ixL7, ixL8, ixL9, aI0, aI1, aI2, aI3, aI4, aI5, aI6, aI7, aI8, aI9, ixN1_0, ixN2_0, ixN2_1, ixN3_0, ixN3_1, ixN3_2, ixN4_0, ixN4_1, ixN4_2, ixN4_3, ixN5_0, ixN5_1, ixN5_2, ixN5_3, ixN5_4, ixN6_0, ixN6_1, ixN6_2, ixN6_3, ixN6_4, ixN6_5, List.map_cons, List.map_nil, List.cons_append, List.nil_append, List.replicate_zero, List.replicate_succ, List.length_cons, List.length_nil, List.getElem?_cons_zero, List.getElem?_cons_succ, List.set_cons_zero, List.set_cons_succ, List.getD_cons_zero, List.getD_cons_succ, Bool.and_true, Bool.true_and, Bool.not_false, Bool.not_true, Nat.sub_self, Nat.reduceSub, Nat.reduceAdd, Nat.zero_add, true_and, and_true, and_self, if_true, if_false, ite_true, ite_false, reduceCtorEq, false_implies, implies_true, forall_const, Bool.false_eq_true, Option.bind_some, Option.map_some, Option.bind_none, Option.map_none, runF_eq, okIo, datOf, lvsOf, argIo, isD, outO, isND, notND, vals2D, vals3D, eqDD, neDD, decide_true, decide_false, Bool.decide_eq_true, sz0, sz1, sz2, sz3, sz4, sz5, sz6, sz7, sz8, sz9, slice_t, all_t, all_l, any_l, all_lm, all_tm, any_lm, Function.comp_def, step_nx, step_ct, step_bk, step_rt, step_rl, step_ite, decide_eq_true_eq, Int.cast_ofNat_Int, Int.reduceLE, Int.reduceLT, Int.reduceAdd, Int.reduceSub, Int.reduceMul, Int.reduceNeg, Int.reduceEq, Int.reduceGT, Nat.reduceEqDiff, ne_eq, not_false_eq_true, Option.some.injEq, forall_eq', Nat.reduceLT, Bool.and_false, Bool.or_false, Bool.false_or, Bool.true_or, Bool.false_and, Bool.or_true]
  unfold g_f_law_spring
  simp only [ret_ap, lift_some, lift_none, var_ap, varR_d, ownAt_ap, ownL_own, ownL_d, ownL_n, frzAt_ap, frzL_own, frzL_d, frz_nil, frz_cons, frz1_own, frz1_d, frz1_n, wipe_nil, wipe_cons, restore_nil, restore_cons, clean_nil, clean_cons, isOwnL_own, isOwnL_d, isOwnL_n, bind_ap, bindR_ok, bindR_ex, bindR_bad, ofM_ap, ofR_ok, ofR_ex, ofR_bad, seq_ap, seqR_nx, seqR_rt, seqR_rl, seqR_bk, seqR_ct, seqR_ex, seqR_bad, nil_ap, pass_ap, never_ap, brk_ap, cnt_ap, retN_ap, sret_ap, sretL_ap, drop_ap, site_ap, asg_ap, own_ap, par2_ap, par3_ap, asgT_ap, asgR_some, asgR_none, gnm_ap, gnil_ap, gcons_ap, gtup_ap, andV_ap, orV_ap, andT_ap, orT_ap, notT_ap, test_ap, op1_ap, op2_ap, chain_ap, mite_ap, ite_apR, ite_apS, argN_ap, argD_ap, argS_ap, slotR_some, tup_ap, lst_ap, known_ap, call_ap, callL_ap, items_ap, part_ap, slice_ap, catL_ap, frz_ap, borrow_ap, borrowR_ok, borrowT_ap, borrowTR_ok, subO_ap, app_ap, setIx_ap, retO_ap, for_ap, lc_ap, lcR_ok, fn_ap, fnL_ap, fnR_some, fnLR_some, retR_ret, retR_retL, retLR_retL, putR_some, putO_none, putO_s0, putO_s1, putO_s2, putO_s3, putO_s4, endR_rt, endR_rl, endR_nx, endR_bad, bindR_ite, ofR_ite, seqR_ite, endR_ite, lift_ite, addD_ii, addD_ss, addD_tt, subD_ii, mulD_ii, fdivD_ii, modD_ii, powD_ii, negD_i, ltD_ii, leD_ii, gtD_ii, geD_ii, ixD_l, ixD_t, catD_ll, itemsD_l, itemsD_t, lenD_l, lenD_t, lenD_s, absD_i, maxD_ii, minD_ii, intD_i, intD_b, tupleD_l, tupleD_t, notD_b, asB_b, asI_i, eqD_ii, eqD_ss, eqD_bb, eqD_si, eqD_is, eqD_nn, eqD_nb, eqD_ni, eqD_ns, eqD_bn, eqD_in, eqD_sn, tInt_none, tInt_bool, tInt_int, tInt_str, tInt_tuple, tInt_list, tInt_dict, tBool_none, tBool_bool, tBool_int, tBool_str, tBool_tuple, tBool_list, tBool_dict, tStr_none, tStr_bool, tStr_int, tStr_str, tStr_tuple, tStr_list, tStr_dict, tTuple_none, tTuple_bool, tTuple_int, tTuple_str, tTuple_tuple, tTuple_list, tTuple_dict, tList_none, tList_bool, tList_int, tList_str, tList_tuple, tList_list, tList_dict, tSeq_none, tSeq_bool, tSeq_int, tSeq_str, tSeq_tuple, tSeq_list, tSeq_dict, isNoneB_none, scalarD_none, isNoneB_bool, scalarD_bool, isNoneB_int, scalarD_int, isNoneB_str, scalarD_str, isNoneB_tuple, scalarD_tuple, isNoneB_list, scalarD_list, isNoneB_dict, scalarD_dict, ixT0, ixT1, ixT2, ixT3, ixT4, ixT5, ixT6, ixT7, ixT8, ixT9, ixL0, ixL1, ixL2, ixL3, ixL4, ixL5, ixL6, ixL7, ixL8, ixL9, aI0, aI1, aI2, aI3, aI4, aI5, aI6, aI7, aI8, aI9, ixN1_0, ixN2_0, ixN2_1, ixN3_0, ixN3_1, ixN3_2, ixN4_0, ixN4_1, ixN4_2, ixN4_3, ixN5_0, ixN5_1, ixN5_2, ixN5_3, ixN5_4, ixN6_0, ixN6_1, ixN6_2, ixN6_3, ixN6_4, ixN6_5, List.map_cons, List.map_nil, List.cons_append, List.nil_append, List.replicate_zero, List.replicate_succ, List.length_cons, List.length_nil, List.getElem?_cons_zero, List.getElem?_cons_succ, List.set_cons_zero, List.set_cons_succ, List.getD_cons_zero, List.getD_cons_succ, Bool.and_true, Bool.true_and, Bool.not_false, Bool.not_true, Nat.sub_self, Nat.reduceSub, Nat.reduceAdd, Nat.zero_add, true_and, and_true, and_self, if_true, if_false, ite_true, ite_false, reduceCtorEq, false_implies, implies_true, forall_const, Bool.false_eq_true, Option.bind_some, Option.map_some, Option.bind_none, Option.map_none, runF_eq, okIo, datOf, lvsOf, argIo, isD, outO, isND, notND, vals2D, vals3D, eqDD, neDD, decide_true, decide_false, Bool.decide_eq_true, sz0, sz1, sz2, sz3, sz4, sz5, sz6, sz7, sz8, sz9, slice_t, all_t, all_l, any_l, all_lm, all_tm, any_lm, Function.comp_def, step_nx, step_ct, step_bk, step_rt, step_rl, step_ite, decide_eq_true_eq, Int.cast_ofNat_Int, Int.reduceLE, Int.reduceLT, Int.reduceAdd, Int.reduceSub, Int.reduceMul, Int.reduceNeg, Int.reduceEq, Int.reduceGT, Nat.reduceEqDiff, ne_eq, not_false_eq_true, Option.some.injEq, forall_eq', Nat.reduceLT, Bool.and_false, Bool.or_false, Bool.false_or, Bool.true_or, Bool.false_and, Bool.or_true, List.length_map, e2]
  by_cases h : at' < (ns.length : Int)
  · obtain ⟨k, hk⟩ := Int.eq_ofNat_of_zero_le h0
    have hk2 : k < ns.length := by omega
    have e8 : atI (ns.map PyData.int) at' = some (.int ns[k]) := by rw [hk]; exact atI_nat (by rw [List.getElem?_map, List.getElem?_eq_getElem hk2]; rfl)
    have hn := hb _ (List.getElem_mem hk2)
    have e9 : mulOk (ns[k].natAbs : Int) 863 = true := e1 _ (by rw [Int.natAbs_natCast]; exact hn)
    simp only [ret_ap, lift_some, lift_none, var_ap, varR_d, ownAt_ap, ownL_own, ownL_d, ownL_n, frzAt_ap, frzL_own, frzL_d, frz_nil, frz_cons, frz1_own, frz1_d, frz1_n, wipe_nil, wipe_cons, restore_nil, restore_cons, clean_nil, clean_cons, isOwnL_own, isOwnL_d, isOwnL_n, bind_ap, bindR_ok, bindR_ex, bindR_bad, ofM_ap, ofR_ok, ofR_ex, ofR_bad, seq_ap, seqR_nx, seqR_rt, seqR_rl, seqR_bk, seqR_ct, seqR_ex, seqR_bad, nil_ap, pass_ap, never_ap, brk_ap, cnt_ap, retN_ap, sret_ap, sretL_ap, drop_ap, site_ap, asg_ap, own_ap, par2_ap, par3_ap, asgT_ap, asgR_some, asgR_none, gnm_ap, gnil_ap, gcons_ap, gtup_ap, andV_ap, orV_ap, andT_ap, orT_ap, notT_ap, test_ap, op1_ap, op2_ap, chain_ap, mite_ap, ite_apR, ite_apS, argN_ap, argD_ap, argS_ap, slotR_some, tup_ap, lst_ap, known_ap, call_ap, callL_ap, items_ap, part_ap, slice_ap, catL_ap, frz_ap, borrow_ap, borrowR_ok, borrowT_ap, borrowTR_ok, subO_ap, app_ap, setIx_ap, retO_ap, for_ap, lc_ap, lcR_ok, fn_ap, fnL_ap, fnR_some, fnLR_some, retR_ret, retR_retL, retLR_retL, putR_some, putO_none, putO_s0, putO_s1, putO_s2, putO_s3, putO_s4, endR_rt, endR_rl, endR_nx, endR_bad, bindR_ite, ofR_ite, seqR_ite, endR_ite, lift_ite, addD_ii, addD_ss, addD_tt, subD_ii, mulD_ii, fdivD_ii, modD_ii, powD_ii, negD_i, ltD_ii, leD_ii, gtD_ii, geD_ii, ixD_l, ixD_t, catD_ll, itemsD_l, itemsD_t, lenD_l, lenD_t, lenD_s, absD_i, maxD_ii, minD_ii, intD_i, intD_b, tupleD_l, tupleD_t, notD_b, asB_b, asI_i, eqD_ii, eqD_ss, eqD_bb, eqD_si, eqD_is, eqD_nn, eqD_nb, eqD_ni, eqD_ns, eqD_bn, eqD_in, eqD_sn, tInt_none, tInt_bool, tInt_int, tInt_str, tInt_tuple, tInt_list, tInt_dict, tBool_none, tBool_bool, tBool_int, tBool_str, tBool_tuple, tBool_list, tBool_dict, tStr_none, tStr_bool, tStr_int, tStr_str, tStr_tuple, tStr_list, tStr_dict, tTuple_none, tTuple_bool, tTuple_int, tTuple_str, tTuple_tuple, tTuple_list, tTuple_dict, tList_none, tList_bool, tList_int, tList_str, tList_tuple, tList_list, tList_dict, tSeq_none, tSeq_bool, tSeq_int, tSeq_str, tSeq_tuple, tSeq_list, tSeq_dict, isNoneB_none, scalarD_none, isNoneB_bool, scalarD_bool, isNoneB_int, scalarD_int, isNoneB_str, scalarD_str, isNoneB_tuple, scalarD_tuple, isNoneB_list, scalarD_list, isNoneB_dict, scalarD_dict, ixT0, ixT1, ixT2, ixT3, ixT4, ixT5, ixT6, ixT7, ixT8, ixT9, ixL0, ixL1, ixL2, ixL3, ixL4, ixL5, ixL6, ixL7, ixL8, ixL9, aI0, aI1, aI2, aI3, aI4, aI5, aI6, aI7, aI8, aI9, ixN1_0, ixN2_0, ixN2_1, ixN3_0, ixN3_1, ixN3_2, ixN4_0, ixN4_1, ixN4_2, ixN4_3, ixN5_0, ixN5_1, ixN5_2, ixN5_3, ixN5_4, ixN6_0, ixN6_1, ixN6_2, ixN6_3, ixN6_4, ixN6_5, List.map_cons, List.map_nil, List.cons_append, List.nil_append, List.replicate_zero, List.replicate_succ, List.length_cons, List.length_nil, List.getElem?_cons_zero, List.getElem?_cons_succ, List.set_cons_zero, List.set_cons_succ, List.getD_cons_zero, List.getD_cons_succ, Bool.and_true, Bool.true_and, Bool.not_false, Bool.not_true, Nat.sub_self, Nat.reduceSub, Nat.reduceAdd, Nat.zero_add, true_and, and_true, and_self, if_true, if_false, ite_true, ite_false, reduceCtorEq, false_implies, implies_true, forall_const, Bool.false_eq_true, Option.bind_some, Option.map_some, Option.bind_none, Option.map_none, runF_eq, okIo, datOf, lvsOf, argIo, isD, outO, isND, notND, vals2D, vals3D, eqDD, neDD, decide_true, decide_false, Bool.decide_eq_true, sz0, sz1, sz2, sz3, sz4, sz5, sz6, sz7, sz8, sz9, slice_t, all_t, all_l, any_l, all_lm, all_tm, any_lm, Function.comp_def, step_nx, step_ct, step_bk, step_rt, step_rl, step_ite, decide_eq_true_eq, Int.cast_ofNat_Int, Int.reduceLE, Int.reduceLT, Int.reduceAdd, Int.reduceSub, Int.reduceMul, Int.reduceNeg, Int.reduceEq, Int.reduceGT, Nat.reduceEqDiff, ne_eq, not_false_eq_true, Option.some.injEq, forall_eq', Nat.reduceLT, Bool.and_false, Bool.or_false, Bool.false_or, Bool.true_or, Bool.false_and, Bool.or_true, if_pos h, List.length_map, e2, e8, e3, e9, e5]
    by_cases h2 : (10 : Int) ^ Int.toNat 18 ≤ (ns[k].natAbs : Int)
    · rw [if_pos h2]
      exact ⟨_, rfl, _, _, rfl, Int.natCast_nonneg _, Int.emod_nonneg _ (by decide), Int.emod_lt_of_pos _ (by decide)⟩
    · rw [if_neg h2]
      exact ⟨_, rfl, _, _, rfl, Int.le_refl _, Int.emod_nonneg _ (by decide), Int.emod_lt_of_pos _ (by decide)⟩
  · simp only [ret_ap, lift_some, lift_none, var_ap, varR_d, ownAt_ap, ownL_own, ownL_d, ownL_n, frzAt_ap, frzL_own, frzL_d, frz_nil, frz_cons, frz1_own, frz1_d, frz1_n, wipe_nil, wipe_cons, restore_nil, restore_cons, clean_nil, clean_cons, isOwnL_own, isOwnL_d, isOwnL_n, bind_ap, bindR_ok, bindR_ex, bindR_bad, ofM_ap, ofR_ok, ofR_ex, ofR_bad, seq_ap, seqR_nx, seqR_rt, seqR_rl, seqR_bk, seqR_ct, seqR_ex, seqR_bad, nil_ap, pass_ap, never_ap, brk_ap, cnt_ap, retN_ap, sret_ap, sretL_ap, drop_ap, site_ap, asg_ap, own_ap, par2_ap, par3_ap, asgT_ap, asgR_some, asgR_none, gnm_ap, gnil_ap, gcons_ap, gtup_ap, andV_ap, orV_ap, andT_ap, orT_ap, notT_ap, test_ap, op1_ap, op2_ap, chain_ap, mite_ap, ite_apR, ite_apS, argN_ap, argD_ap, argS_ap, slotR_some, tup_ap, lst_ap, known_ap, call_ap, callL_ap, items_ap, part_ap, slice_ap, catL_ap, frz_ap, borrow_ap, borrowR_ok, borrowT_ap, borrowTR_ok, subO_ap, app_ap, setIx_ap, retO_ap, for_ap, lc_ap, lcR_ok, fn_ap, fnL_ap, fnR_some, fnLR_some, retR_ret, retR_retL, retLR_retL, putR_some, putO_none, putO_s0, putO_s1, putO_s2, putO_s3, putO_s4, endR_rt, endR_rl, endR_nx, endR_bad, bindR_ite, ofR_ite, seqR_ite, endR_ite, lift_ite, addD_ii, addD_ss, addD_tt, subD_ii, mulD_ii, fdivD_ii, modD_ii, powD_ii, negD_i, ltD_ii, leD_ii, gtD_ii, geD_ii, ixD_l, ixD_t, catD_ll, itemsD_l, itemsD_t, lenD_l, lenD_t, lenD_s, absD_i, maxD_ii, minD_ii, intD_i, intD_b, tupleD_l, tupleD_t, notD_b, asB_b, asI_i, eqD_ii, eqD_ss, eqD_bb, eqD_si, eqD_is, eqD_nn, eqD_nb, eqD_ni, eqD_ns, eqD_bn, eqD_in, eqD_sn, tInt_none, tInt_bool, tInt_int, tInt_str, tInt_tuple, tInt_list, tInt_dict, tBool_none, tBool_bool, tBool_int, tBool_str, tBool_tuple, tBool_list, tBool_dict, tStr_none, tStr_bool, tStr_int, tStr_str, tStr_tuple, tStr_list, tStr_dict, tTuple_none, tTuple_bool, tTuple_int, tTuple_str, tTuple_tuple, tTuple_list, tTuple_dict, tList_none, tList_bool, tList_int, tList_str, tList_tuple, tList_list, tList_dict, tSeq_none, tSeq_bool, tSeq_int, tSeq_str, tSeq_tuple, tSeq_list, tSeq_dict, isNoneB_none, scalarD_none, isNoneB_bool, scalarD_bool, isNoneB_int, scalarD_int, isNoneB_str, scalarD_str, isNoneB_tuple, scalarD_tuple, isNoneB_list, scalarD_list, isNoneB_dict, scalarD_dict, ixT0, ixT1, ixT2, ixT3, ixT4, ixT5, ixT6, ixT7, ixT8, ixT9, ixL0, ixL1, ixL2, ixL3, ixL4, ixL5, ixL6, ixL7, ixL8, ixL9, aI0, aI1, aI2, aI3, aI4, aI5, aI6, aI7, aI8, aI9, ixN1_0, ixN2_0, ixN2_1, ixN3_0, ixN3_1, ixN3_2, ixN4_0, ixN4_1, ixN4_2, ixN4_3, ixN5_0, ixN5_1, ixN5_2, ixN5_3, ixN5_4, ixN6_0, ixN6_1, ixN6_2, ixN6_3, ixN6_4, ixN6_5, List.map_cons, List.map_nil, List.cons_append, List.nil_append, List.replicate_zero, List.replicate_succ, List.length_cons, List.length_nil, List.getElem?_cons_zero, List.getElem?_cons_succ, List.set_cons_zero, List.set_cons_succ, List.getD_cons_zero, List.getD_cons_succ, Bool.and_true, Bool.true_and, Bool.not_false, Bool.not_true, Nat.sub_self, Nat.reduceSub, Nat.reduceAdd, Nat.zero_add, true_and, and_true, and_self, if_true, if_false, ite_true, ite_false, reduceCtorEq, false_implies, implies_true, forall_const, Bool.false_eq_true, Option.bind_some, Option.map_some, Option.bind_none, Option.map_none, runF_eq, okIo, datOf, lvsOf, argIo, isD, outO, isND, notND, vals2D, vals3D, eqDD, neDD, decide_true, decide_false, Bool.decide_eq_true, sz0, sz1, sz2, sz3, sz4, sz5, sz6, sz7, sz8, sz9, slice_t, all_t, all_l, any_l, all_lm, all_tm, any_lm, Function.comp_def, step_nx, step_ct, step_bk, step_rt, step_rl, step_ite, decide_eq_true_eq, Int.cast_ofNat_Int, Int.reduceLE, Int.reduceLT, Int.reduceAdd, Int.reduceSub, Int.reduceMul, Int.reduceNeg, Int.reduceEq, Int.reduceGT, Nat.reduceEqDiff, ne_eq, not_false_eq_true, Option.some.injEq, forall_eq', Nat.reduceLT, Bool.and_false, Bool.or_false, Bool.false_or, Bool.true_or, Bool.false_and, Bool.or_true, if_neg h, List.length_map, e2, e6, e5, if_neg e7]
    exact ⟨_, rfl, _, _, rfl, Int.le_refl _, Int.emod_nonneg _ (by decide), Int.emod_lt_of_pos _ (by decide)⟩
theorem F_recorder_ok {xs : List D} (hx : SpV xs) : ∃ r ys, F_f_law_recorder [.own xs] = .ret (encR r) (some ys) ∧ r.Ok ∧ SpV ys := by
  obtain ⟨i1, x1, e1, h1, a1, b1⟩ := F_pick_ok hx (m := 3) (by decide) (by decide)
  obtain ⟨i2, x2, e2, h2, a2, b2⟩ := F_pick_ok h1 (m := 4) (by decide) (by decide)
  obtain ⟨i3, x3, e3, h3, a3, b3⟩ := F_pick_ok h2 (m := 11 - (1 + i1) - i2) (by omega) (by omega)
  obtain ⟨i4, x4, e4, h4, a4, b4⟩ := F_pick_ok h3 (m := 3) (by decide) (by decide)
  obtain ⟨i5, x5, e5, h5, a5, b5⟩ := F_pick_ok h4 (m := 5) (by decide) (by decide)
  unfold F_f_law_recorder g_f_law_recorder
  have e6 : ∃ j : Int, atI [PyData.int 0, PyData.int 1, PyData.int 1, PyData.int 2, PyData.int 3] i5 = some (.int j) ∧ 0 ≤ j ∧ j ≤ 3 := by
    have : i5 = 0 ∨ i5 = 1 ∨ i5 = 2 ∨ i5 = 3 ∨ i5 = 4 := by omega
    rcases this with h | h | h | h | h <;> subst h <;> exact ⟨_, rfl, by decide, by decide⟩
  obtain ⟨j, e6, j0, j3⟩ := e6
  simp only [ret_ap, lift_some, lift_none, var_ap, varR_d, ownAt_ap, ownL_own, ownL_d, ownL_n, frzAt_ap, frzL_own, frzL_d, frz_nil, frz_cons, frz1_own, frz1_d, frz1_n, wipe_nil, wipe_cons, restore_nil, restore_cons, clean_nil, clean_cons, isOwnL_own, isOwnL_d, isOwnL_n, bind_ap, bindR_ok, bindR_ex, bindR_bad, ofM_ap, ofR_ok, ofR_ex, ofR_bad, seq_ap, seqR_nx, seqR_rt, seqR_rl, seqR_bk, seqR_ct, seqR_ex, seqR_bad, nil_ap, pass_ap, never_ap, brk_ap, cnt_ap, retN_ap, sret_ap, sretL_ap, drop_ap, site_ap, asg_ap, own_ap, par2_ap, par3_ap, asgT_ap, asgR_some, asgR_none, gnm_ap, gnil_ap, gcons_ap, gtup_ap, andV_ap, orV_ap, andT_ap, orT_ap, notT_ap, test_ap, op1_ap, op2_ap, chain_ap, mite_ap, ite_apR, ite_apS, argN_ap, argD_ap, argS_ap, slotR_some, tup_ap, lst_ap, known_ap, call_ap, callL_ap, items_ap, part_ap, slice_ap, catL_ap, frz_ap, borrow_ap, borrowR_ok, borrowT_ap, borrowTR_ok, subO_ap, app_ap, setIx_ap, retO_ap, for_ap, lc_ap, lcR_ok, fn_ap, fnL_ap, fnR_some, fnLR_some, retR_ret, retR_retL, retLR_retL, putR_some, putO_none, putO_s0, putO_s1, putO_s2, putO_s3, putO_s4, endR_rt, endR_rl, endR_nx, endR_bad, bindR_ite, ofR_ite, seqR_ite, endR_ite, lift_ite, addD_ii, addD_ss, addD_tt, subD_ii, mulD_ii, fdivD_ii, modD_ii, powD_ii, negD_i, ltD_ii, leD_ii, gtD_ii, geD_ii, ixD_l, ixD_t, catD_ll, itemsD_l, itemsD_t, lenD_l, lenD_t, lenD_s, absD_i, maxD_ii, minD_ii, intD_i, intD_b, tupleD_l, tupleD_t, notD_b, asB_b, asI_i, eqD_ii, eqD_ss, eqD_bb, eqD_si, eqD_is, eqD_nn, eqD_nb, eqD_ni, eqD_ns, eqD_bn, eqD_in, eqD_sn, tInt_none, tInt_bool, tInt_int, tInt_str, tInt_tuple, tInt_list, tInt_dict, tBool_none, tBool_bool, tBool_int, tBool_str, tBool_tuple, tBool_list, tBool_dict, tStr_none, tStr_bool, tStr_int, tStr_str, tStr_tuple, tStr_list, tStr_dict, tTuple_none, tTuple_bool, tTuple_int, tTuple_str, tTuple_tuple, tTuple_list, tTuple_dict, tList_none, tList_bool, tList_int, tList_str, tList_tuple, tList_list, tList_dict, tSeq_none, tSeq_bool, tSeq_int, tSeq_str, tSeq_tuple, tSeq_list, tSeq_dict, isNoneB_none, scalarD_none, isNoneB_bool, scalarD_bool, isNoneB_int, scalarD_int, isNoneB_str, scalarD_str, isNoneB_tuple, scalarD_tuple, isNoneB_list, scalarD_list, isNoneB_dict, scalarD_dict, ixT0, ixT1, ixT2, ixT3, ixT4, ixT5, ixT6, ixT7, ixT8, ixT9, ixL0, ixL1, ixL2, ixL3, ixL4, ixL5, ixL6, ixL7, ixL8, ixL9, aI0, aI1, aI2, aI3, aI4, aI5, aI6, aI7, aI8, aI9, ixN1_0, ixN2_0, ixN2_1, ixN3_0, ixN3_1, ixN3_2, ixN4_0, ixN4_1, ixN4_2, ixN4_3, ixN5_0, ixN5_1, ixN5_2, ixN5_3, ixN5_4, ixN6_0, ixN6_1, ixN6_2, ixN6_3, ixN6_4, ixN6_5, List.map_cons, List.map_nil, List.cons_append, List.nil_append, List.replicate_zero, List.replicate_succ, List.length_cons, List.length_nil, List.getElem?_cons_zero, List.getElem?_cons_succ, List.set_cons_zero, List.set_cons_succ, List.getD_cons_zero, List.getD_cons_succ, Bool.and_true, Bool.true_and, Bool.not_false, Bool.not_true, Nat.sub_self, Nat.reduceSub, Nat.reduceAdd, Nat.zero_add, true_and, and_true, and_self, if_true, if_false, ite_true, ite_false, reduceCtorEq, false_implies, implies_true, forall_const, Bool.false_eq_true, Option.bind_some, Option.map_some, Option.bind_none, Option.map_none, runF_eq, okIo, datOf, lvsOf, argIo, isD, outO, isND, notND, vals2D, vals3D, eqDD, neDD, decide_true, decide_false, Bool.decide_eq_true, sz0, sz1, sz2, sz3, sz4, sz5, sz6, sz7, sz8, sz9, slice_t, all_t, all_l, any_l, all_lm, all_tm, any_lm, Function.comp_def, step_nx, step_ct, step_bk, step_rt, step_rl, step_ite, decide_eq_true_eq, Int.cast_ofNat_Int, Int.reduceLE, Int.reduceLT, Int.reduceAdd, Int.reduceSub, Int.reduceMul, Int.reduceNeg, Int.reduceEq, Int.reduceGT, Nat.reduceEqDiff, ne_eq, not_false_eq_true, Option.some.injEq, forall_eq', Nat.reduceLT, Bool.and_false, Bool.or_false, Bool.false_or, Bool.true_or, Bool.false_and, Bool.or_true, e1, e2, e3, e4, e5, e6]
  exact ⟨⟨1 + i1, i2, 1 + i4, 1 + i1 + i2 + i3, j⟩, x5, rfl, ⟨by show 1 ≤ 1 + i1; omega, by show 1 + i1 ≤ 3; omega, a2, by show i2 ≤ 3; omega, by show 1 ≤ 1 + i4; omega, by show 1 + i4 ≤ 3; omega, by show 1 + i1 + i2 ≤ 1 + i1 + i2 + i3; omega, by show 1 + i1 + i2 + i3 ≤ 10; omega, j0, j3⟩, h5⟩
/-! ### twins -/
def kindD : D → Int
  | .none => 0
  | .bool _ => 1
  | .list _ => 2
  | .tuple _ => 3
  | .int _ => 4
  | .str _ => 5
  | .dict _ => 6
theorem F_kind_eq (x : D) : F_f_law_kind [.d x] = .ret (.int (kindD x)) none := by
  unfold F_f_law_kind g_f_law_kind
  cases x <;> simp only [ret_ap, lift_some, lift_none, var_ap, varR_d, ownAt_ap, ownL_own, ownL_d, ownL_n, frzAt_ap, frzL_own, frzL_d, frz_nil, frz_cons, frz1_own, frz1_d, frz1_n, wipe_nil, wipe_cons, restore_nil, restore_cons, clean_nil, clean_cons, isOwnL_own, isOwnL_d, isOwnL_n, bind_ap, bindR_ok, bindR_ex, bindR_bad, ofM_ap, ofR_ok, ofR_ex, ofR_bad, seq_ap, seqR_nx, seqR_rt, seqR_rl, seqR_bk, seqR_ct, seqR_ex, seqR_bad, nil_ap, pass_ap, never_ap, brk_ap, cnt_ap, retN_ap, sret_ap, sretL_ap, drop_ap, site_ap, asg_ap, own_ap, par2_ap, par3_ap, asgT_ap, asgR_some, asgR_none, gnm_ap, gnil_ap, gcons_ap, gtup_ap, andV_ap, orV_ap, andT_ap, orT_ap, notT_ap, test_ap, op1_ap, op2_ap, chain_ap, mite_ap, ite_apR, ite_apS, argN_ap, argD_ap, argS_ap, slotR_some, tup_ap, lst_ap, known_ap, call_ap, callL_ap, items_ap, part_ap, slice_ap, catL_ap, frz_ap, borrow_ap, borrowR_ok, borrowT_ap, borrowTR_ok, subO_ap, app_ap, setIx_ap, retO_ap, for_ap, lc_ap, lcR_ok, fn_ap, fnL_ap, fnR_some, fnLR_some, retR_ret, retR_retL, retLR_retL, putR_some, putO_none, putO_s0, putO_s1, putO_s2, putO_s3, putO_s4, endR_rt, endR_rl, endR_nx, endR_bad, bindR_ite, ofR_ite, seqR_ite, endR_ite, lift_ite, addD_ii, addD_ss, addD_tt, subD_ii, mulD_ii, fdivD_ii, modD_ii, powD_ii, negD_i, ltD_ii, leD_ii, gtD_ii, geD_ii, ixD_l, ixD_t, catD_ll, itemsD_l, itemsD_t, lenD_l, lenD_t, lenD_s, absD_i, maxD_ii, minD_ii, intD_i, intD_b, tupleD_l, tupleD_t, notD_b, asB_b, asI_i, eqD_ii, eqD_ss, eqD_bb, eqD_si, eqD_is, eqD_nn, eqD_nb, eqD_ni, eqD_ns, eqD_bn, eqD_in, eqD_sn, tInt_none, tInt_bool, tInt_int, tInt_str, tInt_tuple, tInt_list, tInt_dict, tBool_none, tBool_bool, tBool_int, tBool_str, tBool_tuple, tBool_list, tBool_dict, tStr_none, tStr_bool, tStr_int, tStr_str, tStr_tuple, tStr_list, tStr_dict, tTuple_none, tTuple_bool, tTuple_int, tTuple_str, tTuple_tuple, tTuple_list, tTuple_dict, tList_none, tList_bool, tList_int, tList_str, tList_tuple, tList_list, tList_dict, tSeq_none, tSeq_bool, tSeq_int, tSeq_str, tSeq_tuple, tSeq_list, tSeq_dict, isNoneB_none, scalarD_none, isNoneB_bool, scalarD_bool, isNoneB_int, scalarD_int, isNoneB_str, scalarD_str, isNoneB_tuple, scalarD_tuple, isNoneB_list, scalarD_list, isNoneB_dict, scalarD_dict, ixT0, ixT1, ixT2, ixT3, ixT4, ixT5, ixT6, ixT7, ixT8, ixT9, ixL0, ixL1, ixL2, ixL3, ixL4, ixL5, ixL6, ixL7, ixL8, ixL9, aI0, aI1, aI2, aI3, aI4, aI5, aI6, aI7, aI8, aI9, ixN1_0, ixN2_0, ixN2_1, ixN3_0, ixN3_1, ixN3_2, ixN4_0, ixN4_1, ixN4_2, ixN4_3, ixN5_0, ixN5_1, ixN5_2, ixN5_3, ixN5_4, ixN6_0, ixN6_1, ixN6_2, ixN6_3, ixN6_4, ixN6_5, List.map_cons, List.map_nil, List.cons_append, List.nil_append, List.replicate_zero, List.replicate_succ, List.length_cons, List.length_nil, List.getElem?_cons_zero, List.getElem?_cons_succ, List.set_cons_zero, List.set_cons_succ, List.getD_cons_zero, List.getD_cons_succ, Bool.and_true, Bool.true_and, Bool.not_false, Bool.not_true, Nat.sub_self, Nat.reduceSub, Nat.reduceAdd, Nat.zero_add, true_and, and_true, and_self, if_true, if_false, ite_true, ite_false, reduceCtorEq, false_implies, implies_true, forall_const, Bool.false_eq_true, Option.bind_some, Option.map_some, Option.bind_none, Option.map_none, runF_eq, okIo, datOf, lvsOf, argIo, isD, outO, isND, notND, vals2D, vals3D, eqDD, neDD, decide_true, decide_false, Bool.decide_eq_true, sz0, sz1, sz2, sz3, sz4, sz5, sz6, sz7, sz8, sz9, slice_t, all_t, all_l, any_l, all_lm, all_tm, any_lm, Function.comp_def, step_nx, step_ct, step_bk, step_rt, step_rl, step_ite, decide_eq_true_eq, Int.cast_ofNat_Int, Int.reduceLE, Int.reduceLT, Int.reduceAdd, Int.reduceSub, Int.reduceMul, Int.reduceNeg, Int.reduceEq, Int.reduceGT, Nat.reduceEqDiff, ne_eq, not_false_eq_true, Option.some.injEq, forall_eq', Nat.reduceLT, Bool.and_false, Bool.or_false, Bool.false_or, Bool.true_or, Bool.false_and, Bool.or_true] <;> rfl
theorem F_twins_self : ∀ (n : Nat) (x : D), Sh n x → n ≤ 60 → F_f_law_twins (n + 1) [.d x, .d x] = .ret (.bool true) none
  | n, x, hx, hn => by
    have e0 := eqD_self hx (by omega)
    have key : ∀ xs : List D, (∀ y ∈ xs, F_f_law_twins n [.d y, .d y] = .ret (.bool true) none) → ∀ a b : Option LV,
      lcLoop [2, 3] (G.tup 2 (G.cons (G.nm 2) (G.cons (G.nm 3) G.nil))) (T_f_law_twins_1 (F_f_law_twins n)) (E_f_law_twins_1 (F_f_law_twins n)) (zipL xs xs) [] [a, b, none, none] = .ok [] [a, b, none, none] := fun xs h a b => by
      refine lcLoop_none _ _ ?_
      rw [zipL_self]
      intro z hz
      obtain ⟨y, hy, rfl⟩ := List.mem_map.mp hz
      refine ⟨[a, b, some (.d y), some (.d y)], [a, b, some (.d y), some (.d y)], rfl, ?_, rfl⟩
      simp only [ret_ap, lift_some, lift_none, var_ap, varR_d, ownAt_ap, ownL_own, ownL_d, ownL_n, frzAt_ap, frzL_own, frzL_d, frz_nil, frz_cons, frz1_own, frz1_d, frz1_n, wipe_nil, wipe_cons, restore_nil, restore_cons, clean_nil, clean_cons, isOwnL_own, isOwnL_d, isOwnL_n, bind_ap, bindR_ok, bindR_ex, bindR_bad, ofM_ap, ofR_ok, ofR_ex, ofR_bad, seq_ap, seqR_nx, seqR_rt, seqR_rl, seqR_bk, seqR_ct, seqR_ex, seqR_bad, nil_ap, pass_ap, never_ap, brk_ap, cnt_ap, retN_ap, sret_ap, sretL_ap, drop_ap, site_ap, asg_ap, own_ap, par2_ap, par3_ap, asgT_ap, asgR_some, asgR_none, gnm_ap, gnil_ap, gcons_ap, gtup_ap, andV_ap, orV_ap, andT_ap, orT_ap, notT_ap, test_ap, op1_ap, op2_ap, chain_ap, mite_ap, ite_apR, ite_apS, argN_ap, argD_ap, argS_ap, slotR_some, tup_ap, lst_ap, known_ap, call_ap, callL_ap, items_ap, part_ap, slice_ap, catL_ap, frz_ap, borrow_ap, borrowR_ok, borrowT_ap, borrowTR_ok, subO_ap, app_ap, setIx_ap, retO_ap, for_ap, lc_ap, lcR_ok, fn_ap, fnL_ap, fnR_some, fnLR_some, retR_ret, retR_retL, retLR_retL, putR_some, putO_none, putO_s0, putO_s1, putO_s2, putO_s3, putO_s4, endR_rt, endR_rl, endR_nx, endR_bad, bindR_ite, ofR_ite, seqR_ite, endR_ite, lift_ite, addD_ii, addD_ss, addD_tt, subD_ii, mulD_ii, fdivD_ii, modD_ii, powD_ii, negD_i, ltD_ii, leD_ii, gtD_ii, geD_ii, ixD_l, ixD_t, catD_ll, itemsD_l, itemsD_t, lenD_l, lenD_t, lenD_s, absD_i, maxD_ii, minD_ii, intD_i, intD_b, tupleD_l, tupleD_t, notD_b, asB_b, asI_i, eqD_ii, eqD_ss, eqD_bb, eqD_si, eqD_is, eqD_nn, eqD_nb, eqD_ni, eqD_ns, eqD_bn, eqD_in, eqD_sn, tInt_none, tInt_bool, tInt_int, tInt_str, tInt_tuple, tInt_list, tInt_dict, tBool_none, tBool_bool, tBool_int, tBool_str, tBool_tuple, tBool_list, tBool_dict, tStr_none, tStr_bool, tStr_int, tStr_str, tStr_tuple, tStr_list, tStr_dict, tTuple_none, tTuple_bool, tTuple_int, tTuple_str, tTuple_tuple, tTuple_list, tTuple_dict, tList_none, tList_bool, tList_int, tList_str, tList_tuple, tList_list, tList_dict, tSeq_none, tSeq_bool, tSeq_int, tSeq_str, tSeq_tuple, tSeq_list, tSeq_dict, isNoneB_none, scalarD_none, isNoneB_bool, scalarD_bool, isNoneB_int, scalarD_int, isNoneB_str, scalarD_str, isNoneB_tuple, scalarD_tuple, isNoneB_list, scalarD_list, isNoneB_dict, scalarD_dict, ixT0, ixT1, ixT2, ixT3, ixT4, ixT5, ixT6, ixT7, ixT8, ixT9, ixL0, ixL1, ixL2, ixL3, ixL4, ixL5, ixL6, ixL7, ixL8, ixL9, aI0, aI1, aI2, aI3, aI4, aI5, aI6, aI7, aI8, aI9, ixN1_0, ixN2_0, ixN2_1, ixN3_0, ixN3_1, ixN3_2, ixN4_0, ixN4_1, ixN4_2, ixN4_3, ixN5_0, ixN5_1, ixN5_2, ixN5_3, ixN5_4, ixN6_0, ixN6_1, ixN6_2, ixN6_3, ixN6_4, ixN6_5, List.map_cons, List.map_nil, List.cons_append, List.nil_append, List.replicate_zero, List.replicate_succ, List.length_cons, List.length_nil, List.getElem?_cons_zero, List.getElem?_cons_succ, List.set_cons_zero, List.set_cons_succ, List.getD_cons_zero, List.getD_cons_succ, Bool.and_true, Bool.true_and, Bool.not_false, Bool.not_true, Nat.sub_self, Nat.reduceSub, Nat.reduceAdd, Nat.zero_add, true_and, and_true, and_self, if_true, if_false, ite_true, ite_false, reduceCtorEq, false_implies, implies_true, forall_const, Bool.false_eq_true, Option.bind_some, Option.map_some, Option.bind_none, Option.map_none, runF_eq, okIo, datOf, lvsOf, argIo, isD, outO, isND, notND, vals2D, vals3D, eqDD, neDD, decide_true, decide_false, Bool.decide_eq_true, sz0, sz1, sz2, sz3, sz4, sz5, sz6, sz7, sz8, sz9, slice_t, all_t, all_l, any_l, all_lm, all_tm, any_lm, Function.comp_def, step_nx, step_ct, step_bk, step_rt, step_rl, step_ite, decide_eq_true_eq, Int.cast_ofNat_Int, Int.reduceLE, Int.reduceLT, Int.reduceAdd, Int.reduceSub, Int.reduceMul, Int.reduceNeg, Int.reduceEq, Int.reduceGT, Nat.reduceEqDiff, ne_eq, not_false_eq_true, Option.some.injEq, forall_eq', Nat.reduceLT, Bool.and_false, Bool.or_false, Bool.false_or, Bool.true_or, Bool.false_and, Bool.or_true, T_f_law_twins_1, h y hy]
    have zt : ∀ xs : List D, zipD [.tuple xs, .tuple xs] = some (zipL xs xs) := fun _ => rfl
    have zl : ∀ xs : List D, zipD [.list xs, .list xs] = some (zipL xs xs) := fun _ => rfl
    cases x with
    | tuple xs =>
      cases n with
      | zero => exact hx.zero_t.elim
      | succ n =>
        have e1 := key xs fun y hy => F_twins_self n y (hx.mem_t y hy) (by omega)
        unfold F_f_law_twins g_f_law_twins
        simp only [ret_ap, lift_some, lift_none, var_ap, varR_d, ownAt_ap, ownL_own, ownL_d, ownL_n, frzAt_ap, frzL_own, frzL_d, frz_nil, frz_cons, frz1_own, frz1_d, frz1_n, wipe_nil, wipe_cons, restore_nil, restore_cons, clean_nil, clean_cons, isOwnL_own, isOwnL_d, isOwnL_n, bind_ap, bindR_ok, bindR_ex, bindR_bad, ofM_ap, ofR_ok, ofR_ex, ofR_bad, seq_ap, seqR_nx, seqR_rt, seqR_rl, seqR_bk, seqR_ct, seqR_ex, seqR_bad, nil_ap, pass_ap, never_ap, brk_ap, cnt_ap, retN_ap, sret_ap, sretL_ap, drop_ap, site_ap, asg_ap, own_ap, par2_ap, par3_ap, asgT_ap, asgR_some, asgR_none, gnm_ap, gnil_ap, gcons_ap, gtup_ap, andV_ap, orV_ap, andT_ap, orT_ap, notT_ap, test_ap, op1_ap, op2_ap, chain_ap, mite_ap, ite_apR, ite_apS, argN_ap, argD_ap, argS_ap, slotR_some, tup_ap, lst_ap, known_ap, call_ap, callL_ap, items_ap, part_ap, slice_ap, catL_ap, frz_ap, borrow_ap, borrowR_ok, borrowT_ap, borrowTR_ok, subO_ap, app_ap, setIx_ap, retO_ap, for_ap, lc_ap, lcR_ok, fn_ap, fnL_ap, fnR_some, fnLR_some, retR_ret, retR_retL, retLR_retL, putR_some, putO_none, putO_s0, putO_s1, putO_s2, putO_s3, putO_s4, endR_rt, endR_rl, endR_nx, endR_bad, bindR_ite, ofR_ite, seqR_ite, endR_ite, lift_ite, addD_ii, addD_ss, addD_tt, subD_ii, mulD_ii, fdivD_ii, modD_ii, powD_ii, negD_i, ltD_ii, leD_ii, gtD_ii, geD_ii, ixD_l, ixD_t, catD_ll, itemsD_l, itemsD_t, lenD_l, lenD_t, lenD_s, absD_i, maxD_ii, minD_ii, intD_i, intD_b, tupleD_l, tupleD_t, notD_b, asB_b, asI_i, eqD_ii, eqD_ss, eqD_bb, eqD_si, eqD_is, eqD_nn, eqD_nb, eqD_ni, eqD_ns, eqD_bn, eqD_in, eqD_sn, tInt_none, tInt_bool, tInt_int, tInt_str, tInt_tuple, tInt_list, tInt_dict, tBool_none, tBool_bool, tBool_int, tBool_str, tBool_tuple, tBool_list, tBool_dict, tStr_none, tStr_bool, tStr_int, tStr_str, tStr_tuple, tStr_list, tStr_dict, tTuple_none, tTuple_bool, tTuple_int, tTuple_str, tTuple_tuple, tTuple_list, tTuple_dict, tList_none, tList_bool, tList_int, tList_str, tList_tuple, tList_list, tList_dict, tSeq_none, tSeq_bool, tSeq_int, tSeq_str, tSeq_tuple, tSeq_list, tSeq_dict, isNoneB_none, scalarD_none, isNoneB_bool, scalarD_bool, isNoneB_int, scalarD_int, isNoneB_str, scalarD_str, isNoneB_tuple, scalarD_tuple, isNoneB_list, scalarD_list, isNoneB_dict, scalarD_dict, ixT0, ixT1, ixT2, ixT3, ixT4, ixT5, ixT6, ixT7, ixT8, ixT9, ixL0, ixL1, ixL2, ixL3, ixL4, ixL5, ixL6, ixL7, ixL8, ixL9, aI0, aI1, aI2, aI3, aI4, aI5, aI6, aI7, aI8, aI9, ixN1_0, ixN2_0, ixN2_1, ixN3_0, ixN3_1, ixN3_2, ixN4_0, ixN4_1, ixN4_2, ixN4_3, ixN5_0, ixN5_1, ixN5_2, ixN5_3, ixN5_4, ixN6_0, ixN6_1, ixN6_2, ixN6_3, ixN6_4, ixN6_5, List.map_cons, List.map_nil, List.cons_append, List.nil_append, List.replicate_zero, List.replicate_succ, List.length_cons, List.length_nil, List.getElem?_cons_zero, List.getElem?_cons_succ, List.set_cons_zero, List.set_cons_succ, List.getD_cons_zero, List.getD_cons_succ, Bool.and_true, Bool.true_and, Bool.not_false, Bool.not_true, Nat.sub_self, Nat.reduceSub, Nat.reduceAdd, Nat.zero_add, true_and, and_true, and_self, if_true, if_false, ite_true, ite_false, reduceCtorEq, false_implies, implies_true, forall_const, Bool.false_eq_true, Option.bind_some, Option.map_some, Option.bind_none, Option.map_none, runF_eq, okIo, datOf, lvsOf, argIo, isD, outO, isND, notND, vals2D, vals3D, eqDD, neDD, decide_true, decide_false, Bool.decide_eq_true, sz0, sz1, sz2, sz3, sz4, sz5, sz6, sz7, sz8, sz9, slice_t, all_t, all_l, any_l, all_lm, all_tm, any_lm, Function.comp_def, step_nx, step_ct, step_bk, step_rt, step_rl, step_ite, decide_eq_true_eq, Int.cast_ofNat_Int, Int.reduceLE, Int.reduceLT, Int.reduceAdd, Int.reduceSub, Int.reduceMul, Int.reduceNeg, Int.reduceEq, Int.reduceGT, Nat.reduceEqDiff, ne_eq, not_false_eq_true, Option.some.injEq, forall_eq', Nat.reduceLT, Bool.and_false, Bool.or_false, Bool.false_or, Bool.true_or, Bool.false_and, Bool.or_true, F_kind_eq, kindD, inDD_i2, zt, e1, eq_nil_nil]
    | list xs =>
      cases n with
      | zero => exact hx.zero_l.elim
      | succ n =>
        have e1 := key xs fun y hy => F_twins_self n y (hx.mem_l y hy) (by omega)
        unfold F_f_law_twins g_f_law_twins
        simp only [ret_ap, lift_some, lift_none, var_ap, varR_d, ownAt_ap, ownL_own, ownL_d, ownL_n, frzAt_ap, frzL_own, frzL_d, frz_nil, frz_cons, frz1_own, frz1_d, frz1_n, wipe_nil, wipe_cons, restore_nil, restore_cons, clean_nil, clean_cons, isOwnL_own, isOwnL_d, isOwnL_n, bind_ap, bindR_ok, bindR_ex, bindR_bad, ofM_ap, ofR_ok, ofR_ex, ofR_bad, seq_ap, seqR_nx, seqR_rt, seqR_rl, seqR_bk, seqR_ct, seqR_ex, seqR_bad, nil_ap, pass_ap, never_ap, brk_ap, cnt_ap, retN_ap, sret_ap, sretL_ap, drop_ap, site_ap, asg_ap, own_ap, par2_ap, par3_ap, asgT_ap, asgR_some, asgR_none, gnm_ap, gnil_ap, gcons_ap, gtup_ap, andV_ap, orV_ap, andT_ap, orT_ap, notT_ap, test_ap, op1_ap, op2_ap, chain_ap, mite_ap, ite_apR, ite_apS, argN_ap, argD_ap, argS_ap, slotR_some, tup_ap, lst_ap, known_ap, call_ap, callL_ap, items_ap, part_ap, slice_ap, catL_ap, frz_ap, borrow_ap, borrowR_ok, borrowT_ap, borrowTR_ok, subO_ap, app_ap, setIx_ap, retO_ap, for_ap, lc_ap, lcR_ok, fn_ap, fnL_ap, fnR_some, fnLR_some, retR_ret, retR_retL, retLR_retL, putR_some, putO_none, putO_s0, putO_s1, putO_s2, putO_s3, putO_s4, endR_rt, endR_rl, endR_nx, endR_bad, bindR_ite, ofR_ite, seqR_ite, endR_ite, lift_ite, addD_ii, addD_ss, addD_tt, subD_ii, mulD_ii, fdivD_ii, modD_ii, powD_ii, negD_i, ltD_ii, leD_ii, gtD_ii, geD_ii, ixD_l, ixD_t, catD_ll, itemsD_l, itemsD_t, lenD_l, lenD_t, lenD_s, absD_i, maxD_ii, minD_ii, intD_i, intD_b, tupleD_l, tupleD_t, notD_b, asB_b, asI_i, eqD_ii, eqD_ss, eqD_bb, eqD_si, eqD_is, eqD_nn, eqD_nb, eqD_ni, eqD_ns, eqD_bn, eqD_in, eqD_sn, tInt_none, tInt_bool, tInt_int, tInt_str, tInt_tuple, tInt_list, tInt_dict, tBool_none, tBool_bool, tBool_int, tBool_str, tBool_tuple, tBool_list, tBool_dict, tStr_none, tStr_bool, tStr_int, tStr_str, tStr_tuple, tStr_list, tStr_dict, tTuple_none, tTuple_bool, tTuple_int, tTuple_str, tTuple_tuple, tTuple_list, tTuple_dict, tList_none, tList_bool, tList_int, tList_str, tList_tuple, tList_list, tList_dict, tSeq_none, tSeq_bool, tSeq_int, tSeq_str, tSeq_tuple, tSeq_list, tSeq_dict, isNoneB_none, scalarD_none, isNoneB_bool, scalarD_bool, isNoneB_int, scalarD_int, isNoneB_str, scalarD_str, isNoneB_tuple, scalarD_tuple, isNoneB_list, scalarD_list, isNoneB_dict, scalarD_dict, ixT0, ixT1, ixT2, ixT3, ixT4, ixT5, ixT6, ixT7, ixT8, ixT9, ixL0, ixL1, ixL2, ixL3, ixL4, ixL5, ixL6, ixL7, ixL8, ixL9, aI0, aI1, aI2, aI3, aI4, aI5, aI6, aI7, aI8, aI9, ixN1_0, ixN2_0, ixN2_1, ixN3_0, ixN3_1, ixN3_2, ixN4_0, ixN4_1, ixN4_2, ixN4_3, ixN5_0, ixN5_1, ixN5_2, ixN5_3, ixN5_4, ixN6_0, ixN6_1, ixN6_2, ixN6_3, ixN6_4, ixN6_5, List.map_cons, List.map_nil, List.cons_append, List.nil_append, List.replicate_zero, List.replicate_succ, List.length_cons, List.length_nil, List.getElem?_cons_zero, List.getElem?_cons_succ, List.set_cons_zero, List.set_cons_succ, List.getD_cons_zero, List.getD_cons_succ, Bool.and_true, Bool.true_and, Bool.not_false, Bool.not_true, Nat.sub_self, Nat.reduceSub, Nat.reduceAdd, Nat.zero_add, true_and, and_true, and_self, if_true, if_false, ite_true, ite_false, reduceCtorEq, false_implies, implies_true, forall_const, Bool.false_eq_true, Option.bind_some, Option.map_some, Option.bind_none, Option.map_none, runF_eq, okIo, datOf, lvsOf, argIo, isD, outO, isND, notND, vals2D, vals3D, eqDD, neDD, decide_true, decide_false, Bool.decide_eq_true, sz0, sz1, sz2, sz3, sz4, sz5, sz6, sz7, sz8, sz9, slice_t, all_t, all_l, any_l, all_lm, all_tm, any_lm, Function.comp_def, step_nx, step_ct, step_bk, step_rt, step_rl, step_ite, decide_eq_true_eq, Int.cast_ofNat_Int, Int.reduceLE, Int.reduceLT, Int.reduceAdd, Int.reduceSub, Int.reduceMul, Int.reduceNeg, Int.reduceEq, Int.reduceGT, Nat.reduceEqDiff, ne_eq, not_false_eq_true, Option.some.injEq, forall_eq', Nat.reduceLT, Bool.and_false, Bool.or_false, Bool.false_or, Bool.true_or, Bool.false_and, Bool.or_true, F_kind_eq, kindD, inDD_i2, zl, e1, eq_nil_nil]
    | dict kvs => exact hx.not_dict.elim
    | none =>
      unfold F_f_law_twins g_f_law_twins
      simp only [ret_ap, lift_some, lift_none, var_ap, varR_d, ownAt_ap, ownL_own, ownL_d, ownL_n, frzAt_ap, frzL_own, frzL_d, frz_nil, frz_cons, frz1_own, frz1_d, frz1_n, wipe_nil, wipe_cons, restore_nil, restore_cons, clean_nil, clean_cons, isOwnL_own, isOwnL_d, isOwnL_n, bind_ap, bindR_ok, bindR_ex, bindR_bad, ofM_ap, ofR_ok, ofR_ex, ofR_bad, seq_ap, seqR_nx, seqR_rt, seqR_rl, seqR_bk, seqR_ct, seqR_ex, seqR_bad, nil_ap, pass_ap, never_ap, brk_ap, cnt_ap, retN_ap, sret_ap, sretL_ap, drop_ap, site_ap, asg_ap, own_ap, par2_ap, par3_ap, asgT_ap, asgR_some, asgR_none, gnm_ap, gnil_ap, gcons_ap, gtup_ap, andV_ap, orV_ap, andT_ap, orT_ap, notT_ap, test_ap, op1_ap, op2_ap, chain_ap, mite_ap, ite_apR, ite_apS, argN_ap, argD_ap, argS_ap, slotR_some, tup_ap, lst_ap, known_ap, call_ap, callL_ap, items_ap, part_ap, slice_ap, catL_ap, frz_ap, borrow_ap, borrowR_ok, borrowT_ap, borrowTR_ok, subO_ap, app_ap, setIx_ap, retO_ap, for_ap, lc_ap, lcR_ok, fn_ap, fnL_ap, fnR_some, fnLR_some, retR_ret, retR_retL, retLR_retL, putR_some, putO_none, putO_s0, putO_s1, putO_s2, putO_s3, putO_s4, endR_rt, endR_rl, endR_nx, endR_bad, bindR_ite, ofR_ite, seqR_ite, endR_ite, lift_ite, addD_ii, addD_ss, addD_tt, subD_ii, mulD_ii, fdivD_ii, modD_ii, powD_ii, negD_i, ltD_ii, leD_ii, gtD_ii, geD_ii, ixD_l, ixD_t, catD_ll, itemsD_l, itemsD_t, lenD_l, lenD_t, lenD_s, absD_i, maxD_ii, minD_ii, intD_i, intD_b, tupleD_l, tupleD_t, notD_b, asB_b, asI_i, eqD_ii, eqD_ss, eqD_bb, eqD_si, eqD_is, eqD_nn, eqD_nb, eqD_ni, eqD_ns, eqD_bn, eqD_in, eqD_sn, tInt_none, tInt_bool, tInt_int, tInt_str, tInt_tuple, tInt_list, tInt_dict, tBool_none, tBool_bool, tBool_int, tBool_str, tBool_tuple, tBool_list, tBool_dict, tStr_none, tStr_bool, tStr_int, tStr_str, tStr_tuple, tStr_list, tStr_dict, tTuple_none, tTuple_bool, tTuple_int, tTuple_str, tTuple_tuple, tTuple_list, tTuple_dict, tList_none, tList_bool, tList_int, tList_str, tList_tuple, tList_list, tList_dict, tSeq_none, tSeq_bool, tSeq_int, tSeq_str, tSeq_tuple, tSeq_list, tSeq_dict, isNoneB_none, scalarD_none, isNoneB_bool, scalarD_bool, isNoneB_int, scalarD_int, isNoneB_str, scalarD_str, isNoneB_tuple, scalarD_tuple, isNoneB_list, scalarD_list, isNoneB_dict, scalarD_dict, ixT0, ixT1, ixT2, ixT3, ixT4, ixT5, ixT6, ixT7, ixT8, ixT9, ixL0, ixL1, ixL2, ixL3, ixL4, ixL5, ixL6, ixL7, ixL8, ixL9, aI0, aI1, aI2, aI3, aI4, aI5, aI6, aI7, aI8, aI9, ixN1_0, ixN2_0, ixN2_1, ixN3_0, ixN3_1, ixN3_2, ixN4_0, ixN4_1, ixN4_2, ixN4_3, ixN5_0, ixN5_1, ixN5_2, ixN5_3, ixN5_4, ixN6_0, ixN6_1, ixN6_2, ixN6_3, ixN6_4, ixN6_5, List.map_cons, List.map_nil, List.cons_append, List.nil_append, List.replicate_zero, List.replicate_succ, List.length_cons, List.length_nil, List.getElem?_cons_zero, List.getElem?_cons_succ, List.set_cons_zero, List.set_cons_succ, List.getD_cons_zero, List.getD_cons_succ, Bool.and_true, Bool.true_and, Bool.not_false, Bool.not_true, Nat.sub_self, Nat.reduceSub, Nat.reduceAdd, Nat.zero_add, true_and, and_true, and_self, if_true, if_false, ite_true, ite_false, reduceCtorEq, false_implies, implies_true, forall_const, Bool.false_eq_true, Option.bind_some, Option.map_some, Option.bind_none, Option.map_none, runF_eq, okIo, datOf, lvsOf, argIo, isD, outO, isND, notND, vals2D, vals3D, eqDD, neDD, decide_true, decide_false, Bool.decide_eq_true, sz0, sz1, sz2, sz3, sz4, sz5, sz6, sz7, sz8, sz9, slice_t, all_t, all_l, any_l, all_lm, all_tm, any_lm, Function.comp_def, step_nx, step_ct, step_bk, step_rt, step_rl, step_ite, decide_eq_true_eq, Int.cast_ofNat_Int, Int.reduceLE, Int.reduceLT, Int.reduceAdd, Int.reduceSub, Int.reduceMul, Int.reduceNeg, Int.reduceEq, Int.reduceGT, Nat.reduceEqDiff, ne_eq, not_false_eq_true, Option.some.injEq, forall_eq', Nat.reduceLT, Bool.and_false, Bool.or_false, Bool.false_or, Bool.true_or, Bool.false_and, Bool.or_true, F_kind_eq, kindD, inDD_i2, e0]
    | int i =>
      unfold F_f_law_twins g_f_law_twins
      simp only [ret_ap, lift_some, lift_none, var_ap, varR_d, ownAt_ap, ownL_own, ownL_d, ownL_n, frzAt_ap, frzL_own, frzL_d, frz_nil, frz_cons, frz1_own, frz1_d, frz1_n, wipe_nil, wipe_cons, restore_nil, restore_cons, clean_nil, clean_cons, isOwnL_own, isOwnL_d, isOwnL_n, bind_ap, bindR_ok, bindR_ex, bindR_bad, ofM_ap, ofR_ok, ofR_ex, ofR_bad, seq_ap, seqR_nx, seqR_rt, seqR_rl, seqR_bk, seqR_ct, seqR_ex, seqR_bad, nil_ap, pass_ap, never_ap, brk_ap, cnt_ap, retN_ap, sret_ap, sretL_ap, drop_ap, site_ap, asg_ap, own_ap, par2_ap, par3_ap, asgT_ap, asgR_some, asgR_none, gnm_ap, gnil_ap, gcons_ap, gtup_ap, andV_ap, orV_ap, andT_ap, orT_ap, notT_ap, test_ap, op1_ap, op2_ap, chain_ap, mite_ap, ite_apR, ite_apS, argN_ap, argD_ap, argS_ap, slotR_some, tup_ap, lst_ap, known_ap, call_ap, callL_ap, items_ap, part_ap, slice_ap, catL_ap, frz_ap, borrow_ap, borrowR_ok, borrowT_ap, borrowTR_ok, subO_ap, app_ap, setIx_ap, retO_ap, for_ap, lc_ap, lcR_ok, fn_ap, fnL_ap, fnR_some, fnLR_some, retR_ret, retR_retL, retLR_retL, putR_some, putO_none, putO_s0, putO_s1, putO_s2, putO_s3, putO_s4, endR_rt, endR_rl, endR_nx, endR_bad, bindR_ite, ofR_ite, seqR_ite, endR_ite, lift_ite, addD_ii, addD_ss, addD_tt, subD_ii, mulD_ii, fdivD_ii, modD_ii, powD_ii, negD_i, ltD_ii, leD_ii, gtD_ii, geD_ii, ixD_l, ixD_t, catD_ll, itemsD_l, itemsD_t, lenD_l, lenD_t, lenD_s, absD_i, maxD_ii, minD_ii, intD_i, intD_b, tupleD_l, tupleD_t, notD_b, asB_b, asI_i, eqD_ii, eqD_ss, eqD_bb, eqD_si, eqD_is, eqD_nn, eqD_nb, eqD_ni, eqD_ns, eqD_bn, eqD_in, eqD_sn, tInt_none, tInt_bool, tInt_int, tInt_str, tInt_tuple, tInt_list, tInt_dict, tBool_none, tBool_bool, tBool_int, tBool_str, tBool_tuple, tBool_list, tBool_dict, tStr_none, tStr_bool, tStr_int, tStr_str, tStr_tuple, tStr_list, tStr_dict, tTuple_none, tTuple_bool, tTuple_int, tTuple_str, tTuple_tuple, tTuple_list, tTuple_dict, tList_none, tList_bool, tList_int, tList_str, tList_tuple, tList_list, tList_dict, tSeq_none, tSeq_bool, tSeq_int, tSeq_str, tSeq_tuple, tSeq_list, tSeq_dict, isNoneB_none, scalarD_none, isNoneB_bool, scalarD_bool, isNoneB_int, scalarD_int, isNoneB_str, scalarD_str, isNoneB_tuple, scalarD_tuple, isNoneB_list, scalarD_list, isNoneB_dict, scalarD_dict, ixT0, ixT1, ixT2, ixT3, ixT4, ixT5, ixT6, ixT7, ixT8, ixT9, ixL0, ixL1, ixL2, ixL3, ixL4, ixL5, ixL6, ixL7, ixL8, ixL9, aI0, aI1, aI2, aI3, aI4, aI5, aI6, aI7, aI8, aI9, ixN1_0, ixN2_0, ixN2_1, ixN3_0, ixN3_1, ixN3_2, ixN4_0, ixN4_1, ixN4_2, ixN4_3, ixN5_0, ixN5_1, ixN5_2, ixN5_3, ixN5_4, ixN6_0, ixN6_1, ixN6_2, ixN6_3, ixN6_4, ixN6_5, List.map_cons, List.map_nil, List.cons_append, List.nil_append, List.replicate_zero, List.replicate_succ, List.length_cons, List.length_nil, List.getElem?_cons_zero, List.getElem?_cons_succ, List.set_cons_zero, List.set_cons_succ, List.getD_cons_zero, List.getD_cons_succ, Bool.and_true, Bool.true_and, Bool.not_false, Bool.not_true, Nat.sub_self, Nat.reduceSub, Nat.reduceAdd, Nat.zero_add, true_and, and_true, and_self, if_true, if_false, ite_true, ite_false, reduceCtorEq, false_implies, implies_true, forall_const, Bool.false_eq_true, Option.bind_some, Option.map_some, Option.bind_none, Option.map_none, runF_eq, okIo, datOf, lvsOf, argIo, isD, outO, isND, notND, vals2D, vals3D, eqDD, neDD, decide_true, decide_false, Bool.decide_eq_true, sz0, sz1, sz2, sz3, sz4, sz5, sz6, sz7, sz8, sz9, slice_t, all_t, all_l, any_l, all_lm, all_tm, any_lm, Function.comp_def, step_nx, step_ct, step_bk, step_rt, step_rl, step_ite, decide_eq_true_eq, Int.cast_ofNat_Int, Int.reduceLE, Int.reduceLT, Int.reduceAdd, Int.reduceSub, Int.reduceMul, Int.reduceNeg, Int.reduceEq, Int.reduceGT, Nat.reduceEqDiff, ne_eq, not_false_eq_true, Option.some.injEq, forall_eq', Nat.reduceLT, Bool.and_false, Bool.or_false, Bool.false_or, Bool.true_or, Bool.false_and, Bool.or_true, F_kind_eq, kindD, inDD_i2, e0]
    | bool i =>
      unfold F_f_law_twins g_f_law_twins
      simp only [ret_ap, lift_some, lift_none, var_ap, varR_d, ownAt_ap, ownL_own, ownL_d, ownL_n, frzAt_ap, frzL_own, frzL_d, frz_nil, frz_cons, frz1_own, frz1_d, frz1_n, wipe_nil, wipe_cons, restore_nil, restore_cons, clean_nil, clean_cons, isOwnL_own, isOwnL_d, isOwnL_n, bind_ap, bindR_ok, bindR_ex, bindR_bad, ofM_ap, ofR_ok, ofR_ex, ofR_bad, seq_ap, seqR_nx, seqR_rt, seqR_rl, seqR_bk, seqR_ct, seqR_ex, seqR_bad, nil_ap, pass_ap, never_ap, brk_ap, cnt_ap, retN_ap, sret_ap, sretL_ap, drop_ap, site_ap, asg_ap, own_ap, par2_ap, par3_ap, asgT_ap, asgR_some, asgR_none, gnm_ap, gnil_ap, gcons_ap, gtup_ap, andV_ap, orV_ap, andT_ap, orT_ap, notT_ap, test_ap, op1_ap, op2_ap, chain_ap, mite_ap, ite_apR, ite_apS, argN_ap, argD_ap, argS_ap, slotR_some, tup_ap, lst_ap, known_ap, call_ap, callL_ap, items_ap, part_ap, slice_ap, catL_ap, frz_ap, borrow_ap, borrowR_ok, borrowT_ap, borrowTR_ok, subO_ap, app_ap, setIx_ap, retO_ap, for_ap, lc_ap, lcR_ok, fn_ap, fnL_ap, fnR_some, fnLR_some, retR_ret, retR_retL, retLR_retL, putR_some, putO_none, putO_s0, putO_s1, putO_s2, putO_s3, putO_s4, endR_rt, endR_rl, endR_nx, endR_bad, bindR_ite, ofR_ite, seqR_ite, endR_ite, lift_ite, addD_ii, addD_ss, addD_tt, subD_ii, mulD_ii, fdivD_ii, modD_ii, powD_ii, negD_i, ltD_ii, leD_ii, gtD_ii, geD_ii, ixD_l, ixD_t, catD_ll, itemsD_l, itemsD_t, lenD_l, lenD_t, lenD_s, absD_i, maxD_ii, minD_ii, intD_i, intD_b, tupleD_l, tupleD_t, notD_b, asB_b, asI_i, eqD_ii, eqD_ss, eqD_bb, eqD_si, eqD_is, eqD_nn, eqD_nb, eqD_ni, eqD_ns, eqD_bn, eqD_in, eqD_sn, tInt_none, tInt_bool, tInt_int, tInt_str, tInt_tuple, tInt_list, tInt_dict, tBool_none, tBool_bool, tBool_int, tBool_str, tBool_tuple, tBool_list, tBool_dict, tStr_none, tStr_bool, tStr_int, tStr_str, tStr_tuple, tStr_list, tStr_dict, tTuple_none, tTuple_bool, tTuple_int, tTuple_str, tTuple_tuple, tTuple_list, tTuple_dict, tList_none, tList_bool, tList_int, tList_str, tList_tuple, tList_list, tList_dict, tSeq_none, tSeq_bool, tSeq_int, tSeq_str, tSeq_tuple, tSeq_list, tSeq_dict, isNoneB_none, scalarD_none, isNoneB_bool, scalarD_bool, isNoneB_int, scalarD_int, isNoneB_str, scalarD_str, isNoneB_tuple, scalarD_tuple, isNoneB_list, scalarD_list, isNoneB_dict, scalarD_dict, ixT0, ixT1, ixT2, ixT3, ixT4, ixT5, ixT6, ixT7, ixT8, ixT9, ixL0, ixL1, ixL2, ixL3, ixL4, ixL5, ixL6, ixL7, ixL8, ixL9, aI0, aI1, aI2, aI3, aI4, aI5, aI6, aI7, aI8, aI9, ixN1_0, ixN2_0, ixN2_1, ixN3_0, ixN3_1, ixN3_2, ixN4_0, ixN4_1, ixN4_2, ixN4_3, ixN5_0, ixN5_1, ixN5_2, ixN5_3, ixN5_4, ixN6_0, ixN6_1, ixN6_2, ixN6_3, ixN6_4, ixN6_5, List.map_cons, List.map_nil, List.cons_append, List.nil_append, List.replicate_zero, List.replicate_succ, List.length_cons, List.length_nil, List.getElem?_cons_zero, List.getElem?_cons_succ, List.set_cons_zero, List.set_cons_succ, List.getD_cons_zero, List.getD_cons_succ, Bool.and_true, Bool.true_and, Bool.not_false, Bool.not_true, Nat.sub_self, Nat.reduceSub, Nat.reduceAdd, Nat.zero_add, true_and, and_true, and_self, if_true, if_false, ite_true, ite_false, reduceCtorEq, false_implies, implies_true, forall_const, Bool.false_eq_true, Option.bind_some, Option.map_some, Option.bind_none, Option.map_none, runF_eq, okIo, datOf, lvsOf, argIo, isD, outO, isND, notND, vals2D, vals3D, eqDD, neDD, decide_true, decide_false, Bool.decide_eq_true, sz0, sz1, sz2, sz3, sz4, sz5, sz6, sz7, sz8, sz9, slice_t, all_t, all_l, any_l, all_lm, all_tm, any_lm, Function.comp_def, step_nx, step_ct, step_bk, step_rt, step_rl, step_ite, decide_eq_true_eq, Int.cast_ofNat_Int, Int.reduceLE, Int.reduceLT, Int.reduceAdd, Int.reduceSub, Int.reduceMul, Int.reduceNeg, Int.reduceEq, Int.reduceGT, Nat.reduceEqDiff, ne_eq, not_false_eq_true, Option.some.injEq, forall_eq', Nat.reduceLT, Bool.and_false, Bool.or_false, Bool.false_or, Bool.true_or, Bool.false_and, Bool.or_true, F_kind_eq, kindD, inDD_i2, e0]
    | str i =>
      unfold F_f_law_twins g_f_law_twins
      simp only [ret_ap, lift_some, lift_none, var_ap, varR_d, ownAt_ap, ownL_own, ownL_d, ownL_n, frzAt_ap, frzL_own, frzL_d, frz_nil, frz_cons, frz1_own, frz1_d, frz1_n, wipe_nil, wipe_cons, restore_nil, restore_cons, clean_nil, clean_cons, isOwnL_own, isOwnL_d, isOwnL_n, bind_ap, bindR_ok, bindR_ex, bindR_bad, ofM_ap, ofR_ok, ofR_ex, ofR_bad, seq_ap, seqR_nx, seqR_rt, seqR_rl, seqR_bk, seqR_ct, seqR_ex, seqR_bad, nil_ap, pass_ap, never_ap, brk_ap, cnt_ap, retN_ap, sret_ap, sretL_ap, drop_ap, site_ap, asg_ap, own_ap, par2_ap, par3_ap, asgT_ap, asgR_some, asgR_none, gnm_ap, gnil_ap, gcons_ap, gtup_ap, andV_ap, orV_ap, andT_ap, orT_ap, notT_ap, test_ap, op1_ap, op2_ap, chain_ap, mite_ap, ite_apR, ite_apS, argN_ap, argD_ap, argS_ap, slotR_some, tup_ap, lst_ap, known_ap, call_ap, callL_ap, items_ap, part_ap, slice_ap, catL_ap, frz_ap, borrow_ap, borrowR_ok, borrowT_ap, borrowTR_ok, subO_ap, app_ap, setIx_ap, retO_ap, for_ap, lc_ap, lcR_ok, fn_ap, fnL_ap, fnR_some, fnLR_some, retR_ret, retR_retL, retLR_retL, putR_some, putO_none, putO_s0, putO_s1, putO_s2, putO_s3, putO_s4, endR_rt, endR_rl, endR_nx, endR_bad, bindR_ite, ofR_ite, seqR_ite, endR_ite, lift_ite, addD_ii, addD_ss, addD_tt, subD_ii, mulD_ii, fdivD_ii, modD_ii, powD_ii, negD_i, ltD_ii, leD_ii, gtD_ii, geD_ii, ixD_l, ixD_t, catD_ll, itemsD_l, itemsD_t, lenD_l, lenD_t, lenD_s, absD_i, maxD_ii, minD_ii, intD_i, intD_b, tupleD_l, tupleD_t, notD_b, asB_b, asI_i, eqD_ii, eqD_ss, eqD_bb, eqD_si, eqD_is, eqD_nn, eqD_nb, eqD_ni, eqD_ns, eqD_bn, eqD_in, eqD_sn, tInt_none, tInt_bool, tInt_int, tInt_str, tInt_tuple, tInt_list, tInt_dict, tBool_none, tBool_bool, tBool_int, tBool_str, tBool_tuple, tBool_list, tBool_dict, tStr_none, tStr_bool, tStr_int, tStr_str, tStr_tuple, tStr_list, tStr_dict, tTuple_none, tTuple_bool, tTuple_int, tTuple_str, tTuple_tuple, tTuple_list, tTuple_dict, tList_none, tList_bool, tList_int, tList_str, tList_tuple, tList_list, tList_dict, tSeq_none, tSeq_bool, tSeq_int, tSeq_str, tSeq_tuple, tSeq_list, tSeq_dict, isNoneB_none, scalarD_none, isNoneB_bool, scalarD_bool, isNoneB_int, scalarD_int, isNoneB_str, scalarD_str, isNoneB_tuple, scalarD_tuple, isNoneB_list, scalarD_list, isNoneB_dict, scalarD_dict, ixT0, ixT1, ixT2, ixT3, ixT4, ixT5, ixT6, ixT7, ixT8, ixT9, ixL0, ixL1, ixL2, ixL3, ixL4, ixL5, ixL6, ixL7, ixL8, ixL9, aI0, aI1, aI2, aI3, aI4, aI5, aI6, aI7, aI8, aI9, ixN1_0, ixN2_0, ixN2_1, ixN3_0, ixN3_1, ixN3_2, ixN4_0, ixN4_1, ixN4_2, ixN4_3, ixN5_0, ixN5_1, ixN5_2, ixN5_3, ixN5_4, ixN6_0, ixN6_1, ixN6_2, ixN6_3, ixN6_4, ixN6_5, List.map_cons, List.map_nil, List.cons_append, List.nil_append, List.replicate_zero, List.replicate_succ, List.length_cons, List.length_nil, List.getElem?_cons_zero, List.getElem?_cons_succ, List.set_cons_zero, List.set_cons_succ, List.getD_cons_zero, List.getD_cons_succ, Bool.and_true, Bool.true_and, Bool.not_false, Bool.not_true, Nat.sub_self, Nat.reduceSub, Nat.reduceAdd, Nat.zero_add, true_and, and_true, and_self, if_true, if_false, ite_true, ite_false, reduceCtorEq, false_implies, implies_true, forall_const, Bool.false_eq_true, Option.bind_some, Option.map_some, Option.bind_none, Option.map_none, runF_eq, okIo, datOf, lvsOf, argIo, isD, outO, isND, notND, vals2D, vals3D, eqDD, neDD, decide_true, decide_false, Bool.decide_eq_true, sz0, sz1, sz2, sz3, sz4, sz5, sz6, sz7, sz8, sz9, slice_t, all_t, all_l, any_l, all_lm, all_tm, any_lm, Function.comp_def, step_nx, step_ct, step_bk, step_rt, step_rl, step_ite, decide_eq_true_eq, Int.cast_ofNat_Int, Int.reduceLE, Int.reduceLT, Int.reduceAdd, Int.reduceSub, Int.reduceMul, Int.reduceNeg, Int.reduceEq, Int.reduceGT, Nat.reduceEqDiff, ne_eq, not_false_eq_true, Option.some.injEq, forall_eq', Nat.reduceLT, Bool.and_false, Bool.or_false, Bool.false_or, Bool.true_or, Bool.false_and, Bool.or_true, F_kind_eq, kindD, inDD_i2, e0]
/-! ### the stands that the law asks -/
def VS (r : Rec) (ys : List D) : Prop := ∀ y ∈ ys, ∃ s, Sd.Ok r s ∧ y = encS s
theorem VS.app {r : Rec} {xs ys : List D} (h : VS r xs) (h' : VS r ys) : VS r (xs ++ ys) := fun y hy => by
  rcases List.mem_append.mp hy with h1 | h1
  · exact h y h1
  · exact h' y h1
def fSl : D → D
  | .int c => encS (.sl c)
  | _ => .none
def fRc (c : Int) : D → D
  | .int q => encS (.rc c q)
  | _ => .none
theorem F_stands_ok {r : Rec} (hr : r.Ok) {xs : List D} (hx : SpV xs) : ∃ ys xs', F_f_law_stands [.d (encR r), .own xs] = .retL ys (some xs') ∧ VS r ys ∧ SpV xs' := by
  have hm1 := hr.m1
  have hm2 := hr.m2
  have hn1 := hr.n1
  have hn3 := hr.n3
  have ha0 := hr.a0
  have ha3 := hr.a3
  have hh3 := hr.h3
  have hh1 := hr.h1
  have hr3 := hr.r3
  have hr0 := hr.r0
  unfold F_f_law_stands
  simp only [ret_ap, lift_some, lift_none, var_ap, varR_d, ownAt_ap, ownL_own, ownL_d, ownL_n, frzAt_ap, frzL_own, frzL_d, frz_nil, frz_cons, frz1_own, frz1_d, frz1_n, wipe_nil, wipe_cons, restore_nil, restore_cons, clean_nil, clean_cons, isOwnL_own, isOwnL_d, isOwnL_n, bind_ap, bindR_ok, bindR_ex, bindR_bad, ofM_ap, ofR_ok, ofR_ex, ofR_bad, seq_ap, seqR_nx, seqR_rt, seqR_rl, seqR_bk, seqR_ct, seqR_ex, seqR_bad, nil_ap, pass_ap, never_ap, brk_ap, cnt_ap, retN_ap, sret_ap, sretL_ap, drop_ap, site_ap, asg_ap, own_ap, par2_ap, par3_ap, asgT_ap, asgR_some, asgR_none, gnm_ap, gnil_ap, gcons_ap, gtup_ap, andV_ap, orV_ap, andT_ap, orT_ap, notT_ap, test_ap, op1_ap, op2_ap, chain_ap, mite_ap, ite_apR, ite_apS, argN_ap, argD_ap, argS_ap, slotR_some, tup_ap, lst_ap, known_ap, call_ap, callL_ap, items_ap, part_ap, slice_ap, catL_ap, frz_ap, borrow_ap, borrowR_ok, borrowT_ap, borrowTR_ok, subO_ap, app_ap, setIx_ap, retO_ap, for_ap, lc_ap, lcR_ok, fn_ap, fnL_ap, fnR_some, fnLR_some, retR_ret, retR_retL, retLR_retL, putR_some, putO_none, putO_s0, putO_s1, putO_s2, putO_s3, putO_s4, endR_rt, endR_rl, endR_nx, endR_bad, bindR_ite, ofR_ite, seqR_ite, endR_ite, lift_ite, addD_ii, addD_ss, addD_tt, subD_ii, mulD_ii, fdivD_ii, modD_ii, powD_ii, negD_i, ltD_ii, leD_ii, gtD_ii, geD_ii, ixD_l, ixD_t, catD_ll, itemsD_l, itemsD_t, lenD_l, lenD_t, lenD_s, absD_i, maxD_ii, minD_ii, intD_i, intD_b, tupleD_l, tupleD_t, notD_b, asB_b, asI_i, eqD_ii, eqD_ss, eqD_bb, eqD_si, eqD_is, eqD_nn, eqD_nb, eqD_ni, eqD_ns, eqD_bn, eqD_in, eqD_sn, tInt_none, tInt_bool, tInt_int, tInt_str, tInt_tuple, tInt_list, tInt_dict, tBool_none, tBool_bool, tBool_int, tBool_str, tBool_tuple, tBool_list, tBool_dict, tStr_none, tStr_bool, tStr_int, tStr_str, tStr_tuple, tStr_list, tStr_dict, tTuple_none, tTuple_bool, tTuple_int, tTuple_str, tTuple_tuple, tTuple_list, tTuple_dict, tList_none, tList_bool, tList_int, tList_str, tList_tuple, tList_list, tList_dict, tSeq_none, tSeq_bool, tSeq_int, tSeq_str, tSeq_tuple, tSeq_list, tSeq_dict, isNoneB_none, scalarD_none, isNoneB_bool, scalarD_bool, isNoneB_int, scalarD_int, isNoneB_str, scalarD_str, isNoneB_tuple, scalarD_tuple, isNoneB_list, scalarD_list, isNoneB_dict, scalarD_dict, ixT0, ixT1, ixT2, ixT3, ixT4, ixT5, ixT6, ixT7, ixT8, ixT9, ixL0, ixL1, ixL2, ixL3, ixL4, ixL5, ixL6, ixL7, ixL8, ixL9, aI0, aI1, aI2, aI3, aI4, aI5, aI6, aI7, aI8, aI9, ixN1_0, ixN2_0, ixN2_1, ixN3_0, ixN3_1, ixN3_2, ixN4_0, ixN4_1, ixN4_2, ixN4_3, ixN5_0, ixN5_1, ixN5_2, ixN5_3, ixN5_4, ixN6_0, ixN6_1, ixN6_2, ixN6_3, ixN6_4, ixN6_5, List.map_cons, List.map_nil, List.cons_append, List.nil_append, List.replicate_zero, List.replicate_succ, List.length_cons, List.length_nil, List.getElem?_cons_zero, List.getElem?_cons_succ, List.set_cons_zero, List.set_cons_succ, List.getD_cons_zero, List.getD_cons_succ, Bool.and_true, Bool.true_and, Bool.not_false, Bool.not_true, Nat.sub_self, Nat.reduceSub, Nat.reduceAdd, Nat.zero_add, true_and, and_true, and_self, if_true, if_false, ite_true, ite_false, reduceCtorEq, false_implies, implies_true, forall_const, Bool.false_eq_true, Option.bind_some, Option.map_some, Option.bind_none, Option.map_none, runF_eq, okIo, datOf, lvsOf, argIo, isD, outO, isND, notND, vals2D, vals3D, eqDD, neDD, decide_true, decide_false, Bool.decide_eq_true, sz0, sz1, sz2, sz3, sz4, sz5, sz6, sz7, sz8, sz9, slice_t, all_t, all_l, any_l, all_lm, all_tm, any_lm, Function.comp_def, step_nx, step_ct, step_bk, step_rt, step_rl, step_ite, decide_eq_true_eq, Int.cast_ofNat_Int, Int.reduceLE, Int.reduceLT, Int.reduceAdd, Int.reduceSub, Int.reduceMul, Int.reduceNeg, Int.reduceEq, Int.reduceGT, Nat.reduceEqDiff, ne_eq, not_false_eq_true, Option.some.injEq, forall_eq', Nat.reduceLT, Bool.and_false, Bool.or_false, Bool.false_or, Bool.true_or, Bool.false_and, Bool.or_true]
  unfold g_f_law_stands
  conv => enter [1, ys, 1, xs', 1, 1]; unfold encR
  simp only [ret_ap, lift_some, lift_none, var_ap, varR_d, ownAt_ap, ownL_own, ownL_d, ownL_n, frzAt_ap, frzL_own, frzL_d, frz_nil, frz_cons, frz1_own, frz1_d, frz1_n, wipe_nil, wipe_cons, restore_nil, restore_cons, clean_nil, clean_cons, isOwnL_own, isOwnL_d, isOwnL_n, bind_ap, bindR_ok, bindR_ex, bindR_bad, ofM_ap, ofR_ok, ofR_ex, ofR_bad, seq_ap, seqR_nx, seqR_rt, seqR_rl, seqR_bk, seqR_ct, seqR_ex, seqR_bad, nil_ap, pass_ap, never_ap, brk_ap, cnt_ap, retN_ap, sret_ap, sretL_ap, drop_ap, site_ap, asg_ap, own_ap, par2_ap, par3_ap, asgT_ap, asgR_some, asgR_none, gnm_ap, gnil_ap, gcons_ap, gtup_ap, andV_ap, orV_ap, andT_ap, orT_ap, notT_ap, test_ap, op1_ap, op2_ap, chain_ap, mite_ap, ite_apR, ite_apS, argN_ap, argD_ap, argS_ap, slotR_some, tup_ap, lst_ap, known_ap, call_ap, callL_ap, items_ap, part_ap, slice_ap, catL_ap, frz_ap, borrow_ap, borrowR_ok, borrowT_ap, borrowTR_ok, subO_ap, app_ap, setIx_ap, retO_ap, for_ap, lc_ap, lcR_ok, fn_ap, fnL_ap, fnR_some, fnLR_some, retR_ret, retR_retL, retLR_retL, putR_some, putO_none, putO_s0, putO_s1, putO_s2, putO_s3, putO_s4, endR_rt, endR_rl, endR_nx, endR_bad, bindR_ite, ofR_ite, seqR_ite, endR_ite, lift_ite, addD_ii, addD_ss, addD_tt, subD_ii, mulD_ii, fdivD_ii, modD_ii, powD_ii, negD_i, ltD_ii, leD_ii, gtD_ii, geD_ii, ixD_l, ixD_t, catD_ll, itemsD_l, itemsD_t, lenD_l, lenD_t, lenD_s, absD_i, maxD_ii, minD_ii, intD_i, intD_b, tupleD_l, tupleD_t, notD_b, asB_b, asI_i, eqD_ii, eqD_ss, eqD_bb, eqD_si, eqD_is, eqD_nn, eqD_nb, eqD_ni, eqD_ns, eqD_bn, eqD_in, eqD_sn, tInt_none, tInt_bool, tInt_int, tInt_str, tInt_tuple, tInt_list, tInt_dict, tBool_none, tBool_bool, tBool_int, tBool_str, tBool_tuple, tBool_list, tBool_dict, tStr_none, tStr_bool, tStr_int, tStr_str, tStr_tuple, tStr_list, tStr_dict, tTuple_none, tTuple_bool, tTuple_int, tTuple_str, tTuple_tuple, tTuple_list, tTuple_dict, tList_none, tList_bool, tList_int, tList_str, tList_tuple, tList_list, tList_dict, tSeq_none, tSeq_bool, tSeq_int, tSeq_str, tSeq_tuple, tSeq_list, tSeq_dict, isNoneB_none, scalarD_none, isNoneB_bool, scalarD_bool, isNoneB_int, scalarD_int, isNoneB_str, scalarD_str, isNoneB_tuple, scalarD_tuple, isNoneB_list, scalarD_list, isNoneB_dict, scalarD_dict, ixT0, ixT1, ixT2, ixT3, ixT4, ixT5, ixT6, ixT7, ixT8, ixT9, ixL0, ixL1, ixL2, ixL3, ixL4, ixL5, ixL6, ixL7, ixL8, ixL9, aI0, aI1, aI2, aI3, aI4, aI5, aI6, aI7, aI8, aI9, ixN1_0, ixN2_0, ixN2_1, ixN3_0, ixN3_1, ixN3_2, ixN4_0, ixN4_1, ixN4_2, ixN4_3, ixN5_0, ixN5_1, ixN5_2, ixN5_3, ixN5_4, ixN6_0, ixN6_1, ixN6_2, ixN6_3, ixN6_4, ixN6_5, List.map_cons, List.map_nil, List.cons_append, List.nil_append, List.replicate_zero, List.replicate_succ, List.length_cons, List.length_nil, List.getElem?_cons_zero, List.getElem?_cons_succ, List.set_cons_zero, List.set_cons_succ, List.getD_cons_zero, List.getD_cons_succ, Bool.and_true, Bool.true_and, Bool.not_false, Bool.not_true, Nat.sub_self, Nat.reduceSub, Nat.reduceAdd, Nat.zero_add, true_and, and_true, and_self, if_true, if_false, ite_true, ite_false, reduceCtorEq, false_implies, implies_true, forall_const, Bool.false_eq_true, Option.bind_some, Option.map_some, Option.bind_none, Option.map_none, runF_eq, okIo, datOf, lvsOf, argIo, isD, outO, isND, notND, vals2D, vals3D, eqDD, neDD, decide_true, decide_false, Bool.decide_eq_true, sz0, sz1, sz2, sz3, sz4, sz5, sz6, sz7, sz8, sz9, slice_t, all_t, all_l, any_l, all_lm, all_tm, any_lm, Function.comp_def, step_nx, step_ct, step_bk, step_rt, step_rl, step_ite, decide_eq_true_eq, Int.cast_ofNat_Int, Int.reduceLE, Int.reduceLT, Int.reduceAdd, Int.reduceSub, Int.reduceMul, Int.reduceNeg, Int.reduceEq, Int.reduceGT, Nat.reduceEqDiff, ne_eq, not_false_eq_true, Option.some.injEq, forall_eq', Nat.reduceLT, Bool.and_false, Bool.or_false, Bool.false_or, Bool.true_or, Bool.false_and, Bool.or_true, range2_ok (i := 1) (j := r.rest + 1), t_S]
  rw [lcLoop_map (f := fSl) _ (by rw [rangeD_length, sizeLine_eq]; omega) (by
    intro x hx
    obtain ⟨c, rfl, h1, h2⟩ := mem_rangeD hx
    exact ⟨_, _, _, rfl, rfl, by simp only [ret_ap, lift_some, lift_none, var_ap, varR_d, ownAt_ap, ownL_own, ownL_d, ownL_n, frzAt_ap, frzL_own, frzL_d, frz_nil, frz_cons, frz1_own, frz1_d, frz1_n, wipe_nil, wipe_cons, restore_nil, restore_cons, clean_nil, clean_cons, isOwnL_own, isOwnL_d, isOwnL_n, bind_ap, bindR_ok, bindR_ex, bindR_bad, ofM_ap, ofR_ok, ofR_ex, ofR_bad, seq_ap, seqR_nx, seqR_rt, seqR_rl, seqR_bk, seqR_ct, seqR_ex, seqR_bad, nil_ap, pass_ap, never_ap, brk_ap, cnt_ap, retN_ap, sret_ap, sretL_ap, drop_ap, site_ap, asg_ap, own_ap, par2_ap, par3_ap, asgT_ap, asgR_some, asgR_none, gnm_ap, gnil_ap, gcons_ap, gtup_ap, andV_ap, orV_ap, andT_ap, orT_ap, notT_ap, test_ap, op1_ap, op2_ap, chain_ap, mite_ap, ite_apR, ite_apS, argN_ap, argD_ap, argS_ap, slotR_some, tup_ap, lst_ap, known_ap, call_ap, callL_ap, items_ap, part_ap, slice_ap, catL_ap, frz_ap, borrow_ap, borrowR_ok, borrowT_ap, borrowTR_ok, subO_ap, app_ap, setIx_ap, retO_ap, for_ap, lc_ap, lcR_ok, fn_ap, fnL_ap, fnR_some, fnLR_some, retR_ret, retR_retL, retLR_retL, putR_some, putO_none, putO_s0, putO_s1, putO_s2, putO_s3, putO_s4, endR_rt, endR_rl, endR_nx, endR_bad, bindR_ite, ofR_ite, seqR_ite, endR_ite, lift_ite, addD_ii, addD_ss, addD_tt, subD_ii, mulD_ii, fdivD_ii, modD_ii, powD_ii, negD_i, ltD_ii, leD_ii, gtD_ii, geD_ii, ixD_l, ixD_t, catD_ll, itemsD_l, itemsD_t, lenD_l, lenD_t, lenD_s, absD_i, maxD_ii, minD_ii, intD_i, intD_b, tupleD_l, tupleD_t, notD_b, asB_b, asI_i, eqD_ii, eqD_ss, eqD_bb, eqD_si, eqD_is, eqD_nn, eqD_nb, eqD_ni, eqD_ns, eqD_bn, eqD_in, eqD_sn, tInt_none, tInt_bool, tInt_int, tInt_str, tInt_tuple, tInt_list, tInt_dict, tBool_none, tBool_bool, tBool_int, tBool_str, tBool_tuple, tBool_list, tBool_dict, tStr_none, tStr_bool, tStr_int, tStr_str, tStr_tuple, tStr_list, tStr_dict, tTuple_none, tTuple_bool, tTuple_int, tTuple_str, tTuple_tuple, tTuple_list, tTuple_dict, tList_none, tList_bool, tList_int, tList_str, tList_tuple, tList_list, tList_dict, tSeq_none, tSeq_bool, tSeq_int, tSeq_str, tSeq_tuple, tSeq_list, tSeq_dict, isNoneB_none, scalarD_none, isNoneB_bool, scalarD_bool, isNoneB_int, scalarD_int, isNoneB_str, scalarD_str, isNoneB_tuple, scalarD_tuple, isNoneB_list, scalarD_list, isNoneB_dict, scalarD_dict, ixT0, ixT1, ixT2, ixT3, ixT4, ixT5, ixT6, ixT7, ixT8, ixT9, ixL0, ixL1, ixL2, ixL3, ixL4, ixL5, ixL6, ixL7, ixL8, ixL9, aI0, aI1, aI2, aI3, aI4, aI5, aI6, aI7, aI8, aI9, ixN1_0, ixN2_0, ixN2_1, ixN3_0, ixN3_1, ixN3_2, ixN4_0, ixN4_1, ixN4_2, ixN4_3, ixN5_0, ixN5_1, ixN5_2, ixN5_3, ixN5_4, ixN6_0, ixN6_1, ixN6_2, ixN6_3, ixN6_4, ixN6_5, List.map_cons, List.map_nil, List.cons_append, List.nil_append, List.replicate_zero, List.replicate_succ, List.length_cons, List.length_nil, List.getElem?_cons_zero, List.getElem?_cons_succ, List.set_cons_zero, List.set_cons_succ, List.getD_cons_zero, List.getD_cons_succ, Bool.and_true, Bool.true_and, Bool.not_false, Bool.not_true, Nat.sub_self, Nat.reduceSub, Nat.reduceAdd, Nat.zero_add, true_and, and_true, and_self, if_true, if_false, ite_true, ite_false, reduceCtorEq, false_implies, implies_true, forall_const, Bool.false_eq_true, Option.bind_some, Option.map_some, Option.bind_none, Option.map_none, runF_eq, okIo, datOf, lvsOf, argIo, isD, outO, isND, notND, vals2D, vals3D, eqDD, neDD, decide_true, decide_false, Bool.decide_eq_true, sz0, sz1, sz2, sz3, sz4, sz5, sz6, sz7, sz8, sz9, slice_t, all_t, all_l, any_l, all_lm, all_tm, any_lm, Function.comp_def, step_nx, step_ct, step_bk, step_rt, step_rl, step_ite, decide_eq_true_eq, Int.cast_ofNat_Int, Int.reduceLE, Int.reduceLT, Int.reduceAdd, Int.reduceSub, Int.reduceMul, Int.reduceNeg, Int.reduceEq, Int.reduceGT, Nat.reduceEqDiff, ne_eq, not_false_eq_true, Option.some.injEq, forall_eq', Nat.reduceLT, Bool.and_false, Bool.or_false, Bool.false_or, Bool.true_or, Bool.false_and, Bool.or_true, E_f_law_stands_5, t_S, fSl, encS]; rfl, rfl⟩)]
  have v0 : VS r ((rangeD 1 (r.rest + 1 - 1).toNat).map fSl) := fun y hy => by
    obtain ⟨x, hx, rfl⟩ := List.mem_map.mp hy
    obtain ⟨c, rfl, h1, h2⟩ := mem_rangeD hx
    exact ⟨.sl c, ⟨h1, by omega⟩, rfl⟩
  have l0 : ((rangeD 1 (r.rest + 1 - 1).toNat).map fSl).length ≤ 3 := by rw [List.length_map, rangeD_length]; omega
  generalize (rangeD 1 (r.rest + 1 - 1).toNat).map fSl = ys0 at v0 l0
  simp only [ret_ap, lift_some, lift_none, var_ap, varR_d, ownAt_ap, ownL_own, ownL_d, ownL_n, frzAt_ap, frzL_own, frzL_d, frz_nil, frz_cons, frz1_own, frz1_d, frz1_n, wipe_nil, wipe_cons, restore_nil, restore_cons, clean_nil, clean_cons, isOwnL_own, isOwnL_d, isOwnL_n, bind_ap, bindR_ok, bindR_ex, bindR_bad, ofM_ap, ofR_ok, ofR_ex, ofR_bad, seq_ap, seqR_nx, seqR_rt, seqR_rl, seqR_bk, seqR_ct, seqR_ex, seqR_bad, nil_ap, pass_ap, never_ap, brk_ap, cnt_ap, retN_ap, sret_ap, sretL_ap, drop_ap, site_ap, asg_ap, own_ap, par2_ap, par3_ap, asgT_ap, asgR_some, asgR_none, gnm_ap, gnil_ap, gcons_ap, gtup_ap, andV_ap, orV_ap, andT_ap, orT_ap, notT_ap, test_ap, op1_ap, op2_ap, chain_ap, mite_ap, ite_apR, ite_apS, argN_ap, argD_ap, argS_ap, slotR_some, tup_ap, lst_ap, known_ap, call_ap, callL_ap, items_ap, part_ap, slice_ap, catL_ap, frz_ap, borrow_ap, borrowR_ok, borrowT_ap, borrowTR_ok, subO_ap, app_ap, setIx_ap, retO_ap, for_ap, lc_ap, lcR_ok, fn_ap, fnL_ap, fnR_some, fnLR_some, retR_ret, retR_retL, retLR_retL, putR_some, putO_none, putO_s0, putO_s1, putO_s2, putO_s3, putO_s4, endR_rt, endR_rl, endR_nx, endR_bad, bindR_ite, ofR_ite, seqR_ite, endR_ite, lift_ite, addD_ii, addD_ss, addD_tt, subD_ii, mulD_ii, fdivD_ii, modD_ii, powD_ii, negD_i, ltD_ii, leD_ii, gtD_ii, geD_ii, ixD_l, ixD_t, catD_ll, itemsD_l, itemsD_t, lenD_l, lenD_t, lenD_s, absD_i, maxD_ii, minD_ii, intD_i, intD_b, tupleD_l, tupleD_t, notD_b, asB_b, asI_i, eqD_ii, eqD_ss, eqD_bb, eqD_si, eqD_is, eqD_nn, eqD_nb, eqD_ni, eqD_ns, eqD_bn, eqD_in, eqD_sn, tInt_none, tInt_bool, tInt_int, tInt_str, tInt_tuple, tInt_list, tInt_dict, tBool_none, tBool_bool, tBool_int, tBool_str, tBool_tuple, tBool_list, tBool_dict, tStr_none, tStr_bool, tStr_int, tStr_str, tStr_tuple, tStr_list, tStr_dict, tTuple_none, tTuple_bool, tTuple_int, tTuple_str, tTuple_tuple, tTuple_list, tTuple_dict, tList_none, tList_bool, tList_int, tList_str, tList_tuple, tList_list, tList_dict, tSeq_none, tSeq_bool, tSeq_int, tSeq_str, tSeq_tuple, tSeq_list, tSeq_dict, isNoneB_none, scalarD_none, isNoneB_bool, scalarD_bool, isNoneB_int, scalarD_int, isNoneB_str, scalarD_str, isNoneB_tuple, scalarD_tuple, isNoneB_list, scalarD_list, isNoneB_dict, scalarD_dict, ixT0, ixT1, ixT2, ixT3, ixT4, ixT5, ixT6, ixT7, ixT8, ixT9, ixL0, ixL1, ixL2, ixL3, ixL4, ixL5, ixL6, ixL7, ixL8, ixL9, aI0, aI1, aI2, aI3, aI4, aI5, aI6, aI7, aI8, aI9, ixN1_0, ixN2_0, ixN2_1, ixN3_0, ixN3_1, ixN3_2, ixN4_0, ixN4_1, ixN4_2, ixN4_3, ixN5_0, ixN5_1, ixN5_2, ixN5_3, ixN5_4, ixN6_0, ixN6_1, ixN6_2, ixN6_3, ixN6_4, ixN6_5, List.map_cons, List.map_nil, List.cons_append, List.nil_append, List.replicate_zero, List.replicate_succ, List.length_cons, List.length_nil, List.getElem?_cons_zero, List.getElem?_cons_succ, List.set_cons_zero, List.set_cons_succ, List.getD_cons_zero, List.getD_cons_succ, Bool.and_true, Bool.true_and, Bool.not_false, Bool.not_true, Nat.sub_self, Nat.reduceSub, Nat.reduceAdd, Nat.zero_add, true_and, and_true, and_self, if_true, if_false, ite_true, ite_false, reduceCtorEq, false_implies, implies_true, forall_const, Bool.false_eq_true, Option.bind_some, Option.map_some, Option.bind_none, Option.map_none, runF_eq, okIo, datOf, lvsOf, argIo, isD, outO, isND, notND, vals2D, vals3D, eqDD, neDD, decide_true, decide_false, Bool.decide_eq_true, sz0, sz1, sz2, sz3, sz4, sz5, sz6, sz7, sz8, sz9, slice_t, all_t, all_l, any_l, all_lm, all_tm, any_lm, Function.comp_def, step_nx, step_ct, step_bk, step_rt, step_rl, step_ite, decide_eq_true_eq, Int.cast_ofNat_Int, Int.reduceLE, Int.reduceLT, Int.reduceAdd, Int.reduceSub, Int.reduceMul, Int.reduceNeg, Int.reduceEq, Int.reduceGT, Nat.reduceEqDiff, ne_eq, not_false_eq_true, Option.some.injEq, forall_eq', Nat.reduceLT, Bool.and_false, Bool.or_false, Bool.false_or, Bool.true_or, Bool.false_and, Bool.or_true, range2_ok (i := 1) (j := r.most)]
  generalize PyData.tuple [PyData.int r.need, PyData.int r.ahead, PyData.int r.hush, PyData.int r.most, PyData.int r.rest] = R0
  obtain ⟨ρ1, e1, ys1, a8, rfl, v1, l1⟩ := forD_invN (G := G.nm 8) (g := B_f_law_stands_3)
    (fun i ρ => ∃ ys a8, ρ = [some (LV.d R0), some (LV.own xs), some (LV.d (PyData.int r.need)), some (LV.d (PyData.int r.ahead)), some (LV.d (PyData.int r.hush)), some (LV.d (PyData.int r.most)), some (LV.d (PyData.int r.rest)), some (LV.own ys), a8, none, none, none, none] ∧ VS r ys ∧ ys.length ≤ 3 + 3 * i) (rangeD 1 (r.most - 1).toNat) _ ⟨ys0, none, rfl, v0, by omega⟩ (by
      intro i x ρ hx hI
      obtain ⟨rfl, hi⟩ := get_rangeD hx
      obtain ⟨ys, a8, rfl, v, l⟩ := hI
      refine ⟨_, rfl, ?_⟩
      have hc : (1 + (i : Int)) < r.most := by omega
      generalize hce : (1 + (i : Int)) = c at hc
      simp only [ret_ap, lift_some, lift_none, var_ap, varR_d, ownAt_ap, ownL_own, ownL_d, ownL_n, frzAt_ap, frzL_own, frzL_d, frz_nil, frz_cons, frz1_own, frz1_d, frz1_n, wipe_nil, wipe_cons, restore_nil, restore_cons, clean_nil, clean_cons, isOwnL_own, isOwnL_d, isOwnL_n, bind_ap, bindR_ok, bindR_ex, bindR_bad, ofM_ap, ofR_ok, ofR_ex, ofR_bad, seq_ap, seqR_nx, seqR_rt, seqR_rl, seqR_bk, seqR_ct, seqR_ex, seqR_bad, nil_ap, pass_ap, never_ap, brk_ap, cnt_ap, retN_ap, sret_ap, sretL_ap, drop_ap, site_ap, asg_ap, own_ap, par2_ap, par3_ap, asgT_ap, asgR_some, asgR_none, gnm_ap, gnil_ap, gcons_ap, gtup_ap, andV_ap, orV_ap, andT_ap, orT_ap, notT_ap, test_ap, op1_ap, op2_ap, chain_ap, mite_ap, ite_apR, ite_apS, argN_ap, argD_ap, argS_ap, slotR_some, tup_ap, lst_ap, known_ap, call_ap, callL_ap, items_ap, part_ap, slice_ap, catL_ap, frz_ap, borrow_ap, borrowR_ok, borrowT_ap, borrowTR_ok, subO_ap, app_ap, setIx_ap, retO_ap, for_ap, lc_ap, lcR_ok, fn_ap, fnL_ap, fnR_some, fnLR_some, retR_ret, retR_retL, retLR_retL, putR_some, putO_none, putO_s0, putO_s1, putO_s2, putO_s3, putO_s4, endR_rt, endR_rl, endR_nx, endR_bad, bindR_ite, ofR_ite, seqR_ite, endR_ite, lift_ite, addD_ii, addD_ss, addD_tt, subD_ii, mulD_ii, fdivD_ii, modD_ii, powD_ii, negD_i, ltD_ii, leD_ii, gtD_ii, geD_ii, ixD_l, ixD_t, catD_ll, itemsD_l, itemsD_t, lenD_l, lenD_t, lenD_s, absD_i, maxD_ii, minD_ii, intD_i, intD_b, tupleD_l, tupleD_t, notD_b, asB_b, asI_i, eqD_ii, eqD_ss, eqD_bb, eqD_si, eqD_is, eqD_nn, eqD_nb, eqD_ni, eqD_ns, eqD_bn, eqD_in, eqD_sn, tInt_none, tInt_bool, tInt_int, tInt_str, tInt_tuple, tInt_list, tInt_dict, tBool_none, tBool_bool, tBool_int, tBool_str, tBool_tuple, tBool_list, tBool_dict, tStr_none, tStr_bool, tStr_int, tStr_str, tStr_tuple, tStr_list, tStr_dict, tTuple_none, tTuple_bool, tTuple_int, tTuple_str, tTuple_tuple, tTuple_list, tTuple_dict, tList_none, tList_bool, tList_int, tList_str, tList_tuple, tList_list, tList_dict, tSeq_none, tSeq_bool, tSeq_int, tSeq_str, tSeq_tuple, tSeq_list, tSeq_dict, isNoneB_none, scalarD_none, isNoneB_bool, scalarD_bool, isNoneB_int, scalarD_int, isNoneB_str, scalarD_str, isNoneB_tuple, scalarD_tuple, isNoneB_list, scalarD_list, isNoneB_dict, scalarD_dict, ixT0, ixT1, ixT2, ixT3, ixT4, ixT5, ixT6, ixT7, ixT8, ixT9, ixL0, ixL1, ixL2, ixL3, ixL4, ixL5, ixL6, ixL7, ixL8, ixL9, aI0, aI1, aI2, aI3, aI4, aI5, aI6, aI7, aI8, aI9, ixN1_0, ixN2_0, ixN2_1, ixN3_0, ixN3_1, ixN3_2, ixN4_0, ixN4_1, ixN4_2, ixN4_3, ixN5_0, ixN5_1, ixN5_2, ixN5_3, ixN5_4, ixN6_0, ixN6_1, ixN6_2, ixN6_3, ixN6_4, ixN6_5, List.map_cons, List.map_nil, List.cons_append, List.nil_append, List.replicate_zero, List.replicate_succ, List.length_cons, List.length_nil, List.getElem?_cons_zero, List.getElem?_cons_succ, List.set_cons_zero, List.set_cons_succ, List.getD_cons_zero, List.getD_cons_succ, Bool.and_true, Bool.true_and, Bool.not_false, Bool.not_true, Nat.sub_self, Nat.reduceSub, Nat.reduceAdd, Nat.zero_add, true_and, and_true, and_self, if_true, if_false, ite_true, ite_false, reduceCtorEq, false_implies, implies_true, forall_const, Bool.false_eq_true, Option.bind_some, Option.map_some, Option.bind_none, Option.map_none, runF_eq, okIo, datOf, lvsOf, argIo, isD, outO, isND, notND, vals2D, vals3D, eqDD, neDD, decide_true, decide_false, Bool.decide_eq_true, sz0, sz1, sz2, sz3, sz4, sz5, sz6, sz7, sz8, sz9, slice_t, all_t, all_l, any_l, all_lm, all_tm, any_lm, Function.comp_def, step_nx, step_ct, step_bk, step_rt, step_rl, step_ite, decide_eq_true_eq, Int.cast_ofNat_Int, Int.reduceLE, Int.reduceLT, Int.reduceAdd, Int.reduceSub, Int.reduceMul, Int.reduceNeg, Int.reduceEq, Int.reduceGT, Nat.reduceEqDiff, ne_eq, not_false_eq_true, Option.some.injEq, forall_eq', Nat.reduceLT, Bool.and_false, Bool.or_false, Bool.false_or, Bool.true_or, Bool.false_and, Bool.or_true, B_f_law_stands_3, range1_ok (j := if c < r.hush then c else r.hush) (by split <;> omega) (by split <;> omega)]
      rw [lcLoop_map (f := fRc c) _ (by rw [rangeD_length, sizeLine_eq]; split <;> omega) (by
        intro x hx
        obtain ⟨q, rfl, h1, h2⟩ := mem_rangeD hx
        exact ⟨_, _, _, rfl, rfl, by simp only [ret_ap, lift_some, lift_none, var_ap, varR_d, ownAt_ap, ownL_own, ownL_d, ownL_n, frzAt_ap, frzL_own, frzL_d, frz_nil, frz_cons, frz1_own, frz1_d, frz1_n, wipe_nil, wipe_cons, restore_nil, restore_cons, clean_nil, clean_cons, isOwnL_own, isOwnL_d, isOwnL_n, bind_ap, bindR_ok, bindR_ex, bindR_bad, ofM_ap, ofR_ok, ofR_ex, ofR_bad, seq_ap, seqR_nx, seqR_rt, seqR_rl, seqR_bk, seqR_ct, seqR_ex, seqR_bad, nil_ap, pass_ap, never_ap, brk_ap, cnt_ap, retN_ap, sret_ap, sretL_ap, drop_ap, site_ap, asg_ap, own_ap, par2_ap, par3_ap, asgT_ap, asgR_some, asgR_none, gnm_ap, gnil_ap, gcons_ap, gtup_ap, andV_ap, orV_ap, andT_ap, orT_ap, notT_ap, test_ap, op1_ap, op2_ap, chain_ap, mite_ap, ite_apR, ite_apS, argN_ap, argD_ap, argS_ap, slotR_some, tup_ap, lst_ap, known_ap, call_ap, callL_ap, items_ap, part_ap, slice_ap, catL_ap, frz_ap, borrow_ap, borrowR_ok, borrowT_ap, borrowTR_ok, subO_ap, app_ap, setIx_ap, retO_ap, for_ap, lc_ap, lcR_ok, fn_ap, fnL_ap, fnR_some, fnLR_some, retR_ret, retR_retL, retLR_retL, putR_some, putO_none, putO_s0, putO_s1, putO_s2, putO_s3, putO_s4, endR_rt, endR_rl, endR_nx, endR_bad, bindR_ite, ofR_ite, seqR_ite, endR_ite, lift_ite, addD_ii, addD_ss, addD_tt, subD_ii, mulD_ii, fdivD_ii, modD_ii, powD_ii, negD_i, ltD_ii, leD_ii, gtD_ii, geD_ii, ixD_l, ixD_t, catD_ll, itemsD_l, itemsD_t, lenD_l, lenD_t, lenD_s, absD_i, maxD_ii, minD_ii, intD_i, intD_b, tupleD_l, tupleD_t, notD_b, asB_b, asI_i, eqD_ii, eqD_ss, eqD_bb, eqD_si, eqD_is, eqD_nn, eqD_nb, eqD_ni, eqD_ns, eqD_bn, eqD_in, eqD_sn, tInt_none, tInt_bool, tInt_int, tInt_str, tInt_tuple, tInt_list, tInt_dict, tBool_none, tBool_bool, tBool_int, tBool_str, tBool_tuple, tBool_list, tBool_dict, tStr_none, tStr_bool, tStr_int, tStr_str, tStr_tuple, tStr_list, tStr_dict, tTuple_none, tTuple_bool, tTuple_int, tTuple_str, tTuple_tuple, tTuple_list, tTuple_dict, tList_none, tList_bool, tList_int, tList_str, tList_tuple, tList_list, tList_dict, tSeq_none, tSeq_bool, tSeq_int, tSeq_str, tSeq_tuple, tSeq_list, tSeq_dict, isNoneB_none, scalarD_none, isNoneB_bool, scalarD_bool, isNoneB_int, scalarD_int, isNoneB_str, scalarD_str, isNoneB_tuple, scalarD_tuple, isNoneB_list, scalarD_list, isNoneB_dict, scalarD_dict, ixT0, ixT1, ixT2, ixT3, ixT4, ixT5, ixT6, ixT7, ixT8, ixT9, ixL0, ixL1, ixL2, ixL3, ixL4, ixL5, ixL6, ixL7, ixL8, ixL9, aI0, aI1, aI2, aI3, aI4, aI5, aI6, aI7, aI8, aI9, ixN1_0, ixN2_0, ixN2_1, ixN3_0, ixN3_1, ixN3_2, ixN4_0, ixN4_1, ixN4_2, ixN4_3, ixN5_0, ixN5_1, ixN5_2, ixN5_3, ixN5_4, ixN6_0, ixN6_1, ixN6_2, ixN6_3, ixN6_4, ixN6_5, List.map_cons, List.map_nil, List.cons_append, List.nil_append, List.replicate_zero, List.replicate_succ, List.length_cons, List.length_nil, List.getElem?_cons_zero, List.getElem?_cons_succ, List.set_cons_zero, List.set_cons_succ, List.getD_cons_zero, List.getD_cons_succ, Bool.and_true, Bool.true_and, Bool.not_false, Bool.not_true, Nat.sub_self, Nat.reduceSub, Nat.reduceAdd, Nat.zero_add, true_and, and_true, and_self, if_true, if_false, ite_true, ite_false, reduceCtorEq, false_implies, implies_true, forall_const, Bool.false_eq_true, Option.bind_some, Option.map_some, Option.bind_none, Option.map_none, runF_eq, okIo, datOf, lvsOf, argIo, isD, outO, isND, notND, vals2D, vals3D, eqDD, neDD, decide_true, decide_false, Bool.decide_eq_true, sz0, sz1, sz2, sz3, sz4, sz5, sz6, sz7, sz8, sz9, slice_t, all_t, all_l, any_l, all_lm, all_tm, any_lm, Function.comp_def, step_nx, step_ct, step_bk, step_rt, step_rl, step_ite, decide_eq_true_eq, Int.cast_ofNat_Int, Int.reduceLE, Int.reduceLT, Int.reduceAdd, Int.reduceSub, Int.reduceMul, Int.reduceNeg, Int.reduceEq, Int.reduceGT, Nat.reduceEqDiff, ne_eq, not_false_eq_true, Option.some.injEq, forall_eq', Nat.reduceLT, Bool.and_false, Bool.or_false, Bool.false_or, Bool.true_or, Bool.false_and, Bool.or_true, E_f_law_stands_4, t_R, fRc, encS]; rfl, rfl⟩)]
      have v1 : VS r ((rangeD 0 (if c < r.hush then c else r.hush).toNat).map (fRc c)) := fun y hy => by
        obtain ⟨x, hx, rfl⟩ := List.mem_map.mp hy
        obtain ⟨q, rfl, h1, h2⟩ := mem_rangeD hx
        exact ⟨.rc c q, ⟨by omega, by omega, h1, by by_cases hq : c < r.hush <;> simp only [hq, if_true, if_false] at h2 ⊢ <;> omega⟩, rfl⟩
      have l1 : ((rangeD 0 (if c < r.hush then c else r.hush).toNat).map (fRc c)).length ≤ 3 := by rw [List.length_map, rangeD_length]; split <;> omega
      generalize (rangeD 0 (if c < r.hush then c else r.hush).toNat).map (fRc c) = zs at v1 l1
      have l2 : ys.length + zs.length ≤ sizeLine := by rw [sizeLine_eq]; omega
      simp only [ret_ap, lift_some, lift_none, var_ap, varR_d, ownAt_ap, ownL_own, ownL_d, ownL_n, frzAt_ap, frzL_own, frzL_d, frz_nil, frz_cons, frz1_own, frz1_d, frz1_n, wipe_nil, wipe_cons, restore_nil, restore_cons, clean_nil, clean_cons, isOwnL_own, isOwnL_d, isOwnL_n, bind_ap, bindR_ok, bindR_ex, bindR_bad, ofM_ap, ofR_ok, ofR_ex, ofR_bad, seq_ap, seqR_nx, seqR_rt, seqR_rl, seqR_bk, seqR_ct, seqR_ex, seqR_bad, nil_ap, pass_ap, never_ap, brk_ap, cnt_ap, retN_ap, sret_ap, sretL_ap, drop_ap, site_ap, asg_ap, own_ap, par2_ap, par3_ap, asgT_ap, asgR_some, asgR_none, gnm_ap, gnil_ap, gcons_ap, gtup_ap, andV_ap, orV_ap, andT_ap, orT_ap, notT_ap, test_ap, op1_ap, op2_ap, chain_ap, mite_ap, ite_apR, ite_apS, argN_ap, argD_ap, argS_ap, slotR_some, tup_ap, lst_ap, known_ap, call_ap, callL_ap, items_ap, part_ap, slice_ap, catL_ap, frz_ap, borrow_ap, borrowR_ok, borrowT_ap, borrowTR_ok, subO_ap, app_ap, setIx_ap, retO_ap, for_ap, lc_ap, lcR_ok, fn_ap, fnL_ap, fnR_some, fnLR_some, retR_ret, retR_retL, retLR_retL, putR_some, putO_none, putO_s0, putO_s1, putO_s2, putO_s3, putO_s4, endR_rt, endR_rl, endR_nx, endR_bad, bindR_ite, ofR_ite, seqR_ite, endR_ite, lift_ite, addD_ii, addD_ss, addD_tt, subD_ii, mulD_ii, fdivD_ii, modD_ii, powD_ii, negD_i, ltD_ii, leD_ii, gtD_ii, geD_ii, ixD_l, ixD_t, catD_ll, itemsD_l, itemsD_t, lenD_l, lenD_t, lenD_s, absD_i, maxD_ii, minD_ii, intD_i, intD_b, tupleD_l, tupleD_t, notD_b, asB_b, asI_i, eqD_ii, eqD_ss, eqD_bb, eqD_si, eqD_is, eqD_nn, eqD_nb, eqD_ni, eqD_ns, eqD_bn, eqD_in, eqD_sn, tInt_none, tInt_bool, tInt_int, tInt_str, tInt_tuple, tInt_list, tInt_dict, tBool_none, tBool_bool, tBool_int, tBool_str, tBool_tuple, tBool_list, tBool_dict, tStr_none, tStr_bool, tStr_int, tStr_str, tStr_tuple, tStr_list, tStr_dict, tTuple_none, tTuple_bool, tTuple_int, tTuple_str, tTuple_tuple, tTuple_list, tTuple_dict, tList_none, tList_bool, tList_int, tList_str, tList_tuple, tList_list, tList_dict, tSeq_none, tSeq_bool, tSeq_int, tSeq_str, tSeq_tuple, tSeq_list, tSeq_dict, isNoneB_none, scalarD_none, isNoneB_bool, scalarD_bool, isNoneB_int, scalarD_int, isNoneB_str, scalarD_str, isNoneB_tuple, scalarD_tuple, isNoneB_list, scalarD_list, isNoneB_dict, scalarD_dict, ixT0, ixT1, ixT2, ixT3, ixT4, ixT5, ixT6, ixT7, ixT8, ixT9, ixL0, ixL1, ixL2, ixL3, ixL4, ixL5, ixL6, ixL7, ixL8, ixL9, aI0, aI1, aI2, aI3, aI4, aI5, aI6, aI7, aI8, aI9, ixN1_0, ixN2_0, ixN2_1, ixN3_0, ixN3_1, ixN3_2, ixN4_0, ixN4_1, ixN4_2, ixN4_3, ixN5_0, ixN5_1, ixN5_2, ixN5_3, ixN5_4, ixN6_0, ixN6_1, ixN6_2, ixN6_3, ixN6_4, ixN6_5, List.map_cons, List.map_nil, List.cons_append, List.nil_append, List.replicate_zero, List.replicate_succ, List.length_cons, List.length_nil, List.getElem?_cons_zero, List.getElem?_cons_succ, List.set_cons_zero, List.set_cons_succ, List.getD_cons_zero, List.getD_cons_succ, Bool.and_true, Bool.true_and, Bool.not_false, Bool.not_true, Nat.sub_self, Nat.reduceSub, Nat.reduceAdd, Nat.zero_add, true_and, and_true, and_self, if_true, if_false, ite_true, ite_false, reduceCtorEq, false_implies, implies_true, forall_const, Bool.false_eq_true, Option.bind_some, Option.map_some, Option.bind_none, Option.map_none, runF_eq, okIo, datOf, lvsOf, argIo, isD, outO, isND, notND, vals2D, vals3D, eqDD, neDD, decide_true, decide_false, Bool.decide_eq_true, sz0, sz1, sz2, sz3, sz4, sz5, sz6, sz7, sz8, sz9, slice_t, all_t, all_l, any_l, all_lm, all_tm, any_lm, Function.comp_def, step_nx, step_ct, step_bk, step_rt, step_rl, step_ite, decide_eq_true_eq, Int.cast_ofNat_Int, Int.reduceLE, Int.reduceLT, Int.reduceAdd, Int.reduceSub, Int.reduceMul, Int.reduceNeg, Int.reduceEq, Int.reduceGT, Nat.reduceEqDiff, ne_eq, not_false_eq_true, Option.some.injEq, forall_eq', Nat.reduceLT, Bool.and_false, Bool.or_false, Bool.false_or, Bool.true_or, Bool.false_and, Bool.or_true, if_pos l2]
      exact ⟨_, _, rfl, v.app v1, by rw [List.length_append]; omega⟩)
  rw [e1]
  rw [rangeD_length] at l1
  have l1 : ys1.length ≤ 60 := by omega
  simp only [ret_ap, lift_some, lift_none, var_ap, varR_d, ownAt_ap, ownL_own, ownL_d, ownL_n, frzAt_ap, frzL_own, frzL_d, frz_nil, frz_cons, frz1_own, frz1_d, frz1_n, wipe_nil, wipe_cons, restore_nil, restore_cons, clean_nil, clean_cons, isOwnL_own, isOwnL_d, isOwnL_n, bind_ap, bindR_ok, bindR_ex, bindR_bad, ofM_ap, ofR_ok, ofR_ex, ofR_bad, seq_ap, seqR_nx, seqR_rt, seqR_rl, seqR_bk, seqR_ct, seqR_ex, seqR_bad, nil_ap, pass_ap, never_ap, brk_ap, cnt_ap, retN_ap, sret_ap, sretL_ap, drop_ap, site_ap, asg_ap, own_ap, par2_ap, par3_ap, asgT_ap, asgR_some, asgR_none, gnm_ap, gnil_ap, gcons_ap, gtup_ap, andV_ap, orV_ap, andT_ap, orT_ap, notT_ap, test_ap, op1_ap, op2_ap, chain_ap, mite_ap, ite_apR, ite_apS, argN_ap, argD_ap, argS_ap, slotR_some, tup_ap, lst_ap, known_ap, call_ap, callL_ap, items_ap, part_ap, slice_ap, catL_ap, frz_ap, borrow_ap, borrowR_ok, borrowT_ap, borrowTR_ok, subO_ap, app_ap, setIx_ap, retO_ap, for_ap, lc_ap, lcR_ok, fn_ap, fnL_ap, fnR_some, fnLR_some, retR_ret, retR_retL, retLR_retL, putR_some, putO_none, putO_s0, putO_s1, putO_s2, putO_s3, putO_s4, endR_rt, endR_rl, endR_nx, endR_bad, bindR_ite, ofR_ite, seqR_ite, endR_ite, lift_ite, addD_ii, addD_ss, addD_tt, subD_ii, mulD_ii, fdivD_ii, modD_ii, powD_ii, negD_i, ltD_ii, leD_ii, gtD_ii, geD_ii, ixD_l, ixD_t, catD_ll, itemsD_l, itemsD_t, lenD_l, lenD_t, lenD_s, absD_i, maxD_ii, minD_ii, intD_i, intD_b, tupleD_l, tupleD_t, notD_b, asB_b, asI_i, eqD_ii, eqD_ss, eqD_bb, eqD_si, eqD_is, eqD_nn, eqD_nb, eqD_ni, eqD_ns, eqD_bn, eqD_in, eqD_sn, tInt_none, tInt_bool, tInt_int, tInt_str, tInt_tuple, tInt_list, tInt_dict, tBool_none, tBool_bool, tBool_int, tBool_str, tBool_tuple, tBool_list, tBool_dict, tStr_none, tStr_bool, tStr_int, tStr_str, tStr_tuple, tStr_list, tStr_dict, tTuple_none, tTuple_bool, tTuple_int, tTuple_str, tTuple_tuple, tTuple_list, tTuple_dict, tList_none, tList_bool, tList_int, tList_str, tList_tuple, tList_list, tList_dict, tSeq_none, tSeq_bool, tSeq_int, tSeq_str, tSeq_tuple, tSeq_list, tSeq_dict, isNoneB_none, scalarD_none, isNoneB_bool, scalarD_bool, isNoneB_int, scalarD_int, isNoneB_str, scalarD_str, isNoneB_tuple, scalarD_tuple, isNoneB_list, scalarD_list, isNoneB_dict, scalarD_dict, ixT0, ixT1, ixT2, ixT3, ixT4, ixT5, ixT6, ixT7, ixT8, ixT9, ixL0, ixL1, ixL2, ixL3, ixL4, ixL5, ixL6, ixL7, ixL8, ixL9, aI0, aI1, aI2, aI3, aI4, aI5, aI6, aI7, aI8, aI9, ixN1_0, ixN2_0, ixN2_1, ixN3_0, ixN3_1, ixN3_2, ixN4_0, ixN4_1, ixN4_2, ixN4_3, ixN5_0, ixN5_1, ixN5_2, ixN5_3, ixN5_4, ixN6_0, ixN6_1, ixN6_2, ixN6_3, ixN6_4, ixN6_5, List.map_cons, List.map_nil, List.cons_append, List.nil_append, List.replicate_zero, List.replicate_succ, List.length_cons, List.length_nil, List.getElem?_cons_zero, List.getElem?_cons_succ, List.set_cons_zero, List.set_cons_succ, List.getD_cons_zero, List.getD_cons_succ, Bool.and_true, Bool.true_and, Bool.not_false, Bool.not_true, Nat.sub_self, Nat.reduceSub, Nat.reduceAdd, Nat.zero_add, true_and, and_true, and_self, if_true, if_false, ite_true, ite_false, reduceCtorEq, false_implies, implies_true, forall_const, Bool.false_eq_true, Option.bind_some, Option.map_some, Option.bind_none, Option.map_none, runF_eq, okIo, datOf, lvsOf, argIo, isD, outO, isND, notND, vals2D, vals3D, eqDD, neDD, decide_true, decide_false, Bool.decide_eq_true, sz0, sz1, sz2, sz3, sz4, sz5, sz6, sz7, sz8, sz9, slice_t, all_t, all_l, any_l, all_lm, all_tm, any_lm, Function.comp_def, step_nx, step_ct, step_bk, step_rt, step_rl, step_ite, decide_eq_true_eq, Int.cast_ofNat_Int, Int.reduceLE, Int.reduceLT, Int.reduceAdd, Int.reduceSub, Int.reduceMul, Int.reduceNeg, Int.reduceEq, Int.reduceGT, Nat.reduceEqDiff, ne_eq, not_false_eq_true, Option.some.injEq, forall_eq', Nat.reduceLT, Bool.and_false, Bool.or_false, Bool.false_or, Bool.true_or, Bool.false_and, Bool.or_true, range1_ok (j := 12)]
  have hn : -r.need = -((r.need.toNat : Nat) : Int) := by omega
  have hn' : 0 < r.need.toNat := by omega
  obtain ⟨ρ2, e2, ys2, xs2, a8', a9', a10', rfl, v2, x2, l2⟩ := forD_invN (G := G.nm 9) (g := B_f_law_stands_1)
    (fun i ρ => ∃ ys xs a8 a9 a10, ρ = [some (LV.d R0), some (LV.own xs), some (LV.d (PyData.int r.need)), some (LV.d (PyData.int r.ahead)), some (LV.d (PyData.int r.hush)), some (LV.d (PyData.int r.most)), some (LV.d (PyData.int r.rest)), some (LV.own ys), a8, a9, a10, none, none] ∧ VS r ys ∧ SpV xs ∧ ys.length ≤ 60 + i) (rangeD 0 (Int.toNat 12)) _ ⟨ys1, xs, _, _, _, rfl, v1, hx, by omega⟩ (by
      intro i x ρ hxi hI
      obtain ⟨rfl, hi⟩ := get_rangeD hxi
      obtain ⟨ys, xs, a8, a9, a10, rfl, v, hx, l⟩ := hI
      refine ⟨_, rfl, ?_⟩
      obtain ⟨i1, x1, p1, h1, d1, b1⟩ := F_pick_ok hx (m := r.need + r.ahead) (by omega) (by omega)
      simp only [ret_ap, lift_some, lift_none, var_ap, varR_d, ownAt_ap, ownL_own, ownL_d, ownL_n, frzAt_ap, frzL_own, frzL_d, frz_nil, frz_cons, frz1_own, frz1_d, frz1_n, wipe_nil, wipe_cons, restore_nil, restore_cons, clean_nil, clean_cons, isOwnL_own, isOwnL_d, isOwnL_n, bind_ap, bindR_ok, bindR_ex, bindR_bad, ofM_ap, ofR_ok, ofR_ex, ofR_bad, seq_ap, seqR_nx, seqR_rt, seqR_rl, seqR_bk, seqR_ct, seqR_ex, seqR_bad, nil_ap, pass_ap, never_ap, brk_ap, cnt_ap, retN_ap, sret_ap, sretL_ap, drop_ap, site_ap, asg_ap, own_ap, par2_ap, par3_ap, asgT_ap, asgR_some, asgR_none, gnm_ap, gnil_ap, gcons_ap, gtup_ap, andV_ap, orV_ap, andT_ap, orT_ap, notT_ap, test_ap, op1_ap, op2_ap, chain_ap, mite_ap, ite_apR, ite_apS, argN_ap, argD_ap, argS_ap, slotR_some, tup_ap, lst_ap, known_ap, call_ap, callL_ap, items_ap, part_ap, slice_ap, catL_ap, frz_ap, borrow_ap, borrowR_ok, borrowT_ap, borrowTR_ok, subO_ap, app_ap, setIx_ap, retO_ap, for_ap, lc_ap, lcR_ok, fn_ap, fnL_ap, fnR_some, fnLR_some, retR_ret, retR_retL, retLR_retL, putR_some, putO_none, putO_s0, putO_s1, putO_s2, putO_s3, putO_s4, endR_rt, endR_rl, endR_nx, endR_bad, bindR_ite, ofR_ite, seqR_ite, endR_ite, lift_ite, addD_ii, addD_ss, addD_tt, subD_ii, mulD_ii, fdivD_ii, modD_ii, powD_ii, negD_i, ltD_ii, leD_ii, gtD_ii, geD_ii, ixD_l, ixD_t, catD_ll, itemsD_l, itemsD_t, lenD_l, lenD_t, lenD_s, absD_i, maxD_ii, minD_ii, intD_i, intD_b, tupleD_l, tupleD_t, notD_b, asB_b, asI_i, eqD_ii, eqD_ss, eqD_bb, eqD_si, eqD_is, eqD_nn, eqD_nb, eqD_ni, eqD_ns, eqD_bn, eqD_in, eqD_sn, tInt_none, tInt_bool, tInt_int, tInt_str, tInt_tuple, tInt_list, tInt_dict, tBool_none, tBool_bool, tBool_int, tBool_str, tBool_tuple, tBool_list, tBool_dict, tStr_none, tStr_bool, tStr_int, tStr_str, tStr_tuple, tStr_list, tStr_dict, tTuple_none, tTuple_bool, tTuple_int, tTuple_str, tTuple_tuple, tTuple_list, tTuple_dict, tList_none, tList_bool, tList_int, tList_str, tList_tuple, tList_list, tList_dict, tSeq_none, tSeq_bool, tSeq_int, tSeq_str, tSeq_tuple, tSeq_list, tSeq_dict, isNoneB_none, scalarD_none, isNoneB_bool, scalarD_bool, isNoneB_int, scalarD_int, isNoneB_str, scalarD_str, isNoneB_tuple, scalarD_tuple, isNoneB_list, scalarD_list, isNoneB_dict, scalarD_dict, ixT0, ixT1, ixT2, ixT3, ixT4, ixT5, ixT6, ixT7, ixT8, ixT9, ixL0, ixL1, ixL2, ixL3, ixL4, ixL5, ixL6, ixL7, ixL8, ixL9, aI0, aI1, aI2, aI3, aI4, aI5, aI6, aI7, aI8, aI9, ixN1_0, ixN2_0, ixN2_1, ixN3_0, ixN3_1, ixN3_2, ixN4_0, ixN4_1, ixN4_2, ixN4_3, ixN5_0, ixN5_1, ixN5_2, ixN5_3, ixN5_4, ixN6_0, ixN6_1, ixN6_2, ixN6_3, ixN6_4, ixN6_5, List.map_cons, List.map_nil, List.cons_append, List.nil_append, List.replicate_zero, List.replicate_succ, List.length_cons, List.length_nil, List.getElem?_cons_zero, List.getElem?_cons_succ, List.set_cons_zero, List.set_cons_succ, List.getD_cons_zero, List.getD_cons_succ, Bool.and_true, Bool.true_and, Bool.not_false, Bool.not_true, Nat.sub_self, Nat.reduceSub, Nat.reduceAdd, Nat.zero_add, true_and, and_true, and_self, if_true, if_false, ite_true, ite_false, reduceCtorEq, false_implies, implies_true, forall_const, Bool.false_eq_true, Option.bind_some, Option.map_some, Option.bind_none, Option.map_none, runF_eq, okIo, datOf, lvsOf, argIo, isD, outO, isND, notND, vals2D, vals3D, eqDD, neDD, decide_true, decide_false, Bool.decide_eq_true, sz0, sz1, sz2, sz3, sz4, sz5, sz6, sz7, sz8, sz9, slice_t, all_t, all_l, any_l, all_lm, all_tm, any_lm, Function.comp_def, step_nx, step_ct, step_bk, step_rt, step_rl, step_ite, decide_eq_true_eq, Int.cast_ofNat_Int, Int.reduceLE, Int.reduceLT, Int.reduceAdd, Int.reduceSub, Int.reduceMul, Int.reduceNeg, Int.reduceEq, Int.reduceGT, Nat.reduceEqDiff, ne_eq, not_false_eq_true, Option.some.injEq, forall_eq', Nat.reduceLT, Bool.and_false, Bool.or_false, Bool.false_or, Bool.true_or, Bool.false_and, Bool.or_true, B_f_law_stands_1, p1, range1_ok (j := i1) (by omega) (by omega)]
      obtain ⟨hs, ρ', q1, ⟨x3, rfl, h3⟩, q2, q3⟩ := lcLoop_any (vs := [12]) (G := G.nm 12) (tt := M.ret true) (te := E_f_law_stands_2)
        (fun ρ => ∃ x1, ρ = [some (LV.d R0), some (LV.own x1), some (LV.d (PyData.int r.need)), some (LV.d (PyData.int r.ahead)), some (LV.d (PyData.int r.hush)), some (LV.d (PyData.int r.most)), some (LV.d (PyData.int r.rest)), some (LV.own ys), a8, some (LV.d (PyData.int (0 + (i : Int)))), a10, none, none] ∧ SpV x1)
        (fun y => ∃ b, y = .bool b) (rangeD 0 i1.toNat) [] _ ⟨x1, rfl, h1⟩ (by rw [rangeD_length, sizeLine_eq, List.length_nil]; omega) (by
          rintro x hx ρ ⟨x1, rfl, h1⟩
          obtain ⟨i2, x2, p2, h2, d2, b2⟩ := F_pick_ok h1 (m := 3) (by decide) (by decide)
          exact ⟨_, _, .bool (decide (0 < i2)), _, rfl, rfl, by simp only [ret_ap, lift_some, lift_none, var_ap, varR_d, ownAt_ap, ownL_own, ownL_d, ownL_n, frzAt_ap, frzL_own, frzL_d, frz_nil, frz_cons, frz1_own, frz1_d, frz1_n, wipe_nil, wipe_cons, restore_nil, restore_cons, clean_nil, clean_cons, isOwnL_own, isOwnL_d, isOwnL_n, bind_ap, bindR_ok, bindR_ex, bindR_bad, ofM_ap, ofR_ok, ofR_ex, ofR_bad, seq_ap, seqR_nx, seqR_rt, seqR_rl, seqR_bk, seqR_ct, seqR_ex, seqR_bad, nil_ap, pass_ap, never_ap, brk_ap, cnt_ap, retN_ap, sret_ap, sretL_ap, drop_ap, site_ap, asg_ap, own_ap, par2_ap, par3_ap, asgT_ap, asgR_some, asgR_none, gnm_ap, gnil_ap, gcons_ap, gtup_ap, andV_ap, orV_ap, andT_ap, orT_ap, notT_ap, test_ap, op1_ap, op2_ap, chain_ap, mite_ap, ite_apR, ite_apS, argN_ap, argD_ap, argS_ap, slotR_some, tup_ap, lst_ap, known_ap, call_ap, callL_ap, items_ap, part_ap, slice_ap, catL_ap, frz_ap, borrow_ap, borrowR_ok, borrowT_ap, borrowTR_ok, subO_ap, app_ap, setIx_ap, retO_ap, for_ap, lc_ap, lcR_ok, fn_ap, fnL_ap, fnR_some, fnLR_some, retR_ret, retR_retL, retLR_retL, putR_some, putO_none, putO_s0, putO_s1, putO_s2, putO_s3, putO_s4, endR_rt, endR_rl, endR_nx, endR_bad, bindR_ite, ofR_ite, seqR_ite, endR_ite, lift_ite, addD_ii, addD_ss, addD_tt, subD_ii, mulD_ii, fdivD_ii, modD_ii, powD_ii, negD_i, ltD_ii, leD_ii, gtD_ii, geD_ii, ixD_l, ixD_t, catD_ll, itemsD_l, itemsD_t, lenD_l, lenD_t, lenD_s, absD_i, maxD_ii, minD_ii, intD_i, intD_b, tupleD_l, tupleD_t, notD_b, asB_b, asI_i, eqD_ii, eqD_ss, eqD_bb, eqD_si, eqD_is, eqD_nn, eqD_nb, eqD_ni, eqD_ns, eqD_bn, eqD_in, eqD_sn, tInt_none, tInt_bool, tInt_int, tInt_str, tInt_tuple, tInt_list, tInt_dict, tBool_none, tBool_bool, tBool_int, tBool_str, tBool_tuple, tBool_list, tBool_dict, tStr_none, tStr_bool, tStr_int, tStr_str, tStr_tuple, tStr_list, tStr_dict, tTuple_none, tTuple_bool, tTuple_int, tTuple_str, tTuple_tuple, tTuple_list, tTuple_dict, tList_none, tList_bool, tList_int, tList_str, tList_tuple, tList_list, tList_dict, tSeq_none, tSeq_bool, tSeq_int, tSeq_str, tSeq_tuple, tSeq_list, tSeq_dict, isNoneB_none, scalarD_none, isNoneB_bool, scalarD_bool, isNoneB_int, scalarD_int, isNoneB_str, scalarD_str, isNoneB_tuple, scalarD_tuple, isNoneB_list, scalarD_list, isNoneB_dict, scalarD_dict, ixT0, ixT1, ixT2, ixT3, ixT4, ixT5, ixT6, ixT7, ixT8, ixT9, ixL0, ixL1, ixL2, ixL3, ixL4, ixL5, ixL6, ixL7, ixL8, ixL9, aI0, aI1, aI2, aI3, aI4, aI5, aI6, aI7, aI8, aI9, ixN1_0, ixN2_0, ixN2_1, ixN3_0, ixN3_1, ixN3_2, ixN4_0, ixN4_1, ixN4_2, ixN4_3, ixN5_0, ixN5_1, ixN5_2, ixN5_3, ixN5_4, ixN6_0, ixN6_1, ixN6_2, ixN6_3, ixN6_4, ixN6_5, List.map_cons, List.map_nil, List.cons_append, List.nil_append, List.replicate_zero, List.replicate_succ, List.length_cons, List.length_nil, List.getElem?_cons_zero, List.getElem?_cons_succ, List.set_cons_zero, List.set_cons_succ, List.getD_cons_zero, List.getD_cons_succ, Bool.and_true, Bool.true_and, Bool.not_false, Bool.not_true, Nat.sub_self, Nat.reduceSub, Nat.reduceAdd, Nat.zero_add, true_and, and_true, and_self, if_true, if_false, ite_true, ite_false, reduceCtorEq, false_implies, implies_true, forall_const, Bool.false_eq_true, Option.bind_some, Option.map_some, Option.bind_none, Option.map_none, runF_eq, okIo, datOf, lvsOf, argIo, isD, outO, isND, notND, vals2D, vals3D, eqDD, neDD, decide_true, decide_false, Bool.decide_eq_true, sz0, sz1, sz2, sz3, sz4, sz5, sz6, sz7, sz8, sz9, slice_t, all_t, all_l, any_l, all_lm, all_tm, any_lm, Function.comp_def, step_nx, step_ct, step_bk, step_rt, step_rl, step_ite, decide_eq_true_eq, Int.cast_ofNat_Int, Int.reduceLE, Int.reduceLT, Int.reduceAdd, Int.reduceSub, Int.reduceMul, Int.reduceNeg, Int.reduceEq, Int.reduceGT, Nat.reduceEqDiff, ne_eq, not_false_eq_true, Option.some.injEq, forall_eq', Nat.reduceLT, Bool.and_false, Bool.or_false, Bool.false_or, Bool.true_or, Bool.false_and, Bool.or_true, E_f_law_stands_2, p2]; rfl, ⟨_, rfl⟩, x2, rfl, h2⟩)
      rw [q1, List.nil_append]
      have q4 : ∃ h : List Bool, hs = h.map .bool := bools_of q2
      obtain ⟨h, rfl⟩ := q4
      rw [List.length_map, rangeD_length] at q3
      simp only [ret_ap, lift_some, lift_none, var_ap, varR_d, ownAt_ap, ownL_own, ownL_d, ownL_n, frzAt_ap, frzL_own, frzL_d, frz_nil, frz_cons, frz1_own, frz1_d, frz1_n, wipe_nil, wipe_cons, restore_nil, restore_cons, clean_nil, clean_cons, isOwnL_own, isOwnL_d, isOwnL_n, bind_ap, bindR_ok, bindR_ex, bindR_bad, ofM_ap, ofR_ok, ofR_ex, ofR_bad, seq_ap, seqR_nx, seqR_rt, seqR_rl, seqR_bk, seqR_ct, seqR_ex, seqR_bad, nil_ap, pass_ap, never_ap, brk_ap, cnt_ap, retN_ap, sret_ap, sretL_ap, drop_ap, site_ap, asg_ap, own_ap, par2_ap, par3_ap, asgT_ap, asgR_some, asgR_none, gnm_ap, gnil_ap, gcons_ap, gtup_ap, andV_ap, orV_ap, andT_ap, orT_ap, notT_ap, test_ap, op1_ap, op2_ap, chain_ap, mite_ap, ite_apR, ite_apS, argN_ap, argD_ap, argS_ap, slotR_some, tup_ap, lst_ap, known_ap, call_ap, callL_ap, items_ap, part_ap, slice_ap, catL_ap, frz_ap, borrow_ap, borrowR_ok, borrowT_ap, borrowTR_ok, subO_ap, app_ap, setIx_ap, retO_ap, for_ap, lc_ap, lcR_ok, fn_ap, fnL_ap, fnR_some, fnLR_some, retR_ret, retR_retL, retLR_retL, putR_some, putO_none, putO_s0, putO_s1, putO_s2, putO_s3, putO_s4, endR_rt, endR_rl, endR_nx, endR_bad, bindR_ite, ofR_ite, seqR_ite, endR_ite, lift_ite, addD_ii, addD_ss, addD_tt, subD_ii, mulD_ii, fdivD_ii, modD_ii, powD_ii, negD_i, ltD_ii, leD_ii, gtD_ii, geD_ii, ixD_l, ixD_t, catD_ll, itemsD_l, itemsD_t, lenD_l, lenD_t, lenD_s, absD_i, maxD_ii, minD_ii, intD_i, intD_b, tupleD_l, tupleD_t, notD_b, asB_b, asI_i, eqD_ii, eqD_ss, eqD_bb, eqD_si, eqD_is, eqD_nn, eqD_nb, eqD_ni, eqD_ns, eqD_bn, eqD_in, eqD_sn, tInt_none, tInt_bool, tInt_int, tInt_str, tInt_tuple, tInt_list, tInt_dict, tBool_none, tBool_bool, tBool_int, tBool_str, tBool_tuple, tBool_list, tBool_dict, tStr_none, tStr_bool, tStr_int, tStr_str, tStr_tuple, tStr_list, tStr_dict, tTuple_none, tTuple_bool, tTuple_int, tTuple_str, tTuple_tuple, tTuple_list, tTuple_dict, tList_none, tList_bool, tList_int, tList_str, tList_tuple, tList_list, tList_dict, tSeq_none, tSeq_bool, tSeq_int, tSeq_str, tSeq_tuple, tSeq_list, tSeq_dict, isNoneB_none, scalarD_none, isNoneB_bool, scalarD_bool, isNoneB_int, scalarD_int, isNoneB_str, scalarD_str, isNoneB_tuple, scalarD_tuple, isNoneB_list, scalarD_list, isNoneB_dict, scalarD_dict, ixT0, ixT1, ixT2, ixT3, ixT4, ixT5, ixT6, ixT7, ixT8, ixT9, ixL0, ixL1, ixL2, ixL3, ixL4, ixL5, ixL6, ixL7, ixL8, ixL9, aI0, aI1, aI2, aI3, aI4, aI5, aI6, aI7, aI8, aI9, ixN1_0, ixN2_0, ixN2_1, ixN3_0, ixN3_1, ixN3_2, ixN4_0, ixN4_1, ixN4_2, ixN4_3, ixN5_0, ixN5_1, ixN5_2, ixN5_3, ixN5_4, ixN6_0, ixN6_1, ixN6_2, ixN6_3, ixN6_4, ixN6_5, List.map_cons, List.map_nil, List.cons_append, List.nil_append, List.replicate_zero, List.replicate_succ, List.length_cons, List.length_nil, List.getElem?_cons_zero, List.getElem?_cons_succ, List.set_cons_zero, List.set_cons_succ, List.getD_cons_zero, List.getD_cons_succ, Bool.and_true, Bool.true_and, Bool.not_false, Bool.not_true, Nat.sub_self, Nat.reduceSub, Nat.reduceAdd, Nat.zero_add, true_and, and_true, and_self, if_true, if_false, ite_true, ite_false, reduceCtorEq, false_implies, implies_true, forall_const, Bool.false_eq_true, Option.bind_some, Option.map_some, Option.bind_none, Option.map_none, runF_eq, okIo, datOf, lvsOf, argIo, isD, outO, isND, notND, vals2D, vals3D, eqDD, neDD, decide_true, decide_false, Bool.decide_eq_true, sz0, sz1, sz2, sz3, sz4, sz5, sz6, sz7, sz8, sz9, slice_t, all_t, all_l, any_l, all_lm, all_tm, any_lm, Function.comp_def, step_nx, step_ct, step_bk, step_rt, step_rl, step_ite, decide_eq_true_eq, Int.cast_ofNat_Int, Int.reduceLE, Int.reduceLT, Int.reduceAdd, Int.reduceSub, Int.reduceMul, Int.reduceNeg, Int.reduceEq, Int.reduceGT, Nat.reduceEqDiff, ne_eq, not_false_eq_true, Option.some.injEq, forall_eq', Nat.reduceLT, Bool.and_false, Bool.or_false, Bool.false_or, Bool.true_or, Bool.false_and, Bool.or_true]
      rw [show PyData.tuple (h.map .bool) = encB h from rfl]
      have q5 : PyData.tuple (cutD (h.map .bool) (some (-r.need)) none) = encB (h.drop (h.length - r.need.toNat)) := Option.some.inj (slice_neg h hn hn')
      have q6 : ys.length < sizeLine := by
        have : i < 12 := hi
        rw [sizeLine_eq]
        omega
      simp only [ret_ap, lift_some, lift_none, var_ap, varR_d, ownAt_ap, ownL_own, ownL_d, ownL_n, frzAt_ap, frzL_own, frzL_d, frz_nil, frz_cons, frz1_own, frz1_d, frz1_n, wipe_nil, wipe_cons, restore_nil, restore_cons, clean_nil, clean_cons, isOwnL_own, isOwnL_d, isOwnL_n, bind_ap, bindR_ok, bindR_ex, bindR_bad, ofM_ap, ofR_ok, ofR_ex, ofR_bad, seq_ap, seqR_nx, seqR_rt, seqR_rl, seqR_bk, seqR_ct, seqR_ex, seqR_bad, nil_ap, pass_ap, never_ap, brk_ap, cnt_ap, retN_ap, sret_ap, sretL_ap, drop_ap, site_ap, asg_ap, own_ap, par2_ap, par3_ap, asgT_ap, asgR_some, asgR_none, gnm_ap, gnil_ap, gcons_ap, gtup_ap, andV_ap, orV_ap, andT_ap, orT_ap, notT_ap, test_ap, op1_ap, op2_ap, chain_ap, mite_ap, ite_apR, ite_apS, argN_ap, argD_ap, argS_ap, slotR_some, tup_ap, lst_ap, known_ap, call_ap, callL_ap, items_ap, part_ap, slice_ap, catL_ap, frz_ap, borrow_ap, borrowR_ok, borrowT_ap, borrowTR_ok, subO_ap, app_ap, setIx_ap, retO_ap, for_ap, lc_ap, lcR_ok, fn_ap, fnL_ap, fnR_some, fnLR_some, retR_ret, retR_retL, retLR_retL, putR_some, putO_none, putO_s0, putO_s1, putO_s2, putO_s3, putO_s4, endR_rt, endR_rl, endR_nx, endR_bad, bindR_ite, ofR_ite, seqR_ite, endR_ite, lift_ite, addD_ii, addD_ss, addD_tt, subD_ii, mulD_ii, fdivD_ii, modD_ii, powD_ii, negD_i, ltD_ii, leD_ii, gtD_ii, geD_ii, ixD_l, ixD_t, catD_ll, itemsD_l, itemsD_t, lenD_l, lenD_t, lenD_s, absD_i, maxD_ii, minD_ii, intD_i, intD_b, tupleD_l, tupleD_t, notD_b, asB_b, asI_i, eqD_ii, eqD_ss, eqD_bb, eqD_si, eqD_is, eqD_nn, eqD_nb, eqD_ni, eqD_ns, eqD_bn, eqD_in, eqD_sn, tInt_none, tInt_bool, tInt_int, tInt_str, tInt_tuple, tInt_list, tInt_dict, tBool_none, tBool_bool, tBool_int, tBool_str, tBool_tuple, tBool_list, tBool_dict, tStr_none, tStr_bool, tStr_int, tStr_str, tStr_tuple, tStr_list, tStr_dict, tTuple_none, tTuple_bool, tTuple_int, tTuple_str, tTuple_tuple, tTuple_list, tTuple_dict, tList_none, tList_bool, tList_int, tList_str, tList_tuple, tList_list, tList_dict, tSeq_none, tSeq_bool, tSeq_int, tSeq_str, tSeq_tuple, tSeq_list, tSeq_dict, isNoneB_none, scalarD_none, isNoneB_bool, scalarD_bool, isNoneB_int, scalarD_int, isNoneB_str, scalarD_str, isNoneB_tuple, scalarD_tuple, isNoneB_list, scalarD_list, isNoneB_dict, scalarD_dict, ixT0, ixT1, ixT2, ixT3, ixT4, ixT5, ixT6, ixT7, ixT8, ixT9, ixL0, ixL1, ixL2, ixL3, ixL4, ixL5, ixL6, ixL7, ixL8, ixL9, aI0, aI1, aI2, aI3, aI4, aI5, aI6, aI7, aI8, aI9, ixN1_0, ixN2_0, ixN2_1, ixN3_0, ixN3_1, ixN3_2, ixN4_0, ixN4_1, ixN4_2, ixN4_3, ixN5_0, ixN5_1, ixN5_2, ixN5_3, ixN5_4, ixN6_0, ixN6_1, ixN6_2, ixN6_3, ixN6_4, ixN6_5, List.map_cons, List.map_nil, List.cons_append, List.nil_append, List.replicate_zero, List.replicate_succ, List.length_cons, List.length_nil, List.getElem?_cons_zero, List.getElem?_cons_succ, List.set_cons_zero, List.set_cons_succ, List.getD_cons_zero, List.getD_cons_succ, Bool.and_true, Bool.true_and, Bool.not_false, Bool.not_true, Nat.sub_self, Nat.reduceSub, Nat.reduceAdd, Nat.zero_add, true_and, and_true, and_self, if_true, if_false, ite_true, ite_false, reduceCtorEq, false_implies, implies_true, forall_const, Bool.false_eq_true, Option.bind_some, Option.map_some, Option.bind_none, Option.map_none, runF_eq, okIo, datOf, lvsOf, argIo, isD, outO, isND, notND, vals2D, vals3D, eqDD, neDD, decide_true, decide_false, Bool.decide_eq_true, sz0, sz1, sz2, sz3, sz4, sz5, sz6, sz7, sz8, sz9, slice_t, all_t, all_l, any_l, all_lm, all_tm, any_lm, Function.comp_def, step_nx, step_ct, step_bk, step_rt, step_rl, step_ite, decide_eq_true_eq, Int.cast_ofNat_Int, Int.reduceLE, Int.reduceLT, Int.reduceAdd, Int.reduceSub, Int.reduceMul, Int.reduceNeg, Int.reduceEq, Int.reduceGT, Nat.reduceEqDiff, ne_eq, not_false_eq_true, Option.some.injEq, forall_eq', Nat.reduceLT, Bool.and_false, Bool.or_false, Bool.false_or, Bool.true_or, Bool.false_and, Bool.or_true, q5, rep_true hn1 (show r.need ≤ 1000 by omega), eqD_encB, tail_full _ hn1, t_A, q6]
      cases hf : fullB r.need h
      · simp only [ret_ap, lift_some, lift_none, var_ap, varR_d, ownAt_ap, ownL_own, ownL_d, ownL_n, frzAt_ap, frzL_own, frzL_d, frz_nil, frz_cons, frz1_own, frz1_d, frz1_n, wipe_nil, wipe_cons, restore_nil, restore_cons, clean_nil, clean_cons, isOwnL_own, isOwnL_d, isOwnL_n, bind_ap, bindR_ok, bindR_ex, bindR_bad, ofM_ap, ofR_ok, ofR_ex, ofR_bad, seq_ap, seqR_nx, seqR_rt, seqR_rl, seqR_bk, seqR_ct, seqR_ex, seqR_bad, nil_ap, pass_ap, never_ap, brk_ap, cnt_ap, retN_ap, sret_ap, sretL_ap, drop_ap, site_ap, asg_ap, own_ap, par2_ap, par3_ap, asgT_ap, asgR_some, asgR_none, gnm_ap, gnil_ap, gcons_ap, gtup_ap, andV_ap, orV_ap, andT_ap, orT_ap, notT_ap, test_ap, op1_ap, op2_ap, chain_ap, mite_ap, ite_apR, ite_apS, argN_ap, argD_ap, argS_ap, slotR_some, tup_ap, lst_ap, known_ap, call_ap, callL_ap, items_ap, part_ap, slice_ap, catL_ap, frz_ap, borrow_ap, borrowR_ok, borrowT_ap, borrowTR_ok, subO_ap, app_ap, setIx_ap, retO_ap, for_ap, lc_ap, lcR_ok, fn_ap, fnL_ap, fnR_some, fnLR_some, retR_ret, retR_retL, retLR_retL, putR_some, putO_none, putO_s0, putO_s1, putO_s2, putO_s3, putO_s4, endR_rt, endR_rl, endR_nx, endR_bad, bindR_ite, ofR_ite, seqR_ite, endR_ite, lift_ite, addD_ii, addD_ss, addD_tt, subD_ii, mulD_ii, fdivD_ii, modD_ii, powD_ii, negD_i, ltD_ii, leD_ii, gtD_ii, geD_ii, ixD_l, ixD_t, catD_ll, itemsD_l, itemsD_t, lenD_l, lenD_t, lenD_s, absD_i, maxD_ii, minD_ii, intD_i, intD_b, tupleD_l, tupleD_t, notD_b, asB_b, asI_i, eqD_ii, eqD_ss, eqD_bb, eqD_si, eqD_is, eqD_nn, eqD_nb, eqD_ni, eqD_ns, eqD_bn, eqD_in, eqD_sn, tInt_none, tInt_bool, tInt_int, tInt_str, tInt_tuple, tInt_list, tInt_dict, tBool_none, tBool_bool, tBool_int, tBool_str, tBool_tuple, tBool_list, tBool_dict, tStr_none, tStr_bool, tStr_int, tStr_str, tStr_tuple, tStr_list, tStr_dict, tTuple_none, tTuple_bool, tTuple_int, tTuple_str, tTuple_tuple, tTuple_list, tTuple_dict, tList_none, tList_bool, tList_int, tList_str, tList_tuple, tList_list, tList_dict, tSeq_none, tSeq_bool, tSeq_int, tSeq_str, tSeq_tuple, tSeq_list, tSeq_dict, isNoneB_none, scalarD_none, isNoneB_bool, scalarD_bool, isNoneB_int, scalarD_int, isNoneB_str, scalarD_str, isNoneB_tuple, scalarD_tuple, isNoneB_list, scalarD_list, isNoneB_dict, scalarD_dict, ixT0, ixT1, ixT2, ixT3, ixT4, ixT5, ixT6, ixT7, ixT8, ixT9, ixL0, ixL1, ixL2, ixL3, ixL4, ixL5, ixL6, ixL7, ixL8, ixL9, aI0, aI1, aI2, aI3, aI4, aI5, aI6, aI7, aI8, aI9, ixN1_0, ixN2_0, ixN2_1, ixN3_0, ixN3_1, ixN3_2, ixN4_0, ixN4_1, ixN4_2, ixN4_3, ixN5_0, ixN5_1, ixN5_2, ixN5_3, ixN5_4, ixN6_0, ixN6_1, ixN6_2, ixN6_3, ixN6_4, ixN6_5, List.map_cons, List.map_nil, List.cons_append, List.nil_append, List.replicate_zero, List.replicate_succ, List.length_cons, List.length_nil, List.getElem?_cons_zero, List.getElem?_cons_succ, List.set_cons_zero, List.set_cons_succ, List.getD_cons_zero, List.getD_cons_succ, Bool.and_true, Bool.true_and, Bool.not_false, Bool.not_true, Nat.sub_self, Nat.reduceSub, Nat.reduceAdd, Nat.zero_add, true_and, and_true, and_self, if_true, if_false, ite_true, ite_false, reduceCtorEq, false_implies, implies_true, forall_const, Bool.false_eq_true, Option.bind_some, Option.map_some, Option.bind_none, Option.map_none, runF_eq, okIo, datOf, lvsOf, argIo, isD, outO, isND, notND, vals2D, vals3D, eqDD, neDD, decide_true, decide_false, Bool.decide_eq_true, sz0, sz1, sz2, sz3, sz4, sz5, sz6, sz7, sz8, sz9, slice_t, all_t, all_l, any_l, all_lm, all_tm, any_lm, Function.comp_def, step_nx, step_ct, step_bk, step_rt, step_rl, step_ite, decide_eq_true_eq, Int.cast_ofNat_Int, Int.reduceLE, Int.reduceLT, Int.reduceAdd, Int.reduceSub, Int.reduceMul, Int.reduceNeg, Int.reduceEq, Int.reduceGT, Nat.reduceEqDiff, ne_eq, not_false_eq_true, Option.some.injEq, forall_eq', Nat.reduceLT, Bool.and_false, Bool.or_false, Bool.false_or, Bool.true_or, Bool.false_and, Bool.or_true]
        refine ⟨_, _, _, _, _, rfl, v.app (fun y hy => ?_), h3, by rw [List.length_append, List.length_singleton]; omega⟩
        rw [List.mem_singleton] at hy
        refine ⟨.aw h, ⟨by omega, ?_⟩, hy⟩
        unfold fullB at hf
        rw [Bool.and_eq_false_iff] at hf
        rcases hf with hf | hf
        · have := of_decide_eq_false hf
          exact .inl (by omega)
        · exact .inr hf
      · simp only [ret_ap, lift_some, lift_none, var_ap, varR_d, ownAt_ap, ownL_own, ownL_d, ownL_n, frzAt_ap, frzL_own, frzL_d, frz_nil, frz_cons, frz1_own, frz1_d, frz1_n, wipe_nil, wipe_cons, restore_nil, restore_cons, clean_nil, clean_cons, isOwnL_own, isOwnL_d, isOwnL_n, bind_ap, bindR_ok, bindR_ex, bindR_bad, ofM_ap, ofR_ok, ofR_ex, ofR_bad, seq_ap, seqR_nx, seqR_rt, seqR_rl, seqR_bk, seqR_ct, seqR_ex, seqR_bad, nil_ap, pass_ap, never_ap, brk_ap, cnt_ap, retN_ap, sret_ap, sretL_ap, drop_ap, site_ap, asg_ap, own_ap, par2_ap, par3_ap, asgT_ap, asgR_some, asgR_none, gnm_ap, gnil_ap, gcons_ap, gtup_ap, andV_ap, orV_ap, andT_ap, orT_ap, notT_ap, test_ap, op1_ap, op2_ap, chain_ap, mite_ap, ite_apR, ite_apS, argN_ap, argD_ap, argS_ap, slotR_some, tup_ap, lst_ap, known_ap, call_ap, callL_ap, items_ap, part_ap, slice_ap, catL_ap, frz_ap, borrow_ap, borrowR_ok, borrowT_ap, borrowTR_ok, subO_ap, app_ap, setIx_ap, retO_ap, for_ap, lc_ap, lcR_ok, fn_ap, fnL_ap, fnR_some, fnLR_some, retR_ret, retR_retL, retLR_retL, putR_some, putO_none, putO_s0, putO_s1, putO_s2, putO_s3, putO_s4, endR_rt, endR_rl, endR_nx, endR_bad, bindR_ite, ofR_ite, seqR_ite, endR_ite, lift_ite, addD_ii, addD_ss, addD_tt, subD_ii, mulD_ii, fdivD_ii, modD_ii, powD_ii, negD_i, ltD_ii, leD_ii, gtD_ii, geD_ii, ixD_l, ixD_t, catD_ll, itemsD_l, itemsD_t, lenD_l, lenD_t, lenD_s, absD_i, maxD_ii, minD_ii, intD_i, intD_b, tupleD_l, tupleD_t, notD_b, asB_b, asI_i, eqD_ii, eqD_ss, eqD_bb, eqD_si, eqD_is, eqD_nn, eqD_nb, eqD_ni, eqD_ns, eqD_bn, eqD_in, eqD_sn, tInt_none, tInt_bool, tInt_int, tInt_str, tInt_tuple, tInt_list, tInt_dict, tBool_none, tBool_bool, tBool_int, tBool_str, tBool_tuple, tBool_list, tBool_dict, tStr_none, tStr_bool, tStr_int, tStr_str, tStr_tuple, tStr_list, tStr_dict, tTuple_none, tTuple_bool, tTuple_int, tTuple_str, tTuple_tuple, tTuple_list, tTuple_dict, tList_none, tList_bool, tList_int, tList_str, tList_tuple, tList_list, tList_dict, tSeq_none, tSeq_bool, tSeq_int, tSeq_str, tSeq_tuple, tSeq_list, tSeq_dict, isNoneB_none, scalarD_none, isNoneB_bool, scalarD_bool, isNoneB_int, scalarD_int, isNoneB_str, scalarD_str, isNoneB_tuple, scalarD_tuple, isNoneB_list, scalarD_list, isNoneB_dict, scalarD_dict, ixT0, ixT1, ixT2, ixT3, ixT4, ixT5, ixT6, ixT7, ixT8, ixT9, ixL0, ixL1, ixL2, ixL3, ixL4, ixL5, ixL6, ixL7, ixL8, ixL9, aI0, aI1, aI2, aI3, aI4, aI5, aI6, aI7, aI8, aI9, ixN1_0, ixN2_0, ixN2_1, ixN3_0, ixN3_1, ixN3_2, ixN4_0, ixN4_1, ixN4_2, ixN4_3, ixN5_0, ixN5_1, ixN5_2, ixN5_3, ixN5_4, ixN6_0, ixN6_1, ixN6_2, ixN6_3, ixN6_4, ixN6_5, List.map_cons, List.map_nil, List.cons_append, List.nil_append, List.replicate_zero, List.replicate_succ, List.length_cons, List.length_nil, List.getElem?_cons_zero, List.getElem?_cons_succ, List.set_cons_zero, List.set_cons_succ, List.getD_cons_zero, List.getD_cons_succ, Bool.and_true, Bool.true_and, Bool.not_false, Bool.not_true, Nat.sub_self, Nat.reduceSub, Nat.reduceAdd, Nat.zero_add, true_and, and_true, and_self, if_true, if_false, ite_true, ite_false, reduceCtorEq, false_implies, implies_true, forall_const, Bool.false_eq_true, Option.bind_some, Option.map_some, Option.bind_none, Option.map_none, runF_eq, okIo, datOf, lvsOf, argIo, isD, outO, isND, notND, vals2D, vals3D, eqDD, neDD, decide_true, decide_false, Bool.decide_eq_true, sz0, sz1, sz2, sz3, sz4, sz5, sz6, sz7, sz8, sz9, slice_t, all_t, all_l, any_l, all_lm, all_tm, any_lm, Function.comp_def, step_nx, step_ct, step_bk, step_rt, step_rl, step_ite, decide_eq_true_eq, Int.cast_ofNat_Int, Int.reduceLE, Int.reduceLT, Int.reduceAdd, Int.reduceSub, Int.reduceMul, Int.reduceNeg, Int.reduceEq, Int.reduceGT, Nat.reduceEqDiff, ne_eq, not_false_eq_true, Option.some.injEq, forall_eq', Nat.reduceLT, Bool.and_false, Bool.or_false, Bool.false_or, Bool.true_or, Bool.false_and, Bool.or_true]
        exact ⟨_, _, _, _, _, rfl, v, h3, by omega⟩)
  rw [e2]
  simp only [ret_ap, lift_some, lift_none, var_ap, varR_d, ownAt_ap, ownL_own, ownL_d, ownL_n, frzAt_ap, frzL_own, frzL_d, frz_nil, frz_cons, frz1_own, frz1_d, frz1_n, wipe_nil, wipe_cons, restore_nil, restore_cons, clean_nil, clean_cons, isOwnL_own, isOwnL_d, isOwnL_n, bind_ap, bindR_ok, bindR_ex, bindR_bad, ofM_ap, ofR_ok, ofR_ex, ofR_bad, seq_ap, seqR_nx, seqR_rt, seqR_rl, seqR_bk, seqR_ct, seqR_ex, seqR_bad, nil_ap, pass_ap, never_ap, brk_ap, cnt_ap, retN_ap, sret_ap, sretL_ap, drop_ap, site_ap, asg_ap, own_ap, par2_ap, par3_ap, asgT_ap, asgR_some, asgR_none, gnm_ap, gnil_ap, gcons_ap, gtup_ap, andV_ap, orV_ap, andT_ap, orT_ap, notT_ap, test_ap, op1_ap, op2_ap, chain_ap, mite_ap, ite_apR, ite_apS, argN_ap, argD_ap, argS_ap, slotR_some, tup_ap, lst_ap, known_ap, call_ap, callL_ap, items_ap, part_ap, slice_ap, catL_ap, frz_ap, borrow_ap, borrowR_ok, borrowT_ap, borrowTR_ok, subO_ap, app_ap, setIx_ap, retO_ap, for_ap, lc_ap, lcR_ok, fn_ap, fnL_ap, fnR_some, fnLR_some, retR_ret, retR_retL, retLR_retL, putR_some, putO_none, putO_s0, putO_s1, putO_s2, putO_s3, putO_s4, endR_rt, endR_rl, endR_nx, endR_bad, bindR_ite, ofR_ite, seqR_ite, endR_ite, lift_ite, addD_ii, addD_ss, addD_tt, subD_ii, mulD_ii, fdivD_ii, modD_ii, powD_ii, negD_i, ltD_ii, leD_ii, gtD_ii, geD_ii, ixD_l, ixD_t, catD_ll, itemsD_l, itemsD_t, lenD_l, lenD_t, lenD_s, absD_i, maxD_ii, minD_ii, intD_i, intD_b, tupleD_l, tupleD_t, notD_b, asB_b, asI_i, eqD_ii, eqD_ss, eqD_bb, eqD_si, eqD_is, eqD_nn, eqD_nb, eqD_ni, eqD_ns, eqD_bn, eqD_in, eqD_sn, tInt_none, tInt_bool, tInt_int, tInt_str, tInt_tuple, tInt_list, tInt_dict, tBool_none, tBool_bool, tBool_int, tBool_str, tBool_tuple, tBool_list, tBool_dict, tStr_none, tStr_bool, tStr_int, tStr_str, tStr_tuple, tStr_list, tStr_dict, tTuple_none, tTuple_bool, tTuple_int, tTuple_str, tTuple_tuple, tTuple_list, tTuple_dict, tList_none, tList_bool, tList_int, tList_str, tList_tuple, tList_list, tList_dict, tSeq_none, tSeq_bool, tSeq_int, tSeq_str, tSeq_tuple, tSeq_list, tSeq_dict, isNoneB_none, scalarD_none, isNoneB_bool, scalarD_bool, isNoneB_int, scalarD_int, isNoneB_str, scalarD_str, isNoneB_tuple, scalarD_tuple, isNoneB_list, scalarD_list, isNoneB_dict, scalarD_dict, ixT0, ixT1, ixT2, ixT3, ixT4, ixT5, ixT6, ixT7, ixT8, ixT9, ixL0, ixL1, ixL2, ixL3, ixL4, ixL5, ixL6, ixL7, ixL8, ixL9, aI0, aI1, aI2, aI3, aI4, aI5, aI6, aI7, aI8, aI9, ixN1_0, ixN2_0, ixN2_1, ixN3_0, ixN3_1, ixN3_2, ixN4_0, ixN4_1, ixN4_2, ixN4_3, ixN5_0, ixN5_1, ixN5_2, ixN5_3, ixN5_4, ixN6_0, ixN6_1, ixN6_2, ixN6_3, ixN6_4, ixN6_5, List.map_cons, List.map_nil, List.cons_append, List.nil_append, List.replicate_zero, List.replicate_succ, List.length_cons, List.length_nil, List.getElem?_cons_zero, List.getElem?_cons_succ, List.set_cons_zero, List.set_cons_succ, List.getD_cons_zero, List.getD_cons_succ, Bool.and_true, Bool.true_and, Bool.not_false, Bool.not_true, Nat.sub_self, Nat.reduceSub, Nat.reduceAdd, Nat.zero_add, true_and, and_true, and_self, if_true, if_false, ite_true, ite_false, reduceCtorEq, false_implies, implies_true, forall_const, Bool.false_eq_true, Option.bind_some, Option.map_some, Option.bind_none, Option.map_none, runF_eq, okIo, datOf, lvsOf, argIo, isD, outO, isND, notND, vals2D, vals3D, eqDD, neDD, decide_true, decide_false, Bool.decide_eq_true, sz0, sz1, sz2, sz3, sz4, sz5, sz6, sz7, sz8, sz9, slice_t, all_t, all_l, any_l, all_lm, all_tm, any_lm, Function.comp_def, step_nx, step_ct, step_bk, step_rt, step_rl, step_ite, decide_eq_true_eq, Int.cast_ofNat_Int, Int.reduceLE, Int.reduceLT, Int.reduceAdd, Int.reduceSub, Int.reduceMul, Int.reduceNeg, Int.reduceEq, Int.reduceGT, Nat.reduceEqDiff, ne_eq, not_false_eq_true, Option.some.injEq, forall_eq', Nat.reduceLT, Bool.and_false, Bool.or_false, Bool.false_or, Bool.true_or, Bool.false_and, Bool.or_true]
  exact ⟨_, _, rfl, v2, x2⟩
/-! ### the law -/
theorem ss_A : PyData.strOk sAw = true := by decide +kernel
theorem ss_R : PyData.strOk sRc = true := by decide +kernel
theorem ss_S : PyData.strOk sSl = true := by decide +kernel
theorem sh_encB (h : List Bool) : Sh 1 (encB h) := sh_tup fun x hx => by
  obtain ⟨b, _, rfl⟩ := List.mem_map.mp hx
  exact sh_bool b
theorem sh_cons {n : Nat} {x : D} {xs : List D} (h : Sh n x) (h2 : ∀ y ∈ xs, Sh n y) : ∀ y ∈ x :: xs, Sh n y := fun y hy => by
  rcases List.mem_cons.mp hy with e | e
  · rw [e]; exact h
  · exact h2 y e
theorem sh_nil {n : Nat} : ∀ y ∈ ([] : List D), Sh n y := fun y hy => by simp at hy
theorem sh_encS (s : Sd) : Sh 2 (encS s) := by
  have e : Sh 1 (.tuple []) := sh_tup (n := 0) sh_nil
  cases s with
  | aw h => exact sh_tup (sh_cons ((sh_str ss_A).up (by decide)) (sh_cons ((sh_int _).up (by decide)) (sh_cons ((sh_int _).up (by decide)) (sh_cons (sh_encB h) sh_nil))))
  | rc c q => exact sh_tup (sh_cons ((sh_str ss_R).up (by decide)) (sh_cons ((sh_int _).up (by decide)) (sh_cons ((sh_int _).up (by decide)) (sh_cons e sh_nil))))
  | sl c => exact sh_tup (sh_cons ((sh_str ss_S).up (by decide)) (sh_cons ((sh_int _).up (by decide)) (sh_cons ((sh_int _).up (by decide)) (sh_cons e sh_nil))))
theorem twins8 (n : Nat) (hn : n + 1 = 8) {x : D} (h : Sh 2 x) : F_f_law_twins 8 [.d x, .d x] = .ret (.bool true) none := by
  have : n = 7 := by omega
  subst this
  exact F_twins_self 7 x (h.up (by decide)) (by decide)
theorem F_law_ok {ns : List Int} (hb : ∀ n ∈ ns, n.natAbs.log2 ≤ 1048576) (hl : ns.length ≤ 1000) : F_law [.d (.list (ns.map .int))] = .ret (.bool true) none := by
  unfold F_law
  simp only [ret_ap, lift_some, lift_none, var_ap, varR_d, ownAt_ap, ownL_own, ownL_d, ownL_n, frzAt_ap, frzL_own, frzL_d, frz_nil, frz_cons, frz1_own, frz1_d, frz1_n, wipe_nil, wipe_cons, restore_nil, restore_cons, clean_nil, clean_cons, isOwnL_own, isOwnL_d, isOwnL_n, bind_ap, bindR_ok, bindR_ex, bindR_bad, ofM_ap, ofR_ok, ofR_ex, ofR_bad, seq_ap, seqR_nx, seqR_rt, seqR_rl, seqR_bk, seqR_ct, seqR_ex, seqR_bad, nil_ap, pass_ap, never_ap, brk_ap, cnt_ap, retN_ap, sret_ap, sretL_ap, drop_ap, site_ap, asg_ap, own_ap, par2_ap, par3_ap, asgT_ap, asgR_some, asgR_none, gnm_ap, gnil_ap, gcons_ap, gtup_ap, andV_ap, orV_ap, andT_ap, orT_ap, notT_ap, test_ap, op1_ap, op2_ap, chain_ap, mite_ap, ite_apR, ite_apS, argN_ap, argD_ap, argS_ap, slotR_some, tup_ap, lst_ap, known_ap, call_ap, callL_ap, items_ap, part_ap, slice_ap, catL_ap, frz_ap, borrow_ap, borrowR_ok, borrowT_ap, borrowTR_ok, subO_ap, app_ap, setIx_ap, retO_ap, for_ap, lc_ap, lcR_ok, fn_ap, fnL_ap, fnR_some, fnLR_some, retR_ret, retR_retL, retLR_retL, putR_some, putO_none, putO_s0, putO_s1, putO_s2, putO_s3, putO_s4, endR_rt, endR_rl, endR_nx, endR_bad, bindR_ite, ofR_ite, seqR_ite, endR_ite, lift_ite, addD_ii, addD_ss, addD_tt, subD_ii, mulD_ii, fdivD_ii, modD_ii, powD_ii, negD_i, ltD_ii, leD_ii, gtD_ii, geD_ii, ixD_l, ixD_t, catD_ll, itemsD_l, itemsD_t, lenD_l, lenD_t, lenD_s, absD_i, maxD_ii, minD_ii, intD_i, intD_b, tupleD_l, tupleD_t, notD_b, asB_b, asI_i, eqD_ii, eqD_ss, eqD_bb, eqD_si, eqD_is, eqD_nn, eqD_nb, eqD_ni, eqD_ns, eqD_bn, eqD_in, eqD_sn, tInt_none, tInt_bool, tInt_int, tInt_str, tInt_tuple, tInt_list, tInt_dict, tBool_none, tBool_bool, tBool_int, tBool_str, tBool_tuple, tBool_list, tBool_dict, tStr_none, tStr_bool, tStr_int, tStr_str, tStr_tuple, tStr_list, tStr_dict, tTuple_none, tTuple_bool, tTuple_int, tTuple_str, tTuple_tuple, tTuple_list, tTuple_dict, tList_none, tList_bool, tList_int, tList_str, tList_tuple, tList_list, tList_dict, tSeq_none, tSeq_bool, tSeq_int, tSeq_str, tSeq_tuple, tSeq_list, tSeq_dict, isNoneB_none, scalarD_none, isNoneB_bool, scalarD_bool, isNoneB_int, scalarD_int, isNoneB_str, scalarD_str, isNoneB_tuple, scalarD_tuple, isNoneB_list, scalarD_list, isNoneB_dict, scalarD_dict, ixT0, ixT1, ixT2, ixT3, ixT4, ixT5, ixT6, ixT7, ixT8, ixT9, ixL0, ixL1, ixL2, ixL3, ixL4, ixL5, ixL6, ixL7, ixL8, ixL9, aI0, aI1, aI2, aI3, aI4, aI5, aI6, aI7, aI8, aI9, ixN1_0, ixN2_0, ixN2_1, ixN3_0, ixN3_1, ixN3_2, ixN4_0, ixN4_1, ixN4_2, ixN4_3, ixN5_0, ixN5_1, ixN5_2, ixN5_3, ixN5_4, ixN6_0, ixN6_1, ixN6_2, ixN6_3, ixN6_4, ixN6_5, List.map_cons, List.map_nil, List.cons_append, List.nil_append, List.replicate_zero, List.replicate_succ, List.length_cons, List.length_nil, List.getElem?_cons_zero, List.getElem?_cons_succ, List.set_cons_zero, List.set_cons_succ, List.getD_cons_zero, List.getD_cons_succ, Bool.and_true, Bool.true_and, Bool.not_false, Bool.not_true, Nat.sub_self, Nat.reduceSub, Nat.reduceAdd, Nat.zero_add, true_and, and_true, and_self, if_true, if_false, ite_true, ite_false, reduceCtorEq, false_implies, implies_true, forall_const, Bool.false_eq_true, Option.bind_some, Option.map_some, Option.bind_none, Option.map_none, runF_eq, okIo, datOf, lvsOf, argIo, isD, outO, isND, notND, vals2D, vals3D, eqDD, neDD, decide_true, decide_false, Bool.decide_eq_true, sz0, sz1, sz2, sz3, sz4, sz5, sz6, sz7, sz8, sz9, slice_t, all_t, all_l, any_l, all_lm, all_tm, any_lm, Function.comp_def, step_nx, step_ct, step_bk, step_rt, step_rl, step_ite, decide_eq_true_eq, Int.cast_ofNat_Int, Int.reduceLE, Int.reduceLT, Int.reduceAdd, Int.reduceSub, Int.reduceMul, Int.reduceNeg, Int.reduceEq, Int.reduceGT, Nat.reduceEqDiff, ne_eq, not_false_eq_true, Option.some.injEq, forall_eq', Nat.reduceLT, Bool.and_false, Bool.or_false, Bool.false_or, Bool.true_or, Bool.false_and, Bool.or_true]
  unfold g_law
  simp only [ret_ap, lift_some, lift_none, var_ap, varR_d, ownAt_ap, ownL_own, ownL_d, ownL_n, frzAt_ap, frzL_own, frzL_d, frz_nil, frz_cons, frz1_own, frz1_d, frz1_n, wipe_nil, wipe_cons, restore_nil, restore_cons, clean_nil, clean_cons, isOwnL_own, isOwnL_d, isOwnL_n, bind_ap, bindR_ok, bindR_ex, bindR_bad, ofM_ap, ofR_ok, ofR_ex, ofR_bad, seq_ap, seqR_nx, seqR_rt, seqR_rl, seqR_bk, seqR_ct, seqR_ex, seqR_bad, nil_ap, pass_ap, never_ap, brk_ap, cnt_ap, retN_ap, sret_ap, sretL_ap, drop_ap, site_ap, asg_ap, own_ap, par2_ap, par3_ap, asgT_ap, asgR_some, asgR_none, gnm_ap, gnil_ap, gcons_ap, gtup_ap, andV_ap, orV_ap, andT_ap, orT_ap, notT_ap, test_ap, op1_ap, op2_ap, chain_ap, mite_ap, ite_apR, ite_apS, argN_ap, argD_ap, argS_ap, slotR_some, tup_ap, lst_ap, known_ap, call_ap, callL_ap, items_ap, part_ap, slice_ap, catL_ap, frz_ap, borrow_ap, borrowR_ok, borrowT_ap, borrowTR_ok, subO_ap, app_ap, setIx_ap, retO_ap, for_ap, lc_ap, lcR_ok, fn_ap, fnL_ap, fnR_some, fnLR_some, retR_ret, retR_retL, retLR_retL, putR_some, putO_none, putO_s0, putO_s1, putO_s2, putO_s3, putO_s4, endR_rt, endR_rl, endR_nx, endR_bad, bindR_ite, ofR_ite, seqR_ite, endR_ite, lift_ite, addD_ii, addD_ss, addD_tt, subD_ii, mulD_ii, fdivD_ii, modD_ii, powD_ii, negD_i, ltD_ii, leD_ii, gtD_ii, geD_ii, ixD_l, ixD_t, catD_ll, itemsD_l, itemsD_t, lenD_l, lenD_t, lenD_s, absD_i, maxD_ii, minD_ii, intD_i, intD_b, tupleD_l, tupleD_t, notD_b, asB_b, asI_i, eqD_ii, eqD_ss, eqD_bb, eqD_si, eqD_is, eqD_nn, eqD_nb, eqD_ni, eqD_ns, eqD_bn, eqD_in, eqD_sn, tInt_none, tInt_bool, tInt_int, tInt_str, tInt_tuple, tInt_list, tInt_dict, tBool_none, tBool_bool, tBool_int, tBool_str, tBool_tuple, tBool_list, tBool_dict, tStr_none, tStr_bool, tStr_int, tStr_str, tStr_tuple, tStr_list, tStr_dict, tTuple_none, tTuple_bool, tTuple_int, tTuple_str, tTuple_tuple, tTuple_list, tTuple_dict, tList_none, tList_bool, tList_int, tList_str, tList_tuple, tList_list, tList_dict, tSeq_none, tSeq_bool, tSeq_int, tSeq_str, tSeq_tuple, tSeq_list, tSeq_dict, isNoneB_none, scalarD_none, isNoneB_bool, scalarD_bool, isNoneB_int, scalarD_int, isNoneB_str, scalarD_str, isNoneB_tuple, scalarD_tuple, isNoneB_list, scalarD_list, isNoneB_dict, scalarD_dict, ixT0, ixT1, ixT2, ixT3, ixT4, ixT5, ixT6, ixT7, ixT8, ixT9, ixL0, ixL1, ixL2, ixL3, ixL4, ixL5, ixL6, ixL7, ixL8, ixL9, aI0, aI1, aI2, aI3, aI4, aI5, aI6, aI7, aI8, aI9, ixN1_0, ixN2_0, ixN2_1, ixN3_0, ixN3_1, ixN3_2, ixN4_0, ixN4_1, ixN4_2, ixN4_3, ixN5_0, ixN5_1, ixN5_2, ixN5_3, ixN5_4, ixN6_0, ixN6_1, ixN6_2, ixN6_3, ixN6_4, ixN6_5, List.map_cons, List.map_nil, List.cons_append, List.nil_append, List.replicate_zero, List.replicate_succ, List.length_cons, List.length_nil, List.getElem?_cons_zero, List.getElem?_cons_succ, List.set_cons_zero, List.set_cons_succ, List.getD_cons_zero, List.getD_cons_succ, Bool.and_true, Bool.true_and, Bool.not_false, Bool.not_true, Nat.sub_self, Nat.reduceSub, Nat.reduceAdd, Nat.zero_add, true_and, and_true, and_self, if_true, if_false, ite_true, ite_false, reduceCtorEq, false_implies, implies_true, forall_const, Bool.false_eq_true, Option.bind_some, Option.map_some, Option.bind_none, Option.map_none, runF_eq, okIo, datOf, lvsOf, argIo, isD, outO, isND, notND, vals2D, vals3D, eqDD, neDD, decide_true, decide_false, Bool.decide_eq_true, sz0, sz1, sz2, sz3, sz4, sz5, sz6, sz7, sz8, sz9, slice_t, all_t, all_l, any_l, all_lm, all_tm, any_lm, Function.comp_def, step_nx, step_ct, step_bk, step_rt, step_rl, step_ite, decide_eq_true_eq, Int.cast_ofNat_Int, Int.reduceLE, Int.reduceLT, Int.reduceAdd, Int.reduceSub, Int.reduceMul, Int.reduceNeg, Int.reduceEq, Int.reduceGT, Nat.reduceEqDiff, ne_eq, not_false_eq_true, Option.some.injEq, forall_eq', Nat.reduceLT, Bool.and_false, Bool.or_false, Bool.false_or, Bool.true_or, Bool.false_and, Bool.or_true, List.length_map, range1_ok (j := (if (8 : Int) < ns.length then 8 else (ns.length : Int)) + 1) (by split <;> omega) (by split <;> omega)]
  obtain ⟨ρ1, e1, a1, a2, a3, a4, a5, rfl⟩ := forD_invN (G := G.nm 1) (g := B_law_1)
    (fun i ρ => ∃ a1 a2 a3 a4 a5, ρ = [some (LV.d (.list (ns.map .int))), a1, a2, a3, a4, a5]) (rangeD 0 ((if (8 : Int) < ns.length then 8 else (ns.length : Int)) + 1).toNat) _ ⟨_, _, _, _, _, rfl⟩ (by
      intro i x ρ hx hI
      obtain ⟨rfl, hi⟩ := get_rangeD hx
      obtain ⟨a1, a2, a3, a4, a5, rfl⟩ := hI
      refine ⟨_, rfl, ?_⟩
      have hat : (0 : Int) + i ≤ 1000 := by split at hi <;> omega
      generalize hc : (0 : Int) + (i : Int) = c at hat
      obtain ⟨x1, p1, h1⟩ := F_spring_ok hb hl (at' := c) (by omega) hat
      obtain ⟨r, x2, p2, hr, h2⟩ := F_recorder_ok h1
      obtain ⟨ys, x3, p3, v, h3⟩ := F_stands_ok hr h2
      simp only [ret_ap, lift_some, lift_none, var_ap, varR_d, ownAt_ap, ownL_own, ownL_d, ownL_n, frzAt_ap, frzL_own, frzL_d, frz_nil, frz_cons, frz1_own, frz1_d, frz1_n, wipe_nil, wipe_cons, restore_nil, restore_cons, clean_nil, clean_cons, isOwnL_own, isOwnL_d, isOwnL_n, bind_ap, bindR_ok, bindR_ex, bindR_bad, ofM_ap, ofR_ok, ofR_ex, ofR_bad, seq_ap, seqR_nx, seqR_rt, seqR_rl, seqR_bk, seqR_ct, seqR_ex, seqR_bad, nil_ap, pass_ap, never_ap, brk_ap, cnt_ap, retN_ap, sret_ap, sretL_ap, drop_ap, site_ap, asg_ap, own_ap, par2_ap, par3_ap, asgT_ap, asgR_some, asgR_none, gnm_ap, gnil_ap, gcons_ap, gtup_ap, andV_ap, orV_ap, andT_ap, orT_ap, notT_ap, test_ap, op1_ap, op2_ap, chain_ap, mite_ap, ite_apR, ite_apS, argN_ap, argD_ap, argS_ap, slotR_some, tup_ap, lst_ap, known_ap, call_ap, callL_ap, items_ap, part_ap, slice_ap, catL_ap, frz_ap, borrow_ap, borrowR_ok, borrowT_ap, borrowTR_ok, subO_ap, app_ap, setIx_ap, retO_ap, for_ap, lc_ap, lcR_ok, fn_ap, fnL_ap, fnR_some, fnLR_some, retR_ret, retR_retL, retLR_retL, putR_some, putO_none, putO_s0, putO_s1, putO_s2, putO_s3, putO_s4, endR_rt, endR_rl, endR_nx, endR_bad, bindR_ite, ofR_ite, seqR_ite, endR_ite, lift_ite, addD_ii, addD_ss, addD_tt, subD_ii, mulD_ii, fdivD_ii, modD_ii, powD_ii, negD_i, ltD_ii, leD_ii, gtD_ii, geD_ii, ixD_l, ixD_t, catD_ll, itemsD_l, itemsD_t, lenD_l, lenD_t, lenD_s, absD_i, maxD_ii, minD_ii, intD_i, intD_b, tupleD_l, tupleD_t, notD_b, asB_b, asI_i, eqD_ii, eqD_ss, eqD_bb, eqD_si, eqD_is, eqD_nn, eqD_nb, eqD_ni, eqD_ns, eqD_bn, eqD_in, eqD_sn, tInt_none, tInt_bool, tInt_int, tInt_str, tInt_tuple, tInt_list, tInt_dict, tBool_none, tBool_bool, tBool_int, tBool_str, tBool_tuple, tBool_list, tBool_dict, tStr_none, tStr_bool, tStr_int, tStr_str, tStr_tuple, tStr_list, tStr_dict, tTuple_none, tTuple_bool, tTuple_int, tTuple_str, tTuple_tuple, tTuple_list, tTuple_dict, tList_none, tList_bool, tList_int, tList_str, tList_tuple, tList_list, tList_dict, tSeq_none, tSeq_bool, tSeq_int, tSeq_str, tSeq_tuple, tSeq_list, tSeq_dict, isNoneB_none, scalarD_none, isNoneB_bool, scalarD_bool, isNoneB_int, scalarD_int, isNoneB_str, scalarD_str, isNoneB_tuple, scalarD_tuple, isNoneB_list, scalarD_list, isNoneB_dict, scalarD_dict, ixT0, ixT1, ixT2, ixT3, ixT4, ixT5, ixT6, ixT7, ixT8, ixT9, ixL0, ixL1, ixL2, ixL3, ixL4, ixL5, ixL6, ixL7, ixL8, ixL9, aI0, aI1, aI2, aI3, aI4, aI5, aI6, aI7, aI8, aI9, ixN1_0, ixN2_0, ixN2_1, ixN3_0, ixN3_1, ixN3_2, ixN4_0, ixN4_1, ixN4_2, ixN4_3, ixN5_0, ixN5_1, ixN5_2, ixN5_3, ixN5_4, ixN6_0, ixN6_1, ixN6_2, ixN6_3, ixN6_4, ixN6_5, List.map_cons, List.map_nil, List.cons_append, List.nil_append, List.replicate_zero, List.replicate_succ, List.length_cons, List.length_nil, List.getElem?_cons_zero, List.getElem?_cons_succ, List.set_cons_zero, List.set_cons_succ, List.getD_cons_zero, List.getD_cons_succ, Bool.and_true, Bool.true_and, Bool.not_false, Bool.not_true, Nat.sub_self, Nat.reduceSub, Nat.reduceAdd, Nat.zero_add, true_and, and_true, and_self, if_true, if_false, ite_true, ite_false, reduceCtorEq, false_implies, implies_true, forall_const, Bool.false_eq_true, Option.bind_some, Option.map_some, Option.bind_none, Option.map_none, runF_eq, okIo, datOf, lvsOf, argIo, isD, outO, isND, notND, vals2D, vals3D, eqDD, neDD, decide_true, decide_false, Bool.decide_eq_true, sz0, sz1, sz2, sz3, sz4, sz5, sz6, sz7, sz8, sz9, slice_t, all_t, all_l, any_l, all_lm, all_tm, any_lm, Function.comp_def, step_nx, step_ct, step_bk, step_rt, step_rl, step_ite, decide_eq_true_eq, Int.cast_ofNat_Int, Int.reduceLE, Int.reduceLT, Int.reduceAdd, Int.reduceSub, Int.reduceMul, Int.reduceNeg, Int.reduceEq, Int.reduceGT, Nat.reduceEqDiff, ne_eq, not_false_eq_true, Option.some.injEq, forall_eq', Nat.reduceLT, Bool.and_false, Bool.or_false, Bool.false_or, Bool.true_or, Bool.false_and, Bool.or_true, B_law_1, p1, p2, p3]
      obtain ⟨ρ2, e2, b4, b5, rfl⟩ := forD_invN (G := G.nm 4) (g := B_law_2)
        (fun i ρ => ∃ a4 a5, ρ = [some (LV.d (.list (ns.map .int))), some (LV.d (.int c)), some (LV.own x3), some (LV.d (encR r)), a4, a5]) ys _ ⟨_, _, rfl⟩ (by
          intro i y ρ hy hI
          obtain ⟨a4, a5, rfl⟩ := hI
          obtain ⟨s, hs, rfl⟩ := v y (List.mem_of_getElem? hy)
          refine ⟨_, rfl, ?_⟩
          simp only [ret_ap, lift_some, lift_none, var_ap, varR_d, ownAt_ap, ownL_own, ownL_d, ownL_n, frzAt_ap, frzL_own, frzL_d, frz_nil, frz_cons, frz1_own, frz1_d, frz1_n, wipe_nil, wipe_cons, restore_nil, restore_cons, clean_nil, clean_cons, isOwnL_own, isOwnL_d, isOwnL_n, bind_ap, bindR_ok, bindR_ex, bindR_bad, ofM_ap, ofR_ok, ofR_ex, ofR_bad, seq_ap, seqR_nx, seqR_rt, seqR_rl, seqR_bk, seqR_ct, seqR_ex, seqR_bad, nil_ap, pass_ap, never_ap, brk_ap, cnt_ap, retN_ap, sret_ap, sretL_ap, drop_ap, site_ap, asg_ap, own_ap, par2_ap, par3_ap, asgT_ap, asgR_some, asgR_none, gnm_ap, gnil_ap, gcons_ap, gtup_ap, andV_ap, orV_ap, andT_ap, orT_ap, notT_ap, test_ap, op1_ap, op2_ap, chain_ap, mite_ap, ite_apR, ite_apS, argN_ap, argD_ap, argS_ap, slotR_some, tup_ap, lst_ap, known_ap, call_ap, callL_ap, items_ap, part_ap, slice_ap, catL_ap, frz_ap, borrow_ap, borrowR_ok, borrowT_ap, borrowTR_ok, subO_ap, app_ap, setIx_ap, retO_ap, for_ap, lc_ap, lcR_ok, fn_ap, fnL_ap, fnR_some, fnLR_some, retR_ret, retR_retL, retLR_retL, putR_some, putO_none, putO_s0, putO_s1, putO_s2, putO_s3, putO_s4, endR_rt, endR_rl, endR_nx, endR_bad, bindR_ite, ofR_ite, seqR_ite, endR_ite, lift_ite, addD_ii, addD_ss, addD_tt, subD_ii, mulD_ii, fdivD_ii, modD_ii, powD_ii, negD_i, ltD_ii, leD_ii, gtD_ii, geD_ii, ixD_l, ixD_t, catD_ll, itemsD_l, itemsD_t, lenD_l, lenD_t, lenD_s, absD_i, maxD_ii, minD_ii, intD_i, intD_b, tupleD_l, tupleD_t, notD_b, asB_b, asI_i, eqD_ii, eqD_ss, eqD_bb, eqD_si, eqD_is, eqD_nn, eqD_nb, eqD_ni, eqD_ns, eqD_bn, eqD_in, eqD_sn, tInt_none, tInt_bool, tInt_int, tInt_str, tInt_tuple, tInt_list, tInt_dict, tBool_none, tBool_bool, tBool_int, tBool_str, tBool_tuple, tBool_list, tBool_dict, tStr_none, tStr_bool, tStr_int, tStr_str, tStr_tuple, tStr_list, tStr_dict, tTuple_none, tTuple_bool, tTuple_int, tTuple_str, tTuple_tuple, tTuple_list, tTuple_dict, tList_none, tList_bool, tList_int, tList_str, tList_tuple, tList_list, tList_dict, tSeq_none, tSeq_bool, tSeq_int, tSeq_str, tSeq_tuple, tSeq_list, tSeq_dict, isNoneB_none, scalarD_none, isNoneB_bool, scalarD_bool, isNoneB_int, scalarD_int, isNoneB_str, scalarD_str, isNoneB_tuple, scalarD_tuple, isNoneB_list, scalarD_list, isNoneB_dict, scalarD_dict, ixT0, ixT1, ixT2, ixT3, ixT4, ixT5, ixT6, ixT7, ixT8, ixT9, ixL0, ixL1, ixL2, ixL3, ixL4, ixL5, ixL6, ixL7, ixL8, ixL9, aI0, aI1, aI2, aI3, aI4, aI5, aI6, aI7, aI8, aI9, ixN1_0, ixN2_0, ixN2_1, ixN3_0, ixN3_1, ixN3_2, ixN4_0, ixN4_1, ixN4_2, ixN4_3, ixN5_0, ixN5_1, ixN5_2, ixN5_3, ixN5_4, ixN6_0, ixN6_1, ixN6_2, ixN6_3, ixN6_4, ixN6_5, List.map_cons, List.map_nil, List.cons_append, List.nil_append, List.replicate_zero, List.replicate_succ, List.length_cons, List.length_nil, List.getElem?_cons_zero, List.getElem?_cons_succ, List.set_cons_zero, List.set_cons_succ, List.getD_cons_zero, List.getD_cons_succ, Bool.and_true, Bool.true_and, Bool.not_false, Bool.not_true, Nat.sub_self, Nat.reduceSub, Nat.reduceAdd, Nat.zero_add, true_and, and_true, and_self, if_true, if_false, ite_true, ite_false, reduceCtorEq, false_implies, implies_true, forall_const, Bool.false_eq_true, Option.bind_some, Option.map_some, Option.bind_none, Option.map_none, runF_eq, okIo, datOf, lvsOf, argIo, isD, outO, isND, notND, vals2D, vals3D, eqDD, neDD, decide_true, decide_false, Bool.decide_eq_true, sz0, sz1, sz2, sz3, sz4, sz5, sz6, sz7, sz8, sz9, slice_t, all_t, all_l, any_l, all_lm, all_tm, any_lm, Function.comp_def, step_nx, step_ct, step_bk, step_rt, step_rl, step_ite, decide_eq_true_eq, Int.cast_ofNat_Int, Int.reduceLE, Int.reduceLT, Int.reduceAdd, Int.reduceSub, Int.reduceMul, Int.reduceNeg, Int.reduceEq, Int.reduceGT, Nat.reduceEqDiff, ne_eq, not_false_eq_true, Option.some.injEq, forall_eq', Nat.reduceLT, Bool.and_false, Bool.or_false, Bool.false_or, Bool.true_or, Bool.false_and, Bool.or_true, B_law_2, F_is_stand_ok hr hs]
          obtain ⟨ρ3, e3, b5, rfl⟩ := forD_invN (G := G.nm 5) (g := B_law_3)
            (fun i ρ => ∃ a5, ρ = [some (LV.d (.list (ns.map .int))), some (LV.d (.int c)), some (LV.own x3), some (LV.d (encR r)), some (LV.d (encS s)), a5]) [.bool false, .bool true] _ ⟨_, rfl⟩ (by
              intro i y ρ hy hI
              obtain ⟨a5, rfl⟩ := hI
              have hy2 : ∃ b, y = .bool b := by
                have := List.mem_of_getElem? hy
                simp only [List.mem_cons, List.not_mem_nil, or_false] at this
                rcases this with h | h <;> exact ⟨_, h⟩
              obtain ⟨b, rfl⟩ := hy2
              refine ⟨_, rfl, ?_⟩
              simp only [ret_ap, lift_some, lift_none, var_ap, varR_d, ownAt_ap, ownL_own, ownL_d, ownL_n, frzAt_ap, frzL_own, frzL_d, frz_nil, frz_cons, frz1_own, frz1_d, frz1_n, wipe_nil, wipe_cons, restore_nil, restore_cons, clean_nil, clean_cons, isOwnL_own, isOwnL_d, isOwnL_n, bind_ap, bindR_ok, bindR_ex, bindR_bad, ofM_ap, ofR_ok, ofR_ex, ofR_bad, seq_ap, seqR_nx, seqR_rt, seqR_rl, seqR_bk, seqR_ct, seqR_ex, seqR_bad, nil_ap, pass_ap, never_ap, brk_ap, cnt_ap, retN_ap, sret_ap, sretL_ap, drop_ap, site_ap, asg_ap, own_ap, par2_ap, par3_ap, asgT_ap, asgR_some, asgR_none, gnm_ap, gnil_ap, gcons_ap, gtup_ap, andV_ap, orV_ap, andT_ap, orT_ap, notT_ap, test_ap, op1_ap, op2_ap, chain_ap, mite_ap, ite_apR, ite_apS, argN_ap, argD_ap, argS_ap, slotR_some, tup_ap, lst_ap, known_ap, call_ap, callL_ap, items_ap, part_ap, slice_ap, catL_ap, frz_ap, borrow_ap, borrowR_ok, borrowT_ap, borrowTR_ok, subO_ap, app_ap, setIx_ap, retO_ap, for_ap, lc_ap, lcR_ok, fn_ap, fnL_ap, fnR_some, fnLR_some, retR_ret, retR_retL, retLR_retL, putR_some, putO_none, putO_s0, putO_s1, putO_s2, putO_s3, putO_s4, endR_rt, endR_rl, endR_nx, endR_bad, bindR_ite, ofR_ite, seqR_ite, endR_ite, lift_ite, addD_ii, addD_ss, addD_tt, subD_ii, mulD_ii, fdivD_ii, modD_ii, powD_ii, negD_i, ltD_ii, leD_ii, gtD_ii, geD_ii, ixD_l, ixD_t, catD_ll, itemsD_l, itemsD_t, lenD_l, lenD_t, lenD_s, absD_i, maxD_ii, minD_ii, intD_i, intD_b, tupleD_l, tupleD_t, notD_b, asB_b, asI_i, eqD_ii, eqD_ss, eqD_bb, eqD_si, eqD_is, eqD_nn, eqD_nb, eqD_ni, eqD_ns, eqD_bn, eqD_in, eqD_sn, tInt_none, tInt_bool, tInt_int, tInt_str, tInt_tuple, tInt_list, tInt_dict, tBool_none, tBool_bool, tBool_int, tBool_str, tBool_tuple, tBool_list, tBool_dict, tStr_none, tStr_bool, tStr_int, tStr_str, tStr_tuple, tStr_list, tStr_dict, tTuple_none, tTuple_bool, tTuple_int, tTuple_str, tTuple_tuple, tTuple_list, tTuple_dict, tList_none, tList_bool, tList_int, tList_str, tList_tuple, tList_list, tList_dict, tSeq_none, tSeq_bool, tSeq_int, tSeq_str, tSeq_tuple, tSeq_list, tSeq_dict, isNoneB_none, scalarD_none, isNoneB_bool, scalarD_bool, isNoneB_int, scalarD_int, isNoneB_str, scalarD_str, isNoneB_tuple, scalarD_tuple, isNoneB_list, scalarD_list, isNoneB_dict, scalarD_dict, ixT0, ixT1, ixT2, ixT3, ixT4, ixT5, ixT6, ixT7, ixT8, ixT9, ixL0, ixL1, ixL2, ixL3, ixL4, ixL5, ixL6, ixL7, ixL8, ixL9, aI0, aI1, aI2, aI3, aI4, aI5, aI6, aI7, aI8, aI9, ixN1_0, ixN2_0, ixN2_1, ixN3_0, ixN3_1, ixN3_2, ixN4_0, ixN4_1, ixN4_2, ixN4_3, ixN5_0, ixN5_1, ixN5_2, ixN5_3, ixN5_4, ixN6_0, ixN6_1, ixN6_2, ixN6_3, ixN6_4, ixN6_5, List.map_cons, List.map_nil, List.cons_append, List.nil_append, List.replicate_zero, List.replicate_succ, List.length_cons, List.length_nil, List.getElem?_cons_zero, List.getElem?_cons_succ, List.set_cons_zero, List.set_cons_succ, List.getD_cons_zero, List.getD_cons_succ, Bool.and_true, Bool.true_and, Bool.not_false, Bool.not_true, Nat.sub_self, Nat.reduceSub, Nat.reduceAdd, Nat.zero_add, true_and, and_true, and_self, if_true, if_false, ite_true, ite_false, reduceCtorEq, false_implies, implies_true, forall_const, Bool.false_eq_true, Option.bind_some, Option.map_some, Option.bind_none, Option.map_none, runF_eq, okIo, datOf, lvsOf, argIo, isD, outO, isND, notND, vals2D, vals3D, eqDD, neDD, decide_true, decide_false, Bool.decide_eq_true, sz0, sz1, sz2, sz3, sz4, sz5, sz6, sz7, sz8, sz9, slice_t, all_t, all_l, any_l, all_lm, all_tm, any_lm, Function.comp_def, step_nx, step_ct, step_bk, step_rt, step_rl, step_ite, decide_eq_true_eq, Int.cast_ofNat_Int, Int.reduceLE, Int.reduceLT, Int.reduceAdd, Int.reduceSub, Int.reduceMul, Int.reduceNeg, Int.reduceEq, Int.reduceGT, Nat.reduceEqDiff, ne_eq, not_false_eq_true, Option.some.injEq, forall_eq', Nat.reduceLT, Bool.and_false, Bool.or_false, Bool.false_or, Bool.true_or, Bool.false_and, Bool.or_true, B_law_3, F_after_ok hr hs b, F_tick_eq hr hs b, twins8 7 rfl (sh_encS _)]
              exact ⟨_, rfl⟩)
          rw [e3]
          simp only [ret_ap, lift_some, lift_none, var_ap, varR_d, ownAt_ap, ownL_own, ownL_d, ownL_n, frzAt_ap, frzL_own, frzL_d, frz_nil, frz_cons, frz1_own, frz1_d, frz1_n, wipe_nil, wipe_cons, restore_nil, restore_cons, clean_nil, clean_cons, isOwnL_own, isOwnL_d, isOwnL_n, bind_ap, bindR_ok, bindR_ex, bindR_bad, ofM_ap, ofR_ok, ofR_ex, ofR_bad, seq_ap, seqR_nx, seqR_rt, seqR_rl, seqR_bk, seqR_ct, seqR_ex, seqR_bad, nil_ap, pass_ap, never_ap, brk_ap, cnt_ap, retN_ap, sret_ap, sretL_ap, drop_ap, site_ap, asg_ap, own_ap, par2_ap, par3_ap, asgT_ap, asgR_some, asgR_none, gnm_ap, gnil_ap, gcons_ap, gtup_ap, andV_ap, orV_ap, andT_ap, orT_ap, notT_ap, test_ap, op1_ap, op2_ap, chain_ap, mite_ap, ite_apR, ite_apS, argN_ap, argD_ap, argS_ap, slotR_some, tup_ap, lst_ap, known_ap, call_ap, callL_ap, items_ap, part_ap, slice_ap, catL_ap, frz_ap, borrow_ap, borrowR_ok, borrowT_ap, borrowTR_ok, subO_ap, app_ap, setIx_ap, retO_ap, for_ap, lc_ap, lcR_ok, fn_ap, fnL_ap, fnR_some, fnLR_some, retR_ret, retR_retL, retLR_retL, putR_some, putO_none, putO_s0, putO_s1, putO_s2, putO_s3, putO_s4, endR_rt, endR_rl, endR_nx, endR_bad, bindR_ite, ofR_ite, seqR_ite, endR_ite, lift_ite, addD_ii, addD_ss, addD_tt, subD_ii, mulD_ii, fdivD_ii, modD_ii, powD_ii, negD_i, ltD_ii, leD_ii, gtD_ii, geD_ii, ixD_l, ixD_t, catD_ll, itemsD_l, itemsD_t, lenD_l, lenD_t, lenD_s, absD_i, maxD_ii, minD_ii, intD_i, intD_b, tupleD_l, tupleD_t, notD_b, asB_b, asI_i, eqD_ii, eqD_ss, eqD_bb, eqD_si, eqD_is, eqD_nn, eqD_nb, eqD_ni, eqD_ns, eqD_bn, eqD_in, eqD_sn, tInt_none, tInt_bool, tInt_int, tInt_str, tInt_tuple, tInt_list, tInt_dict, tBool_none, tBool_bool, tBool_int, tBool_str, tBool_tuple, tBool_list, tBool_dict, tStr_none, tStr_bool, tStr_int, tStr_str, tStr_tuple, tStr_list, tStr_dict, tTuple_none, tTuple_bool, tTuple_int, tTuple_str, tTuple_tuple, tTuple_list, tTuple_dict, tList_none, tList_bool, tList_int, tList_str, tList_tuple, tList_list, tList_dict, tSeq_none, tSeq_bool, tSeq_int, tSeq_str, tSeq_tuple, tSeq_list, tSeq_dict, isNoneB_none, scalarD_none, isNoneB_bool, scalarD_bool, isNoneB_int, scalarD_int, isNoneB_str, scalarD_str, isNoneB_tuple, scalarD_tuple, isNoneB_list, scalarD_list, isNoneB_dict, scalarD_dict, ixT0, ixT1, ixT2, ixT3, ixT4, ixT5, ixT6, ixT7, ixT8, ixT9, ixL0, ixL1, ixL2, ixL3, ixL4, ixL5, ixL6, ixL7, ixL8, ixL9, aI0, aI1, aI2, aI3, aI4, aI5, aI6, aI7, aI8, aI9, ixN1_0, ixN2_0, ixN2_1, ixN3_0, ixN3_1, ixN3_2, ixN4_0, ixN4_1, ixN4_2, ixN4_3, ixN5_0, ixN5_1, ixN5_2, ixN5_3, ixN5_4, ixN6_0, ixN6_1, ixN6_2, ixN6_3, ixN6_4, ixN6_5, List.map_cons, List.map_nil, List.cons_append, List.nil_append, List.replicate_zero, List.replicate_succ, List.length_cons, List.length_nil, List.getElem?_cons_zero, List.getElem?_cons_succ, List.set_cons_zero, List.set_cons_succ, List.getD_cons_zero, List.getD_cons_succ, Bool.and_true, Bool.true_and, Bool.not_false, Bool.not_true, Nat.sub_self, Nat.reduceSub, Nat.reduceAdd, Nat.zero_add, true_and, and_true, and_self, if_true, if_false, ite_true, ite_false, reduceCtorEq, false_implies, implies_true, forall_const, Bool.false_eq_true, Option.bind_some, Option.map_some, Option.bind_none, Option.map_none, runF_eq, okIo, datOf, lvsOf, argIo, isD, outO, isND, notND, vals2D, vals3D, eqDD, neDD, decide_true, decide_false, Bool.decide_eq_true, sz0, sz1, sz2, sz3, sz4, sz5, sz6, sz7, sz8, sz9, slice_t, all_t, all_l, any_l, all_lm, all_tm, any_lm, Function.comp_def, step_nx, step_ct, step_bk, step_rt, step_rl, step_ite, decide_eq_true_eq, Int.cast_ofNat_Int, Int.reduceLE, Int.reduceLT, Int.reduceAdd, Int.reduceSub, Int.reduceMul, Int.reduceNeg, Int.reduceEq, Int.reduceGT, Nat.reduceEqDiff, ne_eq, not_false_eq_true, Option.some.injEq, forall_eq', Nat.reduceLT, Bool.and_false, Bool.or_false, Bool.false_or, Bool.true_or, Bool.false_and, Bool.or_true]
          exact ⟨_, _, rfl⟩)
      rw [e2]
      simp only [ret_ap, lift_some, lift_none, var_ap, varR_d, ownAt_ap, ownL_own, ownL_d, ownL_n, frzAt_ap, frzL_own, frzL_d, frz_nil, frz_cons, frz1_own, frz1_d, frz1_n, wipe_nil, wipe_cons, restore_nil, restore_cons, clean_nil, clean_cons, isOwnL_own, isOwnL_d, isOwnL_n, bind_ap, bindR_ok, bindR_ex, bindR_bad, ofM_ap, ofR_ok, ofR_ex, ofR_bad, seq_ap, seqR_nx, seqR_rt, seqR_rl, seqR_bk, seqR_ct, seqR_ex, seqR_bad, nil_ap, pass_ap, never_ap, brk_ap, cnt_ap, retN_ap, sret_ap, sretL_ap, drop_ap, site_ap, asg_ap, own_ap, par2_ap, par3_ap, asgT_ap, asgR_some, asgR_none, gnm_ap, gnil_ap, gcons_ap, gtup_ap, andV_ap, orV_ap, andT_ap, orT_ap, notT_ap, test_ap, op1_ap, op2_ap, chain_ap, mite_ap, ite_apR, ite_apS, argN_ap, argD_ap, argS_ap, slotR_some, tup_ap, lst_ap, known_ap, call_ap, callL_ap, items_ap, part_ap, slice_ap, catL_ap, frz_ap, borrow_ap, borrowR_ok, borrowT_ap, borrowTR_ok, subO_ap, app_ap, setIx_ap, retO_ap, for_ap, lc_ap, lcR_ok, fn_ap, fnL_ap, fnR_some, fnLR_some, retR_ret, retR_retL, retLR_retL, putR_some, putO_none, putO_s0, putO_s1, putO_s2, putO_s3, putO_s4, endR_rt, endR_rl, endR_nx, endR_bad, bindR_ite, ofR_ite, seqR_ite, endR_ite, lift_ite, addD_ii, addD_ss, addD_tt, subD_ii, mulD_ii, fdivD_ii, modD_ii, powD_ii, negD_i, ltD_ii, leD_ii, gtD_ii, geD_ii, ixD_l, ixD_t, catD_ll, itemsD_l, itemsD_t, lenD_l, lenD_t, lenD_s, absD_i, maxD_ii, minD_ii, intD_i, intD_b, tupleD_l, tupleD_t, notD_b, asB_b, asI_i, eqD_ii, eqD_ss, eqD_bb, eqD_si, eqD_is, eqD_nn, eqD_nb, eqD_ni, eqD_ns, eqD_bn, eqD_in, eqD_sn, tInt_none, tInt_bool, tInt_int, tInt_str, tInt_tuple, tInt_list, tInt_dict, tBool_none, tBool_bool, tBool_int, tBool_str, tBool_tuple, tBool_list, tBool_dict, tStr_none, tStr_bool, tStr_int, tStr_str, tStr_tuple, tStr_list, tStr_dict, tTuple_none, tTuple_bool, tTuple_int, tTuple_str, tTuple_tuple, tTuple_list, tTuple_dict, tList_none, tList_bool, tList_int, tList_str, tList_tuple, tList_list, tList_dict, tSeq_none, tSeq_bool, tSeq_int, tSeq_str, tSeq_tuple, tSeq_list, tSeq_dict, isNoneB_none, scalarD_none, isNoneB_bool, scalarD_bool, isNoneB_int, scalarD_int, isNoneB_str, scalarD_str, isNoneB_tuple, scalarD_tuple, isNoneB_list, scalarD_list, isNoneB_dict, scalarD_dict, ixT0, ixT1, ixT2, ixT3, ixT4, ixT5, ixT6, ixT7, ixT8, ixT9, ixL0, ixL1, ixL2, ixL3, ixL4, ixL5, ixL6, ixL7, ixL8, ixL9, aI0, aI1, aI2, aI3, aI4, aI5, aI6, aI7, aI8, aI9, ixN1_0, ixN2_0, ixN2_1, ixN3_0, ixN3_1, ixN3_2, ixN4_0, ixN4_1, ixN4_2, ixN4_3, ixN5_0, ixN5_1, ixN5_2, ixN5_3, ixN5_4, ixN6_0, ixN6_1, ixN6_2, ixN6_3, ixN6_4, ixN6_5, List.map_cons, List.map_nil, List.cons_append, List.nil_append, List.replicate_zero, List.replicate_succ, List.length_cons, List.length_nil, List.getElem?_cons_zero, List.getElem?_cons_succ, List.set_cons_zero, List.set_cons_succ, List.getD_cons_zero, List.getD_cons_succ, Bool.and_true, Bool.true_and, Bool.not_false, Bool.not_true, Nat.sub_self, Nat.reduceSub, Nat.reduceAdd, Nat.zero_add, true_and, and_true, and_self, if_true, if_false, ite_true, ite_false, reduceCtorEq, false_implies, implies_true, forall_const, Bool.false_eq_true, Option.bind_some, Option.map_some, Option.bind_none, Option.map_none, runF_eq, okIo, datOf, lvsOf, argIo, isD, outO, isND, notND, vals2D, vals3D, eqDD, neDD, decide_true, decide_false, Bool.decide_eq_true, sz0, sz1, sz2, sz3, sz4, sz5, sz6, sz7, sz8, sz9, slice_t, all_t, all_l, any_l, all_lm, all_tm, any_lm, Function.comp_def, step_nx, step_ct, step_bk, step_rt, step_rl, step_ite, decide_eq_true_eq, Int.cast_ofNat_Int, Int.reduceLE, Int.reduceLT, Int.reduceAdd, Int.reduceSub, Int.reduceMul, Int.reduceNeg, Int.reduceEq, Int.reduceGT, Nat.reduceEqDiff, ne_eq, not_false_eq_true, Option.some.injEq, forall_eq', Nat.reduceLT, Bool.and_false, Bool.or_false, Bool.false_or, Bool.true_or, Bool.false_and, Bool.or_true]
      exact ⟨_, _, _, _, _, rfl⟩)
  rw [e1]
  simp only [ret_ap, lift_some, lift_none, var_ap, varR_d, ownAt_ap, ownL_own, ownL_d, ownL_n, frzAt_ap, frzL_own, frzL_d, frz_nil, frz_cons, frz1_own, frz1_d, frz1_n, wipe_nil, wipe_cons, restore_nil, restore_cons, clean_nil, clean_cons, isOwnL_own, isOwnL_d, isOwnL_n, bind_ap, bindR_ok, bindR_ex, bindR_bad, ofM_ap, ofR_ok, ofR_ex, ofR_bad, seq_ap, seqR_nx, seqR_rt, seqR_rl, seqR_bk, seqR_ct, seqR_ex, seqR_bad, nil_ap, pass_ap, never_ap, brk_ap, cnt_ap, retN_ap, sret_ap, sretL_ap, drop_ap, site_ap, asg_ap, own_ap, par2_ap, par3_ap, asgT_ap, asgR_some, asgR_none, gnm_ap, gnil_ap, gcons_ap, gtup_ap, andV_ap, orV_ap, andT_ap, orT_ap, notT_ap, test_ap, op1_ap, op2_ap, chain_ap, mite_ap, ite_apR, ite_apS, argN_ap, argD_ap, argS_ap, slotR_some, tup_ap, lst_ap, known_ap, call_ap, callL_ap, items_ap, part_ap, slice_ap, catL_ap, frz_ap, borrow_ap, borrowR_ok, borrowT_ap, borrowTR_ok, subO_ap, app_ap, setIx_ap, retO_ap, for_ap, lc_ap, lcR_ok, fn_ap, fnL_ap, fnR_some, fnLR_some, retR_ret, retR_retL, retLR_retL, putR_some, putO_none, putO_s0, putO_s1, putO_s2, putO_s3, putO_s4, endR_rt, endR_rl, endR_nx, endR_bad, bindR_ite, ofR_ite, seqR_ite, endR_ite, lift_ite, addD_ii, addD_ss, addD_tt, subD_ii, mulD_ii, fdivD_ii, modD_ii, powD_ii, negD_i, ltD_ii, leD_ii, gtD_ii, geD_ii, ixD_l, ixD_t, catD_ll, itemsD_l, itemsD_t, lenD_l, lenD_t, lenD_s, absD_i, maxD_ii, minD_ii, intD_i, intD_b, tupleD_l, tupleD_t, notD_b, asB_b, asI_i, eqD_ii, eqD_ss, eqD_bb, eqD_si, eqD_is, eqD_nn, eqD_nb, eqD_ni, eqD_ns, eqD_bn, eqD_in, eqD_sn, tInt_none, tInt_bool, tInt_int, tInt_str, tInt_tuple, tInt_list, tInt_dict, tBool_none, tBool_bool, tBool_int, tBool_str, tBool_tuple, tBool_list, tBool_dict, tStr_none, tStr_bool, tStr_int, tStr_str, tStr_tuple, tStr_list, tStr_dict, tTuple_none, tTuple_bool, tTuple_int, tTuple_str, tTuple_tuple, tTuple_list, tTuple_dict, tList_none, tList_bool, tList_int, tList_str, tList_tuple, tList_list, tList_dict, tSeq_none, tSeq_bool, tSeq_int, tSeq_str, tSeq_tuple, tSeq_list, tSeq_dict, isNoneB_none, scalarD_none, isNoneB_bool, scalarD_bool, isNoneB_int, scalarD_int, isNoneB_str, scalarD_str, isNoneB_tuple, scalarD_tuple, isNoneB_list, scalarD_list, isNoneB_dict, scalarD_dict, ixT0, ixT1, ixT2, ixT3, ixT4, ixT5, ixT6, ixT7, ixT8, ixT9, ixL0, ixL1, ixL2, ixL3, ixL4, ixL5, ixL6, ixL7, ixL8, ixL9, aI0, aI1, aI2, aI3, aI4, aI5, aI6, aI7, aI8, aI9, ixN1_0, ixN2_0, ixN2_1, ixN3_0, ixN3_1, ixN3_2, ixN4_0, ixN4_1, ixN4_2, ixN4_3, ixN5_0, ixN5_1, ixN5_2, ixN5_3, ixN5_4, ixN6_0, ixN6_1, ixN6_2, ixN6_3, ixN6_4, ixN6_5, List.map_cons, List.map_nil, List.cons_append, List.nil_append, List.replicate_zero, List.replicate_succ, List.length_cons, List.length_nil, List.getElem?_cons_zero, List.getElem?_cons_succ, List.set_cons_zero, List.set_cons_succ, List.getD_cons_zero, List.getD_cons_succ, Bool.and_true, Bool.true_and, Bool.not_false, Bool.not_true, Nat.sub_self, Nat.reduceSub, Nat.reduceAdd, Nat.zero_add, true_and, and_true, and_self, if_true, if_false, ite_true, ite_false, reduceCtorEq, false_implies, implies_true, forall_const, Bool.false_eq_true, Option.bind_some, Option.map_some, Option.bind_none, Option.map_none, runF_eq, okIo, datOf, lvsOf, argIo, isD, outO, isND, notND, vals2D, vals3D, eqDD, neDD, decide_true, decide_false, Bool.decide_eq_true, sz0, sz1, sz2, sz3, sz4, sz5, sz6, sz7, sz8, sz9, slice_t, all_t, all_l, any_l, all_lm, all_tm, any_lm, Function.comp_def, step_nx, step_ct, step_bk, step_rt, step_rl, step_ite, decide_eq_true_eq, Int.cast_ofNat_Int, Int.reduceLE, Int.reduceLT, Int.reduceAdd, Int.reduceSub, Int.reduceMul, Int.reduceNeg, Int.reduceEq, Int.reduceGT, Nat.reduceEqDiff, ne_eq, not_false_eq_true, Option.some.injEq, forall_eq', Nat.reduceLT, Bool.and_false, Bool.or_false, Bool.false_or, Bool.true_or, Bool.false_and, Bool.or_true]
end K3

set_option maxRecDepth 100000
set_option maxHeartbeats 4000000
namespace K3
open PySem PySem.Spec L2 PD
section
theorem all_mk {l : PySem.W.OpenLaw} {w : World} {K : PySem.W.Frag} {h : Heap} {mg : Str → Option Value} {fa : Addr} (X : K.In h) (G : h.Ns mainGlobals mg) (hfa : mg "law" = some (.ref fa))
    {f10 f11 f12 f13 f14 f15 f16 f17 f18 f20 f21 f22 f24 f25 f26 f27 f28 f30 f33 f34 : Addr} {od10 an10 od11 an11 od12 an12 od13 an13 od14 an14 od15 an15 od16 an16 od17 an17 od18 an18 od20 an20 od21 an21 od22 an22 od24 an24 od25 an25 od26 an26 od27 an27 od28 an28 od30 an30 od33 an33 od34 an34 : Option Addr} {sl10 sl11 sl12 sl13 sl14 sl15 sl16 sl17 sl18 sl20 sl21 sl22 sl24 sl25 sl26 sl27 sl28 sl30 sl33 sl34 : Array (Option Value)}
    {oc10 kV10 dc10 pm10 cd10 ct10 oc11 kV11 dc11 pm11 cd11 ct11 oc12 kV12 dc12 pm12 cd12 ct12 oc13 kV13 dc13 pm13 cd13 ct13 oc14 kV14 dc14 pm14 cd14 ct14 oc15 kV15 dc15 pm15 cd15 ct15 oc16 kV16 dc16 pm16 cd16 ct16 oc17 kV17 dc17 pm17 cd17 ct17 oc18 kV18 dc18 pm18 cd18 ct18 oc20 kV20 dc20 pm20 cd20 ct20 oc21 kV21 dc21 pm21 cd21 ct21 oc22 kV22 dc22 pm22 cd22 ct22 oc24 kV24 dc24 pm24 cd24 ct24 oc25 kV25 dc25 pm25 cd25 ct25 oc26 kV26 dc26 pm26 cd26 ct26 oc27 kV27 dc27 pm27 cd27 ct27 oc28 kV28 dc28 pm28 cd28 ct28 oc30 kV30 dc30 pm30 cd30 ct30 oc33 kV33 dc33 pm33 cd33 ct33 oc34 kV34 dc34 pm34 cd34 ct34 : Value}
    {u6 u7 u8 u9 : Value}
    (a10 : PySem.W.nsIn K mainGlobals "is_within" = some (some (.ref f10))) (l10 : K.lookup f10 = some ⟨oc10, od10, .func (PySem.W.fnOf "is_within" "is_within" (defArgs s_is_within) (defBody s_is_within) (defScope s_is_within) .none kV10 dc10 pm10 an10 cd10 ct10), sl10⟩) (c10 : PySem.W.codeIn K cd10 "is_within" = true) (k10 : PySem.W.keepIn K (.ref f10) = true)
    (a11 : PySem.W.nsIn K mainGlobals "is_row_of" = some (some (.ref f11))) (l11 : K.lookup f11 = some ⟨oc11, od11, .func (PySem.W.fnOf "is_row_of" "is_row_of" (defArgs s_is_row_of) (defBody s_is_row_of) (defScope s_is_row_of) .none kV11 dc11 pm11 an11 cd11 ct11), sl11⟩) (c11 : PySem.W.codeIn K cd11 "is_row_of" = true) (k11 : PySem.W.keepIn K (.ref f11) = true)
    (a12 : PySem.W.nsIn K mainGlobals "is_recorder" = some (some (.ref f12))) (l12 : K.lookup f12 = some ⟨oc12, od12, .func (PySem.W.fnOf "is_recorder" "is_recorder" (defArgs s_is_recorder) (defBody s_is_recorder) (defScope s_is_recorder) .none kV12 dc12 pm12 an12 cd12 ct12), sl12⟩) (c12 : PySem.W.codeIn K cd12 "is_recorder" = true) (k12 : PySem.W.keepIn K (.ref f12) = true)
    (a13 : PySem.W.nsIn K mainGlobals "look_at_recorder" = some (some (.ref f13))) (l13 : K.lookup f13 = some ⟨oc13, od13, .func (PySem.W.fnOf "look_at_recorder" "look_at_recorder" (defArgs s_look_at_recorder) (defBody s_look_at_recorder) (defScope s_look_at_recorder) .none kV13 dc13 pm13 an13 cd13 ct13), sl13⟩) (c13 : PySem.W.codeIn K cd13 "look_at_recorder" = true) (k13 : PySem.W.keepIn K (.ref f13) = true)
    (a14 : PySem.W.nsIn K mainGlobals "look_at_sound" = some (some (.ref f14))) (l14 : K.lookup f14 = some ⟨oc14, od14, .func (PySem.W.fnOf "look_at_sound" "look_at_sound" (defArgs s_look_at_sound) (defBody s_look_at_sound) (defScope s_look_at_sound) .none kV14 dc14 pm14 an14 cd14 ct14), sl14⟩) (c14 : PySem.W.codeIn K cd14 "look_at_sound" = true) (k14 : PySem.W.keepIn K (.ref f14) = true)
    (a15 : PySem.W.nsIn K mainGlobals "is_heard" = some (some (.ref f15))) (l15 : K.lookup f15 = some ⟨oc15, od15, .func (PySem.W.fnOf "is_heard" "is_heard" (defArgs s_is_heard) (defBody s_is_heard) (defScope s_is_heard) .none kV15 dc15 pm15 an15 cd15 ct15), sl15⟩) (c15 : PySem.W.codeIn K cd15 "is_heard" = true) (k15 : PySem.W.keepIn K (.ref f15) = true)
    (a16 : PySem.W.nsIn K mainGlobals "fits" = some (some (.ref f16))) (l16 : K.lookup f16 = some ⟨oc16, od16, .func (PySem.W.fnOf "fits" "fits" (defArgs s_fits) (defBody s_fits) (defScope s_fits) .none kV16 dc16 pm16 an16 cd16 ct16), sl16⟩) (c16 : PySem.W.codeIn K cd16 "fits" = true) (k16 : PySem.W.keepIn K (.ref f16) = true)
    (a17 : PySem.W.nsIn K mainGlobals "is_stand" = some (some (.ref f17))) (l17 : K.lookup f17 = some ⟨oc17, od17, .func (PySem.W.fnOf "is_stand" "is_stand" (defArgs s_is_stand) (defBody s_is_stand) (defScope s_is_stand) .none kV17 dc17 pm17 an17 cd17 ct17), sl17⟩) (c17 : PySem.W.codeIn K cd17 "is_stand" = true) (k17 : PySem.W.keepIn K (.ref f17) = true)
    (a18 : PySem.W.nsIn K mainGlobals "look_at_stand" = some (some (.ref f18))) (l18 : K.lookup f18 = some ⟨oc18, od18, .func (PySem.W.fnOf "look_at_stand" "look_at_stand" (defArgs s_look_at_stand) (defBody s_look_at_stand) (defScope s_look_at_stand) .none kV18 dc18 pm18 an18 cd18 ct18), sl18⟩) (c18 : PySem.W.codeIn K cd18 "look_at_stand" = true) (k18 : PySem.W.keepIn K (.ref f18) = true)
    (a20 : PySem.W.nsIn K mainGlobals "ended" = some (some (.ref f20))) (l20 : K.lookup f20 = some ⟨oc20, od20, .func (PySem.W.fnOf "ended" "ended" (defArgs s_ended) (defBody s_ended) (defScope s_ended) .none kV20 dc20 pm20 an20 cd20 ct20), sl20⟩) (c20 : PySem.W.codeIn K cd20 "ended" = true) (k20 : PySem.W.keepIn K (.ref f20) = true)
    (a21 : PySem.W.nsIn K mainGlobals "step" = some (some (.ref f21))) (l21 : K.lookup f21 = some ⟨oc21, od21, .func (PySem.W.fnOf "step" "step" (defArgs s_step) (defBody s_step) (defScope s_step) .none kV21 dc21 pm21 an21 cd21 ct21), sl21⟩) (c21 : PySem.W.codeIn K cd21 "step" = true) (k21 : PySem.W.keepIn K (.ref f21) = true)
    (a22 : PySem.W.nsIn K mainGlobals "after" = some (some (.ref f22))) (l22 : K.lookup f22 = some ⟨oc22, od22, .func (PySem.W.fnOf "after" "after" (defArgs s_after) (defBody s_after) (defScope s_after) .none kV22 dc22 pm22 an22 cd22 ct22), sl22⟩) (c22 : PySem.W.codeIn K cd22 "after" = true) (k22 : PySem.W.keepIn K (.ref f22) = true)
    (a24 : PySem.W.nsIn K mainGlobals "_law_spring" = some (some (.ref f24))) (l24 : K.lookup f24 = some ⟨oc24, od24, .func (PySem.W.fnOf "_law_spring" "_law_spring" (defArgs s_f_law_spring) (defBody s_f_law_spring) (defScope s_f_law_spring) .none kV24 dc24 pm24 an24 cd24 ct24), sl24⟩) (c24 : PySem.W.codeIn K cd24 "_law_spring" = true) (k24 : PySem.W.keepIn K (.ref f24) = true)
    (a25 : PySem.W.nsIn K mainGlobals "_law_pick" = some (some (.ref f25))) (l25 : K.lookup f25 = some ⟨oc25, od25, .func (PySem.W.fnOf "_law_pick" "_law_pick" (defArgs s_f_law_pick) (defBody s_f_law_pick) (defScope s_f_law_pick) .none kV25 dc25 pm25 an25 cd25 ct25), sl25⟩) (c25 : PySem.W.codeIn K cd25 "_law_pick" = true) (k25 : PySem.W.keepIn K (.ref f25) = true)
    (a26 : PySem.W.nsIn K mainGlobals "_law_kind" = some (some (.ref f26))) (l26 : K.lookup f26 = some ⟨oc26, od26, .func (PySem.W.fnOf "_law_kind" "_law_kind" (defArgs s_f_law_kind) (defBody s_f_law_kind) (defScope s_f_law_kind) .none kV26 dc26 pm26 an26 cd26 ct26), sl26⟩) (c26 : PySem.W.codeIn K cd26 "_law_kind" = true) (k26 : PySem.W.keepIn K (.ref f26) = true)
    (a27 : PySem.W.nsIn K mainGlobals "_law_twins" = some (some (.ref f27))) (l27 : K.lookup f27 = some ⟨oc27, od27, .func (PySem.W.fnOf "_law_twins" "_law_twins" (defArgs s_f_law_twins) (defBody s_f_law_twins) (defScope s_f_law_twins) .none kV27 dc27 pm27 an27 cd27 ct27), sl27⟩) (c27 : PySem.W.codeIn K cd27 "_law_twins" = true) (k27 : PySem.W.keepIn K (.ref f27) = true)
    (a28 : PySem.W.nsIn K mainGlobals "_law_recorder" = some (some (.ref f28))) (l28 : K.lookup f28 = some ⟨oc28, od28, .func (PySem.W.fnOf "_law_recorder" "_law_recorder" (defArgs s_f_law_recorder) (defBody s_f_law_recorder) (defScope s_f_law_recorder) .none kV28 dc28 pm28 an28 cd28 ct28), sl28⟩) (c28 : PySem.W.codeIn K cd28 "_law_recorder" = true) (k28 : PySem.W.keepIn K (.ref f28) = true)
    (a30 : PySem.W.nsIn K mainGlobals "_law_tick" = some (some (.ref f30))) (l30 : K.lookup f30 = some ⟨oc30, od30, .func (PySem.W.fnOf "_law_tick" "_law_tick" (defArgs s_f_law_tick) (defBody s_f_law_tick) (defScope s_f_law_tick) .none kV30 dc30 pm30 an30 cd30 ct30), sl30⟩) (c30 : PySem.W.codeIn K cd30 "_law_tick" = true) (k30 : PySem.W.keepIn K (.ref f30) = true)
    (a33 : PySem.W.nsIn K mainGlobals "_law_stands" = some (some (.ref f33))) (l33 : K.lookup f33 = some ⟨oc33, od33, .func (PySem.W.fnOf "_law_stands" "_law_stands" (defArgs s_f_law_stands) (defBody s_f_law_stands) (defScope s_f_law_stands) .none kV33 dc33 pm33 an33 cd33 ct33), sl33⟩) (c33 : PySem.W.codeIn K cd33 "_law_stands" = true) (k33 : PySem.W.keepIn K (.ref f33) = true)
    (a34 : PySem.W.nsIn K mainGlobals "law" = some (some (.ref f34))) (l34 : K.lookup f34 = some ⟨oc34, od34, .func (PySem.W.fnOf "law" "law" (defArgs s_law) (defBody s_law) (defScope s_law) .none kV34 dc34 pm34 an34 cd34 ct34), sl34⟩) (c34 : PySem.W.codeIn K cd34 "law" = true) (k34 : PySem.W.keepIn K (.ref f34) = true)
    (z_abs : PySem.W.nsIn K mainGlobals "abs" = some none)
    (z_all : PySem.W.nsIn K mainGlobals "all" = some none)
    (z_bool : PySem.W.nsIn K mainGlobals "bool" = some none)
    (z_int : PySem.W.nsIn K mainGlobals "int" = some none)
    (z_isinstance : PySem.W.nsIn K mainGlobals "isinstance" = some none)
    (z_len : PySem.W.nsIn K mainGlobals "len" = some none)
    (z_list : PySem.W.nsIn K mainGlobals "list" = some none)
    (z_max : PySem.W.nsIn K mainGlobals "max" = some none)
    (z_min : PySem.W.nsIn K mainGlobals "min" = some none)
    (z_range : PySem.W.nsIn K mainGlobals "range" = some none)
    (z_str : PySem.W.nsIn K mainGlobals "str" = some none)
    (z_tuple : PySem.W.nsIn K mainGlobals "tuple" = some none)
    (z_zip : PySem.W.nsIn K mainGlobals "zip" = some none)
    (ac6 : PySem.W.nsIn K mainGlobals "AWAKE" = some (some u6)) (rc6 : Cst K u6 cst_AWAKE)
    (ac7 : PySem.W.nsIn K mainGlobals "RECORDS" = some (some u7)) (rc7 : Cst K u7 cst_RECORDS)
    (ac8 : PySem.W.nsIn K mainGlobals "SLEEPS" = some (some u8)) (rc8 : Cst K u8 cst_SLEEPS)
    (ac9 : PySem.W.nsIn K mainGlobals "FRESH" = some (some u9)) (rc9 : Cst K u9 cst_FRESH)
    : ∃ fd : FuncData, (∀ (s : Shared) (v : Value), BindsTo s fd ⟨[v], []⟩ [("script", v)]) ∧ ∀ base : Heap, K.In base → base.Ns mainGlobals mg → FnOk l.prog w K mg base CX0 10 fa fd ["script"] (spF K none F_law) := by
  have e : f34 = fa := by have e := hfa.symm.trans (PySem.W.mg_of X G a34); cases e; rfl
  subst e
  let fs : Nat → Addr := fun i => match i with | 10 => f10 | 11 => f11 | 12 => f12 | 13 => f13 | 14 => f14 | 15 => f15 | 16 => f16 | 17 => f17 | 18 => f18 | 20 => f20 | 21 => f21 | 22 => f22 | 24 => f24 | 25 => f25 | 26 => f26 | 27 => f27 | 28 => f28 | 30 => f30 | 33 => f33 | 34 => f34 | _ => 0
  let fds : Nat → FuncData := fun i => match i with | 10 => PySem.W.fnOf "is_within" "is_within" (defArgs s_is_within) (defBody s_is_within) (defScope s_is_within) .none kV10 dc10 pm10 an10 cd10 ct10 | 11 => PySem.W.fnOf "is_row_of" "is_row_of" (defArgs s_is_row_of) (defBody s_is_row_of) (defScope s_is_row_of) .none kV11 dc11 pm11 an11 cd11 ct11 | 12 => PySem.W.fnOf "is_recorder" "is_recorder" (defArgs s_is_recorder) (defBody s_is_recorder) (defScope s_is_recorder) .none kV12 dc12 pm12 an12 cd12 ct12 | 13 => PySem.W.fnOf "look_at_recorder" "look_at_recorder" (defArgs s_look_at_recorder) (defBody s_look_at_recorder) (defScope s_look_at_recorder) .none kV13 dc13 pm13 an13 cd13 ct13 | 14 => PySem.W.fnOf "look_at_sound" "look_at_sound" (defArgs s_look_at_sound) (defBody s_look_at_sound) (defScope s_look_at_sound) .none kV14 dc14 pm14 an14 cd14 ct14 | 15 => PySem.W.fnOf "is_heard" "is_heard" (defArgs s_is_heard) (defBody s_is_heard) (defScope s_is_heard) .none kV15 dc15 pm15 an15 cd15 ct15 | 16 => PySem.W.fnOf "fits" "fits" (defArgs s_fits) (defBody s_fits) (defScope s_fits) .none kV16 dc16 pm16 an16 cd16 ct16 | 17 => PySem.W.fnOf "is_stand" "is_stand" (defArgs s_is_stand) (defBody s_is_stand) (defScope s_is_stand) .none kV17 dc17 pm17 an17 cd17 ct17 | 18 => PySem.W.fnOf "look_at_stand" "look_at_stand" (defArgs s_look_at_stand) (defBody s_look_at_stand) (defScope s_look_at_stand) .none kV18 dc18 pm18 an18 cd18 ct18 | 20 => PySem.W.fnOf "ended" "ended" (defArgs s_ended) (defBody s_ended) (defScope s_ended) .none kV20 dc20 pm20 an20 cd20 ct20 | 21 => PySem.W.fnOf "step" "step" (defArgs s_step) (defBody s_step) (defScope s_step) .none kV21 dc21 pm21 an21 cd21 ct21 | 22 => PySem.W.fnOf "after" "after" (defArgs s_after) (defBody s_after) (defScope s_after) .none kV22 dc22 pm22 an22 cd22 ct22 | 24 => PySem.W.fnOf "_law_spring" "_law_spring" (defArgs s_f_law_spring) (defBody s_f_law_spring) (defScope s_f_law_spring) .none kV24 dc24 pm24 an24 cd24 ct24 | 25 => PySem.W.fnOf "_law_pick" "_law_pick" (defArgs s_f_law_pick) (defBody s_f_law_pick) (defScope s_f_law_pick) .none kV25 dc25 pm25 an25 cd25 ct25 | 26 => PySem.W.fnOf "_law_kind" "_law_kind" (defArgs s_f_law_kind) (defBody s_f_law_kind) (defScope s_f_law_kind) .none kV26 dc26 pm26 an26 cd26 ct26 | 27 => PySem.W.fnOf "_law_twins" "_law_twins" (defArgs s_f_law_twins) (defBody s_f_law_twins) (defScope s_f_law_twins) .none kV27 dc27 pm27 an27 cd27 ct27 | 28 => PySem.W.fnOf "_law_recorder" "_law_recorder" (defArgs s_f_law_recorder) (defBody s_f_law_recorder) (defScope s_f_law_recorder) .none kV28 dc28 pm28 an28 cd28 ct28 | 30 => PySem.W.fnOf "_law_tick" "_law_tick" (defArgs s_f_law_tick) (defBody s_f_law_tick) (defScope s_f_law_tick) .none kV30 dc30 pm30 an30 cd30 ct30 | 33 => PySem.W.fnOf "_law_stands" "_law_stands" (defArgs s_f_law_stands) (defBody s_f_law_stands) (defScope s_f_law_stands) .none kV33 dc33 pm33 an33 cd33 ct33 | 34 => PySem.W.fnOf "law" "law" (defArgs s_law) (defBody s_law) (defScope s_law) .none kV34 dc34 pm34 an34 cd34 ct34 | _ => PySem.W.fnOf "law" "law" (defArgs s_law) (defBody s_law) (defScope s_law) .none kV34 dc34 pm34 an34 cd34 ct34
  let us : Nat → Value := fun i => match i with | 6 => u6 | 7 => u7 | 8 => u8 | 9 => u9 | _ => .none
  have T : Txt K mg fs fds us := {
    f_is_within := fun_mk (st := s_is_within) l10 c10 k10
    m_is_within := PySem.W.mg_of X G a10
    b_is_within := binds_mk (st := s_is_within) P_is_within l10 c10 k10 fun _ _ _ _ _ _ us hl => match us, hl with | [_, _, _], _ => rfl
    f_is_row_of := fun_mk (st := s_is_row_of) l11 c11 k11
    m_is_row_of := PySem.W.mg_of X G a11
    b_is_row_of := binds_mk (st := s_is_row_of) P_is_row_of l11 c11 k11 fun _ _ _ _ _ _ us hl => match us, hl with | [_, _], _ => rfl
    f_is_recorder := fun_mk (st := s_is_recorder) l12 c12 k12
    m_is_recorder := PySem.W.mg_of X G a12
    b_is_recorder := binds_mk (st := s_is_recorder) P_is_recorder l12 c12 k12 fun _ _ _ _ _ _ us hl => match us, hl with | [_], _ => rfl
    f_look_at_recorder := fun_mk (st := s_look_at_recorder) l13 c13 k13
    m_look_at_recorder := PySem.W.mg_of X G a13
    b_look_at_recorder := binds_mk (st := s_look_at_recorder) P_look_at_recorder l13 c13 k13 fun _ _ _ _ _ _ us hl => match us, hl with | [_], _ => rfl
    f_look_at_sound := fun_mk (st := s_look_at_sound) l14 c14 k14
    m_look_at_sound := PySem.W.mg_of X G a14
    b_look_at_sound := binds_mk (st := s_look_at_sound) P_look_at_sound l14 c14 k14 fun _ _ _ _ _ _ us hl => match us, hl with | [_], _ => rfl
    f_is_heard := fun_mk (st := s_is_heard) l15 c15 k15
    m_is_heard := PySem.W.mg_of X G a15
    b_is_heard := binds_mk (st := s_is_heard) P_is_heard l15 c15 k15 fun _ _ _ _ _ _ us hl => match us, hl with | [_, _], _ => rfl
    f_fits := fun_mk (st := s_fits) l16 c16 k16
    m_fits := PySem.W.mg_of X G a16
    b_fits := binds_mk (st := s_fits) P_fits l16 c16 k16 fun _ _ _ _ _ _ us hl => match us, hl with | [_, _], _ => rfl
    f_is_stand := fun_mk (st := s_is_stand) l17 c17 k17
    m_is_stand := PySem.W.mg_of X G a17
    b_is_stand := binds_mk (st := s_is_stand) P_is_stand l17 c17 k17 fun _ _ _ _ _ _ us hl => match us, hl with | [_, _], _ => rfl
    f_look_at_stand := fun_mk (st := s_look_at_stand) l18 c18 k18
    m_look_at_stand := PySem.W.mg_of X G a18
    b_look_at_stand := binds_mk (st := s_look_at_stand) P_look_at_stand l18 c18 k18 fun _ _ _ _ _ _ us hl => match us, hl with | [_, _], _ => rfl
    f_ended := fun_mk (st := s_ended) l20 c20 k20
    m_ended := PySem.W.mg_of X G a20
    b_ended := binds_mk (st := s_ended) P_ended l20 c20 k20 fun _ _ _ _ _ _ us hl => match us, hl with | [_], _ => rfl
    f_step := fun_mk (st := s_step) l21 c21 k21
    m_step := PySem.W.mg_of X G a21
    b_step := binds_mk (st := s_step) P_step l21 c21 k21 fun _ _ _ _ _ _ us hl => match us, hl with | [_, _, _], _ => rfl
    f_after := fun_mk (st := s_after) l22 c22 k22
    m_after := PySem.W.mg_of X G a22
    b_after := binds_mk (st := s_after) P_after l22 c22 k22 fun _ _ _ _ _ _ us hl => match us, hl with | [_, _, _], _ => rfl
    f_f_law_spring := fun_mk (st := s_f_law_spring) l24 c24 k24
    m_f_law_spring := PySem.W.mg_of X G a24
    b_f_law_spring := binds_mk (st := s_f_law_spring) P_f_law_spring l24 c24 k24 fun _ _ _ _ _ _ us hl => match us, hl with | [_, _], _ => rfl
    f_f_law_pick := fun_mk (st := s_f_law_pick) l25 c25 k25
    m_f_law_pick := PySem.W.mg_of X G a25
    b_f_law_pick := binds_mk (st := s_f_law_pick) P_f_law_pick l25 c25 k25 fun _ _ _ _ _ _ us hl => match us, hl with | [_, _], _ => rfl
    f_f_law_kind := fun_mk (st := s_f_law_kind) l26 c26 k26
    m_f_law_kind := PySem.W.mg_of X G a26
    b_f_law_kind := binds_mk (st := s_f_law_kind) P_f_law_kind l26 c26 k26 fun _ _ _ _ _ _ us hl => match us, hl with | [_], _ => rfl
    f_f_law_twins := fun_mk (st := s_f_law_twins) l27 c27 k27
    m_f_law_twins := PySem.W.mg_of X G a27
    b_f_law_twins := binds_mk (st := s_f_law_twins) P_f_law_twins l27 c27 k27 fun _ _ _ _ _ _ us hl => match us, hl with | [_, _], _ => rfl
    f_f_law_recorder := fun_mk (st := s_f_law_recorder) l28 c28 k28
    m_f_law_recorder := PySem.W.mg_of X G a28
    b_f_law_recorder := binds_mk (st := s_f_law_recorder) P_f_law_recorder l28 c28 k28 fun _ _ _ _ _ _ us hl => match us, hl with | [_], _ => rfl
    f_f_law_tick := fun_mk (st := s_f_law_tick) l30 c30 k30
    m_f_law_tick := PySem.W.mg_of X G a30
    b_f_law_tick := binds_mk (st := s_f_law_tick) P_f_law_tick l30 c30 k30 fun _ _ _ _ _ _ us hl => match us, hl with | [_, _, _], _ => rfl
    f_f_law_stands := fun_mk (st := s_f_law_stands) l33 c33 k33
    m_f_law_stands := PySem.W.mg_of X G a33
    b_f_law_stands := binds_mk (st := s_f_law_stands) P_f_law_stands l33 c33 k33 fun _ _ _ _ _ _ us hl => match us, hl with | [_, _], _ => rfl
    f_law := fun_mk (st := s_law) l34 c34 k34
    m_law := PySem.W.mg_of X G a34
    b_law := binds_mk (st := s_law) P_law l34 c34 k34 fun _ _ _ _ _ _ us hl => match us, hl with | [_], _ => rfl
    n_abs := PySem.W.mg_none_of X G z_abs
    n_all := PySem.W.mg_none_of X G z_all
    n_bool := PySem.W.mg_none_of X G z_bool
    n_int := PySem.W.mg_none_of X G z_int
    n_isinstance := PySem.W.mg_none_of X G z_isinstance
    n_len := PySem.W.mg_none_of X G z_len
    n_list := PySem.W.mg_none_of X G z_list
    n_max := PySem.W.mg_none_of X G z_max
    n_min := PySem.W.mg_none_of X G z_min
    n_range := PySem.W.mg_none_of X G z_range
    n_str := PySem.W.mg_none_of X G z_str
    n_tuple := PySem.W.mg_none_of X G z_tuple
    n_zip := PySem.W.mg_none_of X G z_zip
    c_AWAKE := PySem.W.mg_of X G ac6
    r_AWAKE := rc6
    c_RECORDS := PySem.W.mg_of X G ac7
    r_RECORDS := rc7
    c_SLEEPS := PySem.W.mg_of X G ac8
    r_SLEEPS := rc8
    c_FRESH := PySem.W.mg_of X G ac9
    r_FRESH := rc9
  }
  exact ⟨PySem.W.fnOf "law" "law" (defArgs s_law) (defBody s_law) (defScope s_law) .none kV34 dc34 pm34 an34 cd34 ct34, fun s v => .of_eq rfl, fun base _ _ => ok_law T⟩
theorem walk {l : PySem.W.OpenLaw} {q : Program} {loose : List Str} {XP : (Str → Option Value) → Heap → Prop} {YP : World → Heap → Prop} {d : DefRec} {K : Params → PySem.W.Frag} (hn : l.most = some 63) (hdf : d.params.defaults = [])
    (hY : ∀ (w : World) (h : Heap), YP w h → (K w.params).In h)
    (F : ∀ (w : World) (mg : Str → Option Value) (fa : Addr) (h : Heap), (K w.params).In h → h.Ns mainGlobals mg → mg d.name = some (.ref fa) →
      ∃ fd : FuncData, (∀ (s : Shared) (u : Value), BindsTo s fd ⟨[u], []⟩ [("script", u)]) ∧ ∀ base : Heap, (K w.params).In base → base.Ns mainGlobals mg → FnOk l.prog w (K w.params) mg base CX0 10 fa fd ["script"] (spF (K w.params) none F_law)) :
    PySem.W.WalkO q loose XP YP l.row.toRowW d [] (fun f vs => PySem.call f vs) :=
  L2.walk_ofB (n := 63) (k := 10) (x := "script") (CX := fun _ => CX0) (sp := fun w => spF (K w.params) none F_law) hn (by decide) hdf ⟨rfl, by decide, by decide⟩ hY F (fun w H a ns hl hb _ hS => law_sp hS (F_law_ok (fun n hn => log2_bits (hb n hn)) (Nat.le_trans hl (by decide)))) (fun _ _ _ _ _ h => h)
end
end K3

open PySem PySem.W PyProof.Rows
set_option maxRecDepth 100000 in
set_option maxHeartbeats 0 in
theorem PySem.Challenge.cw_selfstarts_k03_stands_of_any_kind_holds : PySem.Challenge.rw_selfstarts_k03_stands_of_any_kind.Holds := by
  w_on; o_law; k_head; (case hw => w_witness2)
  k_fill
  refine K3.walk (l := PySem.Challenge.rw_selfstarts_k03_stands_of_any_kind) rfl rfl (fun w h Y => PySem.W.kIn_of Y) ?F
  case F =>
    intro w mg fa h KX G hmg
    refine' K3.all_mk KX G hmg ?a10 ?l10 ?c10 ?k10 ?a11 ?l11 ?c11 ?k11 ?a12 ?l12 ?c12 ?k12 ?a13 ?l13 ?c13 ?k13 ?a14 ?l14 ?c14 ?k14 ?a15 ?l15 ?c15 ?k15 ?a16 ?l16 ?c16 ?k16 ?a17 ?l17 ?c17 ?k17 ?a18 ?l18 ?c18 ?k18 ?a20 ?l20 ?c20 ?k20 ?a21 ?l21 ?c21 ?k21 ?a22 ?l22 ?c22 ?k22 ?a24 ?l24 ?c24 ?k24 ?a25 ?l25 ?c25 ?k25 ?a26 ?l26 ?c26 ?k26 ?a27 ?l27 ?c27 ?k27 ?a28 ?l28 ?c28 ?k28 ?a30 ?l30 ?c30 ?k30 ?a33 ?l33 ?c33 ?k33 ?a34 ?l34 ?c34 ?k34 ?z_abs ?z_all ?z_bool ?z_int ?z_isinstance ?z_len ?z_list ?z_max ?z_min ?z_range ?z_str ?z_tuple ?z_zip ?ac6 ?rc6 ?ac7 ?rc7 ?ac8 ?rc8 ?ac9 ?rc9
    (case a10 => k_is)
    (case l10 => k_is)
    (case c10 => k_is)
    (case k10 => k_is)
    (case a11 => k_is)
    (case l11 => k_is)
    (case c11 => k_is)
    (case k11 => k_is)
    (case a12 => k_is)
    (case l12 => k_is)
    (case c12 => k_is)
    (case k12 => k_is)
    (case a13 => k_is)
    (case l13 => k_is)
    (case c13 => k_is)
    (case k13 => k_is)
    (case a14 => k_is)
    (case l14 => k_is)
    (case c14 => k_is)
    (case k14 => k_is)
    (case a15 => k_is)
    (case l15 => k_is)
    (case c15 => k_is)
    (case k15 => k_is)
    (case a16 => k_is)
    (case l16 => k_is)
    (case c16 => k_is)
    (case k16 => k_is)
    (case a17 => k_is)
    (case l17 => k_is)
    (case c17 => k_is)
    (case k17 => k_is)
    (case a18 => k_is)
    (case l18 => k_is)
    (case c18 => k_is)
    (case k18 => k_is)
    (case a20 => k_is)
    (case l20 => k_is)
    (case c20 => k_is)
    (case k20 => k_is)
    (case a21 => k_is)
    (case l21 => k_is)
    (case c21 => k_is)
    (case k21 => k_is)
    (case a22 => k_is)
    (case l22 => k_is)
    (case c22 => k_is)
    (case k22 => k_is)
    (case a24 => k_is)
    (case l24 => k_is)
    (case c24 => k_is)
    (case k24 => k_is)
    (case a25 => k_is)
    (case l25 => k_is)
    (case c25 => k_is)
    (case k25 => k_is)
    (case a26 => k_is)
    (case l26 => k_is)
    (case c26 => k_is)
    (case k26 => k_is)
    (case a27 => k_is)
    (case l27 => k_is)
    (case c27 => k_is)
    (case k27 => k_is)
    (case a28 => k_is)
    (case l28 => k_is)
    (case c28 => k_is)
    (case k28 => k_is)
    (case a30 => k_is)
    (case l30 => k_is)
    (case c30 => k_is)
    (case k30 => k_is)
    (case a33 => k_is)
    (case l33 => k_is)
    (case c33 => k_is)
    (case k33 => k_is)
    (case a34 => k_is)
    (case l34 => k_is)
    (case c34 => k_is)
    (case k34 => k_is)
    (case z_abs => k_is)
    (case z_all => k_is)
    (case z_bool => k_is)
    (case z_int => k_is)
    (case z_isinstance => k_is)
    (case z_len => k_is)
    (case z_list => k_is)
    (case z_max => k_is)
    (case z_min => k_is)
    (case z_range => k_is)
    (case z_str => k_is)
    (case z_tuple => k_is)
    (case z_zip => k_is)
    (case ac6 => k_is)
    (case ac7 => k_is)
    (case ac8 => k_is)
    (case ac9 => k_is)
    case rc6 =>
      exact PD.cst_str
    case rc7 =>
      exact PD.cst_str
    case rc8 =>
      exact PD.cst_str
    case rc9 =>
      refine' PD.cst_tup ?l ?n ?a
      case l => k_is
      case n => decide
      case a =>
        refine' PD.cst_cons ?x ?y
        case x =>
          exact PD.cst_str
        case y =>
          refine' PD.cst_cons ?x ?y
          case x =>
            exact PD.cst_int
          case y =>
            refine' PD.cst_cons ?x ?y
            case x =>
              exact PD.cst_int
            case y =>
              refine' PD.cst_cons ?x ?y
              case x =>
                refine' PD.cst_tup ?l ?n ?a
                case l => k_is
                case n => decide
                case a =>
                  exact PD.cst_nil
              case y =>
                exact PD.cst_nil

