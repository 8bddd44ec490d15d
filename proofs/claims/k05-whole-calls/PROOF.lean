import PyProof.Rows.All
import Wide.All
import OpenK.AllK
import Wide.FinOn
import PyProof.EqAt
import PyProof.EqKinds
import PyProof.TupleCall
import HandS.ForMost
import HandS.ForExc
import HandS.Deep
import HandS.CallSlots
import HandS.IsInst
import HandS.Defaults
import HandS.SetFor
import HandS.ExcOwn
import HandS.TryMany
import HandS.Style
import HandS.ExcInit
import HandS.ExcField
import HandS.ExcIs
import PySem.Challenge.RW_hookhall_k05_whole_calls
set_option Elab.async false
set_option linter.all false
set_option maxRecDepth 100000
set_option maxHeartbeats 4000000
/-! A small functional reading over the hand layer: values by what they are (PyData), lists that are still changed and objects by the slot that owns them. -/
namespace Fw
open PySem L2

abbrev PD := PyData

structure PieceM where
  name : Str
  place : Str
  deed : PD
  by_ : Option Str
  ahead : List Str
  behind : List Str
  needs : List Str
  bars : List Str
structure HallM where
  kinds : List (Str × Str)
  rules : List (Str × Str)
  pieces : List PieceM
  off : List Str
structure RunM where
  kind : Str
  rule : Str
  rows : List (Str × PD)
  worth : Int
  spot : Nat
  shut : Bool
  torn : Bool
  told : List PD
  backs : List Int
  held : List PD
inductive Ob where
  | hall (h : HallM)
  | run (r : RunM)

structure Xc where
  cls : Str
  fs : List (Str × PD)
/-- a data value as it stands, lists and tuples tracked; fh, fp: a hall, a piece of it, that stand still; xc: the exception in hand -/
inductive Sl where
  | un
  | pv (d : PD)
  | ls (r : Bool) (xs : List PD)
  | dk (r : Bool) (kvs : List (Str × PD))
  | sc (ns : List Int)
  | ob (r : Bool) (o : Ob)
  | fh (h : HallM)
  | fp (c : PieceM)
  | cl (xs : List Str)
  | xc (x : Xc)
inductive Rv where
  | pv (d : PD)
  | bor (i : Nat)
  | ow (s : Sl)
abbrev En := List Sl
inductive R (α : Type) where
  | ok (a : α) (e : En)
  | ex (x : Xc) (e : En)
  | no
def R.bind {α β : Type} (r : R α) (k : α → En → R β) : R β := match r with
  | .ok a e => k a e
  | .ex x e => .ex x e
  | .no => .no
@[simp] theorem bind_ok {α β : Type} (a : α) (e : En) (k : α → En → R β) : (R.ok a e).bind k = k a e := rfl
@[simp] theorem bind_ex {α β : Type} (x : Xc) (e : En) (k : α → En → R β) : (R.ex x e).bind k = .ex x e := rfl
@[simp] theorem bind_no {α β : Type} (k : α → En → R β) : (R.no : R α).bind k = .no := rfl
abbrev Fx := En → R Rv
inductive Fl where
  | nx
  | rt (v : Rv)
  | bk
  | ct
abbrev Fs := En → R Fl

/-! ### data in a heap -/
mutual
inductive Dq (J : Hp) : V → PD → Prop
  | non : Dq J .non .none
  | bl (b : Bool) : Dq J (.bl b) (.bool b)
  | int (i : Int) : Dq J (.int i) (.int i)
  | str (x : Str) : Dq J (.str x) (.str x)
  | lst {a : Addr} {xs : List V} {ds : List PD} : J a = some (.lst xs) → DqAll J xs ds → Dq J (.ref a) (.list ds)
  | tup {a : Addr} {xs : List V} {ds : List PD} : J a = some (.tup xs) → DqAll J xs ds → Dq J (.ref a) (.tuple ds)
inductive DqAll (J : Hp) : List V → List PD → Prop
  | nil : DqAll J [] []
  | cons {v : V} {vs : List V} {d : PD} {ds : List PD} : Dq J v d → DqAll J vs ds → DqAll J (v :: vs) (d :: ds)
end
mutual
theorem Dq.mono {J J' : Hp} (s : Same J J') : ∀ (d : PD) (v : V), Dq J v d → Dq J' v d
  | .none, _, h => by cases h; exact .non
  | .bool b, _, h => by cases h; exact .bl b
  | .int i, _, h => by cases h; exact .int i
  | .str x, _, h => by cases h; exact .str x
  | .list ds, _, h => by
    cases h with
    | lst h1 h2 => exact .lst (s _ _ h1) (DqAll.mono s ds _ h2)
  | .tuple ds, _, h => by
    cases h with
    | tup h1 h2 => exact .tup (s _ _ h1) (DqAll.mono s ds _ h2)
  | .dict _, _, h => by cases h
theorem DqAll.mono {J J' : Hp} (s : Same J J') : ∀ (ds : List PD) (vs : List V), DqAll J vs ds → DqAll J' vs ds
  | [], _, h => by cases h; exact .nil
  | d :: ds, _, h => by
    cases h with
    | cons h1 h2 => exact .cons (Dq.mono s d _ h1) (DqAll.mono s ds _ h2)
end
mutual
theorem Dq.dp {K : PySem.W.Frag} {J : Hp} : ∀ (d : PD) (v : V), Dq J v d → Dp K J v d
  | .none, _, h => by cases h; exact .non
  | .bool b, _, h => by cases h; exact .bl b
  | .int i, _, h => by cases h; exact .int i
  | .str x, _, h => by cases h; exact .str x
  | .list ds, _, h => by
    cases h with
    | lst h1 h2 => exact .lst (SqL.of h1) (DqAll.dp ds _ h2)
  | .tuple ds, _, h => by
    cases h with
    | tup h1 h2 => exact .tup (SqT.of h1) (DqAll.dp ds _ h2)
  | .dict _, _, h => by cases h
theorem DqAll.dp {K : PySem.W.Frag} {J : Hp} : ∀ (ds : List PD) (vs : List V), DqAll J vs ds → DpAll K J vs ds
  | [], _, h => by cases h; exact .nil
  | d :: ds, _, h => by
    cases h with
    | cons h1 h2 => exact .cons (Dq.dp d _ h1) (DqAll.dp ds _ h2)
end
theorem DqAll.length {J : Hp} : ∀ {ds : List PD} {vs : List V}, DqAll J vs ds → vs.length = ds.length
  | _, _, .nil => rfl
  | _, _, .cons _ t => congrArg (· + 1) t.length
theorem DqAll.get {J : Hp} : ∀ {ds : List PD} {vs : List V} {i : Nat} {d : PD}, DqAll J vs ds → ds[i]? = some d → ∃ v, vs[i]? = some v ∧ Dq J v d
  | _, _, _, _, .nil, h => by simp at h
  | _, _, 0, _, .cons h1 _, h => by simp at h; subst h; exact ⟨_, rfl, h1⟩
  | _, _, i + 1, _, .cons _ t, h => by
    obtain ⟨v, e, q⟩ := DqAll.get (i := i) t (by simpa using h)
    exact ⟨v, by simpa using e, q⟩
theorem DqAll.get' {J : Hp} {ds : List PD} {vs : List V} {i : Nat} {v : V} (a : DqAll J vs ds) (h : vs[i]? = some v) : ∃ d, ds[i]? = some d ∧ Dq J v d := by
  have hl := a.length
  have hi : i < vs.length := (List.getElem?_eq_some_iff.mp h).1
  obtain ⟨w, e, q⟩ := a.get (i := i) (d := ds[i]'(by omega)) (List.getElem?_eq_getElem _)
  rw [h] at e; cases e
  exact ⟨_, List.getElem?_eq_getElem _, q⟩
theorem DqAll.app {J : Hp} : ∀ {ds es : List PD} {vs ws : List V}, DqAll J vs ds → DqAll J ws es → DqAll J (vs ++ ws) (ds ++ es)
  | _, _, _, _, .nil, s => s
  | _, _, _, _, .cons r t, s => .cons r (DqAll.app t s)
theorem DqAll.snoc {J : Hp} {ds : List PD} {d : PD} {vs : List V} {w : V} (a : DqAll J vs ds) (b : Dq J w d) : DqAll J (vs ++ [w]) (ds ++ [d]) := a.app (.cons b .nil)
theorem DqAll.take {J : Hp} : ∀ {ds : List PD} {vs : List V} (n : Nat), DqAll J vs ds → DqAll J (vs.take n) (ds.take n)
  | _, _, 0, _ => .nil
  | _, _, _ + 1, .nil => .nil
  | _, _, n + 1, .cons r t => .cons r (DqAll.take n t)
theorem DqAll.drop {J : Hp} : ∀ {ds : List PD} {vs : List V} (n : Nat), DqAll J vs ds → DqAll J (vs.drop n) (ds.drop n)
  | _, _, 0, r => r
  | _, _, _ + 1, .nil => .nil
  | _, _, n + 1, .cons _ t => DqAll.drop n t
theorem DqAll.erase {J : Hp} : ∀ {ds : List PD} {vs : List V} (n : Nat), DqAll J vs ds → DqAll J (vs.eraseIdx n) (ds.eraseIdx n)
  | _, _, _, .nil => .nil
  | _, _, 0, .cons _ t => t
  | _, _, n + 1, .cons r t => .cons r (DqAll.erase n t)
theorem DqAll.set {J : Hp} {d : PD} {w : V} (q : Dq J w d) : ∀ {ds : List PD} {vs : List V} (n : Nat), DqAll J vs ds → DqAll J (vs.set n w) (ds.set n d)
  | _, _, _, .nil => .nil
  | _, _, 0, .cons _ t => .cons q t
  | _, _, n + 1, .cons r t => .cons r (DqAll.set q n t)
theorem DqAll.rev {J : Hp} : ∀ {ds : List PD} {vs : List V}, DqAll J vs ds → DqAll J vs.reverse ds.reverse
  | _, _, .nil => .nil
  | _, _, .cons r t => by rw [List.reverse_cons, List.reverse_cons]; exact t.rev.snoc r
theorem DqAll.ints {J : Hp} : ∀ (ns : List Int), DqAll J (ns.map V.int) (ns.map PyData.int)
  | [] => .nil
  | n :: r => .cons (.int n) (DqAll.ints r)
theorem DqAll.strs {J : Hp} : ∀ (ns : List Str), DqAll J (ns.map V.str) (ns.map PyData.str)
  | [] => .nil
  | n :: r => .cons (.str n) (DqAll.strs r)

/-! ### parts of the heap: 0 what stays as it is, 1 what is not ours, 2 a new result, i + 3 what the slot i owns -/
abbrev Pt := Nat → Hp
def emp : Hp := fun _ => none
structure Wd (P : Pt) (H : Hp) : Prop where
  sub : ∀ i, Same (P i) H
  dis : ∀ i j, i ≠ j → ∀ b, P i b ≠ none → P j b = none
def Pt.set (P : Pt) (k : Nat) (m : Hp) : Pt := fun i => if i = k then m else P i
@[simp] theorem Pt.set_same {P : Pt} {k : Nat} {m : Hp} : P.set k m k = m := if_pos rfl
theorem Pt.set_ne {P : Pt} {k i : Nat} {m : Hp} (h : i ≠ k) : P.set k m i = P i := if_neg h
theorem Wd.set {P : Pt} {H : Hp} {k : Nat} {m : Hp} (w : Wd P H) (s : Same m H) (d : ∀ i, i ≠ k → ∀ b, m b ≠ none → P i b = none) : Wd (P.set k m) H where
  sub := fun i => by
    by_cases h : i = k
    · subst h; rw [Pt.set_same]; exact s
    · rw [Pt.set_ne h]; exact w.sub i
  dis := fun i j hij b hb => by
    by_cases h : i = k
    · subst h
      rw [Pt.set_same] at hb
      rw [Pt.set_ne (Ne.symm hij)]
      exact d j (Ne.symm hij) b hb
    · rw [Pt.set_ne h] at hb
      by_cases h2 : j = k
      · subst h2
        rw [Pt.set_same]
        cases q : m b with
        | none => rfl
        | some o => exact absurd (d i h b (by rw [q]; exact fun z => by cases z)) hb
      · rw [Pt.set_ne h2]; exact w.dis i j hij b hb
theorem same_emp (H : Hp) : Same emp H := fun _ _ h => by cases h
theorem Wd.drop {P : Pt} {H : Hp} (w : Wd P H) (k : Nat) : Wd (P.set k emp) H := w.set (same_emp H) fun _ _ _ hb => absurd rfl hb
/-- a new object, in the part k -/
theorem Wd.alloc {P : Pt} {H : Hp} {p : Addr} {o : HO} (w : Wd P H) (h : H p = none) (k : Nat) : Wd (P.set k (upd (P k) p o)) (upd H p o) := by
  have fresh : ∀ i, P i p = none := fun i => (w.sub i).free h
  have w1 : Wd P (upd H p o) := ⟨fun i a u e => by rw [upd_ne (ne_of_none (w.sub i a u e) h)]; exact w.sub i a u e, w.dis⟩
  refine w1.set (fun a u e => ?_) fun i hi b hb => ?_
  · by_cases hp : a = p
    · subst hp; rw [upd_same] at e ⊢; exact e
    · rw [upd_ne hp] at e ⊢; exact w.sub k a u e
  · by_cases hp : b = p
    · subst hp; exact fresh i
    · rw [upd_ne hp] at hb; exact w.dis k i (Ne.symm hi) b hb
/-- a new object that is the whole part k from then on -/
def one (p : Addr) (o : HO) : Hp := upd emp p o
theorem one_at {p : Addr} {o : HO} : one p o p = some o := upd_same
theorem one_ne {p b : Addr} {o : HO} (h : one p o b ≠ none) : b = p := by
  by_cases e : b = p
  · exact e
  · exfalso; apply h; unfold one; rw [upd_ne e]; rfl
theorem Wd.alloc1 {P : Pt} {H : Hp} {p : Addr} {o : HO} (w : Wd P H) (h : H p = none) (k : Nat) : Wd (P.set k (one p o)) (upd H p o) := by
  have w1 : Wd P (upd H p o) := ⟨fun i a u e => by rw [upd_ne (ne_of_none (w.sub i a u e) h)]; exact w.sub i a u e, w.dis⟩
  refine w1.set (fun a u e => ?_) fun i hi b hb => ?_
  · have z := one_ne (p := p) (o := o) (b := a) (by rw [e]; exact fun z => by cases z)
    subst z
    rw [one_at] at e; rw [upd_same]; exact e
  · rw [one_ne hb]; exact (w.sub i).free h
/-- an object of the part k is changed -/
theorem Wd.mut {P : Pt} {H : Hp} {p : Addr} {u o : HO} {k : Nat} (w : Wd P H) (h : P k p = some u) : Wd (P.set k (upd (P k) p o)) (upd H p o) where
  sub := fun i a v e => by
    by_cases hi : i = k
    · subst hi
      rw [Pt.set_same] at e
      by_cases hp : a = p
      · subst hp; rw [upd_same] at e ⊢; exact e
      · rw [upd_ne hp] at e ⊢; exact w.sub _ a v e
    · rw [Pt.set_ne hi] at e
      have hp : a ≠ p := fun z => by
        subst z
        have := w.dis i k hi a (by rw [e]; exact fun z => by cases z)
        rw [h] at this; cases this
      rw [upd_ne hp]; exact w.sub i a v e
  dis := fun i j hij b hb => by
    have key : ∀ i, (P.set k (upd (P k) p o)) i b ≠ none → P i b ≠ none := fun i hb => by
      by_cases hi : i = k
      · subst hi
        rw [Pt.set_same] at hb
        by_cases hp : b = p
        · subst hp; rw [h]; exact fun z => by cases z
        · rw [upd_ne hp] at hb; exact hb
      · rw [Pt.set_ne hi] at hb; exact hb
    have z := w.dis i j hij b (key i hb)
    cases q : (P.set k (upd (P k) p o)) j b with
    | none => rfl
    | some v => exact absurd z (key j (by rw [q]; exact fun z => by cases z))
def uni (A B : Hp) : Hp := fun b => match A b with
  | some o => some o
  | none => B b
theorem uni_l {A B : Hp} : Same A (uni A B) := fun b o e => by show (match A b with | some o => some o | none => B b) = some o; rw [e]
theorem uni_r {A B : Hp} (d : ∀ b, B b ≠ none → A b = none) : Same B (uni A B) := fun b o e => by
  show (match A b with | some o => some o | none => B b) = some o
  rw [d b (by rw [e]; exact fun z => by cases z)]
  exact e
theorem uni_or {A B : Hp} {b : Addr} (h : uni A B b ≠ none) : A b ≠ none ∨ B b ≠ none := by
  cases q : A b with
  | some o => exact .inl (fun z => by cases z)
  | none =>
    right
    intro z
    apply h
    show (match A b with | some o => some o | none => B b) = none
    rw [q]; exact z
/-- the part a goes over into the part b -/
theorem Wd.join {P : Pt} {H : Hp} {a b : Nat} (w : Wd P H) (h : a ≠ b) : Wd ((P.set a emp).set b (uni (P b) (P a))) H := by
  refine (w.drop a).set (fun c o e => ?_) fun i hi c hc => ?_
  · have e' : (match P b c with | some o => some o | none => P a c) = some o := e
    cases q : P b c with
    | some u => rw [q] at e'; rw [← e']; exact w.sub b c u q
    | none => rw [q] at e'; exact w.sub a c o e'
  · by_cases hia : i = a
    · subst hia; rw [Pt.set_same]; rfl
    · rw [Pt.set_ne hia]
      rcases uni_or hc with z | z
      · exact w.dis b i (Ne.symm hi) c z
      · exact w.dis a i (Ne.symm hia) c z
/-- the part a goes into the place of the part b -/
theorem Wd.move {P : Pt} {H : Hp} {a b : Nat} (w : Wd P H) (h : a ≠ b) : Wd ((P.set a emp).set b (P a)) H := by
  refine (w.drop a).set (w.sub a) fun i hi c hc => ?_
  by_cases hia : i = a
  · subst hia; rw [Pt.set_same]; rfl
  · rw [Pt.set_ne hia]; exact w.dis a i (Ne.symm hia) c hc

/-! ### what the slots hold -/
structure Gx where
  K : PySem.W.Frag
  mg : Str → Option Value
  CH : Addr
  CP : Addr
  CR : Addr
  C : Hp
  xa : Option (Addr × Value × Option Addr)
/-- the same, with another part that stands still -/
def Gx.wC (G : Gx) (c : Hp) : Gx := { G with C := c }
def Gx.wx (G : Gx) (x : Addr × Value × Option Addr) : Gx := { G with xa := some x }
def kvRel (J : Hp) : List (Key × V) → List (Str × PD) → Prop := Paired fun (p : Key × V) (q : Str × PD) => p.1 = Sum.inr q.1 ∧ Dq J p.2 q.2

/-- a piece at q, its four lists at ls -/
structure PcAt (G : Gx) (J m : Hp) (q : Addr) (ls : List Addr) (c : PieceM) : Prop where
  ex : ∃ dq a1 a2 a3 a4 w, ls = [a1, a2, a3, a4] ∧ Dq J w c.deed ∧
    m q = some (.ins G.CP dq [("name", .str c.name), ("place", .str c.place), ("deed", w), ("by", match c.by_ with | none => V.non | some s => V.str s), ("ahead", .ref a1), ("behind", .ref a2), ("needs", .ref a3), ("bars", .ref a4)]) ∧
    m a1 = some (.lst (c.ahead.map V.str)) ∧ m a2 = some (.lst (c.behind.map V.str)) ∧ m a3 = some (.lst (c.needs.map V.str)) ∧ m a4 = some (.lst (c.bars.map V.str))
inductive PcsAt (G : Gx) (J m : Hp) : List Addr → List (List Addr) → List PieceM → Prop
  | nil : PcsAt G J m [] [] []
  | cons {q : Addr} {qs : List Addr} {l : List Addr} {ls : List (List Addr)} {c : PieceM} {cs : List PieceM} : PcAt G J m q l c → PcsAt G J m qs ls cs → PcsAt G J m (q :: qs) (l :: ls) (c :: cs)
structure HallR where
  dx : Addr
  ka : Addr
  ra : Addr
  ha : Addr
  oa : Addr
  qs : List Addr
  ls : List (List Addr)
structure HallOk (G : Gx) (J m : Hp) (p : Addr) (h : HallM) (r : HallR) : Prop where
  ins : m p = some (.ins G.CH r.dx [("kinds", .ref r.ka), ("rules", .ref r.ra), ("hung", .ref r.ha), ("off", .ref r.oa)])
  kinds : m r.ka = some (.dK (h.kinds.map fun z => (Sum.inr z.1, V.str z.2)))
  rules : m r.ra = some (.dK (h.rules.map fun z => (Sum.inr z.1, V.str z.2)))
  off : m r.oa = some (.dK (h.off.map fun z => (Sum.inr z, V.bl true)))
  hung : m r.ha = some (.lst (r.qs.map V.ref))
  pcs : PcsAt G J m r.qs r.ls h.pieces
  dk : r.ka ≠ r.ra ∧ r.ka ≠ r.oa ∧ r.ra ≠ r.oa
  nd : (r.ha :: r.ls.flatten).Nodup
  nq : r.qs.Nodup
def HallAt (G : Gx) (J m : Hp) (p : Addr) (h : HallM) : Prop := ∃ r, HallOk G J m p h r
def rowD (z : Str × PD) : PD := .tuple [.str z.1, z.2]
def RunAt (G : Gx) (J m : Hp) (p : Addr) (r : RunM) : Prop := ∃ dx wa ta ba ea ws ts hs,
  m p = some (.ins G.CR dx [("kind", .str r.kind), ("rule", .str r.rule), ("rows", .ref wa), ("worth", .int r.worth), ("spot", .int (r.spot : Nat)), ("shut", .bl r.shut), ("torn", .bl r.torn), ("told", .ref ta), ("backs", .ref ba), ("held", .ref ea)]) ∧
  J wa = some (.lst ws) ∧ DqAll J ws (r.rows.map rowD) ∧ m ta = some (.lst ts) ∧ DqAll J ts r.told ∧ m ba = some (.lst (r.backs.map V.int)) ∧ m ea = some (.lst hs) ∧ DqAll J hs r.held ∧ ta ≠ ba ∧ ta ≠ ea ∧ ba ≠ ea
def ObAt (G : Gx) (J m : Hp) (p : Addr) : Ob → Prop
  | .hall h => HallAt G J m p h
  | .run r => RunAt G J m p r
theorem PcAt.mono {G : Gx} {J J' m : Hp} {q : Addr} {ls : List Addr} {c : PieceM} (s : Same J J') (h : PcAt G J m q ls c) : PcAt G J' m q ls c := by
  obtain ⟨dq, a1, a2, a3, a4, w, e, d, r⟩ := h.ex
  exact ⟨dq, a1, a2, a3, a4, w, e, Dq.mono s _ _ d, r⟩
theorem PcsAt.mono {G : Gx} {J J' m : Hp} (s : Same J J') : ∀ {qs : List Addr} {ls : List (List Addr)} {cs : List PieceM}, PcsAt G J m qs ls cs → PcsAt G J' m qs ls cs
  | _, _, _, .nil => .nil
  | _, _, _, .cons h t => .cons (h.mono s) (PcsAt.mono s t)
theorem ObAt.mono {G : Gx} {J J' m : Hp} {p : Addr} {o : Ob} (s : Same J J') (h : ObAt G J m p o) : ObAt G J' m p o := by
  cases o with
  | hall h0 =>
    obtain ⟨r, k⟩ := h
    exact ⟨r, k.ins, k.kinds, k.rules, k.off, k.hung, k.pcs.mono s, k.dk, k.nd, k.nq⟩
  | run r0 =>
    obtain ⟨dx, wa, ta, ba, ea, ws, ts, hs, h1, h2, h3, h4, h5, h6, h7, h8, h9⟩ := h
    exact ⟨dx, wa, ta, ba, ea, ws, ts, hs, h1, s _ _ h2, DqAll.mono s _ _ h3, h4, DqAll.mono s _ _ h5, h6, h7, DqAll.mono s _ _ h8, h9⟩
def XcD (G : Gx) (J : Hp) (cls : Value) (d : Option Addr) (x : Xc) : Prop := ∃ C, G.mg x.cls = some (.ref C) ∧ cls = .ref C ∧
  (x.fs = [] ∧ d = none ∨ ∃ dd fs, d = some dd ∧ J dd = some (.xd fs) ∧ Paired (fun (p : Str × V) (q : Str × PD) => p.1 = q.1 ∧ Dq J p.2 q.2) fs x.fs)
theorem xcs_mono {J J' : Hp} (s : Same J J') : ∀ {fs : List (Str × V)} {xs : List (Str × PD)}, Paired (fun (p : Str × V) (q : Str × PD) => p.1 = q.1 ∧ Dq J p.2 q.2) fs xs → Paired (fun (p : Str × V) (q : Str × PD) => p.1 = q.1 ∧ Dq J' p.2 q.2) fs xs
  | _, _, .nil => .nil
  | _, _, .cons r t => .cons ⟨r.1, Dq.mono s _ _ r.2⟩ (xcs_mono s t)
theorem XcD.mono {G : Gx} {J J' : Hp} {cls : Value} {d : Option Addr} {x : Xc} (s : Same J J') (h : XcD G J cls d x) : XcD G J' cls d x := by
  obtain ⟨C, a, b, z | ⟨dd, fs, e1, e2, e3⟩⟩ := h
  · exact ⟨C, a, b, .inl z⟩
  · exact ⟨C, a, b, .inr ⟨dd, fs, e1, s _ _ e2, xcs_mono s e3⟩⟩
def SlAt (G : Gx) (J m : Hp) (v : Option V) : Sl → Prop
  | .un => True
  | .pv d => ∃ w, v = some w ∧ Dq J w d
  | .ls _ xs => ∃ p vs, v = some (.ref p) ∧ m p = some (.lst vs) ∧ DqAll J vs xs
  | .dk _ kvs => ∃ p ks, v = some (.ref p) ∧ m p = some (.dK ks) ∧ kvRel J ks kvs
  | .sc ns => ∃ p, v = some (.ref p) ∧ SqL G.K J p (ns.map V.int)
  | .ob _ o => ∃ p, v = some (.ref p) ∧ ObAt G J m p o
  | .fh h => ∃ p, v = some (.ref p) ∧ HallAt G J G.C p h
  | .fp c => ∃ q ls, v = some (.ref q) ∧ PcAt G J G.C q ls c
  | .cl xs => ∃ p, v = some (.ref p) ∧ G.C p = some (.lst (xs.map V.str))
  | .xc x => ∃ a cls d, G.xa = some (a, cls, d) ∧ v = some (.ref a) ∧ XcD G J cls d x
theorem PcAt.heap {G : Gx} {J m m' : Hp} {q : Addr} {ls : List Addr} {c : PieceM} (s : Same m m') (h : PcAt G J m q ls c) : PcAt G J m' q ls c := by
  obtain ⟨dq, a1, a2, a3, a4, w, e, d, r, h1, h2, h3, h4⟩ := h.ex
  exact ⟨dq, a1, a2, a3, a4, w, e, d, s _ _ r, s _ _ h1, s _ _ h2, s _ _ h3, s _ _ h4⟩
theorem PcsAt.heap {G : Gx} {J m m' : Hp} (s : Same m m') : ∀ {qs : List Addr} {ls : List (List Addr)} {cs : List PieceM}, PcsAt G J m qs ls cs → PcsAt G J m' qs ls cs
  | _, _, _, .nil => .nil
  | _, _, _, .cons h t => .cons (h.heap s) (PcsAt.heap s t)
theorem HallOk.heap {G : Gx} {J m m' : Hp} {p : Addr} {h : HallM} {r : HallR} (s : Same m m') (k : HallOk G J m p h r) : HallOk G J m' p h r :=
  ⟨s _ _ k.ins, s _ _ k.kinds, s _ _ k.rules, s _ _ k.off, s _ _ k.hung, k.pcs.heap s, k.dk, k.nd, k.nq⟩
theorem HallOk.mono {G : Gx} {J J' m : Hp} {p : Addr} {h : HallM} {r : HallR} (s : Same J J') (k : HallOk G J m p h r) : HallOk G J' m p h r :=
  ⟨k.ins, k.kinds, k.rules, k.off, k.hung, k.pcs.mono s, k.dk, k.nd, k.nq⟩
theorem HallAt.mv {G : Gx} {J J' m m' : Hp} {p : Addr} {h : HallM} (s : Same J J') (t : Same m m') (k : HallAt G J m p h) : HallAt G J' m' p h := by
  obtain ⟨r, k⟩ := k
  exact ⟨r, (k.mono s).heap t⟩
end Fw
namespace Fw
open PySem L2

theorem kvRel.mono {J J' : Hp} (s : Same J J') : ∀ {ks : List (Key × V)} {kvs : List (Str × PD)}, kvRel J ks kvs → kvRel J' ks kvs
  | _, _, .nil => .nil
  | _, _, .cons r t => .cons ⟨r.1, Dq.mono s _ _ r.2⟩ (kvRel.mono s t)
theorem sql_mono {K : PySem.W.Frag} {J J' : Hp} {a : Addr} {xs : List V} (s : Same J J') (h : SqL K J a xs) : SqL K J' a xs := s.seq h
theorem sqt_mono {K : PySem.W.Frag} {J J' : Hp} {a : Addr} {xs : List V} (s : Same J J') (h : SqT K J a xs) : SqT K J' a xs := by
  rcases h with (h | ⟨o, h⟩) | h
  · exact .inl (.inl (s _ _ h))
  · exact .inl (.inr ⟨o, s _ _ h⟩)
  · exact .inr h
theorem SlAt.mono {G : Gx} {J J' m : Hp} {v : Option V} {s : Sl} (k : Same J J') (h : SlAt G J m v s) : SlAt G J' m v s := by
  cases s with
  | un => trivial
  | pv d => obtain ⟨w, e, q⟩ := h; exact ⟨w, e, Dq.mono k _ _ q⟩
  | ls r xs => obtain ⟨p, vs, e, e2, q⟩ := h; exact ⟨p, vs, e, e2, DqAll.mono k _ _ q⟩
  | dk r kvs => obtain ⟨p, vs, e, e2, q⟩ := h; exact ⟨p, vs, e, e2, kvRel.mono k q⟩
  | sc ns => obtain ⟨p, e, q⟩ := h; exact ⟨p, e, sql_mono k q⟩
  | ob r o => obtain ⟨p, e, q⟩ := h; exact ⟨p, e, q.mono k⟩
  | fh h0 => obtain ⟨p, e, q⟩ := h; exact ⟨p, e, q.mv k (Same.refl _)⟩
  | fp c => obtain ⟨q, ls, e, z⟩ := h; exact ⟨q, ls, e, z.mono k⟩
  | cl xs => obtain ⟨p, e, z⟩ := h; exact ⟨p, e, z⟩
  | xc x => obtain ⟨a, cls, d, e1, e2, z⟩ := h; exact ⟨a, cls, d, e1, e2, z.mono k⟩
structure EnvAt (G : Gx) (P : Pt) (σ : L2.St) (e : En) : Prop where
  len : e.length = σ.length
  cs : Same G.C (P 1)
  at_ : ∀ i s, e[i]? = some s → ∃ v, σ[i]? = some v ∧ SlAt G (P 0) (P (i + 3)) v s
def RvAt (G : Gx) (P : Pt) (σ : L2.St) (w : V) : Rv → Prop
  | .pv d => Dq (P 0) w d
  | .bor i => σ[i]? = some (some w)
  | .ow s => SlAt G (P 0) (P 2) (some w) s
/-- a slot that the caller still owns -/
def isRef : Option Sl → Bool
  | some (.ls true _) => true
  | some (.dk true _) => true
  | some (.ob true _) => true
  | some (.sc _) => true
  | _ => false
structure Fr (P P' : Pt) (e e' : En) : Prop where
  zero : Same (P 0) (P' 0)
  one : P' 1 = P 1
  ref : ∀ i : Nat, isRef e[i]? = true → isRef e'[i]? = true
theorem Fr.refl (P : Pt) (e : En) : Fr P P e e := ⟨Same.refl _, rfl, fun _ h => h⟩
theorem Fr.trans {P P1 P2 : Pt} {e e1 e2 : En} (a : Fr P P1 e e1) (b : Fr P1 P2 e1 e2) : Fr P P2 e e2 := ⟨a.zero.trans b.zero, b.one.trans a.one, fun i h => b.ref i (a.ref i h)⟩
abbrev XcAt (G : Gx) (P : Pt) (cls : Value) (d : Option Addr) (x : Xc) : Prop := XcD G (P 0) cls d x

/-- what is wanted behind an expression -/
def PostE (G : Gx) (W : WX) (P : Pt) (e : En) (σ : L2.St) (Q : VK) : R Rv → Prop
  | .ok v e' => ∀ P' H' w, Wd P' H' → EnvAt G P' σ e' → Fr P P' e e' → RvAt G P' σ w v → Q w H'
  | .ex x e' => ∀ P' H' cls d, Wd P' H' → EnvAt G P' σ e' → Fr P P' e e' → XcAt G P' cls d x → W cls d σ H'
  | .no => False
def SE (G : Gx) (W : WX) (te : TE) (f : Fx) : Prop := ∀ P σ H e, Wd P H → EnvAt G P σ e → ∀ Q : VK, PostE G W P e σ Q (f e) → te σ H Q
theorem PostE.from {G : Gx} {W : WX} {P P1 : Pt} {e e1 : En} {σ : L2.St} {Q : VK} {r : R Rv} (h : PostE G W P e σ Q r) (fr : Fr P P1 e e1) : PostE G W P1 e1 σ Q r := by
  cases r with
  | ok v e' => exact fun P' H' w a b c d => h P' H' w a b (fr.trans c) d
  | ex x e' => exact fun P' H' cls d a b c q => h P' H' cls d a b (fr.trans c) q
  | no => exact h
/-- one expression, then the rest -/
theorem SE.bind {G : Gx} {W : WX} {te : TE} {f : Fx} {g : Rv → En → R Rv} {P : Pt} {e : En} {σ : L2.St} {H : Hp} {Q1 Q : VK} (s : SE G W te f) (w : Wd P H) (en : EnvAt G P σ e) (h : PostE G W P e σ Q ((f e).bind g))
    (k : ∀ v e1 P1 H1 x, Wd P1 H1 → EnvAt G P1 σ e1 → Fr P P1 e e1 → RvAt G P1 σ x v → PostE G W P1 e1 σ Q (g v e1) → Q1 x H1) : te σ H Q1 := by
  refine s P σ H e w en Q1 ?_
  cases q : f e with
  | ok v e1 =>
    rw [q] at h
    exact fun P1 H1 x a b c d => k v e1 P1 H1 x a b c d (PostE.from h c)
  | ex x e1 =>
    rw [q] at h
    exact h
  | no =>
    rw [q] at h
    exact h.elim

/-- a new list given as a value stays as it is from then on -/
def frz : R Rv → R Rv
  | .ok (.ow (.ls false xs)) e => .ok (.pv (.list xs)) e
  | .ok (.ow (.fh h)) e => .ok (.ow (.fh h)) e
  | .ok (.ow (.fp c)) e => .ok (.ow (.fp c)) e
  | .ok (.ow (.cl xs)) e => .ok (.ow (.cl xs)) e
  | .ok (.ow _) _ => .no
  | r => r
def fz (f : Fx) : Fx := fun e => frz (f e)
@[simp] theorem frz_pv (d : PD) (e : En) : frz (.ok (.pv d) e) = .ok (.pv d) e := rfl
@[simp] theorem frz_bor (i : Nat) (e : En) : frz (.ok (.bor i) e) = .ok (.bor i) e := rfl
@[simp] theorem frz_ls (xs : List PD) (e : En) : frz (.ok (.ow (.ls false xs)) e) = .ok (.pv (.list xs)) e := rfl
@[simp] theorem frz_ex (x : Xc) (e : En) : frz (.ex x e) = .ex x e := rfl
theorem EnvAt.mono {G : Gx} {P P' : Pt} {σ : L2.St} {e : En} (en : EnvAt G P σ e) (z : Same (P 0) (P' 0)) (zc : Same G.C (P' 1)) (s : ∀ i, P' (i + 3) = P (i + 3)) : EnvAt G P' σ e :=
  ⟨en.len, zc, fun i sl h => by
    obtain ⟨v, a, b⟩ := en.at_ i sl h
    rw [← s i] at b
    exact ⟨v, a, b.mono z⟩⟩
theorem Wd.no20 {P : Pt} {H : Hp} (w : Wd P H) : ∀ b, P 2 b ≠ none → P 0 b = none := fun b hb => w.dis 2 0 (by decide) b hb
/-- part 2 is frozen -/
theorem freeze2 {G : Gx} {P : Pt} {H : Hp} {σ : L2.St} {e : En} {x : V} {xs : List PD} (w : Wd P H) (en : EnvAt G P σ e) (r : RvAt G P σ x (.ow (.ls false xs))) :
    ∃ P', Wd P' H ∧ EnvAt G P' σ e ∧ Fr P P' e e ∧ Dq (P' 0) x (.list xs) ∧ P' 2 = emp := by
  obtain ⟨p, vs, e1, e2, q⟩ := r
  have z : Same (P 0) ((P.set 2 emp).set 0 (uni (P 0) (P 2)) 0) := by rw [Pt.set_same]; exact uni_l
  refine ⟨(P.set 2 emp).set 0 (uni (P 0) (P 2)), w.join (by decide), en.mono z (by rw [Pt.set_ne (by decide), Pt.set_ne (by decide)]; exact en.cs) fun i => ?_, ⟨z, ?_, fun _ h => h⟩, ?_, ?_⟩
  · rw [Pt.set_ne (by omega), Pt.set_ne (by omega)]
  · rw [Pt.set_ne (by decide), Pt.set_ne (by decide)]
  · cases e1
    refine .lst (xs := vs) ?_ (DqAll.mono z _ _ q)
    rw [Pt.set_same]
    exact uni_r (w.no20) _ _ e2
  · rw [Pt.set_ne (by decide), Pt.set_same]
theorem SE.fz {G : Gx} {W : WX} {te : TE} {f : Fx} (s : SE G W te f) : SE G W te (fz f) := fun P σ H e w en Q h => by
  refine s P σ H e w en Q ?_
  have h' : PostE G W P e σ Q (frz (f e)) := h
  cases q : f e with
  | ok v e1 =>
    rw [q] at h'
    cases v with
    | pv d => exact h'
    | bor i => exact h'
    | ow sl =>
      cases sl with
      | ls r xs =>
        cases r with
        | false =>
          intro P1 H1 x a b c d
          obtain ⟨P2, a2, b2, c2, d2, _⟩ := freeze2 a b d
          exact h' P2 H1 x a2 b2 (c.trans c2) d2
        | true => exact h'.elim
      | fh h0 => exact h'
      | fp c => exact h'
      | cl xs => exact h'
      | un => exact h'.elim
      | pv d => exact h'.elim
      | dk r k => exact h'.elim
      | sc ns => exact h'.elim
      | ob r o => exact h'.elim
      | xc x => exact h'.elim
  | ex x e1 => rw [q] at h'; exact h'
  | no => rw [q] at h'; exact h'
/-- a value that is held while others are made -/
def Held (G : Gx) (P : Pt) (σ : L2.St) (w : V) : Rv → Prop
  | .pv d => Dq (P 0) w d
  | .bor i => σ[i]? = some (some w)
  | .ow (.fh h) => ∃ p, w = .ref p ∧ HallAt G (P 0) G.C p h
  | .ow (.fp c) => ∃ q ls, w = .ref q ∧ PcAt G (P 0) G.C q ls c
  | .ow (.cl xs) => ∃ p, w = .ref p ∧ G.C p = some (.lst (xs.map V.str))
  | .ow _ => False
theorem Fr.zc {P P' : Pt} {e e' : En} (fr : Fr P P' e e') : Same (P 1) (P' 1) := by rw [fr.one]; exact Same.refl _
theorem Held.mono {G : Gx} {P P' : Pt} {e e' : En} {σ : L2.St} {w : V} {v : Rv} (fr : Fr P P' e e') (h : Held G P σ w v) : Held G P' σ w v := by
  cases v with
  | pv d => exact Dq.mono fr.zero _ _ h
  | bor i => exact h
  | ow s =>
    cases s with
    | fh h0 => obtain ⟨p, e, q⟩ := h; exact ⟨p, e, q.mv fr.zero (Same.refl _)⟩
    | fp c => obtain ⟨q, ls, e, z⟩ := h; exact ⟨q, ls, e, z.mono fr.zero⟩
    | cl xs => obtain ⟨p, e, z⟩ := h; exact ⟨p, e, z⟩
    | _ => exact h
theorem frz_held {f : Fx} {e e1 : En} {v : Rv} {G : Gx} {P : Pt} {σ : L2.St} {w : V} (h : fz f e = .ok v e1) (r : RvAt G P σ w v) : Held G P σ w v := by
  cases v with
  | pv d => exact r
  | bor i => exact r
  | ow s =>
    have h' : frz (f e) = .ok (.ow s) e1 := h
    cases q : f e with
    | ok v' e' =>
      rw [q] at h'
      cases v' with
      | pv d => cases h'
      | bor i => cases h'
      | ow sl =>
        cases sl with
        | ls r xs => cases r <;> cases h'
        | fh h0 => cases h'; obtain ⟨p, e, z⟩ := r; cases e; exact ⟨p, rfl, z⟩
        | fp c => cases h'; obtain ⟨p, ls, e, z⟩ := r; cases e; exact ⟨p, ls, rfl, z⟩
        | cl xs => cases h'; obtain ⟨p, e, z⟩ := r; cases e; exact ⟨p, rfl, z⟩
        | _ => cases h'
    | ex x e' => rw [q] at h'; cases h'
    | no => rw [q] at h'; cases h'
theorem SE.bindz {G : Gx} {W : WX} {te : TE} {f : Fx} {g : Rv → En → R Rv} {P : Pt} {e : En} {σ : L2.St} {H : Hp} {Q1 Q : VK} (s : SE G W te f) (w : Wd P H) (en : EnvAt G P σ e) (h : PostE G W P e σ Q ((Fw.fz f e).bind g))
    (k : ∀ v e1 P1 H1 x, Wd P1 H1 → EnvAt G P1 σ e1 → Fr P P1 e e1 → Held G P1 σ x v → PostE G W P1 e1 σ Q (g v e1) → Q1 x H1) : te σ H Q1 := by
  refine s.fz P σ H e w en Q1 ?_
  cases q : Fw.fz f e with
  | ok v e1 =>
    rw [q] at h
    exact fun P1 H1 x a b c d => k v e1 P1 H1 x a b c (frz_held q d) (PostE.from h c)
  | ex x e1 =>
    rw [q] at h
    exact h
  | no =>
    rw [q] at h
    exact h.elim

/-! ### reading a value's inside -/
/-- a sequence: a list (true) or a tuple -/
def seqOf (e : En) : Rv → Option (Bool × List PD)
  | .pv (.list xs) => some (true, xs)
  | .pv (.tuple xs) => some (false, xs)
  | .bor i => match e[i]? with
    | some (.ls _ xs) => some (true, xs)
    | some (.sc ns) => some (true, ns.map PyData.int)
    | _ => none
  | .ow (.cl xs) => some (true, xs.map PyData.str)
  | _ => none
/-- its data, for == -/
def dataOf (e : En) : Rv → Option PD
  | .pv d => some d
  | .bor i => match e[i]? with
    | some (.ls _ xs) => some (.list xs)
    | _ => none
  | _ => none
theorem Wd.s0 {P : Pt} {H : Hp} (w : Wd P H) : Same (P 0) H := w.sub 0
theorem seqOf_at {G : Gx} {P : Pt} {H : Hp} {σ : L2.St} {e : En} {w : V} {v : Rv} {b : Bool} {xs : List PD} (wd : Wd P H) (en : EnvAt G P σ e) (r : Held G P σ w v) (h : seqOf e v = some (b, xs)) :
    ∃ a vs, w = .ref a ∧ DqAll (P 0) vs xs ∧ (b = true → SqL G.K H a vs) ∧ (b = false → SqT G.K H a vs) := by
  cases v with
  | pv d =>
    cases d with
    | list ys =>
      cases h
      cases r with
      | lst h1 h2 => exact ⟨_, _, rfl, h2, fun _ => SqL.of (wd.s0 _ _ h1), fun z => by cases z⟩
    | tuple ys =>
      cases h
      cases r with
      | tup h1 h2 => exact ⟨_, _, rfl, h2, fun z => by (cases z), fun _ => SqT.of (wd.s0 _ _ h1)⟩
    | _ => cases h
  | bor i =>
    have h' : (match e[i]? with | some (.ls _ xs) => some (true, xs) | some (.sc ns) => some (true, ns.map PyData.int) | _ => none) = some (b, xs) := h
    cases q : e[i]? with
    | none => rw [q] at h'; cases h'
    | some sl =>
      rw [q] at h'
      obtain ⟨ov, e1, e2⟩ := en.at_ i sl q
      have r' : σ[i]? = some (some w) := r
      rw [r'] at e1; cases e1
      cases sl with
      | ls rr ys =>
        cases h'
        obtain ⟨p, vs, z1, z2, z3⟩ := e2
        cases z1
        exact ⟨_, vs, rfl, z3, fun _ => SqL.of (wd.sub _ _ _ z2), fun z => by cases z⟩
      | sc ns =>
        cases h'
        obtain ⟨p, z1, z2⟩ := e2
        cases z1
        exact ⟨_, _, rfl, DqAll.ints ns, fun _ => sql_mono wd.s0 z2, fun z => by cases z⟩
      | _ => cases h'
  | ow s =>
    cases s with
    | cl ys =>
      cases h
      obtain ⟨p, e, z⟩ := r
      exact ⟨p, _, e, DqAll.strs ys, fun _ => SqL.of (wd.sub 1 _ _ (en.cs _ _ z)), fun z => by cases z⟩
    | _ => cases h
theorem dataOf_at {G : Gx} {P : Pt} {H : Hp} {σ : L2.St} {e : En} {w : V} {v : Rv} {d : PD} (wd : Wd P H) (en : EnvAt G P σ e) (r : Held G P σ w v) (h : dataOf e v = some d) : Dp G.K H w d := by
  cases v with
  | pv d' => cases h; exact Dq.dp _ _ (Dq.mono wd.s0 _ _ r)
  | bor i =>
    have h' : (match e[i]? with | some (.ls _ xs) => some (PyData.list xs) | _ => none) = some d := h
    cases q : e[i]? with
    | none => rw [q] at h'; cases h'
    | some sl =>
      rw [q] at h'
      obtain ⟨ov, e1, e2⟩ := en.at_ i sl q
      have r' : σ[i]? = some (some w) := r
      rw [r'] at e1; cases e1
      cases sl with
      | ls rr ys =>
        cases h'
        obtain ⟨p, vs, z1, z2, z3⟩ := e2
        cases z1
        exact .lst (SqL.of (wd.sub _ _ _ z2)) (DqAll.dp _ _ (DqAll.mono wd.s0 _ _ z3))
      | _ => cases h'
  | ow s => cases h

/-! ### expressions -/
structure PEx (X : Cx) (G : Gx) (W : WX) (e : Expr) (t : TE) (f : Fx) : Prop where
  pe : PE X e t
  se : SE G W t f
def fVar (i : Nat) : Fx := fun e => match e[i]? with
  | some (.pv d) => .ok (.pv d) e
  | some (.ls _ _) => .ok (.bor i) e
  | some (.dk _ _) => .ok (.bor i) e
  | some (.sc _) => .ok (.bor i) e
  | some (.ob _ _) => .ok (.bor i) e
  | some (.fh h) => .ok (.ow (.fh h)) e
  | some (.fp c) => .ok (.ow (.fp c)) e
  | _ => .no
theorem se_var {G : Gx} {W : WX} (i : Nat) : SE G W (tVar i) (fVar i) := fun P σ H e w en Q h => by
  have h' : PostE G W P e σ Q (match e[i]? with | some (.pv d) => .ok (.pv d) e | some (.ls _ _) => .ok (.bor i) e | some (.dk _ _) => .ok (.bor i) e | some (.sc _) => .ok (.bor i) e | some (.ob _ _) => .ok (.bor i) e | some (.fh h) => .ok (.ow (.fh h)) e | some (.fp c) => .ok (.ow (.fp c)) e | _ => .no) := h
  cases q : e[i]? with
  | none => rw [q] at h'; exact h'.elim
  | some sl =>
    rw [q] at h'
    obtain ⟨ov, e1, e2⟩ := en.at_ i sl q
    cases sl with
    | un => exact h'.elim
    | pv d =>
      obtain ⟨x, z1, z2⟩ := e2
      subst z1
      exact ⟨x, e1, h' P H x w en (Fr.refl _ _) z2⟩
    | ls r xs =>
      obtain ⟨p, vs, z1, z2⟩ := e2
      subst z1
      exact ⟨_, e1, h' P H _ w en (Fr.refl _ _) e1⟩
    | dk r xs =>
      obtain ⟨p, vs, z1, z2⟩ := e2
      subst z1
      exact ⟨_, e1, h' P H _ w en (Fr.refl _ _) e1⟩
    | sc ns =>
      obtain ⟨p, z1, z2⟩ := e2
      subst z1
      exact ⟨_, e1, h' P H _ w en (Fr.refl _ _) e1⟩
    | ob r o =>
      obtain ⟨p, z1, z2⟩ := e2
      subst z1
      exact ⟨_, e1, h' P H _ w en (Fr.refl _ _) e1⟩
    | fh h0 =>
      obtain ⟨p, z1, z2⟩ := e2
      subst z1
      exact ⟨_, e1, h' P H _ w en (Fr.refl _ _) ⟨p, rfl, z2⟩⟩
    | fp c =>
      obtain ⟨p, ls, z1, z2⟩ := e2
      subst z1
      exact ⟨_, e1, h' P H _ w en (Fr.refl _ _) ⟨p, ls, rfl, z2⟩⟩
    | cl xs => exact h'.elim
    | xc x => exact h'.elim
def fC (d : PD) : Fx := fun e => .ok (.pv d) e
theorem se_c {G : Gx} {W : WX} {v : V} {d : PD} (h : ∀ J, Dq J v d) : SE G W (tC v) (fC d) := fun P σ H e w en Q k => k P H v w en (Fr.refl _ _) (h _)

/-! ### operators -/
/-- what an operation gives: a value made of what was there, or a new list -/
inductive Ou where
  | val (d : PD)
  | new (xs : List PD)
  | tup (xs : List PD)
def give (o : Option Ou) (e : En) : R Rv := match o with
  | some (.val d) => .ok (.pv d) e
  | some (.new xs) => .ok (.ow (.ls false xs)) e
  | some (.tup xs) => .ok (.pv (.tuple xs)) e
  | none => .no
@[simp] theorem give_tup (xs : List PD) (e : En) : give (some (.tup xs)) e = .ok (.pv (.tuple xs)) e := rfl
@[simp] theorem give_none (e : En) : give none e = .no := rfl
@[simp] theorem give_val (d : PD) (e : En) : give (some (.val d)) e = .ok (.pv d) e := rfl
@[simp] theorem give_new (xs : List PD) (e : En) : give (some (.new xs)) e = .ok (.ow (.ls false xs)) e := rfl
def Gives (P : Pt) (H : Hp) (k : VK → Prop) : Ou → Prop
  | .val d => ∃ w, Dq (P 0) w d ∧ ∀ Q : VK, Q w H → k Q
  | .new xs => ∃ vs, DqAll (P 0) vs xs ∧ ∀ Q : VK, (∀ p, H p = none → Q (.ref p) (upd H p (.lst vs))) → k Q
  | .tup xs => ∃ vs, DqAll (P 0) vs xs ∧ ∀ Q : VK, (∀ p, H p = none → Q (.ref p) (upd H p (.tup vs))) → k Q
/-- a new tuple at p, that stays -/
theorem new_tup {G : Gx} {P : Pt} {H : Hp} {σ : L2.St} {e : En} {p : Addr} {vs : List V} {xs : List PD} (w : Wd P H) (en : EnvAt G P σ e) (hp : H p = none) (q : DqAll (P 0) vs xs) :
    Wd (P.set 0 (upd (P 0) p (.tup vs))) (upd H p (.tup vs)) ∧ EnvAt G (P.set 0 (upd (P 0) p (.tup vs))) σ e ∧ Fr P (P.set 0 (upd (P 0) p (.tup vs))) e e ∧ Dq ((P.set 0 (upd (P 0) p (.tup vs))) 0) (.ref p) (.tuple xs) := by
  have z : Same (P 0) ((P.set 0 (upd (P 0) p (.tup vs))) 0) := by
    rw [Pt.set_same]
    exact fun a u e => by rw [upd_ne (ne_of_none e ((w.sub 0).free hp))]; exact e
  refine ⟨w.alloc hp 0, en.mono z (by rw [Pt.set_ne (by decide)]; exact en.cs) fun i => Pt.set_ne (by omega), ⟨z, Pt.set_ne (by decide), fun _ h => h⟩, .tup (xs := vs) ?_ (DqAll.mono z _ _ q)⟩
  rw [Pt.set_same]; exact upd_same
/-- a new list at p is the result -/
theorem new_res {G : Gx} {P : Pt} {H : Hp} {σ : L2.St} {e : En} {p : Addr} {vs : List V} {xs : List PD} (w : Wd P H) (en : EnvAt G P σ e) (hp : H p = none) (q : DqAll (P 0) vs xs) :
    Wd (P.set 2 (one p (.lst vs))) (upd H p (.lst vs)) ∧ EnvAt G (P.set 2 (one p (.lst vs))) σ e ∧ Fr P (P.set 2 (one p (.lst vs))) e e ∧ RvAt G (P.set 2 (one p (.lst vs))) σ (.ref p) (.ow (.ls false xs)) := by
  have z : (P.set 2 (one p (.lst vs))) 0 = P 0 := Pt.set_ne (by decide)
  refine ⟨w.alloc1 hp 2, en.mono (by rw [z]; exact Same.refl _) (by rw [Pt.set_ne (by decide)]; exact en.cs) fun i => Pt.set_ne (by omega), ⟨by rw [z]; exact Same.refl _, Pt.set_ne (by decide), fun _ h => h⟩, p, vs, rfl, ?_, ?_⟩
  · rw [Pt.set_same]; exact one_at
  · rw [z]; exact q
theorem Gives.post {G : Gx} {W : WX} {P : Pt} {H : Hp} {σ : L2.St} {e : En} {k : VK → Prop} {o : Option Ou} {Q : VK} (w : Wd P H) (en : EnvAt G P σ e) (h : PostE G W P e σ Q (give o e)) (g : ∀ u, o = some u → Gives P H k u) : k Q := by
  cases o with
  | none => exact h.elim
  | some u =>
    have g' := g u rfl
    cases u with
    | val d =>
      obtain ⟨z, z1, z2⟩ := g'
      exact z2 Q (h P H z w en (Fr.refl _ _) z1)
    | new xs =>
      obtain ⟨vs, z1, z2⟩ := g'
      refine z2 Q fun p hp => ?_
      obtain ⟨a, b, c, d⟩ := new_res (G := G) w en hp z1
      exact h _ _ _ a b c d
    | tup xs =>
      obtain ⟨vs, z1, z2⟩ := g'
      refine z2 Q fun p hp => ?_
      obtain ⟨a, b, c, d⟩ := new_tup (G := G) w en hp z1
      exact h _ _ _ a b c d
def fBin (op : En → Rv → Rv → Option Ou) (fa fb : Fx) : Fx := fun e => (fz fa e).bind fun v e1 => (fz fb e1).bind fun u e2 => give (op e2 v u) e2
def OpV (G : Gx) (r : R2) (op : En → Rv → Rv → Option Ou) : Prop := ∀ P H σ e x y v u o, Wd P H → EnvAt G P σ e → Held G P σ x v → Held G P σ y u → op e v u = some o → Gives P H (fun Q => r x y H Q) o
theorem se_bin {G : Gx} {W : WX} {r : R2} {op : En → Rv → Rv → Option Ou} {ta tb : TE} {fa fb : Fx} (o : OpV G r op) (ha : SE G W ta fa) (hb : SE G W tb fb) : SE G W (tOp r ta tb) (fBin op fa fb) := fun P σ H e w en Q h =>
  ha.bindz w en h fun v e1 P1 H1 x w1 en1 fr1 r1 h1 => hb.bindz w1 en1 h1 fun u e2 P2 H2 y w2 en2 fr2 r2 h2 =>
    Gives.post w2 en2 h2 fun z hz => o P2 H2 σ e2 x y v u z w2 en2 (r1.mono fr2) r2 hz
/-- one operand -/
def fUn (op : En → Rv → Option Ou) (fa : Fx) : Fx := fun e => (fz fa e).bind fun v e1 => give (op e1 v) e1
def OpU (G : Gx) (r : V → Hp → VK → Prop) (op : En → Rv → Option Ou) : Prop := ∀ P H σ e x v o, Wd P H → EnvAt G P σ e → Held G P σ x v → op e v = some o → Gives P H (fun Q => r x H Q) o
theorem se_un {G : Gx} {W : WX} {r : V → Hp → VK → Prop} {op : En → Rv → Option Ou} {ta : TE} {fa : Fx} (o : OpU G r op) (ha : SE G W ta fa) : SE G W (fun σ H Q => ta σ H fun x H1 => r x H1 Q) (fUn op fa) := fun P σ H e w en Q h =>
  ha.bindz w en h fun v e1 P1 H1 x w1 en1 fr1 r1 h1 => Gives.post w1 en1 h1 fun z hz => o P1 H1 σ e1 x v z w1 en1 r1 hz
/-- a tracked list -/
def lstOf (e : En) : Rv → Option (List PD)
  | .pv (.list xs) => some xs
  | .bor i => match e[i]? with
    | some (.ls _ xs) => some xs
    | _ => none
  | .ow (.cl xs) => some (xs.map PyData.str)
  | _ => none
theorem lstOf_at {G : Gx} {P : Pt} {H : Hp} {σ : L2.St} {e : En} {w : V} {v : Rv} {xs : List PD} (wd : Wd P H) (en : EnvAt G P σ e) (r : Held G P σ w v) (h : lstOf e v = some xs) : ∃ a vs, w = .ref a ∧ DqAll (P 0) vs xs ∧ H a = some (.lst vs) := by
  cases v with
  | pv d =>
    cases d with
    | list ys =>
      cases h
      cases r with
      | lst h1 h2 => exact ⟨_, _, rfl, h2, wd.s0 _ _ h1⟩
    | _ => cases h
  | bor i =>
    have h' : (match e[i]? with | some (.ls _ xs) => some xs | _ => none) = some xs := h
    cases q : e[i]? with
    | none => rw [q] at h'; cases h'
    | some sl =>
      rw [q] at h'
      obtain ⟨ov, e1, e2⟩ := en.at_ i sl q
      have r' : σ[i]? = some (some w) := r
      rw [r'] at e1; cases e1
      cases sl with
      | ls rr ys =>
        cases h'
        obtain ⟨p, vs, z1, z2, z3⟩ := e2
        cases z1
        exact ⟨_, vs, rfl, z3, wd.sub _ _ _ z2⟩
      | _ => cases h'
  | ow s =>
    cases s with
    | cl ys =>
      cases h
      obtain ⟨p, e, z⟩ := r
      exact ⟨p, _, e, DqAll.strs ys, wd.sub 1 _ _ (en.cs _ _ z)⟩
    | _ => cases h
end Fw
namespace Fw
open PySem L2

/-! ### arithmetic -/
theorem opr_or {X : Cx} {f : Value → Value → Sem Value} {r1 r2 : R2} (h1 : OpR X f r1) (h2 : OpR X f r2) : OpR X f (fun x y H Q => r1 x y H Q ∨ r2 x y H Q) := by
  intro pins s σ H x y v u Q I rx ry h
  rcases h with h | h
  · exact h1 pins s σ H x y v u Q I rx ry h
  · exact h2 pins s σ H x y v u Q I rx ry h
def rAddS : R2 := fun x y H Q => ∃ i j, x = .str i ∧ y = .str j ∧ i.length + j.length ≤ sizeLine ∧ Q (.str (i ++ j)) H
def rAddA : R2 := fun x y H Q => (rI0 (fun i j => .int (i + j)) x y H Q ∨ rAddS x y H Q) ∨ rCat x y H Q
theorem op_addA {X : Cx} : OpR X (binaryOp .Add) rAddA := opr_or (opr_or op_add op_add_str) op_cat
def opAdd (e : En) : Rv → Rv → Option Ou
  | .pv (.int i), .pv (.int j) => some (.val (.int (i + j)))
  | .pv (.str x), .pv (.str y) => if x.length + y.length ≤ 100000 then some (.val (.str (x ++ y))) else none
  | v, u => match lstOf e v, lstOf e u with
    | some xs, some ys => if xs.length + ys.length ≤ 100000 then some (.new (xs ++ ys)) else none
    | _, _ => none
theorem add_lists {G : Gx} {P : Pt} {H : Hp} {σ : L2.St} {e : En} {x y : V} {v u : Rv} {o : Ou} (wd : Wd P H) (en : EnvAt G P σ e) (h1 : Held G P σ x v) (h2 : Held G P σ y u)
    (h : (match lstOf e v, lstOf e u with | some xs, some ys => if xs.length + ys.length ≤ 100000 then some (.new (xs ++ ys)) else none | _, _ => none) = some o) : Gives P H (fun Q => rAddA x y H Q) o := by
  cases q1 : lstOf e v with
  | none => rw [q1] at h; cases h
  | some xs =>
    cases q2 : lstOf e u with
    | none => rw [q1, q2] at h; cases h
    | some ys =>
      rw [q1, q2] at h
      have h' : (if xs.length + ys.length ≤ 100000 then some (Ou.new (xs ++ ys)) else none) = some o := h
      split at h'
      · rename_i hl
        cases h'
        obtain ⟨a, vs, e1, d1, t1⟩ := lstOf_at wd en h1 q1
        obtain ⟨b, ws, e2, d2, t2⟩ := lstOf_at wd en h2 q2
        subst e1 e2
        exact ⟨vs ++ ws, d1.app d2, fun Q hq => .inr ⟨a, b, vs, ws, rfl, rfl, t1, t2, by rw [d1.length, d2.length]; exact Nat.le_trans hl (by decide), hq⟩⟩
      · cases h'
theorem opv_add {G : Gx} : OpV G rAddA opAdd := by
  intro P H σ e x y v u o wd en h1 h2 h
  unfold opAdd at h
  split at h
  · cases h; cases h1; cases h2
    exact ⟨_, .int _, fun Q q => .inl (.inl ⟨_, _, rfl, rfl, q⟩)⟩
  · split at h
    · rename_i hl
      cases h; cases h1; cases h2
      exact ⟨_, .str _, fun Q q => .inl (.inr ⟨_, _, rfl, rfl, Nat.le_trans hl (by decide), q⟩)⟩
    · cases h
  · exact add_lists wd en h1 h2 h
/-- two ints -/
def opII (c : Int → Int → Prop) [∀ i j, Decidable (c i j)] (g : Int → Int → PD) (_e : En) : Rv → Rv → Option Ou
  | .pv (.int i), .pv (.int j) => if c i j then some (.val (g i j)) else none
  | _, _ => none
@[simp] theorem opII_int (c : Int → Int → Prop) [∀ i j, Decidable (c i j)] (g : Int → Int → PD) (e : En) (i j : Int) : opII c g e (.pv (.int i)) (.pv (.int j)) = if c i j then some (.val (g i j)) else none := rfl
theorem opv_II {G : Gx} {c : Int → Int → Prop} [∀ i j, Decidable (c i j)] {C : Int → Int → Prop} {g : Int → Int → PD} {gv : Int → Int → V} (hc : ∀ i j, c i j → C i j) (hg : ∀ J i j, Dq J (gv i j) (g i j)) : OpV G (rI C gv) (opII c g) := by
  intro P H σ e x y v u o wd en h1 h2 h
  unfold opII at h
  split at h
  · split at h
    · rename_i hl
      cases h; cases h1; cases h2
      exact ⟨_, hg _ _ _, fun Q q => ⟨_, _, rfl, rfl, hc _ _ hl, q⟩⟩
    · cases h
  · cases h
theorem opv_I0 {G : Gx} {g : Int → Int → PD} {gv : Int → Int → V} (hg : ∀ J i j, Dq J (gv i j) (g i j)) : OpV G (rI0 gv) (opII (fun _ _ => True) g) := by
  intro P H σ e x y v u o wd en h1 h2 h
  unfold opII at h
  split at h
  · rw [if_pos trivial] at h
    cases h; cases h1; cases h2
    exact ⟨_, hg _ _ _, fun Q q => ⟨_, _, rfl, rfl, q⟩⟩
  · cases h
abbrev opSub := opII (fun _ _ => True) (fun i j => PyData.int (i - j))
abbrev opMul := opII (fun i j => (-18446744073709551616 < i ∧ i < 18446744073709551616) ∨ (-18446744073709551616 < j ∧ j < 18446744073709551616)) (fun i j => PyData.int (i * j))
abbrev opDiv := opII (fun _ j => 0 < j ∧ j < 1073741824) (fun i j => PyData.int (i / j))
abbrev opMod := opII (fun _ j => 0 < j) (fun i j => PyData.int (i % j))
abbrev opPow := opII (fun i j => (0 ≤ j ∧ j ≤ 1000) ∧ (0 ≤ i ∧ i < 1000)) (fun i j => PyData.int (i ^ j.toNat))
abbrev opLt := opII (fun _ _ => True) (fun i j => PyData.bool (decide (i < j)))
abbrev opLe := opII (fun _ _ => True) (fun i j => PyData.bool (decide (i ≤ j)))
abbrev opGt := opII (fun _ _ => True) (fun i j => PyData.bool (decide (j < i)))
abbrev opGe := opII (fun _ _ => True) (fun i j => PyData.bool (decide (j ≤ i)))
theorem opv_sub {G : Gx} : OpV G (rI0 fun i j => .int (i - j)) opSub := opv_I0 fun _ _ _ => .int _
theorem opv_mul {G : Gx} : OpV G (rI CMul fun i j => .int (i * j)) opMul := opv_II (fun i j h => by
  rcases h with ⟨a, b⟩ | ⟨a, b⟩
  · exact .inl ⟨by omega, by omega⟩
  · exact .inr ⟨by omega, by omega⟩) fun _ _ _ => .int _
theorem opv_div {G : Gx} : OpV G (rI CDiv fun i j => .int (i / j)) opDiv := opv_II (fun _ _ h => h) fun _ _ _ => .int _
theorem opv_mod {G : Gx} : OpV G (rI (fun _ j => 0 < j) fun i j => .int (i % j)) opMod := opv_II (fun _ _ h => h) fun _ _ _ => .int _
theorem opv_pow {G : Gx} : OpV G (rI CPow fun i j => .int (i ^ j.toNat)) opPow := opv_II (fun i j h => ⟨h.1.1, by omega, by omega⟩) fun _ _ _ => .int _
theorem opv_lt {G : Gx} : OpV G (rI0 fun i j => .bl (decide (i < j))) opLt := opv_I0 fun _ _ _ => .bl _
theorem opv_le {G : Gx} : OpV G (rI0 fun i j => .bl (decide (i ≤ j))) opLe := opv_I0 fun _ _ _ => .bl _
theorem opv_gt {G : Gx} : OpV G (rI0 fun i j => .bl (decide (j < i))) opGt := opv_I0 fun _ _ _ => .bl _
theorem opv_ge {G : Gx} : OpV G (rI0 fun i j => .bl (decide (j ≤ i))) opGe := opv_I0 fun _ _ _ => .bl _

/-! ### ==, is, in -/
def sEq : PD → PD → Option Bool
  | .none, .none => some true
  | .int i, .int j => some (decide (i = j))
  | .str x, .str y => some (decide (x = y))
  | .bool x, .bool y => some (decide (x = y))
  | .none, .int _ => some false
  | .none, .str _ => some false
  | .int _, .none => some false
  | .str _, .none => some false
  | _, _ => none
def eqD (d d' : PD) : Option Bool := match sEq d d' with
  | some b => some b
  | none => if SeqAt.shaped d = true ∧ SeqAt.shaped d' = true then some (PyData.eqv d d') else none
def opEq (n : Bool) (e : En) (v u : Rv) : Option Ou := match dataOf e v, dataOf e u with
  | some d, some d' => (eqD d d').map fun b => .val (.bool (if n then !b else b))
  | _, _ => none
def rEqA (K : PySem.W.Frag) : R2 := fun x y H Q => rEq x y H Q ∨ rEqD K x y H Q
def rNeA (K : PySem.W.Frag) : R2 := fun x y H Q => rNe x y H Q ∨ rNeD K x y H Q
theorem sEq_at {K : PySem.W.Frag} {H : Hp} {x y : V} {d d' : PD} {b : Bool} (h1 : Dp K H x d) (h2 : Dp K H y d') (h : sEq d d' = some b) : scal x y = true ∧ decide (x = y) = b := by
  unfold sEq at h
  split at h <;> first | (cases h; cases h1; cases h2; constructor <;> simp [scal]) | cases h
theorem eqA_at {K : PySem.W.Frag} {H : Hp} {x y : V} {d d' : PD} {b : Bool} (h1 : Dp K H x d) (h2 : Dp K H y d') (h : eqD d d' = some b) : (∀ Q : VK, Q (.bl b) H → rEqA K x y H Q) ∧ ∀ Q : VK, Q (.bl (!b)) H → rNeA K x y H Q := by
  unfold eqD at h
  cases q : sEq d d' with
  | some b' =>
    rw [q] at h; cases h
    obtain ⟨z1, z2⟩ := sEq_at h1 h2 q
    exact ⟨fun Q k => .inl ⟨z1, by rw [z2]; exact k⟩, fun Q k => .inl ⟨z1, by rw [z2]; exact k⟩⟩
  | none =>
    rw [q] at h
    have h' : (if SeqAt.shaped d = true ∧ SeqAt.shaped d' = true then some (PyData.eqv d d') else none) = some b := h
    split at h'
    · rename_i hs
      cases h'
      exact ⟨fun Q k => .inr ⟨d, d', h1, h2, hs.1, hs.2, k⟩, fun Q k => .inr ⟨d, d', h1, h2, hs.1, hs.2, k⟩⟩
    · cases h'
theorem opv_eq {G : Gx} : OpV G (rEqA G.K) (opEq false) := by
  intro P H σ e x y v u o wd en h1 h2 h
  unfold opEq at h
  split at h
  · rename_i d d' e1 e2
    cases q : eqD d d' with
    | none => rw [q] at h; cases h
    | some b =>
      rw [q] at h; cases h
      exact ⟨_, .bl _, fun Q k => (eqA_at (dataOf_at wd en h1 e1) (dataOf_at wd en h2 e2) q).1 Q k⟩
  · cases h
theorem opv_ne {G : Gx} : OpV G (rNeA G.K) (opEq true) := by
  intro P H σ e x y v u o wd en h1 h2 h
  unfold opEq at h
  split at h
  · rename_i d d' e1 e2
    cases q : eqD d d' with
    | none => rw [q] at h; cases h
    | some b =>
      rw [q] at h; cases h
      exact ⟨_, .bl _, fun Q k => (eqA_at (dataOf_at wd en h1 e1) (dataOf_at wd en h2 e2) q).2 Q k⟩
  · cases h
theorem op_eqA {X : Cx} (hu : X.A.units + 64 < cLine) : OpR X (compareOp .Eq) (rEqA X.K) := opr_or op_eq (op_eqD hu)
theorem op_neA {X : Cx} (hu : X.A.units + 64 < cLine) : OpR X (compareOp .NotEq) (rNeA X.K) := opr_or op_ne (op_neD hu)
/-- is None -/
def isNon : Rv → Bool
  | .pv .none => true
  | _ => false
def opIs (n : Bool) (_e : En) : Rv → Rv → Option Ou
  | v, .pv .none => some (.val (.bool (if n then !isNon v else isNon v)))
  | _, _ => none
theorem isNon_at {G : Gx} {P : Pt} {σ : L2.St} {e : En} {x : V} {v : Rv} (en : EnvAt G P σ e) (h : Held G P σ x v) (hb : ∀ i, v = .bor i → ∃ p, x = .ref p) : decide (x = .non) = isNon v := by
  cases v with
  | pv d => cases h <;> simp [isNon]
  | bor i => obtain ⟨p, rfl⟩ := hb i rfl; simp [isNon]
  | ow s =>
    cases s with
    | fh h0 => obtain ⟨p, rfl, _⟩ := h; simp [isNon]
    | fp c => obtain ⟨p, ls, rfl, _⟩ := h; simp [isNon]
    | cl xs => obtain ⟨p, rfl, _⟩ := h; simp [isNon]
    | _ => exact h.elim
def rIsA : R2 := fun x y H Q => y = .non ∧ Q (.bl (decide (x = .non))) H
def rIsNA : R2 := fun x y H Q => y = .non ∧ Q (.bl (!decide (x = .non))) H
def isBor : Rv → Bool
  | .bor _ => true
  | _ => false
def opIsN (n : Bool) (e : En) (v u : Rv) : Option Ou := if isBor v then none else opIs n e v u
theorem opv_is {G : Gx} : OpV G rIsA (opIsN false) := by
  intro P H σ e x y v u o wd en h1 h2 h
  unfold opIsN at h
  split at h
  · cases h
  · rename_i hb
    unfold opIs at h
    split at h
    · cases h; cases h2
      refine ⟨_, .bl _, fun Q k => ⟨rfl, ?_⟩⟩
      rw [isNon_at en h1 (fun i z => by subst z; exact absurd rfl hb)]
      exact k
    · cases h
theorem opv_isN {G : Gx} : OpV G rIsNA (opIsN true) := by
  intro P H σ e x y v u o wd en h1 h2 h
  unfold opIsN at h
  split at h
  · cases h
  · rename_i hb
    unfold opIs at h
    split at h
    · cases h; cases h2
      refine ⟨_, .bl _, fun Q k => ⟨rfl, ?_⟩⟩
      rw [isNon_at en h1 (fun i z => by subst z; exact absurd rfl hb)]
      exact k
    · cases h
def flatD : PD → Bool
  | .none => true
  | .bool _ => true
  | .int _ => true
  | .str _ => true
  | _ => false
theorem flat_at {J : Hp} {x : V} {d : PD} (h : Dq J x d) (f : flatD d = true) : flatV x = true := by
  cases h <;> first | rfl | cases f
theorem eqv_at {J : Hp} {x y : V} {d d' : PD} (h : Dq J x d) (h' : Dq J y d') (f : flatD d = true) (f' : flatD d' = true) : eqV y x = PyData.eqv d' d := by
  cases h <;> first | (cases h' <;> first | (simp [eqV, PyData.eqv]; done) | rfl | cases f') | cases f
theorem flats_at {J : Hp} : ∀ {vs : List V} {ds : List PD}, DqAll J vs ds → ds.all flatD = true → vs.all flatV = true
  | _, _, .nil, _ => rfl
  | _, _, .cons a t, f => by
    rw [List.all_cons, Bool.and_eq_true] at f ⊢
    exact ⟨flat_at a f.1, flats_at t f.2⟩
theorem any_at {J : Hp} {x : V} {d : PD} (h : Dq J x d) (f : flatD d = true) : ∀ {vs : List V} {ds : List PD}, DqAll J vs ds → ds.all flatD = true → inV x vs = ds.any fun y => PyData.eqv y d
  | _, _, .nil, _ => rfl
  | _, _, .cons a t, g => by
    rw [List.all_cons, Bool.and_eq_true] at g
    unfold inV
    rw [List.any_cons, List.any_cons, eqv_at h a f g.1]
    have z := any_at h f t g.2
    unfold inV at z
    rw [z]
def opIn (n : Bool) (e : En) (v u : Rv) : Option Ou := match v, seqOf e u with
  | .pv d, some (b, xs) => if flatD d = true ∧ xs.all flatD = true then some (.val (.bool (if n then !(xs.any fun y => PyData.eqv y d) else xs.any fun y => PyData.eqv y d)))
    else if b = true ∧ SeqAt.shaped d = true ∧ SeqAt.shaped (.list xs) = true then some (.val (.bool (if n then !(xs.any fun y => PyData.eqv y d) else xs.any fun y => PyData.eqv y d))) else none
  | _, _ => none
def rInA (K : PySem.W.Frag) : R2 := fun x y H Q => rIn K false x y H Q ∨ rInD K x y H Q
def rNotInA (K : PySem.W.Frag) : R2 := fun x y H Q => rIn K true x y H Q ∨ rNotInD K x y H Q
theorem opin_core {G : Gx} {n : Bool} {P : Pt} {H : Hp} {σ : L2.St} {e : En} {x y : V} {v u : Rv} {o : Ou} (wd : Wd P H) (en : EnvAt G P σ e) (h1 : Held G P σ x v) (h2 : Held G P σ y u) (h : opIn n e v u = some o) :
    ∃ b, o = .val (.bool (if n then !b else b)) ∧ ((∃ p xs, y = .ref p ∧ (SqL G.K H p xs ∨ SqT G.K H p xs) ∧ flatV x = true ∧ xs.all flatV = true ∧ inV x xs = b) ∨
      ∃ d ds, Dp G.K H x d ∧ Dp G.K H y (.list ds) ∧ SeqAt.shaped d = true ∧ SeqAt.shaped (.list ds) = true ∧ (ds.any fun z => PyData.eqv z d) = b) := by
  unfold opIn at h
  split at h
  · rename_i d b xs e2
    obtain ⟨a, vs, ea, da, l1, l2⟩ := seqOf_at wd en h2 e2
    split at h
    · rename_i hf
      cases h
      refine ⟨_, rfl, .inl ⟨a, vs, ea, ?_, flat_at h1 hf.1, flats_at da hf.2, any_at h1 hf.1 da hf.2⟩⟩
      cases b with
      | true => exact .inl (l1 rfl)
      | false => exact .inr (l2 rfl)
    · split at h
      · rename_i hs
        cases h
        obtain ⟨hb, s1, s2⟩ := hs
        refine ⟨_, rfl, .inr ⟨d, xs, Dq.dp _ _ (Dq.mono wd.s0 _ _ h1), ?_, s1, s2, rfl⟩⟩
        rw [ea]
        exact .lst (l1 hb) (DqAll.dp _ _ (DqAll.mono wd.s0 _ _ da))
      · cases h
  · cases h
theorem opv_in {G : Gx} : OpV G (rInA G.K) (opIn false) := by
  intro P H σ e x y v u o wd en h1 h2 h
  obtain ⟨b, eo, hh⟩ := opin_core wd en h1 h2 h
  subst eo
  refine ⟨_, .bl _, fun Q k => ?_⟩
  rcases hh with ⟨p, xs, a, b1, c, d, rfl⟩ | ⟨d, ds, a, b1, c, d1, rfl⟩
  · exact .inl ⟨p, xs, a, b1, c, d, k⟩
  · exact .inr ⟨d, ds, a, b1, c, d1, k⟩
theorem opv_notIn {G : Gx} : OpV G (rNotInA G.K) (opIn true) := by
  intro P H σ e x y v u o wd en h1 h2 h
  obtain ⟨b, eo, hh⟩ := opin_core wd en h1 h2 h
  subst eo
  refine ⟨_, .bl _, fun Q k => ?_⟩
  rcases hh with ⟨p, xs, a, b1, c, d, rfl⟩ | ⟨d, ds, a, b1, c, d1, rfl⟩
  · exact .inl ⟨p, xs, a, b1, c, d, k⟩
  · exact .inr ⟨d, ds, a, b1, c, d1, k⟩
theorem op_inA {X : Cx} (hu : X.A.units + 65 < cLine) : OpR X (compareOp .In) (rInA X.K) := opr_or op_in_seq (op_inD hu)
theorem op_notInA {X : Cx} (hu : X.A.units + 65 < cLine) : OpR X (compareOp .NotIn) (rNotInA X.K) := opr_or op_notIn_seq (op_notInD hu)

/-! ### subscripts -/
def opIx (e : En) (v u : Rv) : Option Ou := match u with
  | .pv (.int i) => (match v with
    | .pv (.str z) => if z.length ≤ 100000 then (atI z.cps.toList i).map fun c => .val (.str ⟨#[c]⟩) else none
    | v => match seqOf e v with
      | some (_, xs) => (atI xs i).map .val
      | none => none)
  | _ => none
theorem atI_at {J : Hp} {vs : List V} {xs : List PD} {i : Int} {d : PD} (a : DqAll J vs xs) (h : atI xs i = some d) : ∃ w, atI vs i = some w ∧ Dq J w d := by
  unfold atI at h ⊢
  rw [a.length]
  cases q : ixN xs.length i with
  | none => rw [q] at h; cases h
  | some j =>
    rw [q] at h
    exact a.get h
theorem opv_ix {G : Gx} : OpV G (rIx G.K) opIx := by
  intro P H σ e x y v u o wd en h1 h2 h
  unfold opIx at h
  split at h
  · rename_i i
    cases h2
    split at h
    · rename_i z
      split at h
      · rename_i hl
        cases h1
        cases q : atI z.cps.toList i with
        | none => rw [q] at h; cases h
        | some c =>
          rw [q] at h; cases h
          exact ⟨_, .str _, fun Q k => .inr (.inr ⟨z, i, c, rfl, rfl, Nat.le_trans hl (by decide), q, k⟩)⟩
      · cases h
    · split at h
      · rename_i b xs e2
        obtain ⟨a, vs, ea, da, l1, l2⟩ := seqOf_at wd en h1 e2
        cases q : atI xs i with
        | none => rw [q] at h; cases h
        | some d =>
          rw [q] at h; cases h
          obtain ⟨w, z1, z2⟩ := atI_at da q
          refine ⟨w, z2, fun Q k => ?_⟩
          cases b with
          | true => exact .inl ⟨a, vs, i, w, ea, rfl, l1 rfl, z1, k⟩
          | false => exact .inr (.inl ⟨a, vs, i, w, ea, rfl, l2 rfl, z1, k⟩)
      · cases h
  · cases h
end Fw
namespace Fw
open PySem L2

/-! ### what is wanted, of any answer -/
def PostG {α : Type} (G : Gx) (W : WX) (P : Pt) (e : En) (σ : L2.St) (S : α → Pt → Hp → Prop) : R α → Prop
  | .ok a e' => ∀ P' H', Wd P' H' → EnvAt G P' σ e' → Fr P P' e e' → S a P' H'
  | .ex x e' => ∀ P' H' cls d, Wd P' H' → EnvAt G P' σ e' → Fr P P' e e' → XcAt G P' cls d x → W cls d σ H'
  | .no => False
theorem PostG.from {α : Type} {G : Gx} {W : WX} {P P1 : Pt} {e e1 : En} {σ : L2.St} {S : α → Pt → Hp → Prop} {r : R α} (h : PostG G W P e σ S r) (fr : Fr P P1 e e1) : PostG G W P1 e1 σ S r := by
  cases r with
  | ok v e' => exact fun P' H' a b c => h P' H' a b (fr.trans c)
  | ex x e' => exact fun P' H' cls d a b c q => h P' H' cls d a b (fr.trans c) q
  | no => exact h
theorem PostE.gen {G : Gx} {W : WX} {P : Pt} {e : En} {σ : L2.St} {Q : VK} {r : R Rv} (h : PostE G W P e σ Q r) : PostG G W P e σ (fun v P' H' => ∀ w, RvAt G P' σ w v → Q w H') r := by
  cases r with
  | ok v e' => exact fun P' H' a b c w d => h P' H' w a b c d
  | ex x e' => exact h
  | no => exact h
theorem PostG.toE {G : Gx} {W : WX} {P : Pt} {e : En} {σ : L2.St} {Q : VK} {r : R Rv} (h : PostG G W P e σ (fun v P' H' => ∀ w, RvAt G P' σ w v → Q w H') r) : PostE G W P e σ Q r := by
  cases r with
  | ok v e' => exact fun P' H' w a b c d => h P' H' a b c w d
  | ex x e' => exact h
  | no => exact h
theorem SE.bindG {α : Type} {G : Gx} {W : WX} {te : TE} {f : Fx} {g : Rv → En → R α} {P : Pt} {e : En} {σ : L2.St} {H : Hp} {Q1 : VK} {S : α → Pt → Hp → Prop} (s : SE G W te f) (w : Wd P H) (en : EnvAt G P σ e) (h : PostG G W P e σ S ((f e).bind g))
    (k : ∀ v e1 P1 H1 x, Wd P1 H1 → EnvAt G P1 σ e1 → Fr P P1 e e1 → RvAt G P1 σ x v → PostG G W P1 e1 σ S (g v e1) → Q1 x H1) : te σ H Q1 := by
  refine s P σ H e w en Q1 ?_
  cases q : f e with
  | ok v e1 =>
    rw [q] at h
    exact fun P1 H1 x a b c d => k v e1 P1 H1 x a b c d (PostG.from h c)
  | ex x e1 =>
    rw [q] at h
    exact h
  | no =>
    rw [q] at h
    exact h.elim
theorem SE.bindzG {α : Type} {G : Gx} {W : WX} {te : TE} {f : Fx} {g : Rv → En → R α} {P : Pt} {e : En} {σ : L2.St} {H : Hp} {Q1 : VK} {S : α → Pt → Hp → Prop} (s : SE G W te f) (w : Wd P H) (en : EnvAt G P σ e) (h : PostG G W P e σ S ((Fw.fz f e).bind g))
    (k : ∀ v e1 P1 H1 x, Wd P1 H1 → EnvAt G P1 σ e1 → Fr P P1 e e1 → Held G P1 σ x v → PostG G W P1 e1 σ S (g v e1) → Q1 x H1) : te σ H Q1 := by
  refine s.fz P σ H e w en Q1 ?_
  cases q : Fw.fz f e with
  | ok v e1 =>
    rw [q] at h
    exact fun P1 H1 x a b c d => k v e1 P1 H1 x a b c (frz_held q d) (PostG.from h c)
  | ex x e1 =>
    rw [q] at h
    exact h
  | no =>
    rw [q] at h
    exact h.elim

/-! ### tests -/
abbrev Ft := En → R Bool
def ST (G : Gx) (W : WX) (tt : TT) (f : Ft) : Prop := ∀ P σ H e, Wd P H → EnvAt G P σ e → ∀ Q : Bool → Hp → Prop, PostG G W P e σ (fun b _ H' => Q b H') (f e) → tt σ H Q
structure PTx (X : Cx) (G : Gx) (W : WX) (e : Expr) (t : TT) (f : Ft) : Prop where
  pt : PT X e t
  st : ST G W t f
structure PWx (X : Cx) (G : Gx) (W : WX) (e : Expr) (t : TT) (f : Ft) : Prop where
  pw : PW X e t
  st : ST G W t f
def asB (v : Rv) (e : En) : R Bool := match v with
  | .pv (.bool b) => .ok b e
  | _ => .no
@[simp] theorem asB_bool (b : Bool) (e : En) : asB (.pv (.bool b)) e = .ok b e := rfl
def fTest (f : Fx) : Ft := fun e => (fz f e).bind asB
theorem st_test {G : Gx} {W : WX} {te : TE} {f : Fx} (s : SE G W te f) : ST G W (tB te) (fTest f) := fun P σ H e w en Q h =>
  s.bindzG w en h fun v e1 P1 H1 x w1 en1 fr1 r1 h1 => by
    cases v with
    | pv d =>
      cases d with
      | bool b => cases r1; exact ⟨b, rfl, h1 P1 H1 w1 en1 (Fr.refl _ _)⟩
      | _ => exact h1.elim
    | _ => exact h1.elim
def fNot (f : Ft) : Ft := fun e => (f e).bind fun b e1 => .ok (!b) e1
theorem ST.bindG {α : Type} {G : Gx} {W : WX} {tt : TT} {f : Ft} {g : Bool → En → R α} {P : Pt} {e : En} {σ : L2.St} {H : Hp} {Q1 : Bool → Hp → Prop} {S : α → Pt → Hp → Prop} (s : ST G W tt f) (w : Wd P H) (en : EnvAt G P σ e) (h : PostG G W P e σ S ((f e).bind g))
    (k : ∀ b e1 P1 H1, Wd P1 H1 → EnvAt G P1 σ e1 → Fr P P1 e e1 → PostG G W P1 e1 σ S (g b e1) → Q1 b H1) : tt σ H Q1 := by
  refine s P σ H e w en Q1 ?_
  cases q : f e with
  | ok v e1 =>
    rw [q] at h
    exact fun P1 H1 a b c => k v e1 P1 H1 a b c (PostG.from h c)
  | ex x e1 =>
    rw [q] at h
    exact h
  | no =>
    rw [q] at h
    exact h.elim
theorem st_not {G : Gx} {W : WX} {tt : TT} {f : Ft} (s : ST G W tt f) : ST G W (tNot tt) (fNot f) := fun P σ H e w en Q h =>
  s.bindG w en h fun b e1 P1 H1 w1 en1 fr1 h1 => h1 P1 H1 w1 en1 (Fr.refl _ _)
def fAnd (f g : Ft) : Ft := fun e => (f e).bind fun b e1 => if b = true then g e1 else .ok false e1
def fOr (f g : Ft) : Ft := fun e => (f e).bind fun b e1 => if b = true then .ok true e1 else g e1
theorem st_and {G : Gx} {W : WX} {t u : TT} {f g : Ft} (s : ST G W t f) (s' : ST G W u g) : ST G W (tAnd t u) (fAnd f g) := fun P σ H e w en Q h =>
  s.bindG w en h fun b e1 P1 H1 w1 en1 fr1 h1 => by
    cases b with
    | true => exact s' P1 σ H1 e1 w1 en1 Q h1
    | false => exact h1 P1 H1 w1 en1 (Fr.refl _ _)
theorem st_or {G : Gx} {W : WX} {t u : TT} {f g : Ft} (s : ST G W t f) (s' : ST G W u g) : ST G W (tOr t u) (fOr f g) := fun P σ H e w en Q h =>
  s.bindG w en h fun b e1 P1 H1 w1 en1 fr1 h1 => by
    cases b with
    | true => exact h1 P1 H1 w1 en1 (Fr.refl _ _)
    | false => exact s' P1 σ H1 e1 w1 en1 Q h1
/-- and, or, not as values -/
def fAndV (fa fb : Fx) : Fx := fun e => ((fz fa e).bind asB).bind fun b e1 => if b = true then fz fb e1 else .ok (.pv (.bool false)) e1
def fOrV (fa fb : Fx) : Fx := fun e => ((fz fa e).bind asB).bind fun b e1 => if b = true then .ok (.pv (.bool true)) e1 else fz fb e1
def fNotV (fa : Fx) : Fx := fun e => ((fz fa e).bind asB).bind fun b e1 => .ok (.pv (.bool (!b))) e1
theorem bind_assoc {α β γ : Type} (r : R α) (k : α → En → R β) (l : β → En → R γ) : (r.bind k).bind l = r.bind fun a e => (k a e).bind l := by
  cases r <;> rfl
theorem se_andV {G : Gx} {W : WX} {ta tb : TE} {fa fb : Fx} (s : SE G W ta fa) (s' : SE G W tb fb) : SE G W (tAndV ta tb) (fAndV fa fb) := fun P σ H e w en Q h => by
  have h' : PostE G W P e σ Q (((fz fa e).bind asB).bind fun b e1 => if b = true then fz fb e1 else .ok (.pv (.bool false)) e1) := h
  rw [bind_assoc] at h'
  refine s.bindz w en h' fun v e1 P1 H1 x w1 en1 fr1 r1 h1 => ?_
  cases v with
  | pv d =>
    cases d with
    | bool b =>
      cases r1
      refine ⟨b, rfl, ?_⟩
      cases b with
      | true => exact s'.fz P1 σ H1 e1 w1 en1 Q h1
      | false => exact h1 P1 H1 _ w1 en1 (Fr.refl _ _) (.bl _)
    | _ => exact h1.elim
  | _ => exact h1.elim
theorem se_orV {G : Gx} {W : WX} {ta tb : TE} {fa fb : Fx} (s : SE G W ta fa) (s' : SE G W tb fb) : SE G W (tOrV ta tb) (fOrV fa fb) := fun P σ H e w en Q h => by
  have h' : PostE G W P e σ Q (((fz fa e).bind asB).bind fun b e1 => if b = true then .ok (.pv (.bool true)) e1 else fz fb e1) := h
  rw [bind_assoc] at h'
  refine s.bindz w en h' fun v e1 P1 H1 x w1 en1 fr1 r1 h1 => ?_
  cases v with
  | pv d =>
    cases d with
    | bool b =>
      cases r1
      refine ⟨b, rfl, ?_⟩
      cases b with
      | true => exact h1 P1 H1 _ w1 en1 (Fr.refl _ _) (.bl _)
      | false => exact s'.fz P1 σ H1 e1 w1 en1 Q h1
    | _ => exact h1.elim
  | _ => exact h1.elim
theorem se_notV {G : Gx} {W : WX} {ta : TE} {fa : Fx} (s : SE G W ta fa) : SE G W (tNotV ta) (fNotV fa) := fun P σ H e w en Q h => by
  have h' : PostE G W P e σ Q (((fz fa e).bind asB).bind fun b e1 => .ok (.pv (.bool (!b))) e1) := h
  rw [bind_assoc] at h'
  refine s.bindz w en h' fun v e1 P1 H1 x w1 en1 fr1 r1 h1 => ?_
  cases v with
  | pv d =>
    cases d with
    | bool b =>
      cases r1
      exact ⟨b, rfl, h1 P1 H1 _ w1 en1 (Fr.refl _ _) (.bl _)⟩
    | _ => exact h1.elim
  | _ => exact h1.elim

/-! ### a slot's list given away as data -/
def fzv (v : Rv) (e : En) : R Rv := match v with
  | .pv d => .ok (.pv d) e
  | .bor i => (match e[i]? with
    | some (.ls false xs) => .ok (.pv (.list xs)) (e.set i (.pv (.list xs)))
    | _ => .no)
  | .ow _ => .no
def fDz (f : Fx) : Fx := fun e => (fz f e).bind fzv
@[simp] theorem fzv_pv (d : PD) (e : En) : fzv (.pv d) e = .ok (.pv d) e := rfl
theorem isRef_set {e : En} {i j : Nat} {s : Sl} (hn : isRef e[i]? = false) (h : isRef e[j]? = true) : isRef (e.set i s)[j]? = true := by
  by_cases q : i = j
  · subst q; rw [hn] at h; cases h
  · rw [List.getElem?_set_ne q]; exact h
theorem fzv_at {G : Gx} {P : Pt} {H : Hp} {σ : L2.St} {e : En} {v : Rv} {x : V} {r : Rv} {e' : En} (w : Wd P H) (en : EnvAt G P σ e) (hd : Held G P σ x v) (h : fzv v e = .ok r e') :
    ∃ P' d, r = .pv d ∧ Wd P' H ∧ EnvAt G P' σ e' ∧ Fr P P' e e' ∧ Dq (P' 0) x d := by
  cases v with
  | pv d => cases h; exact ⟨P, d, rfl, w, en, Fr.refl _ _, hd⟩
  | bor i =>
    have h' : (match e[i]? with | some (.ls false xs) => R.ok (Rv.pv (.list xs)) (e.set i (.pv (.list xs))) | _ => .no) = .ok r e' := h
    cases q : e[i]? with
    | none => rw [q] at h'; cases h'
    | some sl =>
      rw [q] at h'
      cases sl with
      | ls rr xs =>
        cases rr with
        | true => cases h'
        | false =>
          cases h'
          obtain ⟨ov, e1, p, vs, z1, z2, z3⟩ := en.at_ i _ q
          subst z1
          have hd' : σ[i]? = some (some x) := hd
          rw [e1] at hd'; cases hd'
          have z : Same (P 0) (((P.set (i + 3) emp).set 0 (uni (P 0) (P (i + 3)))) 0) := by rw [Pt.set_same]; exact uni_l
          have zz : Dq (((P.set (i + 3) emp).set 0 (uni (P 0) (P (i + 3)))) 0) (.ref p) (.list xs) := by
            refine .lst (xs := vs) ?_ (DqAll.mono z _ _ z3)
            rw [Pt.set_same]
            exact uni_r (fun b hb => w.dis (i + 3) 0 (by omega) b hb) _ _ z2
          refine ⟨(P.set (i + 3) emp).set 0 (uni (P 0) (P (i + 3))), .list xs, rfl, w.join (by omega), ⟨by rw [List.length_set]; exact en.len, ?_, fun j s hj => ?_⟩, ⟨z, ?_, fun j hj => isRef_set (by rw [q]; rfl) hj⟩, zz⟩
          · rw [Pt.set_ne (by decide), Pt.set_ne (by omega)]; exact en.cs
          · by_cases hij : i = j
            · subst hij
              have hlt : i < e.length := (List.getElem?_eq_some_iff.mp q).1
              rw [List.getElem?_set_self hlt] at hj
              cases hj
              exact ⟨_, e1, _, rfl, zz⟩
            · rw [List.getElem?_set_ne hij] at hj
              obtain ⟨v2, a, b⟩ := en.at_ j s hj
              refine ⟨v2, a, ?_⟩
              have ep : ((P.set (i + 3) emp).set 0 (uni (P 0) (P (i + 3)))) (j + 3) = P (j + 3) := by rw [Pt.set_ne (show j + 3 ≠ 0 by omega), Pt.set_ne (show j + 3 ≠ i + 3 by omega)]
              rw [ep]
              exact b.mono z
          · rw [Pt.set_ne (by decide), Pt.set_ne (by omega)]
      | _ => cases h'
  | ow s => cases h
theorem SE.dz {G : Gx} {W : WX} {te : TE} {f : Fx} (s : SE G W te f) : SE G W te (fDz f) := fun P σ H e w en Q h =>
  s.bindz w en h fun v e1 P1 H1 x w1 en1 fr1 r1 h1 => by
    cases q : fzv v e1 with
    | ok r e2 =>
      rw [q] at h1
      obtain ⟨P2, d, rfl, a, b, c, t⟩ := fzv_at w1 en1 r1 q
      exact h1 P2 H1 x a b c t
    | ex y e2 =>
      exfalso
      cases v with
      | pv d => cases q
      | bor i =>
        have q' : (match e1[i]? with | some (.ls false xs) => R.ok (Rv.pv (.list xs)) (e1.set i (.pv (.list xs))) | _ => .no) = .ex y e2 := q
        split at q' <;> cases q'
      | ow s => cases q
    | no => rw [q] at h1; exact h1.elim

/-! ### arguments -/
abbrev Fa := En → R (List Rv)
inductive HeldAll (G : Gx) (P : Pt) (σ : L2.St) : List V → List Rv → Prop
  | nil : HeldAll G P σ [] []
  | cons {w : V} {ws : List V} {v : Rv} {vs : List Rv} : Held G P σ w v → HeldAll G P σ ws vs → HeldAll G P σ (w :: ws) (v :: vs)
theorem HeldAll.mono {G : Gx} {P P' : Pt} {e e' : En} {σ : L2.St} (fr : Fr P P' e e') : ∀ {ws : List V} {vs : List Rv}, HeldAll G P σ ws vs → HeldAll G P' σ ws vs
  | _, _, .nil => .nil
  | _, _, .cons h t => .cons (h.mono fr) (t.mono fr)
theorem HeldAll.length {G : Gx} {P : Pt} {σ : L2.St} : ∀ {ws : List V} {vs : List Rv}, HeldAll G P σ ws vs → ws.length = vs.length
  | _, _, .nil => rfl
  | _, _, .cons _ t => congrArg (· + 1) t.length
theorem HeldAll.app {G : Gx} {P : Pt} {σ : L2.St} : ∀ {ws ws' : List V} {vs vs' : List Rv}, HeldAll G P σ ws vs → HeldAll G P σ ws' vs' → HeldAll G P σ (ws ++ ws') (vs ++ vs')
  | _, _, _, _, .nil, b => b
  | _, _, _, _, .cons h t, b => .cons h (t.app b)
theorem HeldAll.get {G : Gx} {P : Pt} {σ : L2.St} : ∀ {ws : List V} {vs : List Rv} {k : Nat} {v : Rv}, HeldAll G P σ ws vs → vs[k]? = some v → ∃ w, ws[k]? = some w ∧ Held G P σ w v
  | _, _, _, _, .nil, h => by simp at h
  | _, _, 0, _, .cons h1 _, h => by simp at h; subst h; exact ⟨_, rfl, h1⟩
  | _, _, k + 1, _, .cons _ t, h => by
    obtain ⟨v, e, q⟩ := HeldAll.get (k := k) t (by simpa using h)
    exact ⟨v, by simpa using e, q⟩
def SA (G : Gx) (W : WX) (ta : TA) (f : Fa) : Prop := ∀ P σ H e, Wd P H → EnvAt G P σ e → ∀ Q : List V → Hp → Prop, PostG G W P e σ (fun vs P' H' => ∀ ws, HeldAll G P' σ ws vs → Q ws H') (f e) → ta σ H Q
structure PAx (X : Cx) (G : Gx) (W : WX) (es : List Expr) (t : TA) (f : Fa) : Prop where
  pa : PA X es t
  sa : SA G W t f
def fNil : Fa := fun e => .ok [] e
def fCons (fa : Fx) (fr : Fa) : Fa := fun e => (fz fa e).bind fun v e1 => (fr e1).bind fun vs e2 => .ok (v :: vs) e2
theorem sa_nil {G : Gx} {W : WX} : SA G W tNil fNil := fun P σ H e w en Q h => h P H w en (Fr.refl _ _) [] .nil
theorem SA.bindG {α : Type} {G : Gx} {W : WX} {ta : TA} {f : Fa} {g : List Rv → En → R α} {P : Pt} {e : En} {σ : L2.St} {H : Hp} {Q1 : List V → Hp → Prop} {S : α → Pt → Hp → Prop} (s : SA G W ta f) (w : Wd P H) (en : EnvAt G P σ e) (h : PostG G W P e σ S ((f e).bind g))
    (k : ∀ vs e1 P1 H1 ws, Wd P1 H1 → EnvAt G P1 σ e1 → Fr P P1 e e1 → HeldAll G P1 σ ws vs → PostG G W P1 e1 σ S (g vs e1) → Q1 ws H1) : ta σ H Q1 := by
  refine s P σ H e w en Q1 ?_
  cases q : f e with
  | ok v e1 =>
    rw [q] at h
    exact fun P1 H1 a b c ws d => k v e1 P1 H1 ws a b c d (PostG.from h c)
  | ex x e1 =>
    rw [q] at h
    exact h
  | no =>
    rw [q] at h
    exact h.elim
theorem sa_cons {G : Gx} {W : WX} {te : TE} {tr : TA} {fa : Fx} {fr : Fa} (s : SE G W te fa) (r : SA G W tr fr) : SA G W (tCons te tr) (fCons fa fr) := fun P σ H e w en Q h =>
  s.bindzG w en h fun v e1 P1 H1 x w1 en1 fr1 r1 h1 => r.bindG w1 en1 h1 fun vs e2 P2 H2 ws w2 en2 fr2 r2 h2 => h2 P2 H2 w2 en2 (Fr.refl _ _) (x :: ws) (.cons (r1.mono fr2) r2)
/-- all of them data -/
def dsOf : List Rv → Option (List PD)
  | [] => some []
  | .pv d :: r => (dsOf r).map fun ds => d :: ds
  | _ :: _ => none
@[simp] theorem dsOf_nil : dsOf [] = some [] := rfl
@[simp] theorem dsOf_cons (d : PD) (r : List Rv) : dsOf (.pv d :: r) = (dsOf r).map fun ds => d :: ds := rfl
theorem dsOf_at {G : Gx} {P : Pt} {σ : L2.St} : ∀ {ws : List V} {vs : List Rv} {ds : List PD}, HeldAll G P σ ws vs → dsOf vs = some ds → DqAll (P 0) ws ds
  | _, _, _, .nil, h => by cases h; exact .nil
  | _, v :: vs, ds, .cons h1 t, h => by
    cases v with
    | pv d =>
      have h' : (dsOf vs).map (fun ds => d :: ds) = some ds := h
      cases q : dsOf vs with
      | none => rw [q] at h'; cases h'
      | some ds' => rw [q] at h'; cases h'; exact .cons h1 (dsOf_at t q)
    | _ => cases h
def fSeqD (l : Bool) (fa : Fa) : Fx := fun e => (fa e).bind fun vs e1 => match dsOf vs with
  | some ds => if ds.length ≤ 1000 then give (some (if l then .new ds else .tup ds)) e1 else .no
  | none => .no
theorem se_tup {G : Gx} {W : WX} {ta : TA} {fa : Fa} (s : SA G W ta fa) : SE G W (tTup ta) (fSeqD false fa) := fun P σ H e w en Q h =>
  s.bindG w en (PostE.gen h) fun vs e1 P1 H1 ws w1 en1 fr1 r1 h1 => by
    cases q : dsOf vs with
    | none => rw [q] at h1; exact h1.elim
    | some ds =>
      rw [q] at h1
      have h2 := PostG.toE h1
      have z := dsOf_at r1 q
      by_cases hl : ds.length ≤ 1000
      · have h3 : PostE G W P1 e1 σ Q (if ds.length ≤ 1000 then give (some (if false then Ou.new ds else .tup ds)) e1 else .no) := h2
        rw [if_pos hl] at h3
        exact ⟨by rw [z.length]; exact Nat.le_trans hl (by decide), (Gives.post (k := fun Q => ∀ p, H1 p = none → Q (.ref p) (upd H1 p (.tup ws))) w1 en1 h3 fun u hu => by cases hu; exact ⟨ws, z, fun Q k => k⟩)⟩
      · have h3 : PostE G W P1 e1 σ Q (if ds.length ≤ 1000 then give (some (if false then Ou.new ds else .tup ds)) e1 else .no) := h2
        rw [if_neg hl] at h3
        exact h3.elim
theorem se_lst {G : Gx} {W : WX} {ta : TA} {fa : Fa} (s : SA G W ta fa) : SE G W (tLst ta) (fSeqD true fa) := fun P σ H e w en Q h =>
  s.bindG w en (PostE.gen h) fun vs e1 P1 H1 ws w1 en1 fr1 r1 h1 => by
    cases q : dsOf vs with
    | none => rw [q] at h1; exact h1.elim
    | some ds =>
      rw [q] at h1
      have h2 := PostG.toE h1
      have z := dsOf_at r1 q
      by_cases hl : ds.length ≤ 1000
      · have h3 : PostE G W P1 e1 σ Q (if ds.length ≤ 1000 then give (some (if true then Ou.new ds else .tup ds)) e1 else .no) := h2
        rw [if_pos hl] at h3
        exact ⟨by rw [z.length]; exact Nat.le_trans hl (by decide), (Gives.post (k := fun Q => ∀ p, H1 p = none → Q (.ref p) (upd H1 p (.lst ws))) w1 en1 h3 fun u hu => by cases hu; exact ⟨ws, z, fun Q k => k⟩)⟩
      · have h3 : PostE G W P1 e1 σ Q (if ds.length ≤ 1000 then give (some (if true then Ou.new ds else .tup ds)) e1 else .no) := h2
        rw [if_neg hl] at h3
        exact h3.elim

/-! ### built-ins of one argument -/
theorem se_cb1 {G : Gx} {W : WX} {r : List V → Hp → VK → Prop} {op : En → Rv → Option Ou} {ta : TE} {fa : Fx} (o : OpU G (fun x H Q => r [x] H Q) op) (ha : SE G W ta fa) : SE G W (tCB r (tCons ta tNil)) (fUn op fa) := se_un (r := fun x H Q => r [x] H Q) o ha
def opLen (e : En) (v : Rv) : Option Ou := (seqOf e v).map fun z => .val (.int (z.2.length : Nat))
def rLen1 (K : PySem.W.Frag) : List V → Hp → VK → Prop := fun xs H Q => ∃ p ys, xs = [.ref p] ∧ (SqL K H p ys ∨ SqT K H p ys) ∧ Q (.int ys.length) H
theorem opu_len {G : Gx} : OpU G (fun x H Q => rLen1 G.K [x] H Q) opLen := by
  intro P H σ e x v o wd en h1 h
  unfold opLen at h
  cases q : seqOf e v with
  | none => rw [q] at h; cases h
  | some z =>
    obtain ⟨b, xs⟩ := z
    rw [q] at h; cases h
    obtain ⟨a, vs, ea, da, l1, l2⟩ := seqOf_at wd en h1 q
    refine ⟨_, .int _, fun Q k => ⟨a, vs, by rw [ea], ?_, by rw [da.length]; exact k⟩⟩
    cases b with
    | true => exact .inl (l1 rfl)
    | false => exact .inr (l2 rfl)
def opList (e : En) (v : Rv) : Option Ou := (seqOf e v).map fun z => .new z.2
def rList1 (K : PySem.W.Frag) : List V → Hp → VK → Prop := fun xs H Q => ∃ p ys, xs = [.ref p] ∧ (SqL K H p ys ∨ SqT K H p ys) ∧ ∀ l, H l = none → Q (.ref l) (upd H l (.lst ys))
theorem opu_list {G : Gx} : OpU G (fun x H Q => rList1 G.K [x] H Q) opList := by
  intro P H σ e x v o wd en h1 h
  unfold opList at h
  cases q : seqOf e v with
  | none => rw [q] at h; cases h
  | some z =>
    obtain ⟨b, xs⟩ := z
    rw [q] at h; cases h
    obtain ⟨a, vs, ea, da, l1, l2⟩ := seqOf_at wd en h1 q
    refine ⟨vs, da, fun Q k => ⟨a, vs, by rw [ea], ?_, k⟩⟩
    cases b with
    | true => exact .inl (l1 rfl)
    | false => exact .inr (l2 rfl)
def opTuple (e : En) (v : Rv) : Option Ou := match seqOf e v with
  | some (true, xs) => some (.tup xs)
  | _ => none
def rTuple1 (K : PySem.W.Frag) : List V → Hp → VK → Prop := fun xs H Q => ∃ p ys, xs = [.ref p] ∧ ((SqL K H p ys ∧ ∀ l, H l = none → Q (.ref l) (upd H l (.tup ys))) ∨ (SqT K H p ys ∧ Q (.ref p) H))
theorem opu_tuple {G : Gx} : OpU G (fun x H Q => rTuple1 G.K [x] H Q) opTuple := by
  intro P H σ e x v o wd en h1 h
  unfold opTuple at h
  split at h
  · rename_i xs q
    cases h
    obtain ⟨a, vs, ea, da, l1, l2⟩ := seqOf_at wd en h1 q
    exact ⟨vs, da, fun Q k => ⟨a, vs, by rw [ea], .inl ⟨l1 rfl, k⟩⟩⟩
  · cases h
def opInt (_e : En) : Rv → Option Ou
  | .pv (.int i) => some (.val (.int i))
  | .pv (.bool k) => some (.val (.int (if k then 1 else 0)))
  | _ => none
def rInt1 : List V → Hp → VK → Prop := fun xs H Q => (∃ i, xs = [.int i] ∧ Q (.int i) H) ∨ ∃ k, xs = [.bl k] ∧ Q (.int (if k then 1 else 0)) H
theorem opu_int {G : Gx} : OpU G (fun x H Q => rInt1 [x] H Q) opInt := by
  intro P H σ e x v o wd en h1 h
  unfold opInt at h
  split at h
  · cases h; cases h1; exact ⟨_, .int _, fun Q k => .inl ⟨_, rfl, k⟩⟩
  · cases h; cases h1; exact ⟨_, .int _, fun Q k => .inr ⟨_, rfl, k⟩⟩
  · cases h
def opNeg (_e : En) : Rv → Option Ou
  | .pv (.int i) => some (.val (.int (-i)))
  | _ => none
theorem opu_neg {G : Gx} : OpU G (rU fun i => .int (-i)) opNeg := by
  intro P H σ e x v o wd en h1 h
  unfold opNeg at h
  split at h
  · cases h; cases h1; exact ⟨_, .int _, fun Q k => ⟨_, rfl, k⟩⟩
  · cases h
/-- isinstance(x, T) of data -/
def tyD : PD → String
  | .none => "NoneType"
  | .bool _ => "bool"
  | .int _ => "int"
  | .str _ => "str"
  | .list _ => "list"
  | .tuple _ => "tuple"
  | .dict _ => "dict"
def isTy (n : String) (d : PD) : Bool := tyD d == n || (tyD d == "bool" && n == "int")
def opIsi (n : String) (e : En) (v : Rv) : Option Ou := (dataOf e v).map fun d => .val (.bool (isTy n d))
theorem tyx_at {K : PySem.W.Frag} {H : Hp} {x : V} {d : PD} {P : Pt} {σ : L2.St} {G : Gx} {e : En} {v : Rv} (w : Wd P H) (en : EnvAt G P σ e) (r : Held G P σ x v) (h : dataOf e v = some d) : TyX K H x (.type (tyD d)) := by
  cases v with
  | pv d' =>
    cases h
    cases r with
    | non => exact .base .non
    | bl b => exact .base (.bl b)
    | int i => exact .base (.int i)
    | str z => exact .base (.str z)
    | lst h1 h2 => exact .base (.lst (w.s0 _ _ h1))
    | tup h1 h2 => exact .base (.tup (w.s0 _ _ h1))
  | bor i =>
    have h' : (match e[i]? with | some (.ls _ xs) => some (PyData.list xs) | _ => none) = some d := h
    cases q : e[i]? with
    | none => rw [q] at h'; cases h'
    | some sl =>
      rw [q] at h'
      obtain ⟨ov, e1, e2⟩ := en.at_ i sl q
      have r' : σ[i]? = some (some x) := r
      rw [r'] at e1; cases e1
      cases sl with
      | ls rr ys =>
        cases h'
        obtain ⟨p, vs, z1, z2, z3⟩ := e2
        cases z1
        exact .base (.lst (w.sub _ _ _ z2))
      | _ => cases h'
  | ow s => cases h
theorem se_isi {G : Gx} {W : WX} {ta : TE} {fa : Fx} (n : String) (hn : n = "list" ∨ n = "str" ∨ n = "tuple" ∨ n = "int" ∨ n = "bool") (ha : SE G W ta fa) : SE G W (tCB (rIsi G.K) (tCons ta (tCons (tC (.ty n)) tNil))) (fUn (opIsi n) fa) := by
  refine se_un (r := fun x H Q => rIsi G.K [x, .ty n] H Q) ?_ ha
  intro P H σ e x v o wd en h1 h
  unfold opIsi at h
  cases q : dataOf e v with
  | none => rw [q] at h; cases h
  | some d =>
    rw [q] at h; cases h
    refine ⟨_, .bl _, fun Q k => ⟨x, .ty n, .type (tyD d), .type n, isTy n d, rfl, .ty n, tyx_at wd en h1 q, ?_, k⟩⟩
    rcases hn with rfl | rfl | rfl | rfl | rfl <;> cases d <;> exact kit_ty (by simp only [tyD, isTy]; decide +kernel)
end Fw
namespace Fw
open PySem L2

/-! ### a def's promise, by a function of slots -/
def WXof (E : XK) : WX := fun c d _ H => E c d H
def spF (G : Gx) (n : Nat) (F : Fx) : Sp := fun vs H Q E => ∃ C P ss, Wd P H ∧ EnvAt (G.wC C) P (vs.map some) ss ∧ ss.length = n ∧ PostE (G.wC C) (WXof E) P ss (vs.map some) Q (F ss)
/-- what a call hands in for an argument -/
def argSl (e : En) : Rv → Option Sl
  | .pv d => some (.pv d)
  | .bor i => match e[i]? with
    | some (.ls _ xs) => some (.ls true xs)
    | some (.dk _ k) => some (.dk true k)
    | some (.ob _ o) => some (.ob true o)
    | some (.sc ns) => some (.sc ns)
    | _ => none
  | .ow (.fh h) => some (.fh h)
  | .ow (.fp c) => some (.fp c)
  | .ow _ => none
def argSls (e : En) : List Rv → Option En
  | [] => some []
  | v :: vs => match argSl e v, argSls e vs with
    | some s, some ss => some (s :: ss)
    | _, _ => none
/-- what comes back into the caller's slot -/
def relab : Option Sl → Sl → Option Sl
  | some (.ls r _), .ls true xs => some (.ls r xs)
  | some (.dk r _), .dk true k => some (.dk r k)
  | some (.ob r _), .ob true o => some (.ob r o)
  | some (.sc _), .sc ns => some (.sc ns)
  | _, _ => none
def wback : List Rv → En → En → Option En
  | [], _, e => some e
  | .bor i :: vs, s :: ss, e => match relab e[i]? s with
    | some s' => wback vs ss (e.set i s')
    | none => none
  | _ :: vs, _ :: ss, e => wback vs ss e
  | _ :: _, [], _ => none
def borsOf : List Rv → List Nat
  | [] => []
  | .bor i :: vs => i :: borsOf vs
  | _ :: vs => borsOf vs
/-- a result that is one of the arguments -/
def resMap (vs : List Rv) : Rv → Option Rv
  | .pv d => some (.pv d)
  | .ow (.ls false xs) => some (.ow (.ls false xs))
  | .ow (.dk false k) => some (.ow (.dk false k))
  | .ow (.ob false o) => some (.ow (.ob false o))
  | .ow (.fp c) => some (.ow (.fp c))
  | _ => none
def callF (n : Nat) (F : Fx) (vs : List Rv) (e : En) : R Rv := match argSls e vs with
  | none => .no
  | some ss => if (borsOf vs).Nodup ∧ vs.length = n then (match F ss with
    | .ok v ss' => (match resMap vs v, wback vs ss' e with
      | some v', some e' => .ok v' e'
      | _, _ => .no)
    | .ex x ss' => (match wback vs ss' e with
      | some e' => .ex x e'
      | none => .no)
    | .no => .no) else .no
def isBorAt (i : Nat) : Rv → Bool
  | .bor j => j == i
  | _ => false
theorem mem_bors {i : Nat} : ∀ {vs : List Rv}, i ∈ borsOf vs ↔ Rv.bor i ∈ vs
  | [] => by simp [borsOf]
  | v :: vs => by
    cases v with
    | bor j => simp [borsOf, mem_bors (vs := vs)]
    | pv d => simp [borsOf, mem_bors (vs := vs)]
    | ow s => simp [borsOf, mem_bors (vs := vs)]
theorem relab_kind {o : Option Sl} {s s' : Sl} (h : relab o s = some s') : isRef o = isRef (some s') ∨ isRef o = false := by
  unfold relab at h
  split at h <;> cases h <;> simp [isRef] <;> rename_i r _ _ <;> cases r <;> simp
theorem relab_ref {o : Option Sl} {s s' : Sl} (h : relab o s = some s') (k : isRef o = true) : isRef (some s') = true := by
  rcases relab_kind h with z | z
  · rw [← z]; exact k
  · rw [z] at k; cases k
theorem relab_at {G : Gx} {J m : Hp} {v : Option V} {o : Option Sl} {s s' : Sl} (h : relab o s = some s') (a : SlAt G J m v s) : SlAt G J m v s' := by
  unfold relab at h
  split at h <;> cases h <;> exact a
theorem argSl_at {G : Gx} {P : Pt} {σ : L2.St} {e : En} {w : V} {v : Rv} {s : Sl} (en : EnvAt G P σ e) (r : Held G P σ w v) (h : argSl e v = some s) :
    (∃ d, v = .pv d ∧ s = .pv d ∧ Dq (P 0) w d) ∨ (∃ i, v = .bor i ∧ isRef (some s) = true ∧ SlAt G (P 0) (P (i + 3)) (some w) s) ∨ ∀ m, SlAt G (P 0) m (some w) s := by
  cases v with
  | pv d => cases h; exact .inl ⟨d, rfl, rfl, r⟩
  | bor i =>
    right; left
    have h' : (match e[i]? with | some (.ls _ xs) => some (Sl.ls true xs) | some (.dk _ k) => some (.dk true k) | some (.ob _ o) => some (.ob true o) | some (.sc ns) => some (.sc ns) | _ => none) = some s := h
    cases q : e[i]? with
    | none => rw [q] at h'; cases h'
    | some sl =>
      rw [q] at h'
      obtain ⟨ov, e1, e2⟩ := en.at_ i sl q
      have r' : σ[i]? = some (some w) := r
      rw [r'] at e1; cases e1
      cases sl <;> first | (cases h'; exact ⟨i, rfl, rfl, e2⟩) | cases h'
  | ow s0 =>
    right; right
    cases s0 with
    | fh h0 => cases h; obtain ⟨p, rfl, z⟩ := r; exact fun m => ⟨p, rfl, z⟩
    | fp c => cases h; obtain ⟨p, ls, rfl, z⟩ := r; exact fun m => ⟨p, ls, rfl, z⟩
    | _ => cases h
theorem argSls_len {e : En} : ∀ {vs : List Rv} {ss : En}, argSls e vs = some ss → ss.length = vs.length
  | [], _, h => by cases h; rfl
  | v :: vs, ss, h => by
    unfold argSls at h
    split at h
    · rename_i s ss' h1 h2
      cases h
      exact congrArg (· + 1) (argSls_len h2)
    · cases h
theorem argSls_get {e : En} : ∀ {vs : List Rv} {ss : En} {k : Nat} {s : Sl}, argSls e vs = some ss → ss[k]? = some s → ∃ v, vs[k]? = some v ∧ argSl e v = some s
  | [], _, k, s, h, hk => by cases h; simp at hk
  | v :: vs, ss, k, s, h, hk => by
    unfold argSls at h
    split at h
    · rename_i s0 ss' h1 h2
      cases h
      cases k with
      | zero => simp at hk; subst hk; exact ⟨v, rfl, h1⟩
      | succ k => exact argSls_get (k := k) h2 (by simpa using hk)
    · cases h
theorem wback_at : ∀ {vs : List Rv} {ss e e' : En}, wback vs ss e = some e' → (borsOf vs).Nodup →
    e'.length = e.length ∧ (∀ i, i ∉ borsOf vs → e'[i]? = e[i]?) ∧ ∀ (k : Nat) i, vs[k]? = some (.bor i) → ∃ s s', ss[k]? = some s ∧ relab e[i]? s = some s' ∧ e'[i]? = some s'
  | [], ss, e, e', h, nd => by
    have h' : some e = some e' := by cases ss <;> exact h
    cases h'
    exact ⟨rfl, fun _ _ => rfl, fun k i hk => by simp at hk⟩
  | v :: vs, [], e, e', h, nd => by cases v <;> cases h
  | v :: vs, s :: ss, e, e', h, nd => by
    have plain : (∀ i, v ≠ .bor i) → wback vs ss e = some e' → e'.length = e.length ∧ (∀ i, i ∉ borsOf (v :: vs) → e'[i]? = e[i]?) ∧ ∀ (k : Nat) i, (v :: vs)[k]? = some (.bor i) → ∃ t s', (s :: ss)[k]? = some t ∧ relab e[i]? t = some s' ∧ e'[i]? = some s' := fun hv hw => by
      have eb : borsOf (v :: vs) = borsOf vs := by cases v <;> first | rfl | exact absurd rfl (hv _)
      rw [eb] at nd
      obtain ⟨a, b, c⟩ := wback_at hw nd
      refine ⟨a, fun i hi => b i (by rw [eb] at hi; exact hi), fun k i hk => ?_⟩
      cases k with
      | zero => simp at hk; exact absurd hk (hv i)
      | succ k => exact c k i (by simpa using hk)
    cases v with
    | pv d => exact plain (fun _ z => by cases z) h
    | ow d => exact plain (fun _ z => by cases z) h
    | bor j =>
      have h' : (match relab e[j]? s with | some s' => wback vs ss (e.set j s') | none => none) = some e' := h
      have nd' : (j :: borsOf vs).Nodup := nd
      obtain ⟨nj, nd2⟩ := List.nodup_cons.mp nd'
      cases q : relab e[j]? s with
      | none => rw [q] at h'; cases h'
      | some s' =>
        rw [q] at h'
        obtain ⟨a, b, c⟩ := wback_at h' nd2
        have hj : j < e.length := by
          cases z : e[j]? with
          | none => rw [z] at q; cases s <;> cases q
          | some _ => exact (List.getElem?_eq_some_iff.mp z).1
        refine ⟨by rw [a, List.length_set], fun i hi => ?_, fun k i hk => ?_⟩
        · have hi' : i ∉ j :: borsOf vs := hi
          rw [b i (fun z => hi' (List.mem_cons_of_mem _ z))]
          exact List.getElem?_set_ne (fun z => hi' (by rw [z]; exact List.mem_cons_self))
        · cases k with
          | zero =>
            simp at hk; subst hk
            refine ⟨s, s', rfl, q, ?_⟩
            rw [b j nj]
            exact List.getElem?_set_self hj
          | succ k =>
            obtain ⟨t, t', h1, h2, h3⟩ := c k i (by simpa using hk)
            have hne : j ≠ i := fun z => by
              subst z
              exact nj (mem_bors.mpr (List.mem_of_getElem? (by simpa using hk)))
            rw [List.getElem?_set_ne hne] at h2
            exact ⟨t, t', by simpa using h1, h2, h3⟩

/-- the slots that do not go along -/
def keeps (vs : List Rv) (k : Nat) : Prop := k = 1 ∨ ∃ i, k = i + 3 ∧ i ∉ borsOf vs
open Classical in
noncomputable def restH (P : Pt) (H : Hp) (vs : List Rv) : Hp := fun a => if ∃ k, keeps vs k ∧ P k a ≠ none then H a else none
open Classical in
/-- the callee's parts -/
noncomputable def inP (P : Pt) (H : Hp) (vs : List Rv) : Pt := fun j => if j = 0 then P 0 else if j = 1 then restH P H vs else if j = 2 then emp else match vs[j - 3]? with
  | some (.bor i) => P (i + 3)
  | _ => emp
/-- the caller's parts behind the call -/
noncomputable def outP (P P' : Pt) (vs : List Rv) : Pt := fun j => if j = 0 then P' 0 else if j = 1 then P 1 else if j = 2 then P' 2 else match vs.findIdx? (isBorAt (j - 3)) with
  | some k => P' (k + 3)
  | none => P j
theorem restH_sub {P : Pt} {H : Hp} {vs : List Rv} : Same (restH P H vs) H := fun a o e => by
  unfold restH at e
  split at e
  · exact e
  · cases e
theorem restH_of {P : Pt} {H : Hp} {vs : List Rv} (w : Wd P H) {k : Nat} (hk : keeps vs k) : Same (P k) (restH P H vs) := fun a o e => by
  unfold restH
  rw [if_pos ⟨k, hk, by rw [e]; exact fun z => by cases z⟩]
  exact w.sub k a o e
theorem restH_dis {P : Pt} {H : Hp} {vs : List Rv} (w : Wd P H) {b : Addr} (h : restH P H vs b ≠ none) {j : Nat} (hj : ¬ keeps vs j) : P j b = none := by
  unfold restH at h
  split at h
  · rename_i hx
    obtain ⟨k, hk, hn⟩ := hx
    exact w.dis k j (fun z => hj (z ▸ hk)) b hn
  · exact absurd rfl h
theorem find_bor {vs : List Rv} {i k : Nat} (nd : (borsOf vs).Nodup) (h : vs[k]? = some (.bor i)) : vs.findIdx? (isBorAt i) = some k := by
  induction vs generalizing k with
  | nil => simp at h
  | cons v vs ih =>
    cases k with
    | zero =>
      simp at h; subst h
      simp [List.findIdx?_cons, isBorAt]
    | succ k =>
      have h' : vs[k]? = some (.bor i) := by simpa using h
      have hm : i ∈ borsOf vs := mem_bors.mpr (List.mem_of_getElem? h')
      have nd2 : (borsOf vs).Nodup := by
        cases v with
        | bor j => exact (List.nodup_cons.mp (show (j :: borsOf vs).Nodup from nd)).2
        | pv d => exact nd
        | ow s => exact nd
      have hv : isBorAt i v = false := by
        cases v with
        | bor j =>
          have := (List.nodup_cons.mp (show (j :: borsOf vs).Nodup from nd)).1
          show (j == i) = false
          exact beq_eq_false_iff_ne.mpr fun z => this (z ▸ hm)
        | pv d => rfl
        | ow s => rfl
      rw [List.findIdx?_cons, hv, ih nd2 h']
      rfl
theorem find_none {vs : List Rv} {i : Nat} (h : i ∉ borsOf vs) : vs.findIdx? (isBorAt i) = none := by
  rw [List.findIdx?_eq_none_iff]
  intro v hv
  cases v with
  | bor j =>
    show (j == i) = false
    exact beq_eq_false_iff_ne.mpr fun z => h (mem_bors.mpr (z ▸ hv))
  | pv d => rfl
  | ow s => rfl
theorem get_of_bor {vs : List Rv} {i : Nat} (h : i ∈ borsOf vs) : ∃ k : Nat, vs[k]? = some (.bor i) := by
  obtain ⟨k, hk, e⟩ := List.mem_iff_getElem.mp (mem_bors.mp h)
  exact ⟨k, by rw [List.getElem?_eq_getElem hk, e]⟩
theorem inP_0 {P : Pt} {H : Hp} {vs : List Rv} : inP P H vs 0 = P 0 := rfl
theorem inP_1 {P : Pt} {H : Hp} {vs : List Rv} : inP P H vs 1 = restH P H vs := rfl
theorem inP_bor {P : Pt} {H : Hp} {vs : List Rv} {k i : Nat} (h : vs[k]? = some (.bor i)) : inP P H vs (k + 3) = P (i + 3) := by
  show (match vs[k + 3 - 3]? with | some (.bor i) => P (i + 3) | _ => emp) = P (i + 3)
  rw [Nat.add_sub_cancel, h]
theorem inP_or {P : Pt} {H : Hp} {vs : List Rv} (j : Nat) : j = 0 ∨ j = 1 ∨ inP P H vs j = emp ∨ ∃ k i : Nat, j = k + 3 ∧ vs[k]? = some (.bor i) ∧ inP P H vs j = P (i + 3) := by
  by_cases h0 : j = 0
  · exact .inl h0
  by_cases h1 : j = 1
  · exact .inr (.inl h1)
  by_cases h2 : j = 2
  · subst h2; exact .inr (.inr (.inl rfl))
  right; right
  obtain ⟨k, rfl⟩ : ∃ k, j = k + 3 := ⟨j - 3, by omega⟩
  cases q : vs[k]? with
  | none =>
    left
    show (match vs[k + 3 - 3]? with | some (.bor i) => P (i + 3) | _ => emp) = emp
    rw [Nat.add_sub_cancel, q]
  | some v =>
    cases v with
    | bor i => exact .inr ⟨k, i, rfl, q, inP_bor q⟩
    | pv d =>
      left
      show (match vs[k + 3 - 3]? with | some (.bor i) => P (i + 3) | _ => emp) = emp
      rw [Nat.add_sub_cancel, q]
    | ow d =>
      left
      show (match vs[k + 3 - 3]? with | some (.bor i) => P (i + 3) | _ => emp) = emp
      rw [Nat.add_sub_cancel, q]
theorem bor_uniq {vs : List Rv} {i k k' : Nat} (nd : (borsOf vs).Nodup) (h : vs[k]? = some (.bor i)) (h' : vs[k']? = some (.bor i)) : k = k' := by
  have a := find_bor nd h
  rw [find_bor nd h'] at a
  exact (Option.some.inj a).symm
theorem inP_wd {P : Pt} {H : Hp} {vs : List Rv} (w : Wd P H) (nd : (borsOf vs).Nodup) : Wd (inP P H vs) H := by
  have nk0 : ¬ keeps vs 0 := fun h => by rcases h with h | ⟨i, h, _⟩ <;> omega
  have nkb : ∀ {k i : Nat}, vs[k]? = some (.bor i) → ¬ keeps vs (i + 3) := fun {k i} hk h => by
    rcases h with h | ⟨i', h, hn⟩
    · omega
    · have : i' = i := by omega
      subst this
      exact hn (mem_bors.mpr (List.mem_of_getElem? hk))
  refine ⟨fun j => ?_, fun i j hij b hb => ?_⟩
  · rcases inP_or (P := P) (H := H) (vs := vs) j with rfl | rfl | z | ⟨k, i, rfl, q, z⟩
    · exact w.sub 0
    · exact restH_sub
    · rw [z]; exact same_emp H
    · rw [z]; exact w.sub _
  · rcases inP_or (P := P) (H := H) (vs := vs) j with rfl | rfl | z | ⟨k, i2, rfl, q, z⟩
    · -- j = 0
      rcases inP_or (P := P) (H := H) (vs := vs) i with rfl | rfl | z2 | ⟨k2, i3, rfl, q2, z2⟩
      · exact absurd rfl hij
      · exact restH_dis w hb nk0
      · rw [z2] at hb; exact absurd rfl hb
      · rw [z2] at hb; exact w.dis _ 0 (by omega) b hb
    · -- j = 1
      cases qq : inP P H vs 1 b with
      | none => rfl
      | some o =>
        exfalso
        have hr : restH P H vs b ≠ none := by rw [← inP_1 (P := P) (H := H) (vs := vs), qq]; exact fun z => by cases z
        rcases inP_or (P := P) (H := H) (vs := vs) i with rfl | rfl | z2 | ⟨k2, i3, rfl, q2, z2⟩
        · exact hb (restH_dis w hr nk0)
        · exact hij rfl
        · rw [z2] at hb; exact hb rfl
        · rw [z2] at hb; exact hb (restH_dis w hr (nkb q2))
    · rw [z]; rfl
    · rw [z]
      rcases inP_or (P := P) (H := H) (vs := vs) i with rfl | rfl | z2 | ⟨k2, i3, rfl, q2, z2⟩
      · exact w.dis 0 _ (by omega) b hb
      · exact restH_dis w hb (nkb q)
      · rw [z2] at hb; exact absurd rfl hb
      · rw [z2] at hb
        refine w.dis _ _ (fun e => hij ?_) b hb
        have : i3 = i2 := by omega
        subst this
        rw [bor_uniq nd q2 q]
theorem outP_or {P P' : Pt} {vs : List Rv} (nd : (borsOf vs).Nodup) (j : Nat) : (j = 0 ∧ outP P P' vs j = P' 0) ∨ (j = 2 ∧ outP P P' vs j = P' 2) ∨ (keeps vs j ∧ outP P P' vs j = P j) ∨ ∃ k i : Nat, j = i + 3 ∧ vs[k]? = some (.bor i) ∧ outP P P' vs j = P' (k + 3) := by
  by_cases h0 : j = 0
  · subst h0; exact .inl ⟨rfl, rfl⟩
  by_cases h1 : j = 1
  · subst h1; exact .inr (.inr (.inl ⟨.inl rfl, rfl⟩))
  by_cases h2 : j = 2
  · subst h2; exact .inr (.inl ⟨rfl, rfl⟩)
  obtain ⟨i, rfl⟩ : ∃ i, j = i + 3 := ⟨j - 3, by omega⟩
  have sh : outP P P' vs (i + 3) = match vs.findIdx? (isBorAt i) with | some k => P' (k + 3) | none => P (i + 3) := by
    show (if i + 3 = 0 then P' 0 else if i + 3 = 1 then P 1 else if i + 3 = 2 then P' 2 else match vs.findIdx? (isBorAt (i + 3 - 3)) with | some k => P' (k + 3) | none => P (i + 3)) = _
    rw [if_neg h0, if_neg h1, if_neg h2, Nat.add_sub_cancel]
  by_cases hb : i ∈ borsOf vs
  · obtain ⟨k, hk⟩ := get_of_bor hb
    refine .inr (.inr (.inr ⟨k, i, rfl, hk, ?_⟩))
    rw [sh, find_bor nd hk]
  · refine .inr (.inr (.inl ⟨.inr ⟨i, rfl, hb⟩, ?_⟩))
    rw [sh, find_none hb]
theorem outP_wd {P P' : Pt} {H H' : Hp} {vs : List Rv} (w : Wd P H) (w' : Wd P' H') (nd : (borsOf vs).Nodup) (one : P' 1 = restH P H vs) : Wd (outP P P' vs) H' := by
  have kp : ∀ {j}, keeps vs j → Same (P j) (P' 1) := fun {j} hk => by rw [one]; exact restH_of w hk
  have nz : ∀ {j b}, keeps vs j → P j b ≠ none → P' 1 b ≠ none := fun {j b} hk hb => by
    cases q : P j b with
    | none => exact absurd q hb
    | some o => rw [kp hk b o q]; exact fun z => by cases z
  refine ⟨fun j => ?_, fun i j hij b hb => ?_⟩
  · rcases outP_or (P := P) (P' := P') nd j with ⟨rfl, z⟩ | ⟨rfl, z⟩ | ⟨hk, z⟩ | ⟨k, i, rfl, q, z⟩ <;> rw [z]
    · exact w'.sub 0
    · exact w'.sub 2
    · exact (kp hk).trans (w'.sub 1)
    · exact w'.sub _
  · rcases outP_or (P := P) (P' := P') nd i with ⟨rfl, z⟩ | ⟨rfl, z⟩ | ⟨hk, z⟩ | ⟨k, i1, rfl, q, z⟩ <;> rw [z] at hb <;>
      rcases outP_or (P := P) (P' := P') nd j with ⟨rfl, z2⟩ | ⟨rfl, z2⟩ | ⟨hk2, z2⟩ | ⟨k2, i2, rfl, q2, z2⟩ <;> rw [z2]
    · exact absurd rfl hij
    · exact w'.dis 0 2 (by decide) b hb
    · cases qq : P j b with
      | none => rfl
      | some o => exact absurd (w'.dis 1 0 (by decide) b (nz hk2 (by rw [qq]; exact fun z => by cases z))) hb
    · exact w'.dis 0 _ (by omega) b hb
    · exact w'.dis 2 0 (by decide) b hb
    · exact absurd rfl hij
    · cases qq : P j b with
      | none => rfl
      | some o => exact absurd (w'.dis 1 2 (by decide) b (nz hk2 (by rw [qq]; exact fun z => by cases z))) hb
    · exact w'.dis 2 _ (by omega) b hb
    · exact w'.dis 1 0 (by decide) b (nz hk hb)
    · exact w'.dis 1 2 (by decide) b (nz hk hb)
    · exact w.dis i j hij b hb
    · exact w'.dis 1 _ (by omega) b (nz hk hb)
    · exact w'.dis _ 0 (by omega) b hb
    · exact w'.dis _ 2 (by omega) b hb
    · cases qq : P j b with
      | none => rfl
      | some o => exact absurd (w'.dis 1 _ (by omega) b (nz hk2 (by rw [qq]; exact fun z => by cases z))) hb
    · refine w'.dis _ _ (fun e => hij ?_) b hb
      have : k = k2 := by omega
      subst this
      rw [q] at q2; cases q2; rfl
theorem HeldAll.map_some {G : Gx} {P : Pt} {σ : L2.St} {ws : List V} {vs : List Rv} (h : HeldAll G P σ ws vs) {k : Nat} {v : Rv} (hv : vs[k]? = some v) : ∃ w, (ws.map some)[k]? = some (some w) ∧ Held G P σ w v := by
  obtain ⟨w, a, b⟩ := h.get hv
  exact ⟨w, by rw [List.getElem?_map, a]; rfl, b⟩
theorem callF_ok {G : Gx} {W : WX} {n : Nat} {F : Fx} {P : Pt} {H : Hp} {σ : L2.St} {e : En} {ws : List V} {vs : List Rv} {Q : VK} (w : Wd P H) (en : EnvAt G P σ e) (hd : HeldAll G P σ ws vs) (h : PostE G W P e σ Q (callF n F vs e)) :
    spF G n F ws H Q (WE W σ) := by
  unfold callF at h
  cases qa : argSls e vs with
  | none => rw [qa] at h; exact h.elim
  | some ss =>
    rw [qa] at h
    by_cases nn : (borsOf vs).Nodup ∧ vs.length = n
    · have h' : PostE G W P e σ Q (if (borsOf vs).Nodup ∧ vs.length = n then (match F ss with
        | .ok v ss' => (match resMap vs v, wback vs ss' e with
          | some v', some e' => .ok v' e'
          | _, _ => .no)
        | .ex x ss' => (match wback vs ss' e with
          | some e' => .ex x e'
          | none => .no)
        | .no => .no) else .no) := h
      rw [if_pos nn] at h'
      have nd := nn.1
      have cl : ss.length = vs.length := argSls_len qa
      have cen : EnvAt G (inP P H vs) (ws.map some) ss := by
        refine ⟨by rw [List.length_map, hd.length, cl], ?_, fun k s hk => ?_⟩
        · exact en.cs.trans (restH_of w (.inl rfl))
        obtain ⟨v, hv, ha⟩ := argSls_get qa hk
        obtain ⟨x, hx, hh⟩ := hd.map_some hv
        refine ⟨some x, hx, ?_⟩
        rw [inP_0]
        rcases argSl_at en hh ha with ⟨d, rfl, rfl, hq⟩ | ⟨i, rfl, _, hs⟩ | hs
        · exact ⟨x, rfl, hq⟩
        · rw [inP_bor hv]; exact hs
        · exact hs _
      -- the way back
      have back : ∀ {P' H' ss' e'}, Wd P' H' → EnvAt G P' (ws.map some) ss' → Fr (inP P H vs) P' ss ss' → wback vs ss' e = some e' →
          Wd (outP P P' vs) H' ∧ EnvAt G (outP P P' vs) σ e' ∧ Fr P (outP P P' vs) e e' := fun {P' H' ss' e'} a b c wb => by
        obtain ⟨l1, l2, l3⟩ := wback_at wb nd
        have z : Same (P 0) (P' 0) := c.zero
        refine ⟨outP_wd w a nd c.one, ⟨by rw [l1]; exact en.len, en.cs, fun i s hs => ?_⟩, ⟨z, rfl, fun i hi => ?_⟩⟩
        · by_cases hb : i ∈ borsOf vs
          · obtain ⟨k, hk⟩ := get_of_bor hb
            obtain ⟨t, s', h1, h2, h3⟩ := l3 k i hk
            rw [h3] at hs; cases hs
            obtain ⟨x, hx, hh⟩ := hd.map_some hk
            obtain ⟨v2, hx2, ha⟩ := b.at_ k t h1
            rw [hx] at hx2; cases hx2
            refine ⟨some x, hh, ?_⟩
            have ep : outP P P' vs (i + 3) = P' (k + 3) := by
              rcases outP_or (P := P) (P' := P') nd (i + 3) with ⟨z, _⟩ | ⟨z, _⟩ | ⟨z, _⟩ | ⟨k2, i2, z, q, z2⟩
              · omega
              · omega
              · rcases z with z | ⟨i', z, zn⟩
                · omega
                · have : i' = i := by omega
                  subst this; exact absurd hb zn
              · have : i2 = i := by omega
                subst this
                rw [z2, bor_uniq nd q hk]
            rw [ep]
            exact relab_at h2 ha
          · rw [l2 i hb] at hs
            obtain ⟨v2, hx2, ha⟩ := en.at_ i s hs
            refine ⟨v2, hx2, ?_⟩
            have ep : outP P P' vs (i + 3) = P (i + 3) := by
              rcases outP_or (P := P) (P' := P') nd (i + 3) with ⟨z, _⟩ | ⟨z, _⟩ | ⟨_, z⟩ | ⟨k2, i2, z, q, z2⟩
              · omega
              · omega
              · exact z
              · have : i2 = i := by omega
                subst this
                exact absurd (mem_bors.mpr (List.mem_of_getElem? q)) hb
            rw [ep]
            exact ha.mono z
        · by_cases hb : i ∈ borsOf vs
          · obtain ⟨k, hk⟩ := get_of_bor hb
            obtain ⟨t, s', h1, h2, h3⟩ := l3 k i hk
            rw [h3]
            exact relab_ref h2 hi
          · rw [l2 i hb]; exact hi
      refine ⟨G.C, inP P H vs, ss, inP_wd w nd, cen, cl.trans nn.2, ?_⟩
      show PostE G (WXof (WE W σ)) (inP P H vs) ss (ws.map some) Q (F ss)
      cases qF : F ss with
      | no => rw [qF] at h'; exact h'.elim
      | ok v ss' =>
        rw [qF] at h'
        have h2 : PostE G W P e σ Q (match resMap vs v, wback vs ss' e with
          | some v', some e' => .ok v' e'
          | _, _ => .no) := h'
        cases q1 : resMap vs v with
        | none => rw [q1] at h2; exact h2.elim
        | some v' =>
          cases q2 : wback vs ss' e with
          | none => rw [q1, q2] at h2; exact h2.elim
          | some e' =>
            rw [q1, q2] at h2
            intro P' H' x a b c d
            obtain ⟨k1, k2, k3⟩ := back a b c q2
            refine h2 _ H' x k1 k2 k3 ?_
            unfold resMap at q1
            split at q1 <;> cases q1 <;> exact d
      | ex x ss' =>
        rw [qF] at h'
        have h2 : PostE G W P e σ Q (match wback vs ss' e with
          | some e' => .ex x e'
          | none => .no) := h'
        cases q2 : wback vs ss' e with
        | none => rw [q2] at h2; exact h2.elim
        | some e' =>
          rw [q2] at h2
          intro P' H' cls d a b c xx
          obtain ⟨k1, k2, k3⟩ := back a b c q2
          exact h2 _ H' cls d k1 k2 k3 xx
    · have h' : PostE G W P e σ Q (if (borsOf vs).Nodup ∧ vs.length = n then (match F ss with
        | .ok v ss' => (match resMap vs v, wback vs ss' e with
          | some v', some e' => .ok v' e'
          | _, _ => .no)
        | .ex x ss' => (match wback vs ss' e with
          | some e' => .ex x e'
          | none => .no)
        | .no => .no) else .no) := h
      rw [if_neg nn] at h'
      exact h'.elim
/-- f(a, ..), with defaults that fill up -/
def fCall (n : Nat) (F : Fx) (ds : List PD) (fa : Fa) : Fx := fun e => (fa e).bind fun vs e1 => callF n F (vs ++ ds.map .pv) e1
theorem heldDs {G : Gx} {P : Pt} {σ : L2.St} {dvs : List V} {ds : List PD} (h : DqAll (P 0) dvs ds) : HeldAll G P σ dvs (ds.map .pv) := by
  induction ds generalizing dvs with
  | nil => cases h; exact .nil
  | cons d ds ih => cases h with | cons a b => exact .cons a (ih b)
theorem se_call {G : Gx} {W : WX} {F : Fx} {n : Nat} {ds : List PD} {dvs : List V} {ta : TA} {fa : Fa} (hd : ∀ J, DqAll J dvs ds) (s : SA G W ta fa) :
    SE G W (tCallSD (spF G n F) dvs (WE W) ta) (fCall n F ds fa) := fun P σ H e w en Q h =>
  s.bindG w en (PostE.gen h) fun vs2 e2 P1 H1 ws w1 en1 fr1 r1 h1 => callF_ok w1 en1 (r1.app (heldDs (hd (P1 0)))) (PostG.toE h1)
end Fw
namespace Fw
open PySem L2

/-! ### a list of a slot is changed -/
theorem mutL {G : Gx} {P : Pt} {H : Hp} {σ : L2.St} {e : En} {i : Nat} {r : Bool} {xs ys : List PD} {p : Addr} {vs ws : List V} (w : Wd P H) (en : EnvAt G P σ e) (hi : e[i]? = some (.ls r xs)) (hs : σ[i]? = some (some (.ref p))) (hp : P (i + 3) p = some (.lst vs))
    (q : DqAll (P 0) ws ys) : Wd (P.set (i + 3) (upd (P (i + 3)) p (.lst ws))) (upd H p (.lst ws)) ∧ EnvAt G (P.set (i + 3) (upd (P (i + 3)) p (.lst ws))) σ (e.set i (.ls r ys)) ∧ Fr P (P.set (i + 3) (upd (P (i + 3)) p (.lst ws))) e (e.set i (.ls r ys)) := by
  have z : (P.set (i + 3) (upd (P (i + 3)) p (.lst ws))) 0 = P 0 := Pt.set_ne (by omega)
  have hlt : i < e.length := (List.getElem?_eq_some_iff.mp hi).1
  refine ⟨w.mut hp, ⟨by rw [List.length_set]; exact en.len, by rw [Pt.set_ne (by omega)]; exact en.cs, fun j s hj => ?_⟩, ⟨by rw [z]; exact Same.refl _, Pt.set_ne (by omega), fun j hj => ?_⟩⟩
  · by_cases hij : i = j
    · subst hij
      rw [List.getElem?_set_self hlt] at hj
      cases hj
      refine ⟨_, hs, p, ws, rfl, ?_, ?_⟩
      · rw [Pt.set_same]; exact upd_same
      · rw [z]; exact q
    · rw [List.getElem?_set_ne hij] at hj
      obtain ⟨v, a, b⟩ := en.at_ j s hj
      have ep : (P.set (i + 3) (upd (P (i + 3)) p (.lst ws))) (j + 3) = P (j + 3) := Pt.set_ne (by omega)
      refine ⟨v, a, ?_⟩
      rw [ep, z]; exact b
  · by_cases hij : i = j
    · subst hij
      rw [List.getElem?_set_self hlt]
      rw [hi] at hj
      cases r with
      | true => rfl
      | false => cases hj
    · rw [List.getElem?_set_ne hij]; exact hj
theorem slot_ls {G : Gx} {P : Pt} {σ : L2.St} {e : En} {i : Nat} {r : Bool} {xs : List PD} (en : EnvAt G P σ e) (hi : e[i]? = some (.ls r xs)) : ∃ p vs, σ[i]? = some (some (.ref p)) ∧ P (i + 3) p = some (.lst vs) ∧ DqAll (P 0) vs xs := by
  obtain ⟨v, a, p, vs, z1, z2, z3⟩ := en.at_ i _ hi
  subst z1
  exact ⟨p, vs, a, z2, z3⟩
theorem SE.bindd {α : Type} {G : Gx} {W : WX} {te : TE} {f : Fx} {g : Rv → En → R α} {P : Pt} {e : En} {σ : L2.St} {H : Hp} {Q1 : VK} {S : α → Pt → Hp → Prop} (s : SE G W te f) (w : Wd P H) (en : EnvAt G P σ e) (h : PostG G W P e σ S ((fDz f e).bind g))
    (k : ∀ d e1 P1 H1 x, Wd P1 H1 → EnvAt G P1 σ e1 → Fr P P1 e e1 → Dq (P1 0) x d → PostG G W P1 e1 σ S (g (.pv d) e1) → Q1 x H1) : te σ H Q1 := by
  refine s.bindzG (S := S) (g := fun v e1 => (fzv v e1).bind g) w en ?_ fun v e1 P1 H1 x w1 en1 fr1 r1 h1 => ?_
  · have h' : PostG G W P e σ S (((Fw.fz f e).bind fzv).bind g) := h
    rw [bind_assoc] at h'
    exact h'
  · cases q : fzv v e1 with
    | ok r e2 =>
      rw [q] at h1
      obtain ⟨P2, d, rfl, a, b, c, t⟩ := fzv_at w1 en1 r1 q
      exact k d e2 P2 H1 x a b (fr1.trans c) t (PostG.from h1 c)
    | ex y e2 =>
      exfalso
      cases v with
      | pv d => cases q
      | bor i =>
        have q' : (match e1[i]? with | some (.ls false xs) => R.ok (Rv.pv (.list xs)) (e1.set i (.pv (.list xs))) | _ => .no) = .ex y e2 := q
        split at q' <;> cases q'
      | ow s => cases q
    | no => rw [q] at h1; exact h1.elim
/-- a list's method with one argument that is data: what it makes of the list, what it answers -/
def fMut1 (op : List PD → PD → Option (List PD × PD)) (i : Nat) (fb : Fx) : Fx := fun e => match e[i]? with
  | some (.ls _ _) => (fDz fb e).bind fun v e1 => match v, e1[i]? with
    | .pv d, some (.ls r xs) => (match op xs d with
      | some (ys, a) => .ok (.pv a) (e1.set i (.ls r ys))
      | none => .no)
    | _, _ => .no
  | _ => .no
def Mut1 (r : V → List V → Hp → VK → Prop) (op : List PD → PD → Option (List PD × PD)) : Prop := ∀ (J H : Hp) p vs xs x d ys a, H p = some (.lst vs) → DqAll J vs xs → Dq J x d → op xs d = some (ys, a) →
  ∃ ws y, DqAll J ws ys ∧ Dq J y a ∧ ∀ Q : VK, Q y (upd H p (.lst ws)) → r (.ref p) [x] H Q
theorem se_mut1 {G : Gx} {W : WX} {r : V → List V → Hp → VK → Prop} {op : List PD → PD → Option (List PD × PD)} {i : Nat} {tb : TE} {fb : Fx} (m : Mut1 r op) (s : SE G W tb fb) : SE G W (tBM G.K "list" r (tVar i) (tCons tb tNil)) (fMut1 op i fb) := fun P σ H e w en Q h => by
  unfold fMut1 at h
  split at h
  · rename_i r0 xs0 hi
    obtain ⟨p, vs, a1, a2, a3⟩ := slot_ls en hi
    refine ⟨.ref p, a1, .inl ⟨rfl, vs, SqL.of (w.sub _ _ _ a2)⟩, ?_⟩
    refine s.bindd (Q1 := fun x H1 => r (.ref p) [x] H1 Q) w en (PostE.gen h) fun d e1 P1 H1 x w1 en1 fr1 r1 h1 => ?_
    split at h1
    · rename_i d' r' xs' hd hi1
      cases hd
      obtain ⟨p', vs', b1, b2, b3⟩ := slot_ls en1 hi1
      rw [a1] at b1; cases b1
      split at h1
      · rename_i ys a qo
        obtain ⟨ws, y, c1, c2, c3⟩ := m _ _ _ _ _ _ _ _ _ (w1.sub _ _ _ b2) b3 r1 qo
        obtain ⟨k1, k2, k3⟩ := mutL w1 en1 hi1 a1 b2 c1
        exact c3 Q (h1 _ _ k1 k2 k3 y (Dq.mono k3.zero _ _ c2))
      · exact h1.elim
    · exact h1.elim
  · exact h.elim
def mApp (xs : List PD) (d : PD) : Option (List PD × PD) := if xs.length < 100000 then some (xs ++ [d], .none) else none
theorem mut_app : Mut1 rAppend mApp := by
  intro J H p vs xs x d ys a hp ha hd h
  unfold mApp at h
  split at h
  · rename_i hl
    cases h
    exact ⟨vs ++ [x], .non, ha.snoc hd, .non, fun Q k => ⟨p, vs, x, rfl, rfl, hp, by rw [ha.length]; exact Nat.lt_of_lt_of_le hl (by decide), k⟩⟩
  · cases h
def mPopAt (xs : List PD) : PD → Option (List PD × PD)
  | .int i => if 0 ≤ i ∧ i < xs.length ∧ xs.length ≤ 100000 then (xs[i.toNat]?).map fun a => (xs.eraseIdx i.toNat, a) else none
  | _ => none
theorem mut_popAt : Mut1 rPopAt mPopAt := by
  intro J H p vs xs x d ys a hp ha hd h
  unfold mPopAt at h
  split at h
  · rename_i i
    split at h
    · rename_i hl
      cases hd
      cases q : xs[i.toNat]? with
      | none => rw [q] at h; cases h
      | some z =>
        rw [q] at h; cases h
        obtain ⟨y, y1, y2⟩ := ha.get q
        refine ⟨vs.eraseIdx i.toNat, y, ha.erase _, y2, fun Q k => ⟨p, vs, i, i.toNat, y, rfl, rfl, hp, by omega, by omega, ?_, y1, k⟩⟩
        have hn : i < (vs.length : Int) := by rw [ha.length]; omega
        simp [seqIndex?, show ¬ i < 0 by omega, show 0 ≤ i by omega, hn]
    · cases h
  · cases h
/-- a list's method without arguments -/
def fMut0 (op : List PD → Option (List PD × PD)) (i : Nat) : Fx := fun e => match e[i]? with
  | some (.ls r xs) => (match op xs with
    | some (ys, a) => .ok (.pv a) (e.set i (.ls r ys))
    | none => .no)
  | _ => .no
def Mut0 (r : V → List V → Hp → VK → Prop) (op : List PD → Option (List PD × PD)) : Prop := ∀ (J H : Hp) p vs xs ys a, H p = some (.lst vs) → DqAll J vs xs → op xs = some (ys, a) → ∃ ws y, DqAll J ws ys ∧ Dq J y a ∧ ∀ Q : VK, Q y (upd H p (.lst ws)) → r (.ref p) [] H Q
theorem se_mut0 {G : Gx} {W : WX} {r : V → List V → Hp → VK → Prop} {op : List PD → Option (List PD × PD)} {i : Nat} (m : Mut0 r op) : SE G W (tBM0 G.K "list" r (tVar i)) (fMut0 op i) := fun P σ H e w en Q h => by
  unfold fMut0 at h
  split at h
  · rename_i r0 xs0 hi
    obtain ⟨p, vs, a1, a2, a3⟩ := slot_ls en hi
    refine ⟨.ref p, a1, .inl ⟨rfl, vs, SqL.of (w.sub _ _ _ a2)⟩, ?_⟩
    split at h
    · rename_i ys a qo
      obtain ⟨ws, y, c1, c2, c3⟩ := m _ _ _ _ _ _ _ (w.sub _ _ _ a2) a3 qo
      obtain ⟨k1, k2, k3⟩ := mutL w en hi a1 a2 c1
      exact c3 Q (h _ _ y k1 k2 k3 (Dq.mono k3.zero _ _ c2))
    · exact h.elim
  · exact h.elim
def mClear (xs : List PD) : Option (List PD × PD) := some ([], .none)
theorem mut_clear : Mut0 rClear mClear := by
  intro J H p vs xs ys a hp ha h
  cases h
  exact ⟨[], .non, .nil, .non, fun Q k => ⟨p, vs, rfl, rfl, hp, k⟩⟩
def mPop (xs : List PD) : Option (List PD × PD) := (xs[xs.length - 1]?).map fun a => (xs.dropLast, a)
theorem dropLast_at {J : Hp} {vs : List V} {xs : List PD} (a : DqAll J vs xs) : DqAll J vs.dropLast xs.dropLast := by
  rw [List.dropLast_eq_take, List.dropLast_eq_take, a.length]
  exact a.take _
theorem mut_pop : Mut0 rPop mPop := by
  intro J H p vs xs ys a hp ha h
  unfold mPop at h
  cases q : xs[xs.length - 1]? with
  | none => rw [q] at h; cases h
  | some z =>
    rw [q] at h; cases h
    obtain ⟨y, y1, y2⟩ := ha.get q
    exact ⟨vs.dropLast, y, dropLast_at ha, y2, fun Q k => ⟨p, vs, y, rfl, rfl, hp, by rw [ha.length]; exact y1, k⟩⟩
/-- xs.extend(ys), ys a list -/
def fExt (i : Nat) (fb : Fx) : Fx := fun e => match e[i]? with
  | some (.ls _ _) => (fz fb e).bind fun v e1 => match lstOf e1 v, e1[i]? with
    | some ys, some (.ls r xs) => if xs.length + ys.length ≤ 100000 then .ok (.pv .none) (e1.set i (.ls r (xs ++ ys))) else .no
    | _, _ => .no
  | _ => .no
theorem se_ext {G : Gx} {W : WX} {i : Nat} {tb : TE} {fb : Fx} (s : SE G W tb fb) : SE G W (tBM G.K "list" rExtend (tVar i) (tCons tb tNil)) (fExt i fb) := fun P σ H e w en Q h => by
  unfold fExt at h
  split at h
  · rename_i r0 xs0 hi
    obtain ⟨p, vs, a1, a2, a3⟩ := slot_ls en hi
    refine ⟨.ref p, a1, .inl ⟨rfl, vs, SqL.of (w.sub _ _ _ a2)⟩, ?_⟩
    refine s.bindzG (Q1 := fun x H1 => rExtend (.ref p) [x] H1 Q) w en (PostE.gen h) fun v e1 P1 H1 x w1 en1 fr1 r1 h1 => ?_
    split at h1
    · rename_i ys r' xs' hd hi1
      obtain ⟨p', vs', b1, b2, b3⟩ := slot_ls en1 hi1
      rw [a1] at b1; cases b1
      obtain ⟨b, zs, c1, c2, c3⟩ := lstOf_at w1 en1 r1 hd
      subst c1
      split at h1
      · rename_i hl
        obtain ⟨k1, k2, k3⟩ := mutL w1 en1 hi1 a1 b2 (b3.app c2)
        exact ⟨p, b, vs', zs, rfl, rfl, w1.sub _ _ _ b2, c3, by rw [b3.length, c2.length]; exact Nat.le_trans hl (by decide), h1 _ _ k1 k2 k3 _ .non⟩
      · exact h1.elim
    · exact h1.elim
  · exact h.elim

/-! ### statements -/
structure FrS (P P' : Pt) (e e' : En) (σ σ' : L2.St) : Prop where
  zero : Same (P 0) (P' 0)
  one : P' 1 = P 1
  len : σ'.length = σ.length
  ref : ∀ i : Nat, isRef e[i]? = true → isRef e'[i]? = true ∧ σ'[i]? = σ[i]?
theorem FrS.refl (P : Pt) (e : En) (σ : L2.St) : FrS P P e e σ σ := ⟨Same.refl _, rfl, rfl, fun _ h => ⟨h, rfl⟩⟩
theorem FrS.trans {P P1 P2 : Pt} {e e1 e2 : En} {σ σ1 σ2 : L2.St} (a : FrS P P1 e e1 σ σ1) (b : FrS P1 P2 e1 e2 σ1 σ2) : FrS P P2 e e2 σ σ2 :=
  ⟨a.zero.trans b.zero, b.one.trans a.one, b.len.trans a.len, fun i h => ⟨(b.ref i (a.ref i h).1).1, ((b.ref i (a.ref i h).1).2).trans (a.ref i h).2⟩⟩
theorem Fr.s {P P' : Pt} {e e' : En} {σ : L2.St} (a : Fr P P' e e') : FrS P P' e e' σ σ := ⟨a.zero, a.one, rfl, fun i h => ⟨a.ref i h, rfl⟩⟩
def EndAt (G : Gx) (D : Ends) (P : Pt) (σ : L2.St) (H : Hp) : Fl → Prop
  | .nx => D.nx σ H
  | .bk => D.bk σ H
  | .ct => D.ct σ H
  | .rt v => ∀ w, RvAt G P σ w v → D.rt w H
def PostS (G : Gx) (W : WX) (P : Pt) (e : En) (σ : L2.St) (D : Ends) : R Fl → Prop
  | .ok fl e' => ∀ P' H' σ', Wd P' H' → EnvAt G P' σ' e' → FrS P P' e e' σ σ' → EndAt G D P' σ' H' fl
  | .ex x e' => ∀ P' H' σ' cls d, Wd P' H' → EnvAt G P' σ' e' → FrS P P' e e' σ σ' → XcAt G P' cls d x → W cls d σ' H'
  | .no => False
def SS (G : Gx) (W : WX) (ts : TS) (f : Fs) : Prop := ∀ P σ H e, Wd P H → EnvAt G P σ e → ∀ D : Ends, PostS G W P e σ D (f e) → ts D σ H
theorem PostS.from {G : Gx} {W : WX} {P P1 : Pt} {e e1 : En} {σ σ1 : L2.St} {D : Ends} {r : R Fl} (h : PostS G W P e σ D r) (fr : FrS P P1 e e1 σ σ1) : PostS G W P1 e1 σ1 D r := by
  cases r with
  | ok v e' => exact fun P' H' σ' a b c => h P' H' σ' a b (fr.trans c)
  | ex x e' => exact fun P' H' σ' cls d a b c q => h P' H' σ' cls d a b (fr.trans c) q
  | no => exact h
/-- an expression (a test, arguments), then the rest of the statement -/
theorem SE.bindS {G : Gx} {W : WX} {te : TE} {f : Fx} {g : Rv → En → R Fl} {P : Pt} {e : En} {σ : L2.St} {H : Hp} {Q1 : VK} {D : Ends} (s : SE G W te f) (w : Wd P H) (en : EnvAt G P σ e) (h : PostS G W P e σ D ((f e).bind g))
    (k : ∀ v e1 P1 H1 x, Wd P1 H1 → EnvAt G P1 σ e1 → FrS P P1 e e1 σ σ → RvAt G P1 σ x v → PostS G W P1 e1 σ D (g v e1) → Q1 x H1) : te σ H Q1 := by
  refine s P σ H e w en Q1 ?_
  cases q : f e with
  | ok v e1 =>
    rw [q] at h
    exact fun P1 H1 x a b c d => k v e1 P1 H1 x a b c.s d (PostS.from h c.s)
  | ex x e1 =>
    rw [q] at h
    exact fun P' H' cls d a b c t => h P' H' σ cls d a b c.s t
  | no =>
    rw [q] at h
    exact h.elim
theorem SE.bindzS {G : Gx} {W : WX} {te : TE} {f : Fx} {g : Rv → En → R Fl} {P : Pt} {e : En} {σ : L2.St} {H : Hp} {Q1 : VK} {D : Ends} (s : SE G W te f) (w : Wd P H) (en : EnvAt G P σ e) (h : PostS G W P e σ D ((Fw.fz f e).bind g))
    (k : ∀ v e1 P1 H1 x, Wd P1 H1 → EnvAt G P1 σ e1 → FrS P P1 e e1 σ σ → Held G P1 σ x v → PostS G W P1 e1 σ D (g v e1) → Q1 x H1) : te σ H Q1 := by
  refine s.fz P σ H e w en Q1 ?_
  cases q : Fw.fz f e with
  | ok v e1 =>
    rw [q] at h
    exact fun P1 H1 x a b c d => k v e1 P1 H1 x a b c.s (frz_held q d) (PostS.from h c.s)
  | ex x e1 =>
    rw [q] at h
    exact fun P' H' cls d a b c t => h P' H' σ cls d a b c.s t
  | no =>
    rw [q] at h
    exact h.elim
theorem ST.bindS {G : Gx} {W : WX} {tt : TT} {f : Ft} {g : Bool → En → R Fl} {P : Pt} {e : En} {σ : L2.St} {H : Hp} {Q1 : Bool → Hp → Prop} {D : Ends} (s : ST G W tt f) (w : Wd P H) (en : EnvAt G P σ e) (h : PostS G W P e σ D ((f e).bind g))
    (k : ∀ b e1 P1 H1, Wd P1 H1 → EnvAt G P1 σ e1 → FrS P P1 e e1 σ σ → PostS G W P1 e1 σ D (g b e1) → Q1 b H1) : tt σ H Q1 := by
  refine s P σ H e w en Q1 ?_
  cases q : f e with
  | ok v e1 =>
    rw [q] at h
    exact fun P1 H1 a b c => k v e1 P1 H1 a b c.s (PostS.from h c.s)
  | ex x e1 =>
    rw [q] at h
    exact fun P' H' cls d a b c t => h P' H' σ cls d a b c.s t
  | no =>
    rw [q] at h
    exact h.elim
structure PSx (X : Cx) (G : Gx) (W : WX) (st : Stmt) (t : TS) (f : Fs) : Prop where
  ps : PS X st t
  ss : SS G W t f
structure PBx (X : Cx) (G : Gx) (W : WX) (st : List Stmt) (t : TS) (f : Fs) : Prop where
  ps : PSs X st t
  ss : SS G W t f
def fNext : Fs := fun e => .ok .nx e
theorem ss_next {G : Gx} {W : WX} : SS G W tNext fNext := fun P σ H e w en D h => h P H σ w en (FrS.refl _ _ _)
def thenF (g : Fs) : Fl → En → R Fl := fun fl e1 => match fl with
  | .nx => g e1
  | fl => .ok fl e1
def fSeq (f g : Fs) : Fs := fun e => (f e).bind (thenF g)
theorem ss_seq {G : Gx} {W : WX} {t u : TS} {f g : Fs} (s : SS G W t f) (s' : SS G W u g) : SS G W (tSeq t u) (fSeq f g) := fun P σ H e w en D h => by
  refine s P σ H e w en { D with nx := u D } ?_
  have h' : PostS G W P e σ D ((f e).bind (thenF g)) := h
  cases q : f e with
  | ok fl e1 =>
    rw [q] at h'
    intro P1 H1 σ1 a b c
    cases fl with
    | nx => exact s' P1 σ1 H1 e1 a b D (PostS.from h' c)
    | bk => exact h' P1 H1 σ1 a b c
    | ct => exact h' P1 H1 σ1 a b c
    | rt v => exact h' P1 H1 σ1 a b c
  | ex x e1 => rw [q] at h'; exact h'
  | no => rw [q] at h'; exact h'
def fIf (c : Ft) (f g : Fs) : Fs := fun e => (c e).bind fun b e1 => if b = true then f e1 else g e1
theorem ss_if {G : Gx} {W : WX} {tc : TT} {t u : TS} {c : Ft} {f g : Fs} (sc : ST G W tc c) (s : SS G W t f) (s' : SS G W u g) : SS G W (tIfS tc t u) (fIf c f g) := fun P σ H e w en D h =>
  sc.bindS w en h fun b e1 P1 H1 w1 en1 fr1 h1 => by
    cases b with
    | true => exact s P1 σ H1 e1 w1 en1 D h1
    | false => exact s' P1 σ H1 e1 w1 en1 D h1
def fExpr (f : Fx) : Fs := fun e => (f e).bind fun _ e1 => .ok .nx e1
theorem ss_expr {G : Gx} {W : WX} {te : TE} {f : Fx} (s : SE G W te f) : SS G W (tDrop te) (fExpr f) := fun P σ H e w en D h =>
  s.bindS w en h fun v e1 P1 H1 x w1 en1 fr1 r1 h1 => h1 P1 H1 σ w1 en1 (FrS.refl _ _ _)
/-- x in the slot i is given a value -/
def putS (i : Nat) (v : Rv) (e : En) : R Fl := if isRef e[i]? = true then .no else match v with
  | .pv d => .ok .nx (e.set i (.pv d))
  | .ow (.ls false xs) => .ok .nx (e.set i (.ls false xs))
  | .ow (.dk false k) => .ok .nx (e.set i (.dk false k))
  | .ow (.ob false o) => .ok .nx (e.set i (.ob false o))
  | .ow (.fp c) => .ok .nx (e.set i (.fp c))
  | .bor j => (fzv (.bor j) e).bind fun v' e1 => (match v' with
    | .pv d => .ok .nx (e1.set i (.pv d))
    | _ => .no)
  | _ => .no
def fAsg (i : Nat) (f : Fx) : Fs := fun e => (f e).bind (putS i)
theorem st_set {σ : L2.St} {i j : Nat} {v : Option V} (h : i ≠ j) : (σ.set i v)[j]? = σ[j]? := List.getElem?_set_ne h
theorem put_pv {G : Gx} {P : Pt} {σ : L2.St} {e : En} {i : Nat} {x : V} {d : PD} (en : EnvAt G P σ e) (h : Dq (P 0) x d) (hr : isRef e[i]? = false) :
    EnvAt G P (σ.set i (some x)) (e.set i (.pv d)) ∧ FrS P P e (e.set i (.pv d)) σ (σ.set i (some x)) := by
  refine ⟨⟨by rw [List.length_set, List.length_set]; exact en.len, en.cs, fun j s hj => ?_⟩, Same.refl _, rfl, by rw [List.length_set], fun j hj => ?_⟩
  · by_cases hij : i = j
    · subst hij
      by_cases hlt : i < e.length
      · rw [List.getElem?_set_self hlt] at hj; cases hj
        exact ⟨_, List.getElem?_set_self (by rw [← en.len]; exact hlt), x, rfl, h⟩
      · rw [List.getElem?_eq_none (by rw [List.length_set]; omega)] at hj; cases hj
    · rw [List.getElem?_set_ne hij] at hj
      rw [st_set hij]
      exact en.at_ j s hj
  · have hij : i ≠ j := fun z => by subst z; rw [hr] at hj; cases hj
    rw [List.getElem?_set_ne hij, st_set hij]
    exact ⟨hj, rfl⟩
theorem put_fp {G : Gx} {P : Pt} {σ : L2.St} {e : En} {i : Nat} {x : V} {c : PieceM} (en : EnvAt G P σ e) (h : ∃ q ls, x = .ref q ∧ PcAt G (P 0) G.C q ls c) (hr : isRef e[i]? = false) :
    EnvAt G P (σ.set i (some x)) (e.set i (.fp c)) ∧ FrS P P e (e.set i (.fp c)) σ (σ.set i (some x)) := by
  refine ⟨⟨by rw [List.length_set, List.length_set]; exact en.len, en.cs, fun j s hj => ?_⟩, Same.refl _, rfl, by rw [List.length_set], fun j hj => ?_⟩
  · by_cases hij : i = j
    · subst hij
      by_cases hlt : i < e.length
      · rw [List.getElem?_set_self hlt] at hj; cases hj
        obtain ⟨q, ls, rfl, z⟩ := h
        exact ⟨_, List.getElem?_set_self (by rw [← en.len]; exact hlt), q, ls, rfl, z⟩
      · rw [List.getElem?_eq_none (by rw [List.length_set]; omega)] at hj; cases hj
    · rw [List.getElem?_set_ne hij] at hj
      rw [st_set hij]
      exact en.at_ j s hj
  · have hij : i ≠ j := fun z => by subst z; rw [hr] at hj; cases hj
    rw [List.getElem?_set_ne hij, st_set hij]
    exact ⟨hj, rfl⟩
theorem put_ow {G : Gx} {P : Pt} {H : Hp} {σ : L2.St} {e : En} {i : Nat} {x : V} {s : Sl} (w : Wd P H) (en : EnvAt G P σ e) (h : SlAt G (P 0) (P 2) (some x) s) (hr : isRef e[i]? = false) :
    ∃ P', Wd P' H ∧ EnvAt G P' (σ.set i (some x)) (e.set i s) ∧ FrS P P' e (e.set i s) σ (σ.set i (some x)) := by
  have z0 : ((P.set 2 emp).set (i + 3) (P 2)) 0 = P 0 := by rw [Pt.set_ne (show 0 ≠ i + 3 by omega), Pt.set_ne (by decide)]
  refine ⟨(P.set 2 emp).set (i + 3) (P 2), w.move (by omega), ⟨by rw [List.length_set, List.length_set]; exact en.len, by rw [Pt.set_ne (show 1 ≠ i + 3 by omega), Pt.set_ne (by decide)]; exact en.cs, fun j s' hj => ?_⟩, ⟨by rw [z0]; exact Same.refl _, by rw [Pt.set_ne (show 1 ≠ i + 3 by omega), Pt.set_ne (by decide)], by rw [List.length_set], fun j hj => ?_⟩⟩
  · by_cases hij : i = j
    · subst hij
      by_cases hlt : i < e.length
      · rw [List.getElem?_set_self hlt] at hj; cases hj
        refine ⟨_, List.getElem?_set_self (by rw [← en.len]; exact hlt), ?_⟩
        rw [z0, Pt.set_same]; exact h
      · rw [List.getElem?_eq_none (by rw [List.length_set]; omega)] at hj; cases hj
    · rw [List.getElem?_set_ne hij] at hj
      rw [st_set hij]
      obtain ⟨v, a, b⟩ := en.at_ j s' hj
      have ep : ((P.set 2 emp).set (i + 3) (P 2)) (j + 3) = P (j + 3) := by rw [Pt.set_ne (show j + 3 ≠ i + 3 by omega), Pt.set_ne (show j + 3 ≠ 2 by omega)]
      exact ⟨v, a, by rw [z0, ep]; exact b⟩
  · have hij : i ≠ j := fun z => by subst z; rw [hr] at hj; cases hj
    rw [List.getElem?_set_ne hij, st_set hij]
    exact ⟨hj, rfl⟩
theorem isRef_fzv {e e1 : En} {j i : Nat} {v : Rv} (h : fzv (.bor j) e = .ok v e1) (hr : isRef e[i]? = false) : isRef e1[i]? = false := by
  have h' : (match e[j]? with | some (.ls false xs) => R.ok (Rv.pv (.list xs)) (e.set j (.pv (.list xs))) | _ => .no) = .ok v e1 := h
  split at h'
  · rename_i xs q
    cases h'
    by_cases hij : j = i
    · subst hij
      rw [List.getElem?_set_self (List.getElem?_eq_some_iff.mp q).1]; rfl
    · rw [List.getElem?_set_ne hij]; exact hr
  · cases h'
theorem ss_asg {G : Gx} {W : WX} {i : Nat} {te : TE} {f : Fx} (s : SE G W te f) : SS G W (tAsg te (gName i)) (fAsg i f) := fun P σ H e w en D h =>
  s.bindS (Q1 := fun x H1 => gName i x σ H1 D.nx) w en h fun v e1 P1 H1 x w1 en1 fr1 r1 h1 => by
    show D.nx (σ.set i (some x)) H1
    unfold putS at h1
    split at h1
    · exact h1.elim
    · rename_i hr0
      have hr : isRef e1[i]? = false := by simpa using hr0
      split at h1
      · obtain ⟨a, b⟩ := put_pv en1 r1 hr
        exact h1 P1 H1 _ w1 a b
      · rename_i xs
        obtain ⟨P2, a, b, c⟩ := put_ow (x := x) (s := .ls false xs) w1 en1 r1 hr
        exact h1 P2 H1 _ a b c
      · rename_i xs
        obtain ⟨P2, a, b, c⟩ := put_ow (x := x) (s := .dk false xs) w1 en1 r1 hr
        exact h1 P2 H1 _ a b c
      · rename_i xs
        obtain ⟨P2, a, b, c⟩ := put_ow (x := x) (s := .ob false xs) w1 en1 r1 hr
        exact h1 P2 H1 _ a b c
      · rename_i c
        obtain ⟨q, ls, e, z⟩ := r1
        obtain ⟨a, b⟩ := put_fp (x := x) en1 ⟨q, ls, by cases e; rfl, z⟩ hr
        exact h1 P1 H1 _ w1 a b
      · rename_i j
        cases q : fzv (.bor j) e1 with
        | ok v' e2 =>
          rw [q] at h1
          obtain ⟨P2, d, rfl, a, b, c, t⟩ := fzv_at (v := .bor j) (x := x) w1 en1 r1 q
          obtain ⟨k1, k2⟩ := put_pv b t (isRef_fzv q hr)
          exact PostS.from h1 c.s P2 H1 _ a k1 k2
        | ex y e2 =>
          exfalso
          have q' : (match e1[j]? with | some (.ls false xs) => R.ok (Rv.pv (.list xs)) (e1.set j (.pv (.list xs))) | _ => .no) = .ex y e2 := q
          split at q' <;> cases q'
        | no => rw [q] at h1; exact h1.elim
      · exact h1.elim
/-- return -/
def retS (v : Rv) (e : En) : R Fl := match v with
  | .pv d => .ok (.rt (.pv d)) e
  | .ow s => .ok (.rt (.ow s)) e
  | .bor j => match e[j]? with
    | some (.ls false xs) => .ok (.rt (.ow (.ls false xs))) (e.set j .un)
    | some (.dk false k) => .ok (.rt (.ow (.dk false k))) (e.set j .un)
    | some (.ob false o) => .ok (.rt (.ow (.ob false o))) (e.set j .un)
    | _ => .no
def fRet (f : Fx) : Fs := fun e => (f e).bind retS
theorem take_ow {G : Gx} {P : Pt} {H : Hp} {σ : L2.St} {e : En} {j : Nat} {x : V} {s : Sl} (w : Wd P H) (en : EnvAt G P σ e) (hj : e[j]? = some s) (hx : σ[j]? = some (some x)) (hr : isRef (some s) = false) :
    ∃ P', Wd P' H ∧ EnvAt G P' σ (e.set j .un) ∧ FrS P P' e (e.set j .un) σ σ ∧ SlAt G (P' 0) (P' 2) (some x) s := by
  have z0 : ((P.set (j + 3) emp).set 2 (P (j + 3))) 0 = P 0 := by rw [Pt.set_ne (by decide), Pt.set_ne (show 0 ≠ j + 3 by omega)]
  obtain ⟨v, a, b⟩ := en.at_ j s hj
  rw [hx] at a; cases a
  refine ⟨(P.set (j + 3) emp).set 2 (P (j + 3)), w.move (by omega), ⟨by rw [List.length_set]; exact en.len, by rw [Pt.set_ne (by decide), Pt.set_ne (show 1 ≠ j + 3 by omega)]; exact en.cs, fun k s' hk => ?_⟩, ⟨by rw [z0]; exact Same.refl _, by rw [Pt.set_ne (by decide), Pt.set_ne (show 1 ≠ j + 3 by omega)], rfl, fun k hk => ?_⟩, ?_⟩
  · by_cases hij : j = k
    · subst hij
      rw [List.getElem?_set_self (List.getElem?_eq_some_iff.mp hj).1] at hk; cases hk
      exact ⟨_, hx, trivial⟩
    · rw [List.getElem?_set_ne hij] at hk
      obtain ⟨v, a, b⟩ := en.at_ k s' hk
      have ep : ((P.set (j + 3) emp).set 2 (P (j + 3))) (k + 3) = P (k + 3) := by rw [Pt.set_ne (show k + 3 ≠ 2 by omega), Pt.set_ne (show k + 3 ≠ j + 3 by omega)]
      exact ⟨v, a, by rw [z0, ep]; exact b⟩
  · have hij : j ≠ k := fun z => by subst z; rw [hj, hr] at hk; cases hk
    rw [List.getElem?_set_ne hij]
    exact ⟨hk, rfl⟩
  · rw [z0, Pt.set_same]; exact b
theorem ss_ret {G : Gx} {W : WX} {te : TE} {f : Fx} (s : SE G W te f) : SS G W (tRet te) (fRet f) := fun P σ H e w en D h =>
  s.bindS (Q1 := D.rt) w en h fun v e1 P1 H1 x w1 en1 fr1 r1 h1 => by
    cases v with
    | pv d => exact h1 P1 H1 σ w1 en1 (FrS.refl _ _ _) x r1
    | ow sl => exact h1 P1 H1 σ w1 en1 (FrS.refl _ _ _) x r1
    | bor j =>
      have h2 : PostS G W P1 e1 σ D (match e1[j]? with
        | some (.ls false xs) => .ok (.rt (.ow (.ls false xs))) (e1.set j .un)
        | some (.dk false k) => .ok (.rt (.ow (.dk false k))) (e1.set j .un)
        | some (.ob false o) => .ok (.rt (.ow (.ob false o))) (e1.set j .un)
        | _ => .no) := h1
      split at h2
      · rename_i xs q
        obtain ⟨P2, a, b, c, t⟩ := take_ow w1 en1 q r1 rfl
        exact h2 P2 H1 σ a b c x t
      · rename_i xs q
        obtain ⟨P2, a, b, c, t⟩ := take_ow w1 en1 q r1 rfl
        exact h2 P2 H1 σ a b c x t
      · rename_i xs q
        obtain ⟨P2, a, b, c, t⟩ := take_ow w1 en1 q r1 rfl
        exact h2 P2 H1 σ a b c x t
      · exact h2.elim
def fRetN : Fs := fun e => .ok (.rt (.pv .none)) e
theorem ss_retN {G : Gx} {W : WX} : SS G W tRetN fRetN := fun P σ H e w en D h => h P H σ w en (FrS.refl _ _ _) _ .non
def fBk : Fs := fun e => .ok .bk e
theorem ss_bk {G : Gx} {W : WX} : SS G W tBreak fBk := fun P σ H e w en D h => h P H σ w en (FrS.refl _ _ _)
end Fw
namespace Fw
open PySem L2

/-! ### targets -/
theorem wipe_set {k : Nat} {v : Option V} : ∀ {vs : List Nat} {σ : L2.St}, k ∈ vs → wipe (σ.set k v) vs = wipe σ vs
  | [], _, h => by simp at h
  | a :: vs, σ, h => by
    unfold wipe
    by_cases hk : k ∈ vs
    · rw [wipe_set hk]
    · have e : k = a := by
        rcases List.mem_cons.mp h with z | z
        · exact z
        · exact absurd z hk
      subst e
      have out : ∀ (vs : List Nat) (σ : L2.St), k ∉ vs → wipe (σ.set k v) vs = (wipe σ vs).set k v := by
        intro vs
        induction vs with
        | nil => intro σ _; rfl
        | cons b vs ih =>
          intro σ hb
          unfold wipe
          rw [ih σ fun z => hb (List.mem_cons_of_mem _ z)]
          exact List.set_comm _ _ fun z => hb (by rw [z]; exact List.mem_cons_self)
      rw [out vs σ hk, List.set_set]
theorem wipe_get {σ : L2.St} {i : Nat} : ∀ {vs : List Nat}, i ∉ vs → (wipe σ vs)[i]? = σ[i]?
  | [], _ => rfl
  | a :: vs, h => by
    unfold wipe
    rw [List.getElem?_set_ne (fun z => h (by rw [z]; exact List.mem_cons_self))]
    exact wipe_get fun z => h (List.mem_cons_of_mem _ z)
theorem wipe_wipe (σ : L2.St) : ∀ vs : List Nat, wipe (wipe σ vs) vs = wipe σ vs := fun vs => by
  apply List.ext_getElem?
  intro i
  have key : ∀ (vs : List Nat) (σ : L2.St), i ∈ vs → i < σ.length → (wipe σ vs)[i]? = some none := by
    intro vs
    induction vs with
    | nil => intro σ h _; simp at h
    | cons b vs ih =>
      intro σ h hl
      unfold wipe
      by_cases hb : b = i
      · subst hb; exact List.getElem?_set_self (by rw [wipe_length]; exact hl)
      · rw [List.getElem?_set_ne hb]
        exact ih σ ((List.mem_cons.mp h).resolve_left fun z => hb z.symm) hl
  by_cases hi : i ∈ vs
  · by_cases hl : i < σ.length
    · rw [key vs _ hi (by rw [wipe_length]; exact hl), key vs σ hi hl]
    · rw [List.getElem?_eq_none (by rw [wipe_length, wipe_length]; omega), List.getElem?_eq_none (by rw [wipe_length]; omega)]
  · rw [wipe_get hi]
abbrev Tgt := PD → En → Option En
def SG (G : Gx) (g : TG) (ks : List Nat) (t : Tgt) : Prop := ∀ P σ H e x d e1, EnvAt G P σ e → Wd P H → Dq (P 0) x d → t d e = some e1 → ∀ Q : L2.St → Hp → Prop, (∀ σ1, EnvAt G P σ1 e1 → FrS P P e e1 σ σ1 → (∀ vs : List Nat, (∀ k ∈ ks, k ∈ vs) → wipe σ1 vs = wipe σ vs) → Q σ1 H) → g x σ H Q
structure PGx (X : Cx) (G : Gx) (tg : Expr) (g : TG) (ks : List Nat) (t : Tgt) : Prop where
  pg : PG X tg g
  sg : SG G g ks t
def tgName (k : Nat) : Tgt := fun d e => if isRef e[k]? = true then none else some (e.set k (.pv d))
theorem sg_name {G : Gx} (k : Nat) : SG G (gName k) [k] (tgName k) := fun P σ H e x d e1 en w q h Q c => by
  unfold tgName at h
  split at h
  · cases h
  · rename_i hr
    cases h
    obtain ⟨a, b⟩ := put_pv (i := k) en q (by simpa using hr)
    exact c _ a b fun vs hv => wipe_set (hv k (by simp))
def tgPair (a b : Nat) : Tgt := fun d e => match d with
  | .tuple [x, y] => if isRef e[a]? = true ∨ isRef (e.set a (.pv x))[b]? = true then none else some ((e.set a (.pv x)).set b (.pv y))
  | _ => none
theorem sg_pair {G : Gx} (a b : Nat) : SG G (gTup G.K 2 (gCons (gName a) (gCons (gName b) gNil))) [a, b] (tgPair a b) := fun P σ H e x d e1 en w q h Q c => by
  unfold tgPair at h
  split at h
  · rename_i y z
    split at h
    · cases h
    · rename_i hr
      cases h
      cases q with
      | tup h1 h2 =>
        cases h2 with
        | cons q1 h3 =>
          cases h3 with
          | cons q2 h4 =>
            cases h4
            have hr1 : isRef e[a]? = false := by
              cases z : isRef e[a]? with
              | true => exact absurd (Or.inl z) hr
              | false => rfl
            obtain ⟨a1, b1⟩ := put_pv (i := a) en q1 hr1
            have hr2 : isRef (e.set a (.pv y))[b]? = false := by
              cases z : isRef (e.set a (.pv y))[b]? with
              | true => exact absurd (Or.inr z) hr
              | false => rfl
            obtain ⟨a2, b2⟩ := put_pv (i := b) a1 q2 hr2
            refine ⟨_, _, rfl, SqT.of (w.s0 _ _ h1), rfl, _, _, rfl, _, _, rfl, rfl, ?_⟩
            exact c _ a2 (b1.trans b2) fun vs hv => by rw [wipe_set (hv b (by simp)), wipe_set (hv a (by simp))]
  · cases h

/-! ### loops -/
open Classical in
noncomputable def loopL (gd : En → Prop) (tgt : Tgt) (body : Fs) : List PD → Fs
  | [], e => if gd e then .ok .nx e else .no
  | d :: ds, e => if gd e then (match tgt d e with
    | none => .no
    | some e1 => (body e1).bind fun fl e2 => match fl with
      | .nx => loopL gd tgt body ds e2
      | .ct => loopL gd tgt body ds e2
      | .bk => .ok .nx e2
      | .rt v => .ok (.rt v) e2) else .no
/-- a turn of the loop, and what is left of it -/
theorem loop_turn {G : Gx} {W : WX} {gd : En → Prop} {tgt : Tgt} {body : Fs} {g : TG} {ks : List Nat} {tb : TS} {P : Pt} {H : Hp} {σ : L2.St} {e : En} {x : V} {d : PD} {ds : List PD} {D : Ends} (sg : SG G g ks tgt) (s : SS G W tb body) (w : Wd P H) (en : EnvAt G P σ e) (q : Dq (P 0) x d)
    (h : PostS G W P e σ D (loopL gd tgt body (d :: ds) e)) (N : L2.St → Hp → Prop) (hN : ∀ P' H' σ' e', Wd P' H' → EnvAt G P' σ' e' → FrS P P' e e' σ σ' → PostS G W P' e' σ' D (loopL gd tgt body ds e') → N σ' H') :
    g x σ H fun σ2 H2 => tb { D with nx := N, ct := N, bk := D.nx } σ2 H2 := by
  unfold loopL at h
  split at h
  · cases qt : tgt d e with
    | none => rw [qt] at h; exact h.elim
    | some e1 =>
      rw [qt] at h
      refine sg P σ H e x d e1 en w q qt _ fun σ1 en1 fr1 _ => ?_
      have h0 : PostS G W P e σ D ((body e1).bind fun fl e2 => match fl with
        | .nx => loopL gd tgt body ds e2
        | .ct => loopL gd tgt body ds e2
        | .bk => .ok .nx e2
        | .rt v => .ok (.rt v) e2) := h
      have h1 := PostS.from h0 fr1
      refine s P σ1 H e1 w en1 _ ?_
      cases qb : body e1 with
      | no => rw [qb] at h1; exact h1.elim
      | ex y e2 =>
        rw [qb] at h1
        exact fun P' H' σ' cls dd a b c t => h1 P' H' σ' cls dd a b c t
      | ok fl e2 =>
        rw [qb] at h1
        intro P' H' σ' a b c
        cases fl with
        | nx => exact hN P' H' σ' e2 a b (fr1.trans c) (PostS.from h1 c)
        | ct => exact hN P' H' σ' e2 a b (fr1.trans c) (PostS.from h1 c)
        | bk => exact h1 P' H' σ' a b c
        | rt v => exact h1 P' H' σ' a b c
  · exact h.elim
theorem loop_gd {G : Gx} {W : WX} {gd : En → Prop} {tgt : Tgt} {body : Fs} {P : Pt} {σ : L2.St} {e : En} {ds : List PD} {D : Ends} (h : PostS G W P e σ D (loopL gd tgt body ds e)) : gd e := by
  cases ds with
  | nil =>
    unfold loopL at h
    split at h
    · assumption
    · exact h.elim
  | cons d ds =>
    unfold loopL at h
    split at h
    · assumption
    · exact h.elim
theorem for_itl {K : PySem.W.Frag} {a : Addr} {n : Nat} {g : TG} {tb : TS} {D : Ends} {σ : L2.St} {H : Hp} (Pv : Nat → L2.St → Hp → Prop) (h0 : Pv 0 σ H)
    (hl : ∀ i σ H, Pv i σ H → ∃ vs, SqL K H a vs ∧ vs.length = n ∧ ∀ x, vs[i]? = some x → g x σ H fun σ2 H2 => tb { D with nx := Pv (i + 1), ct := Pv (i + 1), bk := D.nx } σ2 H2) (hd : ∀ σ H, Pv n σ H → D.nx σ H) :
    ∃ W : Nat → Nat → L2.St → Hp → Prop, (∃ m, W 0 m σ H) ∧ ∀ i m σ H, W i m σ H →
      ((Itl K a).stop i H ∧ D.nx σ H) ∨ ((Itl K a).go i H ∧ ∃ N : L2.St → Hp → Prop, (∀ σ' H', N σ' H' → ∃ m', m' < m ∧ W (i + 1) m' σ' H') ∧ ∀ x H', (Itl K a).yld i H x H' → g x σ H' fun σ2 H2 => tb { D with nx := N, ct := N, bk := D.nx } σ2 H2) := by
  refine ⟨fun i m σ H => m = n - i ∧ i ≤ n ∧ Pv i σ H, ⟨n, by simp, Nat.zero_le _, h0⟩, ?_⟩
  rintro i m σ H ⟨rfl, hi, p⟩
  obtain ⟨vs, q, hlen, ht⟩ := hl i σ H p
  by_cases hlt : i < n
  · refine .inr ⟨⟨vs, vs[i]'(by omega), q, List.getElem?_eq_getElem _⟩, Pv (i + 1), fun σ' H' p' => ⟨n - (i + 1), by omega, rfl, hlt, p'⟩, fun x H' y => ?_⟩
    obtain ⟨e, y⟩ := y
    subst e
    exact ht x (y vs q)
  · have e : i = n := by omega
    subst e
    exact .inl ⟨⟨vs, q, by omega⟩, hd σ H p⟩
/-- the slot j is lent to the loop -/
def unfl (r : Bool) (j : Nat) {α : Type} : R α → R α
  | .ok a e => (match e[j]? with
    | some (.ls _ zs) => .ok a (e.set j (.ls r zs))
    | _ => .no)
  | .ex x e => (match e[j]? with
    | some (.ls _ zs) => .ex x (e.set j (.ls r zs))
    | _ => .no)
  | .no => .no
theorem EnvAt.flag {G : Gx} {P : Pt} {σ : L2.St} {e : En} {j : Nat} {r r' : Bool} {ds : List PD} (en : EnvAt G P σ e) (h : e[j]? = some (.ls r ds)) : EnvAt G P σ (e.set j (.ls r' ds)) :=
  ⟨by rw [List.length_set]; exact en.len, en.cs, fun i s hi => by
    by_cases hij : j = i
    · subst hij
      rw [List.getElem?_set_self (List.getElem?_eq_some_iff.mp h).1] at hi; cases hi
      obtain ⟨v, a, b⟩ := en.at_ j _ h
      exact ⟨v, a, b⟩
    · rw [List.getElem?_set_ne hij] at hi
      exact en.at_ i s hi⟩
theorem ref_flag {e e' : En} {j : Nat} {r : Bool} {ds zs : List PD} (h : e[j]? = some (.ls r ds)) (h' : e'[j]? = some (.ls true zs)) (k : ∀ i : Nat, isRef (e.set j (.ls true ds))[i]? = true → isRef e'[i]? = true) (i : Nat) (hi : isRef e[i]? = true) : isRef (e'.set j (.ls r zs))[i]? = true := by
  by_cases hij : j = i
  · subst hij
    rw [h] at hi
    rw [List.getElem?_set_self (List.getElem?_eq_some_iff.mp h').1]
    cases r with
    | true => rfl
    | false => cases hi
  · rw [List.getElem?_set_ne hij]
    exact k i (by rw [List.getElem?_set_ne hij]; exact hi)
theorem flag_set {e : En} {j : Nat} {r : Bool} {ds : List PD} (h : e[j]? = some (.ls r ds)) (i : Nat) (hi : isRef e[i]? = true) : isRef (e.set j (.ls true ds))[i]? = true := by
  by_cases hij : j = i
  · subst hij
    rw [List.getElem?_set_self (List.getElem?_eq_some_iff.mp h).1]; rfl
  · rw [List.getElem?_set_ne hij]; exact hi
theorem lent {e e' : En} {j : Nat} {ds : List PD} {P P' : Pt} {σ σ' : L2.St} {r : Bool} {s : Sl} (h : e[j]? = some (.ls r ds)) (fr : FrS P P' (e.set j (.ls true ds)) e' σ σ') (h' : e'[j]? = some s) : isRef (some s) = true ∧ σ'[j]? = σ[j]? := by
  have z := fr.ref j (by rw [List.getElem?_set_self (List.getElem?_eq_some_iff.mp h).1]; rfl)
  rw [h'] at z
  exact z
theorem unfl_post {G : Gx} {W : WX} {P : Pt} {σ : L2.St} {e : En} {j : Nat} {r : Bool} {ds : List PD} {D : Ends} {res : R Fl} (he : e[j]? = some (.ls r ds)) (h : PostS G W P e σ D (unfl r j res)) : PostS G W P (e.set j (.ls true ds)) σ D res := by
  cases res with
  | no => exact h
  | ok fl e' =>
    intro P' H' σ' a b c
    have h' : PostS G W P e σ D (match e'[j]? with | some (.ls _ zs) => .ok fl (e'.set j (.ls r zs)) | _ => .no) := h
    split at h'
    · rename_i r2 zs q
      have z := lent he c q
      have rt : r2 = true := by cases r2 with | true => rfl | false => cases z.1
      subst rt
      refine h' P' H' σ' a (b.flag q) ⟨c.zero, c.one, c.len, fun i hi => ⟨ref_flag he q (fun i hi => (c.ref i hi).1) i hi, (c.ref i (flag_set he i hi)).2⟩⟩
    · exact h'.elim
  | ex x e' =>
    intro P' H' σ' cls d a b c t
    have h' : PostS G W P e σ D (match e'[j]? with | some (.ls _ zs) => .ex x (e'.set j (.ls r zs)) | _ => .no) := h
    split at h'
    · rename_i r2 zs q
      have z := lent he c q
      have rt : r2 = true := by cases r2 with | true => rfl | false => cases z.1
      subst rt
      refine h' P' H' σ' cls d a (b.flag q) ⟨c.zero, c.one, c.len, fun i hi => ⟨ref_flag he q (fun i hi => (c.ref i hi).1) i hi, (c.ref i (flag_set he i hi)).2⟩⟩ t
    · exact h'.elim
noncomputable def forV (tgt : Tgt) (body : Fs) (v : Rv) (e : En) : R Fl := match v with
  | .pv (.list ds) => loopL (fun _ => True) tgt body ds e
  | .ow (.cl xs) => loopL (fun _ => True) tgt body (xs.map PyData.str) e
  | .bor j => (match e[j]? with
    | some (.ls r ds) => unfl r j (loopL (fun e => e[j]? = some (.ls true ds)) tgt body ds (e.set j (.ls true ds)))
    | some (.sc ns) => loopL (fun _ => True) tgt body (ns.map PyData.int) e
    | _ => .no)
  | _ => .no
noncomputable def fFor (fi : Fx) (tgt : Tgt) (body : Fs) : Fs := fun e => (fz fi e).bind (forV tgt body)
theorem ss_for {G : Gx} {W : WX} {ti : TE} {fi : Fx} {g : TG} {ks : List Nat} {tgt : Tgt} {tb : TS} {body : Fs} (si : SE G W ti fi) (sg : SG G g ks tgt) (s : SS G W tb body) : SS G W (tFor (iList G.K ti) g tb) (fFor fi tgt body) := fun P σ H e w en D h => by
  refine si.bindzS (Q1 := fun x H1 => ∃ a, x = .ref a ∧ (∃ xs, SqL G.K H1 a xs) ∧ ∃ W : Nat → Nat → L2.St → Hp → Prop, (∃ m, W 0 m σ H1) ∧ ∀ i m σ H, W i m σ H →
      ((Itl G.K a).stop i H ∧ D.nx σ H) ∨ ((Itl G.K a).go i H ∧ ∃ N : L2.St → Hp → Prop, (∀ σ' H', N σ' H' → ∃ m', m' < m ∧ W (i + 1) m' σ' H') ∧ ∀ x H', (Itl G.K a).yld i H x H' → g x σ H' fun σ2 H2 => tb { D with nx := N, ct := N, bk := D.nx } σ2 H2)) w en h fun v e1 P1 H1 x w1 en1 fr1 r1 h1 => ?_
  -- the loop, once the list is known to stand at each turn
  have run : ∀ (a : Addr) (ds : List PD) (e2 : En) (gd : En → Prop), EnvAt G P1 σ e2 → PostS G W P1 e2 σ D (loopL gd tgt body ds e2) →
      (∀ P H σ' e', Wd P H → EnvAt G P σ' e' → FrS P1 P e2 e' σ σ' → gd e' → ∃ vs, SqL G.K H a vs ∧ DqAll (P 0) vs ds) →
      ∃ W : Nat → Nat → L2.St → Hp → Prop, (∃ m, W 0 m σ H1) ∧ ∀ i m σ H, W i m σ H →
      ((Itl G.K a).stop i H ∧ D.nx σ H) ∨ ((Itl G.K a).go i H ∧ ∃ N : L2.St → Hp → Prop, (∀ σ' H', N σ' H' → ∃ m', m' < m ∧ W (i + 1) m' σ' H') ∧ ∀ x H', (Itl G.K a).yld i H x H' → g x σ H' fun σ2 H2 => tb { D with nx := N, ct := N, bk := D.nx } σ2 H2) := by
    intro a ds e2 gd en2 h2 src
    refine for_itl (n := ds.length) (fun i σ' H' => ∃ P' e', Wd P' H' ∧ EnvAt G P' σ' e' ∧ FrS P1 P' e2 e' σ σ' ∧ PostS G W P' e' σ' D (loopL gd tgt body (ds.drop i) e')) ⟨P1, e2, w1, en2, FrS.refl _ _ _, h2⟩ ?_ ?_
    · rintro i σ' H' ⟨P', e', w', en', fr', h'⟩
      obtain ⟨vs, s1, s2⟩ := src P' H' σ' e' w' en' fr' (loop_gd h')
      refine ⟨vs, s1, s2.length, fun y hy => ?_⟩
      obtain ⟨d, hd, q⟩ := s2.get' hy
      have hlt : i < ds.length := (List.getElem?_eq_some_iff.mp hd).1
      have ed : ds.drop i = d :: ds.drop (i + 1) := by
        rw [List.drop_eq_getElem_cons hlt]
        rw [List.getElem?_eq_getElem hlt] at hd
        cases hd; rfl
      rw [ed] at h'
      exact loop_turn sg s w' en' q h' _ fun P2 H2 σ2 e3 a b c t => ⟨P2, e3, a, b, fr'.trans c, t⟩
    · rintro σ' H' ⟨P', e', w', en', fr', h'⟩
      rw [List.drop_length] at h'
      unfold loopL at h'
      split at h'
      · exact h' P' H' σ' w' en' (FrS.refl _ _ _)
      · exact h'.elim
  unfold forV at h1
  split at h1
  · rename_i ds
    cases r1 with
    | lst z1 z2 =>
      refine ⟨_, rfl, ⟨_, SqL.of (w1.s0 _ _ z1)⟩, run _ ds e1 _ en1 h1 fun P H σ' e' a b c _ => ⟨_, SqL.of (a.s0 _ _ (c.zero _ _ z1)), DqAll.mono c.zero _ _ z2⟩⟩
  · rename_i xs
    obtain ⟨p, rfl, z⟩ := r1
    exact ⟨p, rfl, ⟨_, SqL.of (w1.sub 1 _ _ (en1.cs _ _ z))⟩, run p _ e1 _ en1 h1 fun P H σ' e' a b c _ => ⟨_, SqL.of (a.sub 1 _ _ (b.cs _ _ z)), DqAll.strs xs⟩⟩
  · rename_i j
    split at h1
    · rename_i r ds q
      obtain ⟨p, vs, a1, a2, a3⟩ := slot_ls en1 q
      have r1' : σ[j]? = some (some x) := r1
      rw [a1] at r1'; cases r1'
      refine ⟨p, rfl, ⟨vs, SqL.of (w1.sub _ _ _ a2)⟩, run p ds _ _ (en1.flag q) (unfl_post q h1) fun P H σ' e' a b c gd => ?_⟩
      obtain ⟨p', vs', b1, b2, b3⟩ := slot_ls b gd
      have z := lent q c gd
      rw [z.2, a1] at b1; cases b1
      exact ⟨vs', SqL.of (a.sub _ _ _ b2), b3⟩
    · rename_i ns q
      obtain ⟨v, b1, p, b2, b3⟩ := en1.at_ j _ q
      have r1' : σ[j]? = some (some x) := r1
      rw [b1, b2] at r1'; cases r1'
      exact ⟨p, rfl, ⟨_, sql_mono w1.s0 b3⟩, run p _ e1 _ en1 h1 fun P H σ' e' a b c _ => ⟨_, sql_mono a.s0 (sql_mono c.zero b3), DqAll.ints ns⟩⟩
    · exact h1.elim
  · exact h1.elim
/-- over a range -/
noncomputable def forR (tgt : Tgt) (body : Fs) (lo hi : Int) (e : En) : R Fl := if -1000000 ≤ lo ∧ lo ≤ 1000000 ∧ -1000000 ≤ hi ∧ hi ≤ 1000000 then loopL (fun _ => True) tgt body ((List.range (hi - lo).toNat).map fun i => PyData.int (lo + (i : Nat))) e else .no
theorem forR_ok {G : Gx} {W : WX} {g : TG} {ks : List Nat} {tgt : Tgt} {tb : TS} {body : Fs} {P : Pt} {H : Hp} {σ : L2.St} {e : En} {D : Ends} {lo hi : Int} (sg : SG G g ks tgt) (s : SS G W tb body) (w : Wd P H) (en : EnvAt G P σ e) (h : PostS G W P e σ D (forR tgt body lo hi e)) :
    (-(2 ^ 62) ≤ lo ∧ lo < 2 ^ 62 ∧ -(2 ^ 62) ≤ hi ∧ hi < 2 ^ 62) ∧ ∃ W : Nat → Nat → L2.St → Hp → Prop, (∃ m, W 0 m σ H) ∧ ∀ i m σ H, W i m σ H →
      ((Itr lo (hi - lo).toNat).stop i H ∧ D.nx σ H) ∨ ((Itr lo (hi - lo).toNat).go i H ∧ ∃ N : L2.St → Hp → Prop, (∀ σ' H', N σ' H' → ∃ m', m' < m ∧ W (i + 1) m' σ' H') ∧ ∀ x H', (Itr lo (hi - lo).toNat).yld i H x H' → g x σ H' fun σ2 H2 => tb { D with nx := N, ct := N, bk := D.nx } σ2 H2) := by
  unfold forR at h
  split at h
  · rename_i hb
    refine ⟨⟨by omega, by omega, by omega, by omega⟩, ?_⟩
    generalize hds : ((List.range (hi - lo).toNat).map fun i => PyData.int (lo + (i : Nat))) = ds at h
    have hl : ds.length = (hi - lo).toNat := by rw [← hds, List.length_map, List.length_range]
    refine for_range (fun i σ' H' => ∃ P' e', Wd P' H' ∧ EnvAt G P' σ' e' ∧ FrS P P' e e' σ σ' ∧ PostS G W P' e' σ' D (loopL (fun _ => True) tgt body (ds.drop i) e')) ⟨P, e, w, en, FrS.refl _ _ _, h⟩ ?_ ?_
    · rintro i σ' H' hi' ⟨P', e', w', en', fr', h'⟩
      have ed : ds.drop i = PyData.int (lo + (i : Nat)) :: ds.drop (i + 1) := by
        rw [List.drop_eq_getElem_cons (by omega)]
        congr 1
        subst hds
        rw [List.getElem_map, List.getElem_range]
      rw [ed] at h'
      exact loop_turn sg s w' en' (.int _) h' _ fun P2 H2 σ2 e3 a b c t => ⟨P2, e3, a, b, fr'.trans c, t⟩
    · rintro σ' H' ⟨P', e', w', en', fr', h'⟩
      rw [← hl, List.drop_length] at h'
      unfold loopL at h'
      split at h'
      · exact h' P' H' σ' w' en' (FrS.refl _ _ _)
      · exact h'.elim
  · exact h.elim
noncomputable def fForR1 (fa : Fx) (tgt : Tgt) (body : Fs) : Fs := fun e => (fz fa e).bind fun v e1 => match v with
  | .pv (.int n) => forR tgt body 0 n e1
  | _ => .no
theorem ss_forR1 {G : Gx} {W : WX} {ta : TE} {fa : Fx} {g : TG} {ks : List Nat} {tgt : Tgt} {tb : TS} {body : Fs} (sa : SE G W ta fa) (sg : SG G g ks tgt) (s : SS G W tb body) : SS G W (tFor (iRng1 (tCons ta tNil)) g tb) (fForR1 fa tgt body) := fun P σ H e w en D h =>
  sa.bindzS w en h fun v e1 P1 H1 x w1 en1 fr1 r1 h1 => by
    split at h1
    · rename_i n
      cases r1
      obtain ⟨a, b⟩ := forR_ok sg s w1 en1 h1
      rw [Int.sub_zero] at b
      exact ⟨n, rfl, a.2.2.1, a.2.2.2, b⟩
    · exact h1.elim
noncomputable def fForR2 (fa fb : Fx) (tgt : Tgt) (body : Fs) : Fs := fun e => (fz fa e).bind fun v e1 => (fz fb e1).bind fun u e2 => match v, u with
  | .pv (.int lo), .pv (.int n) => forR tgt body lo n e2
  | _, _ => .no
theorem ss_forR2 {G : Gx} {W : WX} {ta tb' : TE} {fa fb : Fx} {g : TG} {ks : List Nat} {tgt : Tgt} {tb : TS} {body : Fs} (sa : SE G W ta fa) (sb : SE G W tb' fb) (sg : SG G g ks tgt) (s : SS G W tb body) : SS G W (tFor (iRng2 (tCons ta (tCons tb' tNil))) g tb) (fForR2 fa fb tgt body) := fun P σ H e w en D h =>
  sa.bindzS w en h fun v e1 P1 H1 x w1 en1 fr1 r1 h1 => sb.bindzS w1 en1 h1 fun u e2 P2 H2 y w2 en2 fr2 r2 h2 => by
    split at h2
    · rename_i lo n
      cases r1; cases r2
      obtain ⟨a, b⟩ := forR_ok sg s w2 en2 h2
      exact ⟨lo, n, rfl, a, b⟩
    · exact h2.elim

/-! ### while -/
def whileN (c : Ft) (body : Fs) : Nat → Fs
  | 0, _ => .no
  | n + 1, e => (c e).bind fun b e1 => if b = true then (body e1).bind fun fl e2 => (match fl with
      | .nx => whileN c body n e2
      | .ct => whileN c body n e2
      | .bk => .ok .nx e2
      | .rt v => .ok (.rt v) e2) else .ok .nx e1
theorem ss_while {G : Gx} {W : WX} {tc : TT} {c : Ft} {tb : TS} {body : Fs} (n : Nat) (sc : ST G W tc c) (s : SS G W tb body) : SS G W (tWhile tc tb) (whileN c body n) := fun P σ H e w en D h => by
  refine ⟨fun m σ' H' => ∃ P' e', Wd P' H' ∧ EnvAt G P' σ' e' ∧ FrS P P' e e' σ σ' ∧ PostS G W P' e' σ' D (whileN c body m e'), ⟨n, P, e, w, en, FrS.refl _ _ _, h⟩, ?_⟩
  rintro m σ' H' ⟨P', e', w', en', fr', h'⟩
  cases m with
  | zero => exact h'.elim
  | succ m =>
    refine sc.bindS w' en' h' fun b e1 P1 H1 w1 en1 fr1 h1 => ?_
    cases b with
    | false => exact h1 P1 H1 σ' w1 en1 (FrS.refl _ _ _)
    | true =>
      refine ⟨fun σ2 H2 => ∃ P2 e2, Wd P2 H2 ∧ EnvAt G P2 σ2 e2 ∧ FrS P P2 e e2 σ σ2 ∧ PostS G W P2 e2 σ2 D (whileN c body m e2), fun σ2 H2 z => ⟨m, Nat.lt_succ_self m, z⟩, ?_⟩
      refine s P1 σ' H1 e1 w1 en1 _ ?_
      have h2 : PostS G W P1 e1 σ' D ((body e1).bind fun fl e2 => (match fl with
        | .nx => whileN c body m e2
        | .ct => whileN c body m e2
        | .bk => .ok .nx e2
        | .rt v => .ok (.rt v) e2)) := h1
      cases qb : body e1 with
      | no => rw [qb] at h2; exact h2.elim
      | ex y e2 => rw [qb] at h2; exact fun P' H' σ' cls dd a b c t => h2 P' H' σ' cls dd a b c t
      | ok fl e2 =>
        rw [qb] at h2
        intro P' H' σ'' a b c'
        cases fl with
        | nx => exact ⟨P', e2, a, b, fr'.trans (fr1.trans c'), PostS.from h2 c'⟩
        | ct => exact ⟨P', e2, a, b, fr'.trans (fr1.trans c'), PostS.from h2 c'⟩
        | bk => exact h2 P' H' σ'' a b c'
        | rt v => exact h2 P' H' σ'' a b c'
end Fw
namespace Fw
open PySem L2

/-! ### list comprehensions -/
def wipeE (e : En) : List Nat → En
  | [] => e
  | v :: vs => (wipeE e vs).set v .un
theorem wipeE_len (e : En) : ∀ vs : List Nat, (wipeE e vs).length = e.length
  | [] => rfl
  | v :: vs => by unfold wipeE; rw [List.length_set, wipeE_len e vs]
theorem wipeE_get {e : En} {i : Nat} : ∀ {vs : List Nat}, i ∉ vs → (wipeE e vs)[i]? = e[i]?
  | [], _ => rfl
  | a :: vs, h => by
    unfold wipeE
    rw [List.getElem?_set_ne (fun z => h (by rw [z]; exact List.mem_cons_self))]
    exact wipeE_get fun z => h (List.mem_cons_of_mem _ z)
theorem wipeE_in {e : En} {i : Nat} {s : Sl} : ∀ {vs : List Nat}, i ∈ vs → (wipeE e vs)[i]? = some s → s = .un
  | [], h, _ => by simp at h
  | a :: vs, h, k => by
    unfold wipeE at k
    by_cases hb : a = i
    · subst hb
      by_cases hl : a < (wipeE e vs).length
      · rw [List.getElem?_set_self hl] at k; cases k; rfl
      · rw [List.getElem?_eq_none (by rw [List.length_set]; omega)] at k; cases k
    · rw [List.getElem?_set_ne hb] at k
      exact wipeE_in ((List.mem_cons.mp h).resolve_left fun z => hb z.symm) k
theorem EnvAt.wipe {G : Gx} {P : Pt} {σ : L2.St} {e : En} (en : EnvAt G P σ e) (vs : List Nat) : EnvAt G P (L2.wipe σ vs) (wipeE e vs) :=
  ⟨by rw [wipeE_len, wipe_length]; exact en.len, en.cs, fun i s hi => by
    by_cases h : i ∈ vs
    · have z := wipeE_in h hi
      subst z
      have hl : i < (L2.wipe σ vs).length := by
        have := (List.getElem?_eq_some_iff.mp hi).1
        rw [wipeE_len] at this
        rw [wipe_length, ← en.len]; exact this
      exact ⟨_, List.getElem?_eq_getElem hl, trivial⟩
    · rw [wipeE_get h] at hi
      rw [wipe_get h]
      exact en.at_ i s hi⟩
def restE (e1 : En) (e : En) : List Nat → En
  | [] => e
  | v :: vs => (restE e1 e vs).set v (e1.getD v .un)
theorem restE_len (e1 e : En) : ∀ vs : List Nat, (restE e1 e vs).length = e.length
  | [] => rfl
  | v :: vs => by unfold restE; rw [List.length_set, restE_len e1 e vs]
theorem restE_get {e1 e : En} {i : Nat} : ∀ {vs : List Nat}, i ∉ vs → (restE e1 e vs)[i]? = e[i]?
  | [], _ => rfl
  | a :: vs, h => by
    unfold restE
    rw [List.getElem?_set_ne (fun z => h (by rw [z]; exact List.mem_cons_self))]
    exact restE_get fun z => h (List.mem_cons_of_mem _ z)
theorem restE_in {e1 e : En} {i : Nat} {s : Sl} : ∀ {vs : List Nat}, i ∈ vs → (restE e1 e vs)[i]? = some s → s = e1.getD i .un
  | [], h, _ => by simp at h
  | a :: vs, h, k => by
    unfold restE at k
    by_cases hb : a = i
    · subst hb
      by_cases hl : a < (restE e1 e vs).length
      · rw [List.getElem?_set_self hl] at k; cases k; rfl
      · rw [List.getElem?_eq_none (by rw [List.length_set]; omega)] at k; cases k
    · rw [List.getElem?_set_ne hb] at k
      exact restE_in ((List.mem_cons.mp h).resolve_left fun z => hb z.symm) k
def plainS : Sl → Bool
  | .un => true
  | .pv _ => true
  | _ => false
def noex {α : Type} : R α → R α
  | .ok a e => .ok a e
  | _ => .no
@[simp] theorem noex_ok {α : Type} (a : α) (e : En) : noex (.ok a e) = .ok a e := rfl
def asD (v : Rv) (k : PD → R (List PD)) : R (List PD) := match v with
  | .pv y => k y
  | _ => .no
@[simp] theorem asD_pv (d : PD) (k : PD → R (List PD)) : asD (.pv d) k = k d := rfl
open Classical in
noncomputable def compL (gd : En → Prop) (tgt : Tgt) (own : List Nat) (ft : Ft) (fe : Fx) : List PD → List PD → En → R (List PD)
  | [], acc, e => if gd e then .ok acc e else .no
  | d :: ds, acc, e => if gd e then (match tgt d e with
    | none => .no
    | some e1 => (noex (ft e1)).bind fun b e2 => if b = true then (noex (fDz fe e2)).bind fun v e3 => asD v fun y => compL gd tgt own ft fe ds (acc ++ [y]) (wipeE e3 own)
      else compL gd tgt own ft fe ds acc (wipeE e2 own)) else .no
open Classical in
theorem compL_cons (gd : En → Prop) (tgt : Tgt) (own : List Nat) (ft : Ft) (fe : Fx) (d : PD) (ds acc : List PD) (e : En) : compL gd tgt own ft fe (d :: ds) acc e = if gd e then (match tgt d e with
    | none => .no
    | some e1 => (noex (ft e1)).bind fun b e2 => if b = true then (noex (fDz fe e2)).bind fun v e3 => asD v fun y => compL gd tgt own ft fe ds (acc ++ [y]) (wipeE e3 own)
      else compL gd tgt own ft fe ds acc (wipeE e2 own)) else .no := rfl
def W0 : WX := fun _ _ _ _ => False
noncomputable def compE (gd : En → Prop) (tgt : Tgt) (own : List Nat) (ft : Ft) (fe : Fx) (ds : List PD) (e1 : En) : R Rv :=
  if own.all (fun k => plainS (e1.getD k .un)) = true ∧ ds.length ≤ 100000 then (compL gd tgt own ft fe ds [] (wipeE e1 own)).bind fun ys ef => .ok (.ow (.ls false ys)) (restE e1 ef own) else .no
theorem isRef_none : isRef none = false := rfl
theorem comp_core {G : Gx} {W : WX} {gd : En → Prop} {tgt : Tgt} {own ks : List Nat} {ft : Ft} {fe : Fx} {g : TG} {tt : TT} {te : TE} {ds : List PD} {P1 : Pt} {H1 : Hp} {σ : L2.St} {e1 : En} {Q : VK} (sg : SG G g ks tgt) (hk : ∀ k ∈ ks, k ∈ own) (st : ST G W0 tt ft) (se : SE G W0 te fe)
    (w1 : Wd P1 H1) (en1 : EnvAt G P1 σ e1) (h : PostE G W P1 e1 σ Q (compE gd tgt own ft fe ds e1)) (D : Addr) (hD : H1 D = none) :
    ∃ Pv : Nat → Hp → Prop, Pv 0 (upd H1 D (.lst [])) ∧ (∀ H, Pv ds.length H → Q (.ref D) H) ∧ (∀ i H, Pv i H → ∃ P e, Wd P H ∧ EnvAt G P (wipe σ own) e ∧ Same (P1 0) (P 0) ∧ gd e ∧ ∀ k : Nat, isRef (wipeE e1 own)[k]? = true → isRef e[k]? = true) ∧
      ∀ i d x H, Pv i H → ds[i]? = some d → (∀ P e, Wd P H → EnvAt G P (wipe σ own) e → Same (P1 0) (P 0) → gd e → Dq (P 0) x d) →
        g x (wipe σ own) H fun σ2 H2 => wipe σ2 own = wipe σ own ∧ tt σ2 H2 fun b H3 => if b = true then te σ2 H3 fun y H4 => ∃ acc, H4 D = some (.lst acc) ∧ acc.length < sizeLine ∧ Pv (i + 1) (upd H4 D (.lst (acc ++ [y]))) else Pv (i + 1) H3 := by
  unfold compE at h
  split at h
  · rename_i hc
    obtain ⟨hpl, hsz⟩ := hc
    have notown : ∀ k : Nat, isRef (wipeE e1 own)[k]? = true → k ∉ own := fun k hk2 hm => by
      cases q : (wipeE e1 own)[k]? with
      | none => rw [q] at hk2; cases hk2
      | some s => rw [q, wipeE_in hm q] at hk2; cases hk2
    have Dnone : ∀ k, P1 k D = none := fun k => (w1.sub k).free hD
    have CD : G.C D = none := en1.cs.free (Dnone 1)
    refine ⟨fun i H => ∃ P e accv acc, Wd P H ∧ EnvAt G P (wipe σ own) e ∧ Same (P1 0) (P 0) ∧ P 1 = upd (P1 1) D (.lst accv) ∧ (∀ k : Nat, isRef (wipeE e1 own)[k]? = true → isRef e[k]? = true) ∧ DqAll (P 0) accv acc ∧ acc.length ≤ i ∧
      compL gd tgt own ft fe ds [] (wipeE e1 own) = compL gd tgt own ft fe (ds.drop i) acc e, ?_, ?_, ?_, ?_⟩
    · refine ⟨P1.set 1 (upd (P1 1) D (.lst [])), wipeE e1 own, [], [], w1.alloc hD 1, ?_, ?_, Pt.set_same, fun _ z => z, .nil, Nat.le_refl _, rfl⟩
      · have z0 : (P1.set 1 (upd (P1 1) D (.lst []))) 0 = P1 0 := Pt.set_ne (by decide)
        exact (en1.mono (by rw [z0]; exact Same.refl _) (by rw [Pt.set_same]; exact fun a o ea => by rw [upd_ne (ne_of_none ea CD)]; exact en1.cs _ _ ea) fun i => Pt.set_ne (by omega)).wipe own
      · rw [Pt.set_ne (by decide)]; exact Same.refl _
    · rintro H ⟨P, e, accv, acc, w, en, z0, z1, rf, q, hl, eq⟩
      rw [eq, List.drop_length] at h
      unfold compL at h
      split at h
      · have h' : PostE G W P1 e1 σ Q (.ok (.ow (.ls false acc)) (restE e1 e own)) := h
        have hDP : P 1 D = some (.lst accv) := by rw [z1]; exact upd_same
        -- the new list goes over into the result
        have sub1 : Same (P1 1) (P 1) := fun a o ea => by
          rw [z1, upd_ne (ne_of_none ea (Dnone 1))]; exact ea
        have wA : Wd (P.set 1 (P1 1)) H := w.set (sub1.trans (w.sub 1)) fun i hi b hb => by
          refine w.dis 1 i (Ne.symm hi) b ?_
          cases qq : P1 1 b with
          | none => exact absurd qq hb
          | some o => rw [sub1 b o qq]; exact fun z => by cases z
        have wB : Wd ((P.set 1 (P1 1)).set 2 (one D (.lst accv))) H := by
          refine wA.set (fun a o ea => ?_) fun i hi b hb => ?_
          · have z := one_ne (p := D) (o := .lst accv) (b := a) (by rw [ea]; exact fun z => by cases z)
            subst z
            rw [one_at] at ea; cases ea
            exact w.sub 1 _ _ hDP
          · have z := one_ne hb
            subst z
            by_cases hi1 : i = 1
            · subst hi1; rw [Pt.set_same]; exact Dnone 1
            · rw [Pt.set_ne hi1]
              exact w.dis 1 i (Ne.symm hi1) _ (by rw [hDP]; exact fun z => by cases z)
        have k0 : ((P.set 1 (P1 1)).set 2 (one D (.lst accv))) 0 = P 0 := by rw [Pt.set_ne (by decide), Pt.set_ne (by decide)]
        have k3 : ∀ i, ((P.set 1 (P1 1)).set 2 (one D (.lst accv))) (i + 3) = P (i + 3) := fun i => by rw [Pt.set_ne (show i + 3 ≠ 2 by omega), Pt.set_ne (show i + 3 ≠ 1 by omega)]
        have hln : e.length = e1.length := by rw [en.len, wipe_length, en1.len]
        refine h' _ H (.ref D) wB ⟨by rw [restE_len, hln]; exact en1.len, by rw [Pt.set_ne (by decide), Pt.set_same]; exact en1.cs, fun i s hi => ?_⟩ ⟨by rw [k0]; exact z0, by rw [Pt.set_ne (by decide), Pt.set_same], fun k hk2 => ?_⟩ ⟨D, accv, rfl, by rw [Pt.set_same]; exact one_at, by rw [k0]; exact q⟩
        · by_cases hm : i ∈ own
          · have es := restE_in hm hi
            have hlt : i < e1.length := by
              have := (List.getElem?_eq_some_iff.mp hi).1
              rw [restE_len, hln] at this
              exact this
            have eg : e1[i]? = some (e1.getD i .un) := by rw [List.getD_eq_getElem?_getD, List.getElem?_eq_getElem hlt]; rfl
            obtain ⟨v, a, b⟩ := en1.at_ i _ eg
            have pl : plainS (e1.getD i .un) = true := List.all_eq_true.mp hpl i hm
            rw [← es] at b pl
            refine ⟨v, a, ?_⟩
            cases s with
            | un => trivial
            | pv d =>
              obtain ⟨ww, c1, c2⟩ := b
              exact ⟨ww, c1, Dq.mono (by rw [k0]; exact z0) _ _ c2⟩
            | _ => cases pl
          · rw [restE_get hm] at hi
            obtain ⟨v, a, b⟩ := en.at_ i s hi
            rw [wipe_get hm] at a
            exact ⟨v, a, by rw [k0, k3]; exact b⟩
        · have hm : k ∉ own := fun hm => by
            have pl : plainS (e1.getD k .un) = true := List.all_eq_true.mp hpl k hm
            rw [List.getD_eq_getElem?_getD] at pl
            cases qq : e1[k]? with
            | none => rw [qq] at hk2; cases hk2
            | some s =>
              rw [qq] at hk2 pl
              cases s with
              | un => cases hk2
              | pv _ => cases hk2
              | _ => cases pl
          rw [restE_get hm]
          exact rf k (by rw [wipeE_get hm]; exact hk2)
      · exact h.elim
    · rintro i H ⟨P, e, accv, acc, w, en, z0, z1, rf, q, hl, eq⟩
      refine ⟨P, e, w, en, z0, ?_, rf⟩
      rw [eq] at h
      cases qd : ds.drop i with
      | nil =>
        rw [qd] at h
        unfold compL at h
        split at h
        · assumption
        · exact h.elim
      | cons d r =>
        rw [qd] at h
        unfold compL at h
        split at h
        · assumption
        · exact h.elim
    · rintro i d x H ⟨P, e, accv, acc, w, en, z0, z1, rf, q, hl, eq⟩ hd src
      have hlt : i < ds.length := (List.getElem?_eq_some_iff.mp hd).1
      have ed : ds.drop i = d :: ds.drop (i + 1) := by
        rw [List.drop_eq_getElem_cons hlt]
        rw [List.getElem?_eq_getElem hlt] at hd
        cases hd; rfl
      rw [ed] at eq
      have eq' := eq
      rw [eq] at h
      rw [compL_cons] at h eq'
      split at h
      · rename_i hg
        rw [if_pos hg] at eq'
        have qx := src P e w en z0 hg
        cases qt : tgt d e with
        | none => rw [qt] at h; exact h.elim
        | some e2 =>
          rw [qt] at h eq'
          have h : PostE G W P1 e1 σ Q (((noex (ft e2)).bind fun b e2 => if b = true then (noex (fDz fe e2)).bind fun v e3 => asD v fun y => compL gd tgt own ft fe (ds.drop (i + 1)) (acc ++ [y]) (wipeE e3 own)
            else compL gd tgt own ft fe (ds.drop (i + 1)) acc (wipeE e2 own)).bind fun ys ef => .ok (.ow (.ls false ys)) (restE e1 ef own)) := h
          have eq' : compL gd tgt own ft fe ds [] (wipeE e1 own) = (noex (ft e2)).bind fun b e2 => if b = true then (noex (fDz fe e2)).bind fun v e3 => asD v fun y => compL gd tgt own ft fe (ds.drop (i + 1)) (acc ++ [y]) (wipeE e3 own)
            else compL gd tgt own ft fe (ds.drop (i + 1)) acc (wipeE e2 own) := eq'
          refine sg P (wipe σ own) H e x d e2 en w qx qt _ fun σ1 en2 fr2 hw => ?_
          have hw1 : wipe σ1 own = wipe σ own := by rw [hw own hk, wipe_wipe]
          refine ⟨hw1, ?_⟩
          refine st P σ1 H e2 w en2 _ ?_
          cases qf : ft e2 with
          | no => rw [qf] at h; exact h.elim
          | ex y e3 => rw [qf] at h; exact h.elim
          | ok b e3 =>
            rw [qf] at h eq'
            intro P2 H2 a2 b2 c2
            have rf2 : ∀ k : Nat, isRef (wipeE e1 own)[k]? = true → isRef e3[k]? = true := fun k hk2 => c2.ref k ((fr2.ref k (rf k hk2)).1)
            cases b with
            | false =>
              show ∃ P e accv acc, _
              refine ⟨P2, wipeE e3 own, accv, acc, a2, by rw [← hw1]; exact b2.wipe own, z0.trans c2.zero, c2.one.trans z1, fun k hk2 => ?_, DqAll.mono c2.zero _ _ q, by omega, eq'⟩
              rw [wipeE_get (notown k hk2)]; exact rf2 k hk2
            | true =>
              show te σ1 H2 _
              refine se.dz P2 σ1 H2 e3 a2 b2 _ ?_
              cases qe : fDz fe e3 with
              | no =>
                have h2 : PostE G W P1 e1 σ Q (((noex (fDz fe e3)).bind fun v e3 => asD v fun y => compL gd tgt own ft fe (ds.drop (i + 1)) (acc ++ [y]) (wipeE e3 own)).bind fun ys ef => .ok (.ow (.ls false ys)) (restE e1 ef own)) := h
                rw [qe] at h2; exact h2.elim
              | ex y e4 =>
                have h2 : PostE G W P1 e1 σ Q (((noex (fDz fe e3)).bind fun v e3 => asD v fun y => compL gd tgt own ft fe (ds.drop (i + 1)) (acc ++ [y]) (wipeE e3 own)).bind fun ys ef => .ok (.ow (.ls false ys)) (restE e1 ef own)) := h
                rw [qe] at h2; exact h2.elim
              | ok v e4 =>
                have h2 : PostE G W P1 e1 σ Q (((noex (fDz fe e3)).bind fun v e3 => asD v fun y => compL gd tgt own ft fe (ds.drop (i + 1)) (acc ++ [y]) (wipeE e3 own)).bind fun ys ef => .ok (.ow (.ls false ys)) (restE e1 ef own)) := h
                have eq2 : compL gd tgt own ft fe ds [] (wipeE e1 own) = (noex (fDz fe e3)).bind fun v e3 => asD v fun y => compL gd tgt own ft fe (ds.drop (i + 1)) (acc ++ [y]) (wipeE e3 own) := eq'
                rw [qe] at h2 eq2
                intro P3 H3 yv a3 b3 c3 d3
                cases v with
                | pv y =>
                  have hD3 : P3 1 D = some (.lst accv) := by rw [c3.one, c2.one, z1]; exact upd_same
                  have zz0 : (P3.set 1 (upd (P3 1) D (.lst (accv ++ [yv])))) 0 = P3 0 := Pt.set_ne (by decide)
                  refine ⟨accv, a3.sub 1 _ _ hD3, by rw [q.length]; exact Nat.lt_of_lt_of_le (show acc.length < 100001 by omega) (by decide), P3.set 1 (upd (P3 1) D (.lst (accv ++ [yv]))), wipeE e4 own, accv ++ [yv], acc ++ [y], a3.mut hD3, ?_, ?_, ?_, fun k hk2 => ?_, ?_, ?_, eq2⟩
                  · rw [← hw1]
                    exact (b3.mono (by rw [zz0]; exact Same.refl _) (by rw [Pt.set_same]; exact fun a o ea => by rw [upd_ne (ne_of_none ea CD)]; exact b3.cs _ _ ea) fun i => Pt.set_ne (by omega)).wipe own
                  · rw [zz0]; exact (z0.trans c2.zero).trans c3.zero
                  · rw [Pt.set_same, c3.one, c2.one, z1, upd_upd]
                  · rw [wipeE_get (notown k hk2)]; exact c3.ref k (rf2 k hk2)
                  · rw [zz0]; exact (DqAll.mono (c2.zero.trans c3.zero) _ _ q).snoc d3
                  · rw [List.length_append]; exact Nat.succ_le_succ hl
                | bor j => exact h2.elim
                | ow s => exact h2.elim
      · exact h.elim
  · exact h.elim
theorem lc_itl {K : PySem.W.Frag} {a : Addr} {n : Nat} {g : TG} {tt : TT} {te : TE} {vs : List Nat} {σ : L2.St} {H1 : Hp} {D : Addr} {Qd : Hp → Prop} (Pv : Nat → Hp → Prop) (h0 : Pv 0 (upd H1 D (.lst [])))
    (hl : ∀ i H, Pv i H → ∃ xs, SqL K H a xs ∧ xs.length = n ∧ ∀ x, xs[i]? = some x → g x (wipe σ vs) H fun σ2 H2 => wipe σ2 vs = wipe σ vs ∧ tt σ2 H2 fun b H3 =>
      if b = true then te σ2 H3 fun y H4 => ∃ acc, H4 D = some (.lst acc) ∧ acc.length < sizeLine ∧ Pv (i + 1) (upd H4 D (.lst (acc ++ [y]))) else Pv (i + 1) H3) (hd : ∀ H, Pv n H → Qd H) :
    ∃ W : Nat → Nat → Hp → Prop, (∃ m, W 0 m (upd H1 D (.lst []))) ∧ ∀ i m H, W i m H →
      ((Itl K a).stop i H ∧ Qd H) ∨ ((Itl K a).go i H ∧ ∃ Nx : Hp → Prop, (∀ H', Nx H' → ∃ m', m' < m ∧ W (i + 1) m' H') ∧ ∀ x H', (Itl K a).yld i H x H' → g x (wipe σ vs) H' fun σ2 H2 => wipe σ2 vs = wipe σ vs ∧ tt σ2 H2 fun b H3 =>
        if b = true then te σ2 H3 fun y H4 => ∃ acc, H4 D = some (.lst acc) ∧ acc.length < sizeLine ∧ Nx (upd H4 D (.lst (acc ++ [y]))) else Nx H3) := by
  refine ⟨fun i m H => m = n - i ∧ i ≤ n ∧ Pv i H, ⟨n, by simp, Nat.zero_le _, h0⟩, ?_⟩
  rintro i m H ⟨rfl, hi, p⟩
  obtain ⟨xs, q, hlen, ht⟩ := hl i H p
  by_cases hlt : i < n
  · refine .inr ⟨⟨xs, xs[i]'(by omega), q, List.getElem?_eq_getElem _⟩, Pv (i + 1), fun H' p' => ⟨n - (i + 1), by omega, rfl, hlt, p'⟩, fun x H' y => ?_⟩
    obtain ⟨e, y⟩ := y
    subst e
    exact ht x (y xs q)
  · have e : i = n := by omega
    subst e
    exact .inl ⟨⟨xs, q, by omega⟩, hd H p⟩
theorem unfl_postE {G : Gx} {W : WX} {P : Pt} {σ : L2.St} {e : En} {j : Nat} {r : Bool} {ds : List PD} {Q : VK} {res : R Rv} (he : e[j]? = some (.ls r ds)) (h : PostE G W P e σ Q (unfl r j res)) : PostE G W P (e.set j (.ls true ds)) σ Q res := by
  have tru : ∀ {P' : Pt} {e' : En} {r2 : Bool} {zs : List PD}, Fr P P' (e.set j (.ls true ds)) e' → e'[j]? = some (.ls r2 zs) → r2 = true := fun {P' e' r2 zs} c q => by
    have z := c.ref j (by rw [List.getElem?_set_self (List.getElem?_eq_some_iff.mp he).1]; rfl)
    rw [q] at z
    cases r2 with
    | true => rfl
    | false => cases z
  cases res with
  | no => exact h
  | ok v e' =>
    intro P' H' x a b c d
    have h' : PostE G W P e σ Q (match e'[j]? with | some (.ls _ zs) => .ok v (e'.set j (.ls r zs)) | _ => .no) := h
    split at h'
    · rename_i r2 zs q
      have rt := tru c q
      subst rt
      exact h' P' H' x a (b.flag q) ⟨c.zero, c.one, fun i hi => ref_flag he q (fun i hi => c.ref i hi) i hi⟩ d
    · exact h'.elim
  | ex x e' =>
    intro P' H' cls d a b c t
    have h' : PostE G W P e σ Q (match e'[j]? with | some (.ls _ zs) => .ex x (e'.set j (.ls r zs)) | _ => .no) := h
    split at h'
    · rename_i r2 zs q
      have rt := tru c q
      subst rt
      exact h' P' H' cls d a (b.flag q) ⟨c.zero, c.one, fun i hi => ref_flag he q (fun i hi => c.ref i hi) i hi⟩ t
    · exact h'.elim
noncomputable def compV (tgt : Tgt) (own : List Nat) (ft : Ft) (fe : Fx) (v : Rv) (e : En) : R Rv := match v with
  | .pv (.list ds) => compE (fun _ => True) tgt own ft fe ds e
  | .ow (.cl xs) => compE (fun _ => True) tgt own ft fe (xs.map PyData.str) e
  | .bor j => (match e[j]? with
    | some (.ls r ds) => unfl r j (compE (fun e => e[j]? = some (.ls true ds)) tgt own ft fe ds (e.set j (.ls true ds)))
    | some (.sc ns) => compE (fun _ => True) tgt own ft fe (ns.map PyData.int) e
    | _ => .no)
  | _ => .no
noncomputable def fLc (fi : Fx) (tgt : Tgt) (own : List Nat) (ft : Ft) (fe : Fx) : Fx := fun e => (fz fi e).bind (compV tgt own ft fe)
theorem se_lc {G : Gx} {W : WX} {tgt : Tgt} {own ks : List Nat} {ft : Ft} {fi fe : Fx} {g : TG} {tt : TT} {ti te : TE} (si : SE G W ti fi) (sg : SG G g ks tgt) (hk : ∀ k ∈ ks, k ∈ own) (st : ST G W0 tt ft) (se : SE G W0 te fe) : SE G W (tLc (iList G.K ti) g tt te own) (fLc fi tgt own ft fe) := fun P σ H e w en Q h =>
  si.bindz w en h fun v e1 P1 H1 x w1 en1 fr1 r1 h1 => by
    unfold compV at h1
    split at h1
    · rename_i ds
      cases r1 with
      | lst z1 z2 =>
        refine ⟨_, rfl, ⟨_, SqL.of (w1.s0 _ _ z1)⟩, fun D hD => ?_⟩
        obtain ⟨Pv, p0, pd, pi, pt⟩ := comp_core sg hk st se w1 en1 h1 D hD
        refine lc_itl (n := ds.length) Pv p0 (fun i H' p => ?_) pd
        obtain ⟨P2, e2, a, b, c, d, _⟩ := pi i H' p
        refine ⟨_, SqL.of (a.s0 _ _ (c _ _ z1)), z2.length, fun y hy => ?_⟩
        obtain ⟨dd, hd, qd⟩ := z2.get' hy
        exact pt i dd y H' p hd fun P3 e3 a3 b3 c3 _ => Dq.mono c3 _ _ qd
    · rename_i xs
      obtain ⟨p0, rfl, z⟩ := r1
      refine ⟨_, rfl, ⟨_, SqL.of (w1.sub 1 _ _ (en1.cs _ _ z))⟩, fun D hD => ?_⟩
      obtain ⟨Pv, p0, pd, pi, pt⟩ := comp_core sg hk st se w1 en1 h1 D hD
      refine lc_itl (n := (xs.map PyData.str).length) Pv p0 (fun i H' p => ?_) pd
      obtain ⟨P2, e2, a, b, c, d, _⟩ := pi i H' p
      refine ⟨_, SqL.of (a.sub 1 _ _ (b.cs _ _ z)), by rw [List.length_map, List.length_map], fun y hy => ?_⟩
      obtain ⟨dd, hd, qd⟩ := (DqAll.strs (J := P2 0) xs).get' hy
      exact pt i dd y H' p hd fun P3 e3 a3 b3 c3 _ => by
        obtain ⟨dd', hd', qd'⟩ := (DqAll.strs (J := P3 0) xs).get' hy
        rw [hd] at hd'; cases hd'
        exact qd'
    · rename_i j
      split at h1
      · rename_i r ds q
        obtain ⟨p, vs, a1, a2, a3⟩ := slot_ls en1 q
        have r1' : σ[j]? = some (some x) := r1
        rw [a1] at r1'; cases r1'
        refine ⟨p, rfl, ⟨vs, SqL.of (w1.sub _ _ _ a2)⟩, fun D hD => ?_⟩
        have h2 := unfl_postE q h1
        have hown : j ∉ own := fun hm => by
          unfold compE at h2
          split at h2
          · rename_i hc
            have pl := List.all_eq_true.mp hc.1 j hm
            rw [List.getD_eq_getElem?_getD, List.getElem?_set_self (List.getElem?_eq_some_iff.mp q).1] at pl
            cases pl
          · exact h2
        obtain ⟨Pv, p0, pd, pi, pt⟩ := comp_core sg hk st se w1 (en1.flag q) h2 D hD
        refine lc_itl (n := ds.length) Pv p0 (fun i H' pp => ?_) pd
        obtain ⟨P2, e2, a, b, c, d, _⟩ := pi i H' pp
        obtain ⟨p', vs', b1, b2, b3⟩ := slot_ls b d
        rw [wipe_get hown, a1] at b1; cases b1
        refine ⟨vs', SqL.of (a.sub _ _ _ b2), b3.length, fun y hy => ?_⟩
        obtain ⟨dd, hd, qd⟩ := b3.get' hy
        refine pt i dd y H' pp hd fun P3 e3 w3 en3 c3 g3 => ?_
        obtain ⟨p3, vs3, y1, y2, y3⟩ := slot_ls en3 g3
        rw [wipe_get hown, a1] at y1; cases y1
        have e1 := w3.sub _ _ _ y2
        rw [a.sub _ _ _ b2] at e1; cases e1
        obtain ⟨d4, hd4, q4⟩ := y3.get' hy
        rw [hd] at hd4; cases hd4
        exact q4
      · rename_i ns q
        obtain ⟨v, b1, p, b2, b3⟩ := en1.at_ j _ q
        have r1' : σ[j]? = some (some x) := r1
        rw [b1, b2] at r1'; cases r1'
        refine ⟨p, rfl, ⟨_, sql_mono w1.s0 b3⟩, fun D hD => ?_⟩
        obtain ⟨Pv, p0, pd, pi, pt⟩ := comp_core sg hk st se w1 en1 h1 D hD
        refine lc_itl (n := (ns.map PyData.int).length) Pv p0 (fun i H' p => ?_) pd
        obtain ⟨P2, e2, a, b, c, d, _⟩ := pi i H' p
        refine ⟨_, sql_mono a.s0 (sql_mono c b3), by rw [List.length_map, List.length_map], fun y hy => ?_⟩
        obtain ⟨dd, hd, qd⟩ := (DqAll.ints (J := P2 0) ns).get' hy
        exact pt i dd y H' p hd fun P3 e3 a3 b3 c3 _ => by
          obtain ⟨dd', hd', qd'⟩ := (DqAll.ints (J := P3 0) ns).get' hy
          rw [hd] at hd'; cases hd'
          exact qd'
      · exact h1.elim
    · exact h1.elim
/-- over a range -/
noncomputable def compR (tgt : Tgt) (own : List Nat) (ft : Ft) (fe : Fx) (lo hi : Int) (e : En) : R Rv := if -1000000 ≤ lo ∧ lo ≤ 1000000 ∧ -1000000 ≤ hi ∧ hi ≤ 1000000 then compE (fun _ => True) tgt own ft fe ((List.range (hi - lo).toNat).map fun i => PyData.int (lo + (i : Nat))) e else .no
noncomputable def fLcR1 (fa : Fx) (tgt : Tgt) (own : List Nat) (ft : Ft) (fe : Fx) : Fx := fun e => (fz fa e).bind fun v e1 => match v with
  | .pv (.int n) => compR tgt own ft fe 0 n e1
  | _ => .no
theorem se_lcR1 {G : Gx} {W : WX} {tgt : Tgt} {own ks : List Nat} {ft : Ft} {fa fe : Fx} {g : TG} {tt : TT} {ta te : TE} (sa : SE G W ta fa) (sg : SG G g ks tgt) (hk : ∀ k ∈ ks, k ∈ own) (st : ST G W0 tt ft) (se : SE G W0 te fe) : SE G W (tLc (iRng1 (tCons ta tNil)) g tt te own) (fLcR1 fa tgt own ft fe) := fun P σ H e w en Q h =>
  sa.bindz w en h fun v e1 P1 H1 x w1 en1 fr1 r1 h1 => by
    split at h1
    · rename_i n
      cases r1
      unfold compR at h1
      split at h1
      · rename_i hb
        refine ⟨n, rfl, by omega, by omega, fun D hD => ?_⟩
        obtain ⟨Pv, p0, pd, pi, pt⟩ := comp_core sg hk st se w1 en1 h1 D hD
        have hl : ((List.range (n - 0).toNat).map fun i => PyData.int (0 + (i : Nat))).length = n.toNat := by rw [List.length_map, List.length_range, Int.sub_zero]
        rw [hl] at pd
        refine lc_range (lo := 0) (n := n.toNat) Pv p0 (fun i H' hi p => ?_) pd
        refine pt i (.int (0 + (i : Nat))) _ H' p ?_ fun P3 e3 a3 b3 c3 _ => .int _
        rw [List.getElem?_map, List.getElem?_range (by rw [Int.sub_zero]; exact hi)]; rfl
      · exact h1.elim
    · exact h1.elim
end Fw
namespace Fw
open PySem PySem.Spec PyProof.Rows L2

/-! ### a def, by its body -/
def maskO (ss e' : En) : En := List.zipWith (fun s0 s' => if isRef (some s0) = true then s' else .un) ss e'
def finR (ss : En) : R Fl → R Rv
  | .ok (.rt (.pv d)) e' => .ok (.pv d) (maskO ss e')
  | .ok (.rt (.ow s)) e' => .ok (.ow s) (maskO ss e')
  | .ok .nx e' => .ok (.pv .none) (maskO ss e')
  | .ex x e' => .ex x (maskO ss e')
  | _ => .no
def runF (n : Nat) (f : Fs) : Fx := fun ss => finR ss (f (ss ++ List.replicate (n - ss.length) .un))
theorem mask_get {ss e' : En} {i : Nat} {s : Sl} (h : (maskO ss e')[i]? = some s) : ∃ s0 s', ss[i]? = some s0 ∧ e'[i]? = some s' ∧ s = if isRef (some s0) = true then s' else .un := by
  unfold maskO at h
  rw [List.getElem?_zipWith] at h
  cases q1 : ss[i]? with
  | none => rw [q1] at h; cases h
  | some s0 =>
    cases q2 : e'[i]? with
    | none => rw [q1, q2] at h; cases h
    | some s' => rw [q1, q2] at h; exact ⟨s0, s', rfl, rfl, (Option.some.inj h).symm⟩
theorem mask_at {G : Gx} {P P' : Pt} {vs : List V} {ss e e' : En} {σ σ' : L2.St} (en0 : EnvAt G P (vs.map some) ss) (hpre : ∀ i, i < ss.length → e[i]? = ss[i]? ∧ σ[i]? = (vs.map some)[i]?) (hle : ss.length ≤ e'.length) (en : EnvAt G P' σ' e') (fr : FrS P P' e e' σ σ') :
    EnvAt G P' (vs.map some) (maskO ss e') ∧ Fr P P' ss (maskO ss e') := by
  refine ⟨⟨?_, en.cs, fun i s hi => ?_⟩, fr.zero, fr.one, fun i hi => ?_⟩
  · unfold maskO
    rw [List.length_zipWith, ← en0.len]; omega
  · obtain ⟨s0, s', h0, h1, rfl⟩ := mask_get hi
    have hlt : i < ss.length := (List.getElem?_eq_some_iff.mp h0).1
    obtain ⟨p1, p2⟩ := hpre i hlt
    obtain ⟨v0, a0, _⟩ := en0.at_ i s0 h0
    by_cases hr : isRef (some s0) = true
    · rw [if_pos hr]
      have z := fr.ref i (by rw [p1, h0]; exact hr)
      obtain ⟨v, a, b⟩ := en.at_ i s' h1
      rw [z.2, p2] at a
      exact ⟨v, a, b⟩
    · rw [if_neg hr]
      exact ⟨v0, a0, trivial⟩
  · cases q : ss[i]? with
    | none => rw [q] at hi; cases hi
    | some s0 =>
      rw [q] at hi
      have hlt : i < ss.length := (List.getElem?_eq_some_iff.mp q).1
      obtain ⟨p1, p2⟩ := hpre i hlt
      have z := (fr.ref i (by rw [p1, q]; exact hi)).1
      cases q2 : e'[i]? with
      | none => rw [q2] at z; cases z
      | some s' =>
        rw [q2] at z
        unfold maskO
        rw [List.getElem?_zipWith, q, q2]
        show isRef (some (if isRef (some s0) = true then s' else .un)) = true
        rw [if_pos hi]; exact z
/-- the body's reading at the parameters -/
theorem run_body {G : Gx} {E : XK} {n : Nat} {N : List Str} {vs : List V} {H : Hp} {Q : VK} {t : TS} {f : Fs} (hN : n ≤ N.length) {P : Pt} {ss : En} (s : SS G (WXof E) t f) (w : Wd P H) (en : EnvAt G P (vs.map some) ss) (hn : ss.length = n) (hp : PostE G (WXof E) P ss (vs.map some) Q (runF N.length f ss)) : t { nx := fun _ H' => Q .non H', rt := Q } (L2.start N vs) H := by
  have hl : vs.length = ss.length := by rw [en.len, List.length_map]
  have e0 : EnvAt G P (L2.start N vs) (ss ++ List.replicate (N.length - ss.length) .un) := by
    refine ⟨by unfold L2.start; rw [List.length_append, List.length_append, List.length_map, List.length_replicate, List.length_replicate, hl], en.cs, fun i s hi => ?_⟩
    unfold L2.start
    by_cases hlt : i < ss.length
    · rw [List.getElem?_append_left hlt] at hi
      rw [List.getElem?_append_left (by rw [List.length_map, hl]; exact hlt)]
      exact en.at_ i s hi
    · rw [List.getElem?_append_right (by omega), List.getElem?_replicate] at hi
      split at hi
      · rename_i hk
        cases hi
        rw [List.getElem?_append_right (by rw [List.length_map, hl]; omega), List.getElem?_replicate, List.length_map, hl, if_pos hk]
        exact ⟨_, rfl, trivial⟩
      · cases hi
  have hpre : ∀ i, i < ss.length → (ss ++ List.replicate (N.length - ss.length) Sl.un)[i]? = ss[i]? ∧ (L2.start N vs)[i]? = (vs.map some)[i]? := fun i hi => by
    refine ⟨List.getElem?_append_left hi, ?_⟩
    unfold L2.start
    exact List.getElem?_append_left (by rw [List.length_map, hl]; exact hi)
  have hlen : (L2.start N vs).length = N.length := by
    rw [← e0.len, List.length_append, List.length_replicate]; omega
  refine s P _ H _ w e0 _ ?_
  have hp : PostE G (WXof E) P ss (vs.map some) Q (finR ss (f (ss ++ List.replicate (N.length - ss.length) Sl.un))) := hp
  cases q : f (ss ++ List.replicate (N.length - ss.length) Sl.un) with
  | no => rw [q] at hp; exact hp.elim
  | ex x e' =>
    rw [q] at hp
    intro P' H' σ' cls d a b c tt
    obtain ⟨k1, k2⟩ := mask_at en hpre (by rw [b.len, c.len, hlen]; omega) b c
    exact hp P' H' cls d a k1 k2 tt
  | ok fl e' =>
    rw [q] at hp
    intro P' H' σ' a b c
    obtain ⟨k1, k2⟩ := mask_at en hpre (by rw [b.len, c.len, hlen]; omega) b c
    cases fl with
    | nx => exact hp P' H' .non a k1 k2 .non
    | bk => exact hp.elim
    | ct => exact hp.elim
    | rt v =>
      cases v with
      | pv d => exact fun x hx => hp P' H' x a k1 k2 hx
      | ow s => exact fun x hx => hp P' H' x a k1 k2 hx
      | bor j => exact hp.elim
section
variable {P : Program} {w : World} {K : PySem.W.Frag} {mg : Str → Option Value} {base : Heap}
theorem sp_len {G : Gx} {n : Nat} {F : Fx} {ps : List Str} (hn : n = ps.length) (vs : List V) (H : Hp) (Q : VK) (E : XK) (h : spF G n F vs H Q E) : vs.length = ps.length := by
  obtain ⟨C, P, ss, _, en, hl, _⟩ := h
  have := en.len
  rw [List.length_map] at this
  omega
theorem okF {G : Gx} {x qual : Str} {st : Stmt} {f : Addr} {fd : FuncData} {N ps : List Str} {k : Nat} {fs : Fs} (Fn : Fun K x qual st f fd) (S : FnScope N ps (defScope st))
    (hb : ∀ (cdv : Value) (A : Around) (outer : List Env) (s : Shared) (H : Hp) (E : XK), Room k (A.deeper (envOfC qual (defScope st) s.heap.objs.size f cdv)) → Takes (cxOf (L2.CX P w) P w K mg base N qual (defScope st) f cdv A outer s H E) (WXof E) →
      ∀ C, ∃ t, PBx (cxOf (L2.CX P w) P w K mg base N qual (defScope st) f cdv A outer s H E) (G.wC C) (WXof E) (defBody st) t fs) : FnOk P w K mg base (L2.CX P w) (k + 1) f fd ps (spF G ps.length (runF N.length fs)) := by
  have hpl : ps.length ≤ N.length := by have := congrArg List.length S.pre; rw [List.length_take] at this; omega
  refine Fn.okX S (sp_len rfl) fun cdv A outer s H vs Q E hr hsp => ?_
  obtain ⟨C, PP, ss, w1, en, hn, hp⟩ := hsp
  obtain ⟨t, h1, h2⟩ := hb cdv A outer s H E hr (takes_of rfl rfl rfl rfl) C
  exact ⟨t, h1, run_body hpl h2 w1 en hn hp⟩
/-- a promise kept as another function's, where both agree -/
theorem fnok_as {CX : CXT} {k : Nat} {f : Addr} {fd : FuncData} {ps : List Str} {sp sp' : Sp} (F : FnOk P w K mg base CX k f fd ps sp) (h : ∀ vs H Q E, sp' vs H Q E → sp vs H Q E) : FnOk P w K mg base CX k f fd ps sp' :=
  ⟨fun vs H Q E z => F.len vs H Q E (h vs H Q E z), fun A outer s H args us vs Q E hr e0 hb r z => F.run A outer s H args us vs Q E hr e0 hb r (h vs H Q E z)⟩
theorem fnok_up {CX : CXT} {k k' : Nat} {f : Addr} {fd : FuncData} {ps : List Str} {sp : Sp} (F : FnOk P w K mg base CX k f fd ps sp) (h : k ≤ k') : FnOk P w K mg base CX k' f fd ps sp :=
  ⟨F.len, fun A outer s H args us vs Q E hr e0 hb r z => F.run A outer s H args us vs Q E (hr.mono h) e0 hb r z⟩
/-- another function that says as much wherever it says anything -/
theorem fnok_fx {G : Gx} {CX : CXT} {k n : Nat} {f : Addr} {fd : FuncData} {ps : List Str} {F F' : Fx} (h : FnOk P w K mg base CX k f fd ps (spF G n F)) (le : ∀ ss, ss.length = n → F' ss = .no ∨ F' ss = F ss) : FnOk P w K mg base CX k f fd ps (spF G n F') :=
  fnok_as h fun vs H Q E ⟨C, P, ss, a, b, c, d⟩ => ⟨C, P, ss, a, b, c, by
    rcases le ss c with z | z
    · rw [z] at d; exact d.elim
    · rw [z] at d; exact d⟩
end

/-! ### the rules, text and function at once -/
section
variable {X : Cx} {G : Gx} {W : WX} {a b c e : Expr} {es : List Expr} {ta tb te : TE} {fa fb fe : Fx} {pos : Pos}
theorem px_var (i : Nat) {x : Str} (hN : X.N[i]? = some x := by rfl) (hv : Vis X.env.scope x := by first | exact Or.inl rfl | exact Or.inr (Or.inl rfl) | exact Or.inr (Or.inr rfl)) (hd : (x == ("__debug__" : Str)) = false := by decide)
    (hcd : (x == ("__classdict__" : Str)) = false := by decide) : PEx X G W (.Name x pos) (tVar i) (fVar i) := ⟨pe_var hN hv hd hcd, se_var i⟩
theorem px_int {i : Int} {j} : PEx X G W (.Constant (.int i) j pos) (tC (.int i)) (fC (.int i)) := ⟨pe_int, se_c fun _ => .int i⟩
theorem px_bl {i : Bool} {j} : PEx X G W (.Constant (.bool i) j pos) (tC (.bl i)) (fC (.bool i)) := ⟨pe_bl, se_c fun _ => .bl i⟩
theorem px_non {j} : PEx X G W (.Constant .none j pos) (tC .non) (fC .none) := ⟨pe_non, se_c fun _ => .non⟩
theorem px_str {i : Str} {j} : PEx X G W (.Constant (.str i) j pos) (tC (.str i)) (fC (.str i)) := ⟨pe_str, se_c fun _ => .str i⟩
theorem px_add (ha : PEx X G W a ta fa) (hb : PEx X G W b tb fb) : PEx X G W (.BinOp a .Add b pos) (tOp rAddA ta tb) (fBin opAdd fa fb) := ⟨pe_op op_addA ha.pe hb.pe, se_bin opv_add ha.se hb.se⟩
theorem px_sub (ha : PEx X G W a ta fa) (hb : PEx X G W b tb fb) : PEx X G W (.BinOp a .Sub b pos) (tOp (rI0 fun i j => .int (i - j)) ta tb) (fBin opSub fa fb) := ⟨pe_op op_sub ha.pe hb.pe, se_bin opv_sub ha.se hb.se⟩
theorem px_mul (ha : PEx X G W a ta fa) (hb : PEx X G W b tb fb) : PEx X G W (.BinOp a .Mult b pos) (tOp (rI CMul fun i j => .int (i * j)) ta tb) (fBin opMul fa fb) := ⟨pe_op op_mul ha.pe hb.pe, se_bin opv_mul ha.se hb.se⟩
theorem px_div (ha : PEx X G W a ta fa) (hb : PEx X G W b tb fb) : PEx X G W (.BinOp a .FloorDiv b pos) (tOp (rI CDiv fun i j => .int (i / j)) ta tb) (fBin opDiv fa fb) := ⟨pe_op op_fdiv ha.pe hb.pe, se_bin opv_div ha.se hb.se⟩
theorem px_mod (ha : PEx X G W a ta fa) (hb : PEx X G W b tb fb) : PEx X G W (.BinOp a .Mod b pos) (tOp (rI (fun _ j => 0 < j) fun i j => .int (i % j)) ta tb) (fBin opMod fa fb) := ⟨pe_op op_mod ha.pe hb.pe, se_bin opv_mod ha.se hb.se⟩
theorem px_pow (ha : PEx X G W a ta fa) (hb : PEx X G W b tb fb) : PEx X G W (.BinOp a .Pow b pos) (tOp (rI CPow fun i j => .int (i ^ j.toNat)) ta tb) (fBin opPow fa fb) := ⟨pe_op op_pow ha.pe hb.pe, se_bin opv_pow ha.se hb.se⟩
theorem px_lt (ha : PEx X G W a ta fa) (hb : PEx X G W b tb fb) : PEx X G W (.Compare a [.Lt] [b] pos) (tOp (rI0 fun i j => .bl (decide (i < j))) ta tb) (fBin opLt fa fb) := ⟨pe_cmpR op_lt ha.pe hb.pe (nomark _), se_bin opv_lt ha.se hb.se⟩
theorem px_le (ha : PEx X G W a ta fa) (hb : PEx X G W b tb fb) : PEx X G W (.Compare a [.LtE] [b] pos) (tOp (rI0 fun i j => .bl (decide (i ≤ j))) ta tb) (fBin opLe fa fb) := ⟨pe_cmpR op_le ha.pe hb.pe (nomark _), se_bin opv_le ha.se hb.se⟩
theorem px_gt (ha : PEx X G W a ta fa) (hb : PEx X G W b tb fb) : PEx X G W (.Compare a [.Gt] [b] pos) (tOp (rI0 fun i j => .bl (decide (j < i))) ta tb) (fBin opGt fa fb) := ⟨pe_cmpR op_gt ha.pe hb.pe (nomark _), se_bin opv_gt ha.se hb.se⟩
theorem px_ge (ha : PEx X G W a ta fa) (hb : PEx X G W b tb fb) : PEx X G W (.Compare a [.GtE] [b] pos) (tOp (rI0 fun i j => .bl (decide (j ≤ i))) ta tb) (fBin opGe fa fb) := ⟨pe_cmpR op_ge ha.pe hb.pe (nomark _), se_bin opv_ge ha.se hb.se⟩
theorem px_eq (hu : X.A.units + 64 < cLine) (hK : G.K = X.K) (ha : PEx X G W a ta fa) (hb : PEx X G W b tb fb) : PEx X G W (.Compare a [.Eq] [b] pos) (tOp (rEqA G.K) ta tb) (fBin (opEq false) fa fb) := by
  rw [hK]
  exact (⟨pe_cmpR (op_eqA hu) ha.pe hb.pe (nomark _), by
      have z := se_bin (G := G) opv_eq ha.se hb.se
      rw [hK] at z; exact z⟩)
theorem px_ne (hu : X.A.units + 64 < cLine) (hK : G.K = X.K) (ha : PEx X G W a ta fa) (hb : PEx X G W b tb fb) : PEx X G W (.Compare a [.NotEq] [b] pos) (tOp (rNeA G.K) ta tb) (fBin (opEq true) fa fb) := by
  rw [hK]
  exact (⟨pe_cmpR (op_neA hu) ha.pe hb.pe (nomark _), by
      have z := se_bin (G := G) opv_ne ha.se hb.se
      rw [hK] at z; exact z⟩)
theorem px_is (ha : PEx X G W a ta fa) (hb : PEx X G W b tb fb) : PEx X G W (.Compare a [.Is] [b] pos) (tOp rIsA ta tb) (fBin (opIsN false) fa fb) := ⟨pe_cmpR op_isN ha.pe hb.pe (nomark _), se_bin opv_is ha.se hb.se⟩
theorem px_isN (ha : PEx X G W a ta fa) (hb : PEx X G W b tb fb) : PEx X G W (.Compare a [.IsNot] [b] pos) (tOp rIsNA ta tb) (fBin (opIsN true) fa fb) := ⟨pe_cmpR op_notN ha.pe hb.pe (nomark _), se_bin opv_isN ha.se hb.se⟩
theorem px_in (hu : X.A.units + 65 < cLine) (hK : G.K = X.K) (ha : PEx X G W a ta fa) (hb : PEx X G W b tb fb) (hm : behindInMarks .In b = false := by rfl) : PEx X G W (.Compare a [.In] [b] pos) (tOp (rInA G.K) ta tb) (fBin (opIn false) fa fb) := by
  rw [hK]
  exact (⟨pe_cmpR (op_inA hu) ha.pe hb.pe hm, by
      have z := se_bin (G := G) opv_in ha.se hb.se
      rw [hK] at z; exact z⟩)
theorem px_notIn (hu : X.A.units + 65 < cLine) (hK : G.K = X.K) (ha : PEx X G W a ta fa) (hb : PEx X G W b tb fb) (hm : behindInMarks .NotIn b = false := by rfl) : PEx X G W (.Compare a [.NotIn] [b] pos) (tOp (rNotInA G.K) ta tb) (fBin (opIn true) fa fb) := by
  rw [hK]
  exact (⟨pe_cmpR (op_notInA hu) ha.pe hb.pe hm, by
      have z := se_bin (G := G) opv_notIn ha.se hb.se
      rw [hK] at z; exact z⟩)
theorem px_ix (hK : G.K = X.K) (ha : PEx X G W a ta fa) (hb : PEx X G W b tb fb) (hs : PlainIx b) : PEx X G W (.Subscript a b pos) (tOp (rIx G.K) ta tb) (fBin opIx fa fb) := by
  rw [hK]
  exact (⟨pe_ix ix_seq ha.pe hb.pe hs, by
      have z := se_bin (G := G) opv_ix ha.se hb.se
      rw [hK] at z; exact z⟩)
theorem px_neg (ha : PEx X G W a ta fa) : PEx X G W (.UnaryOp .USub a pos) (tUn (rU fun i => .int (-i)) ta) (fUn opNeg fa) := ⟨pe_un un_neg ha.pe, se_un (r := rU fun i => .int (-i)) opu_neg ha.se⟩
theorem px_andV {rest : List Expr} (ha : PEx X G W a ta fa) (hb : PEx X G W (.BoolOp .And (b :: rest) pos) tb fb) : PEx X G W (.BoolOp .And (a :: b :: rest) pos) (tAndV ta tb) (fAndV fa fb) := ⟨pe_and ha.pe hb.pe, se_andV ha.se hb.se⟩
theorem px_orV {rest : List Expr} (ha : PEx X G W a ta fa) (hb : PEx X G W (.BoolOp .Or (b :: rest) pos) tb fb) : PEx X G W (.BoolOp .Or (a :: b :: rest) pos) (tOrV ta tb) (fOrV fa fb) := ⟨pe_or ha.pe hb.pe, se_orV ha.se hb.se⟩
theorem px_one {op} (ha : PEx X G W a ta fa) : PEx X G W (.BoolOp op [a] pos) ta fa := ⟨pe_one ha.pe, ha.se⟩
theorem px_notV (ha : PEx X G W a ta fa) : PEx X G W (.UnaryOp .Not a pos) (tNotV ta) (fNotV fa) := ⟨pe_not ha.pe, se_notV ha.se⟩
/-- tests -/
theorem pt_of (ha : PEx X G W a ta fa) (he : ∀ whole, isTrue a X.env whole = (do let v ← whole; standAt a.pos; holding [v] (truthy v)) := by intro _; rfl) : PTx X G W a (tB ta) (fTest fa) := ⟨pt_val ha.pe he, st_test ha.se⟩
theorem ptx_not {t : TT} {f : Ft} (ha : PTx X G W a t f) : PTx X G W (.UnaryOp .Not a pos) (tNot t) (fNot f) := ⟨pt_not ha.pt, st_not ha.st⟩
theorem pwx_and1 {t : TT} {f : Ft} (ha : PTx X G W a t f) : PWx X G W (.BoolOp .And [a] pos) t f := ⟨pw_and1 ha.pt, ha.st⟩
theorem pwx_or1 {t : TT} {f : Ft} (ha : PTx X G W a t f) : PWx X G W (.BoolOp .Or [a] pos) t f := ⟨pw_or1 ha.pt, ha.st⟩
theorem pwx_and {t u : TT} {f g : Ft} {rest : List Expr} (ha : PTx X G W a t f) (hb : PWx X G W (.BoolOp .And (b :: rest) pos) u g) : PWx X G W (.BoolOp .And (a :: b :: rest) pos) (tAnd t u) (fAnd f g) := ⟨pw_and ha.pt hb.pw, st_and ha.st hb.st⟩
theorem pwx_or {t u : TT} {f g : Ft} {rest : List Expr} (ha : PTx X G W a t f) (hb : PWx X G W (.BoolOp .Or (b :: rest) pos) u g) : PWx X G W (.BoolOp .Or (a :: b :: rest) pos) (tOr t u) (fOr f g) := ⟨pw_or ha.pt hb.pw, st_or ha.st hb.st⟩
theorem PWx.pt {t : TT} {f : Ft} (h : PWx X G W a t f) : PTx X G W a t f := ⟨h.pw.pt, h.st⟩
/-- arguments; those of a display are given away as data -/
theorem pax_nil : PAx X G W [] tNil fNil := ⟨pa_nil, sa_nil⟩
theorem pax_cons {t : TA} {f : Fa} (ha : PEx X G W e te fe) (hr : PAx X G W es t f) (hs : starEach (e :: es) X.env = (false, eval e X.env) :: starEach es X.env := by rfl) : PAx X G W (e :: es) (tCons te t) (fCons fe f) := ⟨pa_cons ha.pe hr.pa hs, sa_cons ha.se hr.sa⟩
theorem pax_dat {t : TA} {f : Fa} (ha : PEx X G W e te fe) (hr : PAx X G W es t f) (hs : starEach (e :: es) X.env = (false, eval e X.env) :: starEach es X.env := by rfl) : PAx X G W (e :: es) (tCons te t) (fCons (fDz fe) f) := ⟨pa_cons ha.pe hr.pa hs, sa_cons ha.se.dz hr.sa⟩
theorem px_tup {x1} {t : TA} {f : Fa} (h : PAx X G W es t f) : PEx X G W (.Tuple es x1 pos) (tTup t) (fSeqD false f) := ⟨pe_tup h.pa, se_tup h.sa⟩
theorem px_lst {t : TA} {f : Fa} (h : PAx X G W es t f) : PEx X G W (.List es pos) (tLst t) (fSeqD true f) := ⟨pe_lst h.pa, se_lst h.sa⟩
/-- built-ins -/
theorem px_len {p : Pos} (hK : G.K = X.K) (hg : Gl X "len") (hm : X.mg "len" = none) (ha : PEx X G W a ta fa) (h1 : starEach [a] X.env = (false, eval a X.env) :: starEach [] X.env := by rfl) (h2 : (backTo pos (starEach [] X.env)).any (·.1) = false := by rfl) :
    PEx X G W (.Call (.Name "len" p) [a] [] pos) (tCB (rLen1 G.K) (tCons ta tNil)) (fUn opLen fa) := by
  rw [hK]
  exact (⟨pe_callB call_len_seq hg hm PySem.boot_len (pa_cons ha.pe pa_nil h1) (by decide) (by decide) h1 h2, by
      have z := se_cb1 (G := G) opu_len ha.se
      rw [hK] at z; exact z⟩)
theorem px_list {p : Pos} (hK : G.K = X.K) (hg : Gl X "list") (hm : X.mg "list" = none) (ha : PEx X G W a ta fa) (h1 : starEach [a] X.env = (false, eval a X.env) :: starEach [] X.env := by rfl) (h2 : (backTo pos (starEach [] X.env)).any (·.1) = false := by rfl) :
    PEx X G W (.Call (.Name "list" p) [a] [] pos) (tCB (rList1 G.K) (tCons ta tNil)) (fUn opList fa) := by
  rw [hK]
  exact (⟨pe_callTy call_list_of hg hm (by decide +kernel) (pa_cons ha.pe pa_nil h1) (by decide) (by decide) h1 h2, by
      have z := se_cb1 (G := G) opu_list ha.se
      rw [hK] at z; exact z⟩)
theorem px_tuple {p : Pos} (hK : G.K = X.K) (hg : Gl X "tuple") (hm : X.mg "tuple" = none) (ha : PEx X G W a ta fa) (h1 : starEach [a] X.env = (false, eval a X.env) :: starEach [] X.env := by rfl) (h2 : (backTo pos (starEach [] X.env)).any (·.1) = false := by rfl) :
    PEx X G W (.Call (.Name "tuple" p) [a] [] pos) (tCB (rTuple1 G.K) (tCons ta tNil)) (fUn opTuple fa) := by
  rw [hK]
  exact (⟨pe_callTy call_tuple_of hg hm (by decide +kernel) (pa_cons ha.pe pa_nil h1) (by decide) (by decide) h1 h2, by
      have z := se_cb1 (G := G) opu_tuple ha.se
      rw [hK] at z; exact z⟩)
theorem px_intc {p : Pos} (hg : Gl X "int") (hm : X.mg "int" = none) (ha : PEx X G W a ta fa) (h1 : starEach [a] X.env = (false, eval a X.env) :: starEach [] X.env := by rfl) (h2 : (backTo pos (starEach [] X.env)).any (·.1) = false := by rfl) :
    PEx X G W (.Call (.Name "int" p) [a] [] pos) (tCB rInt1 (tCons ta tNil)) (fUn opInt fa) := ⟨pe_callTy call_int1 hg hm (by decide +kernel) (pa_cons ha.pe pa_nil h1) (by decide) (by decide) h1 h2, se_cb1 (G := G) opu_int ha.se⟩
theorem px_isi {p p2 : Pos} (n : String) (x : Str) (hx : bootBuiltins x = some (.type n)) (hn : n = "list" ∨ n = "str" ∨ n = "tuple" ∨ n = "int" ∨ n = "bool") (hK : G.K = X.K) (hg : Gl X "isinstance") (hm : X.mg "isinstance" = none) (hg2 : Gl X x) (hm2 : X.mg x = none) (ha : PEx X G W a ta fa)
    (hnn : x ≠ "__name__" := by decide) (hdd : (x == ("__debug__" : Str)) = false := by decide) (h1 : starEach [a, .Name x p2] X.env = (false, eval a X.env) :: starEach [.Name x p2] X.env := by rfl) (h0 : starEach [.Name x p2] X.env = (false, eval (.Name x p2) X.env) :: starEach [] X.env := by rfl)
    (h2 : (backTo pos (starEach [.Name x p2] X.env)).any (·.1) = false := by rfl) :
    PEx X G W (.Call (.Name "isinstance" p) [a, .Name x p2] [] pos) (tCB (rIsi G.K) (tCons ta (tCons (tC (.ty n)) tNil))) (fUn (opIsi n) fa) := by
  rw [hK]
  exact (⟨pe_callB call_isi hg hm (by decide +kernel) (pa_cons ha.pe (pa_cons (pe_bltn hg2 hm2 hx rfl hnn hdd) pa_nil h0) h1) (by decide) (by decide) h1 h2, by
      have z := se_isi (G := G) n hn ha.se
      rw [hK] at z; exact z⟩)
/-- f(a, ..) -/
theorem px_call {n k : Nat} {F : Fx} {f : Addr} {fd : FuncData} {ps : List Str} {x : Str} {p : Pos} {t : TA} {fargs : Fa} {dvs : List V} {ds : List Value} {dds : List PD} (tk : Takes X W) (Fn : FnOk X.prog X.w X.K X.mg X.base (L2.CX X.prog X.w) k f fd ps (spF G n F)) (hr : Room k X.A) (hg : Gl X x) (hm : X.mg x = some (.ref f))
    (hk : PySem.W.keepIn X.K (.ref f) = true) (hb : Binds X.K fd ps ds) (hd : Vals dvs ds) (hdd : ∀ J, DqAll J dvs dds) (ha : PAx X G W (e :: es) t fargs) (hdb : (x == ("__debug__" : Str)) = false := by decide) (he : starEach (e :: es) X.env = (false, eval e X.env) :: starEach es X.env := by rfl)
    (hpl : (backTo pos (starEach es X.env)).any (·.1) = false := by rfl) : PEx X G W (.Call (.Name x p) (e :: es) [] pos) (tCallSD (spF G n F) dvs (WE W) t) (fCall n F dds fargs) :=
  ⟨pe_callSD Fn hr hg hm hk hb hd (fun σ => passAt tk σ) ha.pa hdb he hpl, se_call hdd ha.sa⟩
/-- methods of a slot's list -/
theorem px_app {i : Nat} {x : Str} {p p2 : Pos} (hK : G.K = X.K) (hv : PE X (.Name x p) (tVar i)) (ha : PEx X G W e te fe) (h0 : attributeBase (.Name x p) "append" X.env (eval (.Name x p) X.env) = eval (.Name x p) X.env := by rfl)
    (h1 : ((backTo pos (starEach [e] X.env)).all (fun x => !x.1) && (backToKw pos (keywordEach [] X.env)).all (fun x => x.1.isSome) && decide ([e].length + ([] : List Keyword).length + (if ([] : List Keyword).isEmpty then 0 else 1) < 30)) = true := by rfl) (h2 : (p2.endLine == pos.line) = true := by rfl)
    (h3 : starEach [e] X.env = (false, eval e X.env) :: starEach [] X.env := by rfl) (h4 : (backTo pos (starEach [] X.env)).any (·.1) = false := by rfl) :
    PEx X G W (.Call (.Attribute (.Name x p) "append" p2) [e] [] pos) (tBM G.K "list" rAppend (tVar i) (tCons te tNil)) (fMut1 mApp i fe) := by
  rw [hK]
  exact (⟨pe_bm PySem.F.plainAttrs_list PySem.F.slot_list_append PySem.F.type_list_append mt_append hv (pa_cons ha.pe pa_nil h3) h0 h1 h2 h3 h4, by
      have z := se_mut1 (G := G) (i := i) mut_app ha.se
      rw [hK] at z; exact z⟩)
theorem px_ext {i : Nat} {x : Str} {p p2 : Pos} (hK : G.K = X.K) (hv : PE X (.Name x p) (tVar i)) (ha : PEx X G W e te fe) (h0 : attributeBase (.Name x p) "extend" X.env (eval (.Name x p) X.env) = eval (.Name x p) X.env := by rfl)
    (h1 : ((backTo pos (starEach [e] X.env)).all (fun x => !x.1) && (backToKw pos (keywordEach [] X.env)).all (fun x => x.1.isSome) && decide ([e].length + ([] : List Keyword).length + (if ([] : List Keyword).isEmpty then 0 else 1) < 30)) = true := by rfl) (h2 : (p2.endLine == pos.line) = true := by rfl)
    (h3 : starEach [e] X.env = (false, eval e X.env) :: starEach [] X.env := by rfl) (h4 : (backTo pos (starEach [] X.env)).any (·.1) = false := by rfl) :
    PEx X G W (.Call (.Attribute (.Name x p) "extend" p2) [e] [] pos) (tBM G.K "list" rExtend (tVar i) (tCons te tNil)) (fExt i fe) := by
  rw [hK]
  exact (⟨pe_bm PySem.F.plainAttrs_list PySem.F.slot_list_extend PySem.F.type_list_extend mt_extend hv (pa_cons ha.pe pa_nil h3) h0 h1 h2 h3 h4, by
      have z := se_ext (G := G) (i := i) ha.se
      rw [hK] at z; exact z⟩)
theorem px_clear {i : Nat} {x : Str} {p p2 : Pos} (hK : G.K = X.K) (hv : PE X (.Name x p) (tVar i)) (h0 : attributeBase (.Name x p) "clear" X.env (eval (.Name x p) X.env) = eval (.Name x p) X.env := by rfl) (h2 : (p2.endLine == pos.line) = true := by rfl) :
    PEx X G W (.Call (.Attribute (.Name x p) "clear" p2) [] [] pos) (tBM0 G.K "list" rClear (tVar i)) (fMut0 mClear i) := by
  rw [hK]
  exact (⟨pe_bm0 PySem.F.plainAttrs_list PySem.F.slot_list_clear PySem.F.type_list_clear mt_clear hv h0 h2, by
      have z := se_mut0 (G := G) (W := W) (i := i) mut_clear
      rw [hK] at z; exact z⟩)
theorem px_pop {i : Nat} {x : Str} {p p2 : Pos} (hK : G.K = X.K) (hv : PE X (.Name x p) (tVar i)) (h0 : attributeBase (.Name x p) "pop" X.env (eval (.Name x p) X.env) = eval (.Name x p) X.env := by rfl) (h2 : (p2.endLine == pos.line) = true := by rfl) :
    PEx X G W (.Call (.Attribute (.Name x p) "pop" p2) [] [] pos) (tBM0 G.K "list" rPop (tVar i)) (fMut0 mPop i) := by
  rw [hK]
  exact (⟨pe_bm0 PySem.F.plainAttrs_list PySem.F.slot_list_pop PySem.F.type_list_pop mt_pop hv h0 h2, by
      have z := se_mut0 (G := G) (W := W) (i := i) mut_pop
      rw [hK] at z; exact z⟩)
theorem px_popAt {i : Nat} {x : Str} {p p2 : Pos} (hK : G.K = X.K) (hv : PE X (.Name x p) (tVar i)) (ha : PEx X G W e te fe) (h0 : attributeBase (.Name x p) "pop" X.env (eval (.Name x p) X.env) = eval (.Name x p) X.env := by rfl)
    (h1 : ((backTo pos (starEach [e] X.env)).all (fun x => !x.1) && (backToKw pos (keywordEach [] X.env)).all (fun x => x.1.isSome) && decide ([e].length + ([] : List Keyword).length + (if ([] : List Keyword).isEmpty then 0 else 1) < 30)) = true := by rfl) (h2 : (p2.endLine == pos.line) = true := by rfl)
    (h3 : starEach [e] X.env = (false, eval e X.env) :: starEach [] X.env := by rfl) (h4 : (backTo pos (starEach [] X.env)).any (·.1) = false := by rfl) :
    PEx X G W (.Call (.Attribute (.Name x p) "pop" p2) [e] [] pos) (tBM G.K "list" rPopAt (tVar i) (tCons te tNil)) (fMut1 mPopAt i fe) := by
  rw [hK]
  exact (⟨pe_bm PySem.F.plainAttrs_list PySem.F.slot_list_pop PySem.F.type_list_pop mt_popAt hv (pa_cons ha.pe pa_nil h3) h0 h1 h2 h3 h4, by
      have z := se_mut1 (G := G) (i := i) mut_popAt ha.se
      rw [hK] at z; exact z⟩)
/-- statements -/
theorem pbx_nil : PBx X G W [] tNext fNext := ⟨pss_nil, ss_next⟩
theorem pbx_one {st : Stmt} {t : TS} {f : Fs} (h : PSx X G W st t f) : PBx X G W [st] t f := ⟨pss_one h.ps, h.ss⟩
theorem pbx_cons {st : Stmt} {sts : List Stmt} {t u : TS} {f g : Fs} (h : PSx X G W st t f) (r : PBx X G W sts u g) : PBx X G W (st :: sts) (tSeq t u) (fSeq f g) := ⟨pss_cons h.ps r.ps, ss_seq h.ss r.ss⟩
theorem psx_asg (i : Nat) {x : Str} {pos' : Pos} (hN : X.N.Nodup) (he : PEx X G W e te fe) (hi : X.N[i]? = some x := by rfl) (hx : Loc X.env.scope x := by first | exact Or.inl rfl | exact Or.inr rfl) (hs : swapsWith e (some (.Name x pos')) pos.line X.env = pure false := by rfl)
    (hf : X.fn x = true ∨ X.env.scope.names.lookup x = some .local := by first | exact .inl rfl | exact .inr rfl) : PSx X G W (.Assign [.Name x pos'] e pos) (tAsg te (gName i)) (fAsg i fe) := ⟨ps_set hN hi hx he.pe hs hf, ss_asg he.se⟩
theorem psx_expr (he : PEx X G W e te fe) (hs : swapsWith e none pos.line X.env = pure false := by rfl) : PSx X G W (.Expr e pos) (tDrop te) (fExpr fe) := ⟨ps_expr he.pe hs, ss_expr he.se⟩
theorem psx_ret (he : PEx X G W e te fe) : PSx X G W (.Return (some e) pos) (tRet te) (fRet fe) := ⟨ps_ret he.pe, ss_ret he.se⟩
theorem psx_retN : PSx X G W (.Return none pos) tRetN fRetN := ⟨ps_retN, ss_retN⟩
theorem psx_bk : PSx X G W (.Break pos) tBreak fBk := ⟨ps_break, ss_bk⟩
theorem psx_if {tc : TT} {fc : Ft} {xs ys : List Stmt} {t u : TS} {f g : Fs} (hc : PTx X G W c tc fc) (ha : PBx X G W xs t f) (hb : PBx X G W ys u g) : PSx X G W (.If c xs ys pos) (tIfS tc t u) (fIf fc f g) := ⟨ps_if hc.pt ha.ps hb.ps, ss_if hc.st ha.ss hb.ss⟩
theorem psx_while {tc : TT} {fc : Ft} {xs : List Stmt} {t : TS} {f : Fs} (n : Nat) (hp : PassesOwn (model X.prog X.w) X.A X.env X.xe) (hc : PTx X G W c tc fc) (ha : PBx X G W xs t f) : PSx X G W (.While c xs [] pos) (tWhile tc t) (whileN fc f n) := ⟨ps_while hp hc.pt ha.ps, ss_while n hc.st ha.ss⟩
/-- targets -/
theorem pgx_name (i : Nat) {x : Str} (hN : X.N.Nodup) (hi : X.N[i]? = some x := by rfl) (hx : Loc X.env.scope x := by first | exact Or.inl rfl | exact Or.inr rfl) (hf : X.fn x = true ∨ X.env.scope.names.lookup x = some .local := by first | exact .inl rfl | exact .inr rfl) :
    PGx X G (.Name x pos) (gName i) [i] (tgName i) := ⟨pg_name hN hi hx hf, sg_name i⟩
theorem pgx_pair (i j : Nat) {x y : Str} {p1 p2 : Pos} {k} (hK : G.K = X.K) (hc : X.calm = true) (hN : X.N.Nodup) (hi : X.N[i]? = some x := by rfl) (hj : X.N[j]? = some y := by rfl) (hx : Loc X.env.scope x := by first | exact Or.inl rfl | exact Or.inr rfl) (hy : Loc X.env.scope y := by first | exact Or.inl rfl | exact Or.inr rfl)
    (hf : X.fn x = true ∨ X.env.scope.names.lookup x = some .local := by first | exact .inl rfl | exact .inr rfl) (hf2 : X.fn y = true ∨ X.env.scope.names.lookup y = some .local := by first | exact .inl rfl | exact .inr rfl)
    (h1 : (assignEach [.Name x p1, .Name y p2] X.env).length = 2 := by rfl) (h2 : (assignEach [.Name x p1, .Name y p2] X.env).findIdx? (·.1) = none := by rfl) :
    PGx X G (.Tuple [.Name x p1, .Name y p2] k pos) (gTup G.K 2 (gCons (gName i) (gCons (gName j) gNil))) [i, j] (tgPair i j) := by
  rw [hK]
  exact (⟨pg_tup hc (pgs_cons (pg_name hN hi hx hf) (pgs_cons (pg_name hN hj hy hf2) pgs_nil)) h1 h2, by
      have z := sg_pair (G := G) i j
      rw [hK] at z; exact z⟩)
theorem psx_for {tg iter : Expr} {body : List Stmt} {g : TG} {ks : List Nat} {tgt : Tgt} {t : TS} {f : Fs} (hK : G.K = X.K) (hp : PassesOwn (model X.prog X.w) X.A X.env X.xe) (hc : X.calm = true) (hi : PEx X G W iter te fe) (hg : PGx X G tg g ks tgt) (hb : PBx X G W body t f)
    (hs : ∀ x, foldedSetIterable iter X.env x = pure x := by intro _; rfl) : PSx X G W (.For tg iter body [] pos) (tFor (iList G.K te) g t) (fFor fe tgt f) := by
  rw [hK]
  exact (⟨ps_for hp hc (pi_list hi.pe) hg.pg hb.ps hs, by
      have z := ss_for (G := G) hi.se hg.sg hb.ss
      rw [hK] at z; exact z⟩)
theorem psx_forR1 {tg : Expr} {body : List Stmt} {g : TG} {ks : List Nat} {tgt : Tgt} {t : TS} {f : Fs} {p pos' : Pos} (hp : PassesOwn (model X.prog X.w) X.A X.env X.xe) (hc : X.calm = true) (hr : Gl X "range") (hm : X.mg "range" = none) (ha : PEx X G W a ta fa) (hg : PGx X G tg g ks tgt) (hb : PBx X G W body t f)
    (h0 : starEach [a] X.env = (false, eval a X.env) :: starEach [] X.env := by rfl) (h1 : starEach [a] X.env = [(false, eval a X.env)] := by rfl) (hs : ∀ x, foldedSetIterable (.Call (.Name "range" p) [a] [] pos') X.env x = pure x := by intro _; rfl) :
    PSx X G W (.For tg (.Call (.Name "range" p) [a] [] pos') body [] pos) (tFor (iRng1 (tCons ta tNil)) g t) (fForR1 fa tgt f) := ⟨ps_for hp hc (pi_range1 hr hm (pa_cons ha.pe pa_nil h0) h1) hg.pg hb.ps hs, ss_forR1 ha.se hg.sg hb.ss⟩
theorem psx_forR2 {tg : Expr} {body : List Stmt} {g : TG} {ks : List Nat} {tgt : Tgt} {t : TS} {f : Fs} {p pos' : Pos} (hp : PassesOwn (model X.prog X.w) X.A X.env X.xe) (hc : X.calm = true) (hr : Gl X "range") (hm : X.mg "range" = none) (ha : PEx X G W a ta fa) (hb' : PEx X G W b tb fb) (hg : PGx X G tg g ks tgt) (hb : PBx X G W body t f)
    (h0 : starEach [a, b] X.env = (false, eval a X.env) :: starEach [b] X.env := by rfl) (h0' : starEach [b] X.env = (false, eval b X.env) :: starEach [] X.env := by rfl) (h1 : starEach [a, b] X.env = [(false, eval a X.env), (false, eval b X.env)] := by rfl) (h2 : starEach [b] X.env = [(false, eval b X.env)] := by rfl)
    (hs : ∀ x, foldedSetIterable (.Call (.Name "range" p) [a, b] [] pos') X.env x = pure x := by intro _; rfl) :
    PSx X G W (.For tg (.Call (.Name "range" p) [a, b] [] pos') body [] pos) (tFor (iRng2 (tCons ta (tCons tb tNil))) g t) (fForR2 fa fb tgt f) := ⟨ps_for hp hc (pi_range2 hr hm (pa_cons ha.pe (pa_cons hb'.pe pa_nil h0') h0) h1 h2) hg.pg hb.ps hs, ss_forR2 ha.se hb'.se hg.sg hb.ss⟩
/-- no test -/
def fYes : Ft := fun e => .ok true e
theorem st_yes : ST G W tYes fYes := fun P σ H e w en Q h => h P H w en (Fr.refl _ _)
end
end Fw
namespace Fw
open PySem PySem.Spec PyProof.Rows L2

/-! ### texts in a list -/
def strsOf : List PD → Option (List Str)
  | [] => some []
  | .str x :: r => (strsOf r).map fun ys => x :: ys
  | _ :: _ => none
@[simp] theorem strsOf_map : ∀ xs : List Str, strsOf (xs.map PyData.str) = some xs
  | [] => rfl
  | x :: r => by show (strsOf (r.map PyData.str)).map (fun ys => x :: ys) = _; rw [strsOf_map r]; rfl
theorem strsOf_eq : ∀ {xs : List PD} {ys : List Str}, strsOf xs = some ys → xs = ys.map PyData.str
  | [], _, h => by cases h; rfl
  | d :: r, ys, h => by
    cases d with
    | str x =>
      have h' : (strsOf r).map (fun ys => x :: ys) = some ys := h
      cases q : strsOf r with
      | none => rw [q] at h'; cases h'
      | some zs => rw [q] at h'; cases h'; rw [strsOf_eq q]; rfl
    | _ => cases h
theorem strs_at {J : Hp} {vs : List V} {ys : List Str} (h : DqAll J vs (ys.map PyData.str)) : vs = ys.map V.str := by
  induction ys generalizing vs with
  | nil => cases h; rfl
  | cons y ys ih =>
    cases h with
    | cons a b => cases a; rw [ih b]; rfl
def opJoin (a : Str) (e : En) (u : Rv) : Option Ou := match seqOf e u with
  | some (_, xs) => (match strsOf xs with
    | some ys => if (ys.map (·.length)).sum + ys.length * a.length ≤ 1000000 then some (.val (.str (Txt.join a ys))) else none
    | none => none)
  | _ => none
def rJoin (K : PySem.W.Frag) : V → List V → Hp → VK → Prop := fun x xs H Q => ∃ a p, ∃ ys : List Str, x = .str a ∧ xs = [V.ref p] ∧ (SqL K H p (ys.map V.str) ∨ SqT K H p (ys.map V.str)) ∧ (ys.map (·.length)).sum + ys.length * a.length ≤ 16777216 ∧ Q (.str (Txt.join a ys)) H
theorem opu_join {G : Gx} (a : Str) : OpU G (fun y H Q => rJoin G.K (.str a) [y] H Q) (opJoin a) := by
  intro P H σ e y u o wd en h2 h
  unfold opJoin at h
  split at h
  · rename_i b xs e2
    split at h
    · rename_i ys e3
      split at h
      · rename_i hl
        cases h
        obtain ⟨p, vs, ea, da, l1, l2⟩ := seqOf_at wd en h2 e2
        rw [strsOf_eq e3] at da
        have ev := strs_at da
        subst ev
        refine ⟨_, .str _, fun Q k => ⟨a, p, ys, rfl, by rw [ea], ?_, by omega, k⟩⟩
        cases b with
        | true => exact .inl (l1 rfl)
        | false => exact .inr (l2 rfl)
      · cases h
    · cases h
  · cases h
/-! ### list.remove of a text -/
def strEq (x : Str) (u : Value) : Bool := match u with
  | .str z _ => decide (z = x)
  | _ => false
theorem strs_gives {ys : List Str} {us : List Value} (r : Vals (ys.map V.str) us) (x : Str) (t : Tok) : ∀ y, y ∈ us → PySem.MeetsSeq.EqGives y (.str x t) (strEq x y) := by
  induction ys generalizing us with
  | nil => intro y hy; cases r; cases hy
  | cons z zs ih =>
    intro y hy
    cases r with
    | cons a b =>
      rcases List.mem_cons.mp hy with rfl | hy
      · obtain ⟨tk, rfl⟩ := a
        intro prog w A E s Q h
        exact wpAny_eqBool_str h
      · exact ih b y hy
theorem first_str : ∀ {ns : List Str} {k : Str}, k ∈ ns → ∃ j, ns[j]? = some k ∧ (∀ i, i < j → ns[i]? ≠ some k) ∧ ns.eraseIdx j = ns.erase k
  | [], _, h => by cases h
  | a :: r, k, h => by
    by_cases e : a = k
    · subst e
      refine ⟨0, rfl, fun i hi => absurd hi (Nat.not_lt_zero _), ?_⟩
      simp
    · obtain ⟨j, h1, h2, h3⟩ := first_str ((List.mem_cons.mp h).resolve_left fun z => e z.symm)
      refine ⟨j + 1, by simpa using h1, fun i hi => ?_, ?_⟩
      · cases i with
        | zero => intro z; exact e (Option.some.inj (by simpa using z))
        | succ i => have := h2 i (by omega); simpa using this
      · rw [List.eraseIdx_cons_succ, h3, List.erase_cons_tail (by simpa using e)]
def rRemS : V → List V → Hp → VK → Prop := fun x xs H Q => ∃ (l : Addr) (ns : List Str) (k : Str), x = .ref l ∧ xs = [.str k] ∧ H l = some (.lst (ns.map V.str)) ∧ k ∈ ns ∧ Q .non (upd H l (.lst ((ns.erase k).map V.str)))
theorem erase_mapS (ns : List Str) : ∀ j, (ns.map V.str).eraseIdx j = (ns.eraseIdx j).map V.str := fun j => by
  induction ns generalizing j with
  | nil => rfl
  | cons a r ih =>
    cases j with
    | zero => rfl
    | succ j => simp [ih]
theorem mt_remS {X : Cx} : MtM X "list.remove" rRemS := by
  intro pins s σ H x xs v us Q I rx rxs h
  obtain ⟨l, ns, k, rfl, rfl, hH, hk, q⟩ := h
  obtain ⟨j, hj, hno, he⟩ := first_str hk
  cases rx
  obtain ⟨u, rfl, ru⟩ := rxs.one
  obtain ⟨t, rfl⟩ := ru
  obtain ⟨z, its, n, r, hl, e⟩ := I.lstM hH
  have lens : its.length = ns.length := by have := r.length; rw [List.length_map] at this; exact this.symm
  rw [List.length_map] at hl z
  have hjn : j < ns.length := (List.getElem?_eq_some_iff.mp hj).1
  have hjl : j < its.toArray.size := by rw [List.size_toArray]; omega
  have at_ : ∀ m, m < ns.length → ∃ tm, its[m]? = some (Value.str (ns.getD m Str.empty) tm) := fun m hm => by
    obtain ⟨u, h1, h2⟩ := r.get (i := m) (x := V.str (ns.getD m Str.empty)) (by rw [List.getElem?_map, List.getD_eq_getElem?_getD, List.getElem?_eq_getElem hm]; rfl)
    obtain ⟨tm, rfl⟩ := h2
    exact ⟨tm, h1⟩
  refine call_meets PySem.F.slot_list_remove ⟨_, e, rfl⟩ PySem.F.entry_list_remove (PySem.F.args_list_remove_2 _ _)
    (PySem.MeetsSeq.list_remove l its.toArray n (.str k t) (strEq k) (fun y hy => strs_gives r k t y (by simpa using hy)) j hjl ?_ ?_ (by rw [List.size_toArray]; omega)) ⟨e, ?_⟩
  · obtain ⟨tj, hjt⟩ := at_ j hjn
    obtain ⟨_, h2⟩ := List.getElem?_eq_some_iff.mp hjt
    have e1 : its.toArray[j] = Value.str (ns.getD j Str.empty) tj := by simpa using h2
    rw [e1]
    exact decide_eq_true (by rw [List.getD_eq_getElem?_getD, hj]; rfl)
  · intro m hm hmj
    have hmn : m < ns.length := by omega
    obtain ⟨tm, hmt⟩ := at_ m hmn
    obtain ⟨_, h2⟩ := List.getElem?_eq_some_iff.mp hmt
    have e1 : its.toArray[m] = Value.str (ns.getD m Str.empty) tm := by simpa using h2
    rw [e1]
    refine decide_eq_false fun e2 => hno m hmj ?_
    rw [List.getD_eq_getElem?_getD, List.getElem?_eq_getElem hmn] at e2
    rw [List.getElem?_eq_getElem hmn, ← e2]; rfl
  · have rr := r.eraseIdx j
    rw [erase_mapS, he] at rr
    have szz : (ns.erase k).length ≤ ns.length := (List.erase_sublist).length_le
    refine ⟨.non, _, I.lset (its' := its.eraseIdx j) (t' := s.toks) hH e ?_ rr ?_, rfl, q⟩
    · show its.toArray.eraseIdxIfInBounds j = (its.eraseIdx j).toArray
      rw [List.eraseIdxIfInBounds_toArray]
    · rw [List.length_map]; omega
def mRem (xs : List PD) (d : PD) : Option (List PD × PD) := match strsOf xs, d with
  | some ns, .str k => if k ∈ ns then some ((ns.erase k).map PyData.str, .none) else none
  | _, _ => none
theorem mut_rem : Mut1 rRemS mRem := by
  intro J H p vs xs x d ys a hp ha hd h
  unfold mRem at h
  split at h
  · rename_i ns k e1
    split at h
    · rename_i hk
      cases h; cases hd
      rw [strsOf_eq e1] at ha
      have ev := strs_at ha
      subst ev
      exact ⟨(ns.erase k).map V.str, .non, DqAll.strs _, .non, fun Q q => ⟨p, ns, k, rfl, rfl, hp, hk, q⟩⟩
    · cases h
  · cases h
/-! ### list.index of flat things -/
def idxOf (d : PD) : List PD → Option Nat
  | [] => none
  | y :: r => if PyData.eqv y d = true then some 0 else (idxOf d r).map (· + 1)
theorem idxOf_at {d : PD} : ∀ {xs : List PD} {j : Nat}, idxOf d xs = some j → ∃ z, xs[j]? = some z ∧ PyData.eqv z d = true ∧ ∀ m z', m < j → xs[m]? = some z' → PyData.eqv z' d = false
  | [], _, h => by cases h
  | y :: r, j, h => by
    unfold idxOf at h
    split at h
    · rename_i hy
      cases h
      exact ⟨y, rfl, hy, fun m z' hm => absurd hm (Nat.not_lt_zero _)⟩
    · rename_i hy
      cases q : idxOf d r with
      | none => rw [q] at h; cases h
      | some i =>
        rw [q] at h; cases h
        obtain ⟨z, h1, h2, h3⟩ := idxOf_at q
        refine ⟨z, by simpa using h1, h2, fun m z' hm hz => ?_⟩
        cases m with
        | zero => simp at hz; subst hz; simpa using hy
        | succ m => exact h3 m z' (Nat.lt_of_succ_lt_succ hm) (by simpa using hz)
def opIndex (e : En) (v u : Rv) : Option Ou := match seqOf e v, u with
  | some (true, xs), .pv d => if flatD d = true ∧ xs.all flatD = true then (idxOf d xs).map fun j => .val (.int (j : Nat)) else none
  | _, _ => none
def rIndexA (K : PySem.W.Frag) : R2 := fun x y H Q => tyV K "list" x H ∧ rIndex K x [y] H Q
def isLst (e : En) (v : Rv) : Bool := match seqOf e v with
  | some (true, _) => true
  | _ => false
def fIndex (fa fb : Fx) : Fx := fun e => (fz fa e).bind fun v e1 => if isLst e1 v = true then (fz fb e1).bind fun u e2 => give (opIndex e2 v u) e2 else .no
theorem opv_index {G : Gx} : OpV G (rIndexA G.K) opIndex := by
  intro P H σ e x y v u o wd en h1 h2 h
  unfold opIndex at h
  split at h
  · rename_i xs d e1
    split at h
    · rename_i hf
      obtain ⟨a, vs, ea, da, l1, l2⟩ := seqOf_at wd en h1 e1
      subst ea
      cases q : idxOf d xs with
      | none => rw [q] at h; cases h
      | some j =>
        rw [q] at h; cases h
        obtain ⟨z, z1, z2, z3⟩ := idxOf_at q
        obtain ⟨w, w1, w2⟩ := da.get z1
        have fz' : ∀ {m : Nat} {zz : PD}, xs[m]? = some zz → flatD zz = true := fun {m zz} hm => List.all_eq_true.mp hf.2 zz (List.mem_of_getElem? hm)
        refine ⟨_, .int _, fun Q k => ⟨.inl ⟨rfl, vs, l1 rfl⟩, a, vs, y, j, w, rfl, rfl, l1 rfl, flat_at h2 hf.1, flats_at da hf.2, w1, by rw [eqv_at h2 w2 hf.1 (fz' z1)]; exact z2, fun m z' hm hz => ?_, k⟩⟩
        obtain ⟨d', hd', qd'⟩ := da.get' hz
        rw [eqv_at h2 qd' hf.1 (fz' hd')]
        exact z3 m d' hm hd'
    · cases h
  · cases h
theorem se_index {G : Gx} {W : WX} {ta tb : TE} {fa fb : Fx} (sa : SE G W ta fa) (sb : SE G W tb fb) : SE G W (tBM G.K "list" (rIndex G.K) ta (tCons tb tNil)) (fIndex fa fb) := fun P σ H e w en Q h =>
  sa.bindz w en h fun v e1 P1 H1 x w1 en1 fr1 r1 h1 => by
    split at h1
    · rename_i hl
      unfold isLst at hl
      split at hl
      · rename_i xs q
        obtain ⟨a, vs, ea, da, l1, l2⟩ := seqOf_at w1 en1 r1 q
        subst ea
        refine ⟨.inl ⟨rfl, vs, l1 rfl⟩, ?_⟩
        exact sb.bindz w1 en1 h1 fun u e2 P2 H2 y w2 en2 fr2 r2 h2 => (Gives.post (k := fun Q => rIndexA G.K (.ref a) y H2 Q) w2 en2 h2 fun z hz => opv_index P2 H2 σ e2 (.ref a) y v u z w2 en2 (r1.mono fr2) r2 hz).2
      · cases hl
    · exact h1.elim
/-! ### slices of lists -/
def fO (f : Option Fx) (e : En) : R (Option Int) := match f with
  | none => .ok none e
  | some f => (fz f e).bind fun v e1 => match v with
    | .pv (.int i) => .ok (some i) e1
    | _ => .no
def SO (G : Gx) (W : WX) (t : TO) (f : Option Fx) : Prop := ∀ P σ H e, Wd P H → EnvAt G P σ e → ∀ Q : Option Int → Hp → Prop, PostG G W P e σ (fun o _ H' => Q o H') (fO f e) → t σ H Q
theorem so_none {G : Gx} {W : WX} : SO G W tNoPart none := fun P σ H e w en Q h => h P H w en (Fr.refl _ _)
theorem so_some {G : Gx} {W : WX} {te : TE} {f : Fx} (s : SE G W te f) : SO G W (tPart te) (some f) := fun P σ H e w en Q h =>
  s.bindzG w en h fun v e1 P1 H1 x w1 en1 fr1 r1 h1 => by
    split at h1
    · cases r1; exact ⟨_, rfl, h1 P1 H1 w1 en1 (Fr.refl _ _)⟩
    · exact h1.elim
theorem SO.bindG {α : Type} {G : Gx} {W : WX} {t : TO} {f : Option Fx} {g : Option Int → En → R α} {P : Pt} {e : En} {σ : L2.St} {H : Hp} {Q1 : Option Int → Hp → Prop} {S : α → Pt → Hp → Prop} (s : SO G W t f) (w : Wd P H) (en : EnvAt G P σ e) (h : PostG G W P e σ S ((fO f e).bind g))
    (k : ∀ b e1 P1 H1, Wd P1 H1 → EnvAt G P1 σ e1 → Fr P P1 e e1 → PostG G W P1 e1 σ S (g b e1) → Q1 b H1) : t σ H Q1 := by
  refine s P σ H e w en Q1 ?_
  cases q : fO f e with
  | ok v e1 =>
    rw [q] at h
    exact fun P1 H1 a b c => k v e1 P1 H1 a b c (PostG.from h c)
  | ex x e1 =>
    rw [q] at h
    exact h
  | no =>
    rw [q] at h
    exact h.elim
def cutD (xs : List PD) (lo hi : Option Int) : List PD := (xs.drop (HT.sIx xs.length 0 lo)).take (HT.sIx xs.length xs.length hi - HT.sIx xs.length 0 lo)
def fSl (fa : Fx) (fl fh : Option Fx) : Fx := fun e => (fz fa e).bind fun v e1 => (fO fl e1).bind fun lo e2 => (fO fh e2).bind fun hi e3 => match seqOf e3 v with
  | some (true, xs) => give (some (.new (cutD xs lo hi))) e3
  | _ => .no
theorem se_sl {G : Gx} {W : WX} {ta : TE} {tl th : TO} {fa : Fx} {fl fh : Option Fx} (sa : SE G W ta fa) (sl : SO G W tl fl) (sh : SO G W th fh) : SE G W (tSl (rSlL G.K) ta tl th) (fSl fa fl fh) := fun P σ H e w en Q h =>
  sa.bindzG w en (PostE.gen h) fun v e1 P1 H1 x w1 en1 fr1 r1 h1 => sl.bindG w1 en1 h1 fun lo e2 P2 H2 w2 en2 fr2 h2 => sh.bindG w2 en2 h2 fun hi e3 P3 H3 w3 en3 fr3 h3 => by
    split at h3
    · rename_i xs q
      obtain ⟨a, vs, ea, da, l1, l2⟩ := seqOf_at w3 en3 ((r1.mono fr2).mono fr3) q
      have z := Gives.post (k := fun Q => ∀ p, H3 p = none → Q (.ref p) (upd H3 p (.lst (cutV vs lo hi)))) w3 en3 (PostG.toE h3) fun u hu => by
        cases hu
        refine ⟨cutV vs lo hi, ?_, fun Q k => k⟩
        unfold cutV cutD
        rw [da.length]
        exact (da.drop _).take _
      exact ⟨a, vs, ea, l1 rfl, z⟩
    · exact h3.elim

section
variable {X : Cx} {G : Gx} {W : WX} {a b c e : Expr} {es : List Expr} {ta tb te : TE} {fa fb fe : Fx} {pos : Pos}
theorem px_join {p2 : Pos} {s : Str} {j} {p : Pos} (hK : G.K = X.K) (ha : PEx X G W a ta fa) (hs : starEach [a] X.env = [(false, eval a X.env)] := by rfl) (hbase : attributeBase (.Constant (.str s) j p) "join" X.env (eval (.Constant (.str s) j p) X.env) = eval (.Constant (.str s) j p) X.env := by rfl) (hline : (p2.endLine == pos.line) = true := by rfl) :
    PEx X G W (.Call (.Attribute (.Constant (.str s) j p) "join" p2) [a] [] pos) (tM1 (rJoin G.K) (tC (.str s)) ta) (fUn (opJoin s) fa) := by
  rw [hK]
  refine ⟨pe_join pe_str ha.pe hs hbase hline, fun P σ H e w en Q h => ⟨⟨s, rfl⟩, ?_⟩⟩
  have z := se_un (G := G) (W := W) (r := fun y H Q => rJoin G.K (.str s) [y] H Q) (opu_join s) ha.se P σ H e w en Q h
  rw [hK] at z
  exact z
theorem px_rem {i : Nat} {x : Str} {p p2 : Pos} (hK : G.K = X.K) (hv : PE X (.Name x p) (tVar i)) (ha : PEx X G W e te fe) (h0 : attributeBase (.Name x p) "remove" X.env (eval (.Name x p) X.env) = eval (.Name x p) X.env := by rfl)
    (h1 : ((backTo pos (starEach [e] X.env)).all (fun x => !x.1) && (backToKw pos (keywordEach [] X.env)).all (fun x => x.1.isSome) && decide ([e].length + ([] : List Keyword).length + (if ([] : List Keyword).isEmpty then 0 else 1) < 30)) = true := by rfl) (h2 : (p2.endLine == pos.line) = true := by rfl)
    (h3 : starEach [e] X.env = (false, eval e X.env) :: starEach [] X.env := by rfl) (h4 : (backTo pos (starEach [] X.env)).any (·.1) = false := by rfl) :
    PEx X G W (.Call (.Attribute (.Name x p) "remove" p2) [e] [] pos) (tBM G.K "list" rRemS (tVar i) (tCons te tNil)) (fMut1 mRem i fe) := by
  rw [hK]
  exact (⟨pe_bm PySem.F.plainAttrs_list PySem.F.slot_list_remove PySem.F.type_list_remove mt_remS hv (pa_cons ha.pe pa_nil h3) h0 h1 h2 h3 h4, by
      have z := se_mut1 (G := G) (i := i) mut_rem ha.se
      rw [hK] at z; exact z⟩)
theorem px_index {o : Expr} {to : TE} {fo : Fx} {p2 : Pos} (hK : G.K = X.K) (hv : PEx X G W o to fo) (ha : PEx X G W e te fe) (h0 : attributeBase o "index" X.env (eval o X.env) = eval o X.env := by rfl)
    (h1 : ((backTo pos (starEach [e] X.env)).all (fun x => !x.1) && (backToKw pos (keywordEach [] X.env)).all (fun x => x.1.isSome) && decide ([e].length + ([] : List Keyword).length + (if ([] : List Keyword).isEmpty then 0 else 1) < 30)) = true := by rfl) (h2 : (p2.endLine == pos.line) = true := by rfl)
    (h3 : starEach [e] X.env = (false, eval e X.env) :: starEach [] X.env := by rfl) (h4 : (backTo pos (starEach [] X.env)).any (·.1) = false := by rfl) :
    PEx X G W (.Call (.Attribute o "index" p2) [e] [] pos) (tBM G.K "list" (rIndex G.K) to (tCons te tNil)) (fIndex fo fe) := by
  rw [hK]
  exact (⟨pe_bm PySem.F.plainAttrs_list PySem.F.slot_list_index PySem.F.type_list_index mt_index hv.pe (pa_cons ha.pe pa_nil h3) h0 h1 h2 h3 h4, by
      have z := se_index (G := G) hv.se ha.se
      rw [hK] at z; exact z⟩)
theorem px_sl {lo hi : Option Expr} {tl th : TO} {fl fh : Option Fx} {p2 : Pos} (hK : G.K = X.K) (ha : PEx X G W e te fe) (hl : PO X lo tl) (hh : PO X hi th) (sl : SO G W tl fl) (sh : SO G W th fh) : PEx X G W (.Subscript e (.Slice lo hi none p2) pos) (tSl (rSlL G.K) te tl th) (fSl fe fl fh) := by
  rw [hK]
  exact (⟨pe_slice sl_list ha.pe hl hh, by
      have z := se_sl (G := G) ha.se sl sh
      rw [hK] at z; exact z⟩)
/-- comprehensions -/
structure PTsx (X : Cx) (G : Gx) (W : WX) (es : List Expr) (t : TT) (f : Ft) : Prop where
  pt : PTs X es t
  st : ST G W t f
theorem ptsx_nil : PTsx X G W [] tYes fYes := ⟨pts_nil, st_yes⟩
theorem ptsx_one {t : TT} {f : Ft} (h : PTx X G W c t f) : PTsx X G W [c] t f := ⟨pts_one h.pt, h.st⟩
theorem px_lc {elt tg iter : Expr} {ifs : List Expr} {scope : Scope} {own : List (Str × Nat)} {ti : TE} {fi : Fx} {g : TG} {ks : List Nat} {tgt : Tgt} {tt : TT} {ft : Ft} (hK : G.K = X.K) (hc : X.calm = true) (hN : X.N.Nodup) (ok : BlkOk X.N X.env.scope scope own) (hi : PEx X G W iter ti fi)
    (hg : ∀ (s : Shared) (H : Hp) (C : Addr) (cl : List (Str × Addr)) (fp : List Addr), PGx (X.blk s H scope (compEnvC scope cl C X.env) fp) G tg g ks tgt) (ht : ∀ (s : Shared) (H : Hp) (C : Addr) (cl : List (Str × Addr)) (fp : List Addr), PTsx (X.blk s H scope (compEnvC scope cl C X.env) fp) G W0 ifs tt ft)
    (he : ∀ (s : Shared) (H : Hp) (C : Addr) (cl : List (Str × Addr)) (fp : List Addr), PEx (X.blk s H scope (compEnvC scope cl C X.env) fp) G W0 elt te fe) (hk : ∀ k ∈ ks, k ∈ own.map (·.2)) (hs : ∀ x, foldedSetIterable iter X.env x = pure x := by intro _; rfl) :
    PEx X G W (.ListComp elt [⟨tg, iter, ifs, 0⟩] scope pos) (tLc (iList G.K ti) g tt te (own.map (·.2))) (fLc fi tgt (own.map (·.2)) ft fe) := by
  rw [hK]
  exact (⟨pe_lc hc hN (pi_list hi.pe) ok (fun s H C cl fp => (hg s H C cl fp).pg) (fun s H C cl fp => (ht s H C cl fp).pt) (fun s H C cl fp => (he s H C cl fp).pe) hs, by
        have z := se_lc (G := G) hi.se (hg X.s_0 X.H_0 0 [] []).sg hk (ht X.s_0 X.H_0 0 [] []).st (he X.s_0 X.H_0 0 [] []).se
        rw [hK] at z; exact z⟩)
theorem px_lcR {elt tg : Expr} {ifs : List Expr} {scope : Scope} {own : List (Str × Nat)} {g : TG} {ks : List Nat} {tgt : Tgt} {tt : TT} {ft : Ft} {p pos' : Pos} (hc : X.calm = true) (hN : X.N.Nodup) (ok : BlkOk X.N X.env.scope scope own) (hr : Gl X "range") (hm : X.mg "range" = none) (ha : PEx X G W a ta fa)
    (hg : ∀ (s : Shared) (H : Hp) (C : Addr) (cl : List (Str × Addr)) (fp : List Addr), PGx (X.blk s H scope (compEnvC scope cl C X.env) fp) G tg g ks tgt) (ht : ∀ (s : Shared) (H : Hp) (C : Addr) (cl : List (Str × Addr)) (fp : List Addr), PTsx (X.blk s H scope (compEnvC scope cl C X.env) fp) G W0 ifs tt ft)
    (he : ∀ (s : Shared) (H : Hp) (C : Addr) (cl : List (Str × Addr)) (fp : List Addr), PEx (X.blk s H scope (compEnvC scope cl C X.env) fp) G W0 elt te fe) (hk : ∀ k ∈ ks, k ∈ own.map (·.2))
    (h0 : starEach [a] X.env = (false, eval a X.env) :: starEach [] X.env := by rfl) (h1 : starEach [a] X.env = [(false, eval a X.env)] := by rfl) (hs : ∀ x, foldedSetIterable (.Call (.Name "range" p) [a] [] pos') X.env x = pure x := by intro _; rfl) :
    PEx X G W (.ListComp elt [⟨tg, .Call (.Name "range" p) [a] [] pos', ifs, 0⟩] scope pos) (tLc (iRng1 (tCons ta tNil)) g tt te (own.map (·.2))) (fLcR1 fa tgt (own.map (·.2)) ft fe) :=
  ⟨pe_lc hc hN (pi_range1 hr hm (pa_cons ha.pe pa_nil h0) h1) ok (fun s H C cl fp => (hg s H C cl fp).pg) (fun s H C cl fp => (ht s H C cl fp).pt) (fun s H C cl fp => (he s H C cl fp).pe) hs,
    se_lcR1 (G := G) ha.se (hg X.s_0 X.H_0 0 [] []).sg hk (ht X.s_0 X.H_0 0 [] []).st (he X.s_0 X.H_0 0 [] []).se⟩
theorem psx_setLc (i : Nat) {y : Str} {py : Pos} {elt tg iter : Expr} {ifs : List Expr} {scope : Scope} {own : List (Str × Nat)} {spos : Pos} {ti : TE} {fi : Fx} {g : TG} {ks : List Nat} {tgt : Tgt} {tt : TT} {ft : Ft} (hK : G.K = X.K) (hc : X.calm = true) (hN : X.N.Nodup) (hy : X.N[i]? = some y) (hyl : X.env.scope.names.lookup y = some .local)
    (hsw : swapsWith (.ListComp elt [⟨tg, iter, ifs, 0⟩] scope pos) (some (.Name y py)) spos.line X.env = pure true) (ok : BlkOk X.N X.env.scope scope own) (hi : PEx X G W iter ti fi)
    (hg : ∀ (s : Shared) (H : Hp) (C : Addr) (cl : List (Str × Addr)) (fp : List Addr), PGx (X.blk s H scope (compEnvC scope cl C X.env) fp) G tg g ks tgt) (ht : ∀ (s : Shared) (H : Hp) (C : Addr) (cl : List (Str × Addr)) (fp : List Addr), PTsx (X.blk s H scope (compEnvC scope cl C X.env) fp) G W0 ifs tt ft)
    (he : ∀ (s : Shared) (H : Hp) (C : Addr) (cl : List (Str × Addr)) (fp : List Addr), PEx (X.blk s H scope (compEnvC scope cl C X.env) fp) G W0 elt te fe) (hk : ∀ k ∈ ks, k ∈ own.map (·.2)) (hs : ∀ x, foldedSetIterable iter X.env x = pure x := by intro _; rfl) :
    PSx X G W (.Assign [.Name y py] (.ListComp elt [⟨tg, iter, ifs, 0⟩] scope pos) spos) (tAsg (tLc (iList G.K ti) g tt te (own.map (·.2))) (gName i)) (fAsg i (fLc fi tgt (own.map (·.2)) ft fe)) := by
  rw [hK]
  exact (⟨ps_setLc hc hN hy hyl hsw (pi_list hi.pe) ok (fun s H C cl fp => (hg s H C cl fp).pg) (fun s H C cl fp => (ht s H C cl fp).pt) (fun s H C cl fp => (he s H C cl fp).pe) hs, by
        have z := se_lc (G := G) (W := W) hi.se (hg X.s_0 X.H_0 0 [] []).sg hk (ht X.s_0 X.H_0 0 [] []).st (he X.s_0 X.H_0 0 [] []).se
        rw [hK] at z; exact ss_asg z⟩)
end
theorem st_testT {G : Gx} {W : WX} {te : TE} {f : Fx} (s : SE G W te f) : ST G W (tTest te) (fTest f) := st_test s
section
variable {X : Cx} {G : Gx} {W : WX} {a b : Expr} {ta tb : TE} {fa fb : Fx} {pos : Pos}
theorem ptx_lt (ha : PEx X G W a ta fa) (hb : PEx X G W b tb fb) : PTx X G W (.Compare a [.Lt] [b] pos) (tTest (tOp (rI0 fun i j => .bl (decide (i < j))) ta tb)) (fTest (fBin opLt fa fb)) := ⟨pt_cmpR op_lt ha.pe hb.pe (nomark _), st_testT (se_bin opv_lt ha.se hb.se)⟩
theorem ptx_le (ha : PEx X G W a ta fa) (hb : PEx X G W b tb fb) : PTx X G W (.Compare a [.LtE] [b] pos) (tTest (tOp (rI0 fun i j => .bl (decide (i ≤ j))) ta tb)) (fTest (fBin opLe fa fb)) := ⟨pt_cmpR op_le ha.pe hb.pe (nomark _), st_testT (se_bin opv_le ha.se hb.se)⟩
theorem ptx_gt (ha : PEx X G W a ta fa) (hb : PEx X G W b tb fb) : PTx X G W (.Compare a [.Gt] [b] pos) (tTest (tOp (rI0 fun i j => .bl (decide (j < i))) ta tb)) (fTest (fBin opGt fa fb)) := ⟨pt_cmpR op_gt ha.pe hb.pe (nomark _), st_testT (se_bin opv_gt ha.se hb.se)⟩
theorem ptx_ge (ha : PEx X G W a ta fa) (hb : PEx X G W b tb fb) : PTx X G W (.Compare a [.GtE] [b] pos) (tTest (tOp (rI0 fun i j => .bl (decide (j ≤ i))) ta tb)) (fTest (fBin opGe fa fb)) := ⟨pt_cmpR op_ge ha.pe hb.pe (nomark _), st_testT (se_bin opv_ge ha.se hb.se)⟩
theorem ptx_is (ha : PEx X G W a ta fa) (hb : PEx X G W b tb fb) : PTx X G W (.Compare a [.Is] [b] pos) (tTest (tOp rIsA ta tb)) (fTest (fBin (opIsN false) fa fb)) := ⟨pt_cmpR op_isN ha.pe hb.pe (nomark _), st_testT (se_bin opv_is ha.se hb.se)⟩
theorem ptx_isN (ha : PEx X G W a ta fa) (hb : PEx X G W b tb fb) : PTx X G W (.Compare a [.IsNot] [b] pos) (tTest (tOp rIsNA ta tb)) (fTest (fBin (opIsN true) fa fb)) := ⟨pt_cmpR op_notN ha.pe hb.pe (nomark _), st_testT (se_bin opv_isN ha.se hb.se)⟩
theorem ptx_eq (hu : X.A.units + 64 < cLine) (hK : G.K = X.K) (ha : PEx X G W a ta fa) (hb : PEx X G W b tb fb) : PTx X G W (.Compare a [.Eq] [b] pos) (tTest (tOp (rEqA G.K) ta tb)) (fTest (fBin (opEq false) fa fb)) := by
  rw [hK]
  exact (⟨pt_cmpR (op_eqA hu) ha.pe hb.pe (nomark _), by
      have z := st_testT (se_bin (G := G) opv_eq ha.se hb.se)
      rw [hK] at z; exact z⟩)
theorem ptx_ne (hu : X.A.units + 64 < cLine) (hK : G.K = X.K) (ha : PEx X G W a ta fa) (hb : PEx X G W b tb fb) : PTx X G W (.Compare a [.NotEq] [b] pos) (tTest (tOp (rNeA G.K) ta tb)) (fTest (fBin (opEq true) fa fb)) := by
  rw [hK]
  exact (⟨pt_cmpR (op_neA hu) ha.pe hb.pe (nomark _), by
      have z := st_testT (se_bin (G := G) opv_ne ha.se hb.se)
      rw [hK] at z; exact z⟩)
theorem ptx_in (hu : X.A.units + 65 < cLine) (hK : G.K = X.K) (ha : PEx X G W a ta fa) (hb : PEx X G W b tb fb) (hm : behindInMarks .In b = false := by rfl) : PTx X G W (.Compare a [.In] [b] pos) (tTest (tOp (rInA G.K) ta tb)) (fTest (fBin (opIn false) fa fb)) := by
  rw [hK]
  exact (⟨pt_cmpR (op_inA hu) ha.pe hb.pe hm, by
      have z := st_testT (se_bin (G := G) opv_in ha.se hb.se)
      rw [hK] at z; exact z⟩)
theorem ptx_notIn (hu : X.A.units + 65 < cLine) (hK : G.K = X.K) (ha : PEx X G W a ta fa) (hb : PEx X G W b tb fb) (hm : behindInMarks .NotIn b = false := by rfl) : PTx X G W (.Compare a [.NotIn] [b] pos) (tTest (tOp (rNotInA G.K) ta tb)) (fTest (fBin (opIn true) fa fb)) := by
  rw [hK]
  exact (⟨pt_cmpR (op_notInA hu) ha.pe hb.pe hm, by
      have z := st_testT (se_bin (G := G) opv_notIn ha.se hb.se)
      rw [hK] at z; exact z⟩)
theorem px_dz {e : Expr} {te : TE} {fe : Fx} (h : PEx X G W e te fe) : PEx X G W e te (fDz fe) := ⟨h.pe, h.se.dz⟩
end
theorem r65 {k : Nat} {A : Around} (r : Room k A) : A.units + 65 < cLine := by have := r.un; omega
/-- what the module leaves of the built-ins -/
structure Blt (G : Gx) : Prop where
  len_ : G.mg "len" = none
  range_ : G.mg "range" = none
  isinstance_ : G.mg "isinstance" = none
  list_ : G.mg "list" = none
  tuple_ : G.mg "tuple" = none
  str_ : G.mg "str" = none
  int_ : G.mg "int" = none
  bool_ : G.mg "bool" = none
  sorted_ : G.mg "sorted" = none
  reversed_ : G.mg "reversed" = none
  set_ : G.mg "set" = none
/-- a def that a caller may call: what it answers is F's -/
structure Cal (P : Program) (w : World) (base : Heap) (G : Gx) (k : Nat) (x : Str) (n : Nat) (F : Fx) : Prop where
  ex : ∃ f fd ps, FnOk P w G.K G.mg base (L2.CX P w) k f fd ps (spF G n F) ∧ G.mg x = some (.ref f) ∧ PySem.W.keepIn G.K (.ref f) = true ∧ Binds G.K fd ps []
theorem Cal.wC {P : Program} {w : World} {base : Heap} {G : Gx} {k : Nat} {x : Str} {n : Nat} {F : Fx} (c : Cal P w base G k x n F) (C : Hp) : Cal P w base (G.wC C) k x n F := ⟨c.ex⟩
/-- a def as the module's top leaves it -/
structure Df (G : Gx) (x : Str) (st : Stmt) (ps : List Str) : Prop where
  ex : ∃ f fd, Fun G.K x x st f fd ∧ G.mg x = some (.ref f) ∧ Binds G.K fd ps []
section
variable {P : Program} {w : World} {base : Heap} {G : Gx}
theorem cal_of {x : Str} {st : Stmt} {N ps : List Str} {k : Nat} {fs : Fs} {F : Fx} (D : Df G x st ps) (S : FnScope N ps (defScope st))
    (hb : ∀ (f : Addr) (cdv : Value) (A : Around) (outer : List Env) (s : Shared) (H : Hp) (E : XK), Room k (A.deeper (envOfC x (defScope st) s.heap.objs.size f cdv)) → Takes (cxOf (L2.CX P w) P w G.K G.mg base N x (defScope st) f cdv A outer s H E) (WXof E) →
      PassesOwn (model P w) (A.deeper (envOfC x (defScope st) s.heap.objs.size f cdv)) (envOfC x (defScope st) s.heap.objs.size f cdv) (cxOf (L2.CX P w) P w G.K G.mg base N x (defScope st) f cdv A outer s H E).xe →
      ∀ C, ∃ t, PBx (cxOf (L2.CX P w) P w G.K G.mg base N x (defScope st) f cdv A outer s H E) (G.wC C) (WXof E) (defBody st) t fs)
    (le : ∀ ss, ss.length = ps.length → F ss = .no ∨ F ss = runF N.length fs ss) : Cal P w base G (k + 1) x ps.length F := by
  obtain ⟨f, fd, h1, h2, h3⟩ := D.ex
  exact ⟨f, fd, ps, fnok_fx (okF h1 S fun cdv A outer s H E hr tk => hb f cdv A outer s H E hr tk (passes_of rfl)) le, h2, h1.kp, h3⟩
end
section
variable {X : Cx} {G : Gx} {W : WX} {a b c e : Expr} {es : List Expr} {ta tb te : TE} {fa fb fe : Fx} {pos : Pos}
theorem px_cal {n j : Nat} {F : Fx} {x : Str} {p : Pos} {t : TA} {fargs : Fa} (C : Cal X.prog X.w X.base G j x n F) (tk : Takes X W) (hr : Room j X.A) (hK : G.K = X.K) (hM : G.mg = X.mg) (hg : Gl X x) (ha : PAx X G W (e :: es) t fargs)
    (hdb : (x == ("__debug__" : Str)) = false := by decide) (he : starEach (e :: es) X.env = (false, eval e X.env) :: starEach es X.env := by rfl)
    (hpl : (backTo pos (starEach es X.env)).any (·.1) = false := by rfl) : PEx X G W (.Call (.Name x p) (e :: es) [] pos) (tCallSD (spF G n F) [] (WE W) t) (fCall n F [] fargs) := by
  obtain ⟨f, fd, ps, h1, h2, h3, h4⟩ := C.ex
  rw [hK] at h1 h3 h4
  rw [hM] at h1 h2
  exact px_call tk h1 hr hg h2 h3 h4 .nil (fun _ => .nil) ha hdb he hpl
end
end Fw
namespace Fw
open PySem L2
section
variable {α β : Type} (e e1 : En) (f g : Fs) (fa fb : Fx) (fr : Fa) (ft fu : Ft) (i n : Nat) (d x y : PD) (v u : Rv) (xs : List PD) (ns : List Int) (r b : Bool) (ss : En)
@[simp] theorem u_fVar : fVar i e = (match e[i]? with
  | some (.pv d) => .ok (.pv d) e
  | some (.ls _ _) => .ok (.bor i) e
  | some (.dk _ _) => .ok (.bor i) e
  | some (.sc _) => .ok (.bor i) e
  | some (.ob _ _) => .ok (.bor i) e
  | some (.fh h) => .ok (.ow (.fh h)) e
  | some (.fp c) => .ok (.ow (.fp c)) e
  | _ => .no) := rfl
@[simp] theorem u_fC : fC d e = .ok (.pv d) e := rfl
@[simp] theorem u_fz : fz fa e = frz (fa e) := rfl
@[simp] theorem u_fBin (op) : fBin op fa fb e = (fz fa e).bind fun v e1 => (fz fb e1).bind fun u e2 => give (op e2 v u) e2 := rfl
@[simp] theorem u_fUn (op) : fUn op fa e = (fz fa e).bind fun v e1 => give (op e1 v) e1 := rfl
@[simp] theorem frz_ite (c : Prop) [Decidable c] (a b : R Rv) : frz (if c then a else b) = if c then frz a else frz b := by split <;> rfl
@[simp] theorem bind_ite (c : Prop) [Decidable c] (a b : R α) (k : α → En → R β) : (if c then a else b).bind k = if c then a.bind k else b.bind k := by split <;> rfl
@[simp] theorem finR_ite (c : Prop) [Decidable c] (a b : R Fl) : finR ss (if c then a else b) = if c then finR ss a else finR ss b := by split <;> rfl
@[simp] theorem finR_pv : finR ss (.ok (.rt (.pv d)) e) = .ok (.pv d) (maskO ss e) := rfl
@[simp] theorem finR_ow (s : Sl) : finR ss (.ok (.rt (.ow s)) e) = .ok (.ow s) (maskO ss e) := rfl
@[simp] theorem finR_nx : finR ss (.ok .nx e) = .ok (.pv .none) (maskO ss e) := rfl
@[simp] theorem finR_ex (z : Xc) : finR ss (.ex z e) = .ex z (maskO ss e) := rfl
@[simp] theorem finR_no : finR ss .no = .no := rfl
@[simp] theorem frz_no : frz .no = .no := rfl
@[simp] theorem maskO_nil : maskO [] e = [] := rfl
@[simp] theorem maskO_nil2 : maskO ss [] = [] := by cases ss <;> rfl
@[simp] theorem maskO_cons (s0 s' : Sl) : maskO (s0 :: ss) (s' :: e) = (if isRef (some s0) = true then s' else .un) :: maskO ss e := rfl
@[simp] theorem isRef_un : isRef (some .un) = false := rfl
@[simp] theorem isRef_pv : isRef (some (.pv d)) = false := rfl
@[simp] theorem isRef_ls : isRef (some (.ls r xs)) = r := by cases r <;> rfl
@[simp] theorem isRef_dk (k) : isRef (some (.dk r k)) = r := by cases r <;> rfl
@[simp] theorem isRef_ob (o) : isRef (some (.ob r o)) = r := by cases r <;> rfl
@[simp] theorem isRef_sc : isRef (some (.sc ns)) = true := rfl
@[simp] theorem isRef_no : isRef none = false := rfl
@[simp] theorem seqOf_list : seqOf e (.pv (.list xs)) = some (true, xs) := rfl
@[simp] theorem seqOf_tuple : seqOf e (.pv (.tuple xs)) = some (false, xs) := rfl
@[simp] theorem seqOf_bor : seqOf e (.bor i) = (match e[i]? with
    | some (.ls _ xs) => some (true, xs)
    | some (.sc ns) => some (true, ns.map PyData.int)
    | _ => none) := rfl
@[simp] theorem dataOf_pv : dataOf e (.pv d) = some d := rfl
@[simp] theorem dataOf_bor : dataOf e (.bor i) = (match e[i]? with
    | some (.ls _ xs) => some (.list xs)
    | _ => none) := rfl
@[simp] theorem lstOf_list : lstOf e (.pv (.list xs)) = some xs := rfl
@[simp] theorem lstOf_bor : lstOf e (.bor i) = (match e[i]? with
    | some (.ls _ xs) => some xs
    | _ => none) := rfl
@[simp] theorem opAdd_int (p q : Int) : opAdd e (.pv (.int p)) (.pv (.int q)) = some (.val (.int (p + q))) := rfl
@[simp] theorem opAdd_str (p q : Str) : opAdd e (.pv (.str p)) (.pv (.str q)) = if p.length + q.length ≤ 100000 then some (.val (.str (p ++ q))) else none := rfl
@[simp] theorem opAdd_list (p q : List PD) : opAdd e (.pv (.list p)) (.pv (.list q)) = if p.length + q.length ≤ 100000 then some (.new (p ++ q)) else none := rfl
@[simp] theorem opAdd_bl (q : List PD) : opAdd e (.bor i) (.pv (.list q)) = (match lstOf e (.bor i) with | some p => if p.length + q.length ≤ 100000 then some (.new (p ++ q)) else none | none => none) := by
  show (match lstOf e (.bor i), some q with | some xs, some ys => if xs.length + ys.length ≤ 100000 then some (Ou.new (xs ++ ys)) else none | _, _ => none) = _
  cases lstOf e (.bor i) <;> rfl
@[simp] theorem give_ite (c : Prop) [Decidable c] (a b : Option Ou) : give (if c then a else b) e = if c then give a e else give b e := by split <;> rfl
@[simp] theorem sEq_int (p q : Int) : sEq (.int p) (.int q) = some (decide (p = q)) := rfl
@[simp] theorem sEq_str (p q : Str) : sEq (.str p) (.str q) = some (decide (p = q)) := rfl
@[simp] theorem sEq_bool (p q : Bool) : sEq (.bool p) (.bool q) = some (decide (p = q)) := rfl
@[simp] theorem opEq_eq (m : Bool) : opEq m e v u = (match dataOf e v, dataOf e u with
  | some d, some d' => (eqD d d').map fun b => .val (.bool (if m then !b else b))
  | _, _ => none) := rfl
@[simp] theorem eqD_int (p q : Int) : eqD (.int p) (.int q) = some (decide (p = q)) := rfl
@[simp] theorem eqD_str (p q : Str) : eqD (.str p) (.str q) = some (decide (p = q)) := rfl
@[simp] theorem eqD_bool (p q : Bool) : eqD (.bool p) (.bool q) = some (decide (p = q)) := rfl
@[simp] theorem eqD_none : eqD .none .none = some true := rfl
@[simp] theorem opIsN_pv (m : Bool) : opIsN m e (.pv d) (.pv .none) = some (.val (.bool (if m then !isNon (.pv d) else isNon (.pv d)))) := rfl
@[simp] theorem isNon_none : isNon (.pv .none) = true := rfl
@[simp] theorem isNon_str (p : Str) : isNon (.pv (.str p)) = false := rfl
@[simp] theorem isNon_int (p : Int) : isNon (.pv (.int p)) = false := rfl
@[simp] theorem isNon_list : isNon (.pv (.list xs)) = false := rfl
@[simp] theorem isNon_tuple : isNon (.pv (.tuple xs)) = false := rfl
@[simp] theorem isNon_bool : isNon (.pv (.bool b)) = false := rfl
@[simp] theorem opIx_list (k : Int) : opIx e (.pv (.list xs)) (.pv (.int k)) = (atI xs k).map .val := rfl
@[simp] theorem opIx_tuple (k : Int) : opIx e (.pv (.tuple xs)) (.pv (.int k)) = (atI xs k).map .val := rfl
@[simp] theorem opIx_str (z : Str) (k : Int) : opIx e (.pv (.str z)) (.pv (.int k)) = if z.length ≤ 100000 then (atI z.cps.toList k).map (fun c => .val (.str ⟨#[c]⟩)) else none := rfl
@[simp] theorem opIx_bor (k : Int) : opIx e (.bor i) (.pv (.int k)) = (match seqOf e (.bor i) with
      | some (_, xs) => (atI xs k).map .val
      | none => none) := rfl
@[simp] theorem u_fTest : fTest fa e = (fz fa e).bind asB := rfl
@[simp] theorem u_fNot : fNot ft e = (ft e).bind fun b e1 => .ok (!b) e1 := rfl
@[simp] theorem u_fAnd : fAnd ft fu e = (ft e).bind fun b e1 => if b = true then fu e1 else .ok false e1 := rfl
@[simp] theorem u_fOr : fOr ft fu e = (ft e).bind fun b e1 => if b = true then .ok true e1 else fu e1 := rfl
@[simp] theorem u_fAndV : fAndV fa fb e = ((fz fa e).bind asB).bind fun b e1 => if b = true then fz fb e1 else .ok (.pv (.bool false)) e1 := rfl
@[simp] theorem u_fOrV : fOrV fa fb e = ((fz fa e).bind asB).bind fun b e1 => if b = true then .ok (.pv (.bool true)) e1 else fz fb e1 := rfl
@[simp] theorem u_fNotV : fNotV fa e = ((fz fa e).bind asB).bind fun b e1 => .ok (.pv (.bool (!b))) e1 := rfl
@[simp] theorem u_fYes : fYes e = .ok true e := rfl
@[simp] theorem u_fDz : fDz fa e = (fz fa e).bind fzv := rfl
@[simp] theorem fzv_bor : fzv (.bor i) e = (match e[i]? with
    | some (.ls false xs) => .ok (.pv (.list xs)) (e.set i (.pv (.list xs)))
    | _ => .no) := rfl
@[simp] theorem u_fNil : fNil e = .ok [] e := rfl
@[simp] theorem u_fCons : fCons fa fr e = (fz fa e).bind fun v e1 => (fr e1).bind fun vs e2 => .ok (v :: vs) e2 := rfl
@[simp] theorem u_fSeqD (l : Bool) : fSeqD l fr e = (fr e).bind fun vs e1 => match dsOf vs with
  | some ds => if ds.length ≤ 1000 then give (some (if l then .new ds else .tup ds)) e1 else .no
  | none => .no := rfl
@[simp] theorem opLen_eq : opLen e v = (seqOf e v).map fun z => .val (.int (z.2.length : Nat)) := rfl
@[simp] theorem opList_eq : opList e v = (seqOf e v).map fun z => .new z.2 := rfl
@[simp] theorem opTuple_list : opTuple e (.pv (.list xs)) = some (.tup xs) := rfl
@[simp] theorem opInt_int (p : Int) : opInt e (.pv (.int p)) = some (.val (.int p)) := rfl
@[simp] theorem opInt_bool : opInt e (.pv (.bool b)) = some (.val (.int (if b then 1 else 0))) := rfl
@[simp] theorem opNeg_int (p : Int) : opNeg e (.pv (.int p)) = some (.val (.int (-p))) := rfl
@[simp] theorem opIsi_eq (t : String) : opIsi t e v = (dataOf e v).map fun d => .val (.bool (isTy t d)) := rfl
@[simp] theorem u_fSeq : fSeq f g e = (f e).bind (thenF g) := rfl
@[simp] theorem thenF_nx : thenF g .nx e = g e := rfl
@[simp] theorem thenF_bk : thenF g .bk e = .ok .bk e := rfl
@[simp] theorem thenF_ct : thenF g .ct e = .ok .ct e := rfl
@[simp] theorem thenF_rt : thenF g (.rt v) e = .ok (.rt v) e := rfl
@[simp] theorem u_fNext : fNext e = .ok .nx e := rfl
@[simp] theorem u_fIf : fIf ft f g e = (ft e).bind fun b e1 => if b = true then f e1 else g e1 := rfl
@[simp] theorem u_fExpr : fExpr fa e = (fa e).bind fun _ e1 => .ok .nx e1 := rfl
@[simp] theorem u_fAsg : fAsg i fa e = (fa e).bind (putS i) := rfl
@[simp] theorem putS_pv : putS i (.pv d) e = if isRef e[i]? = true then .no else .ok .nx (e.set i (.pv d)) := rfl
@[simp] theorem putS_ls : putS i (.ow (.ls false xs)) e = if isRef e[i]? = true then .no else .ok .nx (e.set i (.ls false xs)) := rfl
@[simp] theorem putS_ob (o) : putS i (.ow (.ob false o)) e = if isRef e[i]? = true then .no else .ok .nx (e.set i (.ob false o)) := rfl
@[simp] theorem putS_bor (j) : putS i (.bor j) e = if isRef e[i]? = true then .no else (fzv (.bor j) e).bind fun v' e1 => (match v' with
    | .pv d => .ok .nx (e1.set i (.pv d))
    | _ => .no) := rfl
@[simp] theorem u_fRet : fRet fa e = (fa e).bind retS := rfl
@[simp] theorem retS_pv : retS (.pv d) e = .ok (.rt (.pv d)) e := rfl
@[simp] theorem retS_ow (s : Sl) : retS (.ow s) e = .ok (.rt (.ow s)) e := rfl
@[simp] theorem retS_bor : retS (.bor i) e = (match e[i]? with
    | some (.ls false xs) => .ok (.rt (.ow (.ls false xs))) (e.set i .un)
    | some (.dk false k) => .ok (.rt (.ow (.dk false k))) (e.set i .un)
    | some (.ob false o) => .ok (.rt (.ow (.ob false o))) (e.set i .un)
    | _ => .no) := rfl
@[simp] theorem u_fRetN : fRetN e = .ok (.rt (.pv .none)) e := rfl
@[simp] theorem u_fBk : fBk e = .ok .bk e := rfl
@[simp] theorem u_fMut1 (op) : fMut1 op i fb e = (match e[i]? with
  | some (.ls _ _) => (fDz fb e).bind fun v e1 => match v, e1[i]? with
    | .pv d, some (.ls r xs) => (match op xs d with
      | some (ys, a) => .ok (.pv a) (e1.set i (.ls r ys))
      | none => .no)
    | _, _ => .no
  | _ => .no) := rfl
@[simp] theorem u_fMut0 (op) : fMut0 op i e = (match e[i]? with
  | some (.ls r xs) => (match op xs with
    | some (ys, a) => .ok (.pv a) (e.set i (.ls r ys))
    | none => .no)
  | _ => .no) := rfl
@[simp] theorem u_fExt : fExt i fb e = (match e[i]? with
  | some (.ls _ _) => (fz fb e).bind fun v e1 => match lstOf e1 v, e1[i]? with
    | some ys, some (.ls r xs) => if xs.length + ys.length ≤ 100000 then .ok (.pv .none) (e1.set i (.ls r (xs ++ ys))) else .no
    | _, _ => .no
  | _ => .no) := rfl
@[simp] theorem u_fFor (t : Tgt) : fFor fa t f e = (fz fa e).bind (forV t f) := rfl
@[simp] theorem forV_list (t : Tgt) : forV t f (.pv (.list xs)) e = loopL (fun _ => True) t f xs e := rfl
@[simp] theorem forV_bor (t : Tgt) : forV t f (.bor i) e = (match e[i]? with
    | some (.ls r ds) => unfl r i (loopL (fun e => e[i]? = some (.ls true ds)) t f ds (e.set i (.ls true ds)))
    | some (.sc ns) => loopL (fun _ => True) t f (ns.map PyData.int) e
    | _ => .no) := rfl
@[simp] theorem u_fForR1 (t : Tgt) : fForR1 fa t f e = (fz fa e).bind fun v e1 => match v with
  | .pv (.int n) => forR t f 0 n e1
  | _ => .no := rfl
@[simp] theorem u_fForR2 (t : Tgt) : fForR2 fa fb t f e = (fz fa e).bind fun v e1 => (fz fb e1).bind fun u e2 => match v, u with
  | .pv (.int lo), .pv (.int n) => forR t f lo n e2
  | _, _ => .no := rfl
@[simp] theorem u_fLc (t : Tgt) (own) : fLc fa t own ft fb e = (fz fa e).bind (compV t own ft fb) := rfl
@[simp] theorem compV_list (t : Tgt) (own) : compV t own ft fb (.pv (.list xs)) e = compE (fun _ => True) t own ft fb xs e := rfl
@[simp] theorem compV_bor (t : Tgt) (own) : compV t own ft fb (.bor i) e = (match e[i]? with
    | some (.ls r ds) => unfl r i (compE (fun e => e[i]? = some (.ls true ds)) t own ft fb ds (e.set i (.ls true ds)))
    | some (.sc ns) => compE (fun _ => True) t own ft fb (ns.map PyData.int) e
    | _ => .no) := rfl
@[simp] theorem u_fLcR1 (t : Tgt) (own) : fLcR1 fa t own ft fb e = (fz fa e).bind fun v e1 => match v with
  | .pv (.int n) => compR t own ft fb 0 n e1
  | _ => .no := rfl
@[simp] theorem u_tgName : tgName i d e = if isRef e[i]? = true then none else some (e.set i (.pv d)) := rfl
@[simp] theorem u_tgPair (a b : Nat) : tgPair a b (.tuple [x, y]) e = if isRef e[a]? = true ∨ isRef (e.set a (.pv x))[b]? = true then none else some ((e.set a (.pv x)).set b (.pv y)) := rfl
@[simp] theorem u_fCall (F : Fx) (ds : List PD) : fCall n F ds fr e = (fr e).bind fun vs e1 => callF n F (vs ++ ds.map .pv) e1 := rfl
@[simp] theorem argSls_nil : argSls e [] = some [] := rfl
@[simp] theorem argSls_cons (vs : List Rv) : argSls e (v :: vs) = (match argSl e v, argSls e vs with
    | some s, some ss => some (s :: ss)
    | _, _ => none) := rfl
@[simp] theorem argSl_pv : argSl e (.pv d) = some (.pv d) := rfl
@[simp] theorem argSl_bor : argSl e (.bor i) = (match e[i]? with
    | some (.ls _ xs) => some (.ls true xs)
    | some (.dk _ k) => some (.dk true k)
    | some (.ob _ o) => some (.ob true o)
    | some (.sc ns) => some (.sc ns)
    | _ => none) := rfl
@[simp] theorem borsOf_nil : borsOf [] = [] := rfl
@[simp] theorem borsOf_pv (vs) : borsOf (.pv d :: vs) = borsOf vs := rfl
@[simp] theorem borsOf_bor (vs) : borsOf (.bor i :: vs) = i :: borsOf vs := rfl
@[simp] theorem wback_nil : wback [] ss e = some e := by cases ss <;> rfl
@[simp] theorem wback_pv (vs) (s : Sl) : wback (.pv d :: vs) (s :: ss) e = wback vs ss e := rfl
@[simp] theorem wback_bor (vs) (s : Sl) : wback (.bor i :: vs) (s :: ss) e = (match relab e[i]? s with
    | some s' => wback vs ss (e.set i s')
    | none => none) := rfl
@[simp] theorem relab_ls (zs : List PD) : relab (some (.ls r xs)) (.ls true zs) = some (.ls r zs) := rfl
@[simp] theorem relab_dk (z zs) : relab (some (.dk r z)) (.dk true zs) = some (.dk r zs) := rfl
@[simp] theorem relab_ob (z zs) : relab (some (.ob r z)) (.ob true zs) = some (.ob r zs) := rfl
@[simp] theorem relab_sc (zs : List Int) : relab (some (.sc ns)) (.sc zs) = some (.sc zs) := rfl
@[simp] theorem resMap_pv (vs) : resMap vs (.pv d) = some (.pv d) := rfl
@[simp] theorem resMap_ls (vs) : resMap vs (.ow (.ls false xs)) = some (.ow (.ls false xs)) := rfl
@[simp] theorem resMap_ob (vs o) : resMap vs (.ow (.ob false o)) = some (.ow (.ob false o)) := rfl
@[simp] theorem callF_eq (F : Fx) (vs : List Rv) : callF n F vs e = (match argSls e vs with
  | none => .no
  | some ss => if (borsOf vs).Nodup ∧ vs.length = n then (match F ss with
    | .ok v ss' => (match resMap vs v, wback vs ss' e with
      | some v', some e' => .ok v' e'
      | _, _ => .no)
    | .ex x ss' => (match wback vs ss' e with
      | some e' => .ex x e'
      | none => .no)
    | .no => .no) else .no) := rfl
theorem runF_eq : runF n f ss = finR ss (f (ss ++ List.replicate (n - ss.length) .un)) := rfl
end
end Fw
namespace Fw
open PySem L2

/-! ### what loops and comprehensions come to -/
theorem loopL_nil {gd : En → Prop} {tgt : Tgt} {body : Fs} {e : En} (h : gd e) : loopL gd tgt body [] e = .ok .nx e := by
  unfold loopL; rw [if_pos h]
theorem loopL_cons {gd : En → Prop} {tgt : Tgt} {body : Fs} {d : PD} {ds : List PD} {e e1 : En} (h : gd e) (ht : tgt d e = some e1) : loopL gd tgt body (d :: ds) e = (body e1).bind fun fl e2 => match fl with
      | .nx => loopL gd tgt body ds e2
      | .ct => loopL gd tgt body ds e2
      | .bk => .ok .nx e2
      | .rt v => .ok (.rt v) e2 := by
  rw [loopL, if_pos h, ht]
  all_goals rfl
/-- a loop that runs through -/
theorem loopL_fold {α β : Type} {gd : En → Prop} {tgt : Tgt} {body : Fs} (enc : α → PD) (I : β → En → Prop) (step : β → α → β) (hg : ∀ b e, I b e → gd e) :
    ∀ (xs : List α) (b : β) (e : En), (∀ b x e, x ∈ xs → I b e → ∃ e1 e2, tgt (enc x) e = some e1 ∧ body e1 = .ok .nx e2 ∧ I (step b x) e2) → I b e → ∃ e', loopL gd tgt body (xs.map enc) e = .ok .nx e' ∧ I (xs.foldl step b) e'
  | [], b, e, _, hi => ⟨e, loopL_nil (hg b e hi), hi⟩
  | x :: xs, b, e, h, hi => by
    obtain ⟨e1, e2, h1, h2, h3⟩ := h b x e List.mem_cons_self hi
    obtain ⟨e', k1, k2⟩ := loopL_fold enc I step hg xs (step b x) e2 (fun b x e hx => h b x e (List.mem_cons_of_mem _ hx)) h3
    refine ⟨e', ?_, k2⟩
    rw [List.map_cons, loopL_cons (hg b e hi) h1, h2]
    exact k1
/-- the same, with the turns' number -/
theorem loopL_foldI {α β : Type} {gd : En → Prop} {tgt : Tgt} {body : Fs} (enc : α → PD) (I : Nat → β → En → Prop) (step : β → α → β) (hg : ∀ i b e, I i b e → gd e) :
    ∀ (xs : List α) (i : Nat) (b : β) (e : En), (∀ i b x e, x ∈ xs → I i b e → ∃ e1 e2, tgt (enc x) e = some e1 ∧ body e1 = .ok .nx e2 ∧ I (i + 1) (step b x) e2) → I i b e → ∃ e', loopL gd tgt body (xs.map enc) e = .ok .nx e' ∧ I (i + xs.length) (xs.foldl step b) e'
  | [], i, b, e, _, hi => ⟨e, loopL_nil (hg i b e hi), hi⟩
  | x :: xs, i, b, e, h, hi => by
    obtain ⟨e1, e2, h1, h2, h3⟩ := h i b x e List.mem_cons_self hi
    obtain ⟨e', k1, k2⟩ := loopL_foldI enc I step hg xs (i + 1) (step b x) e2 (fun i b x e hx => h i b x e (List.mem_cons_of_mem _ hx)) h3
    refine ⟨e', ?_, by rw [List.length_cons, show i + (xs.length + 1) = i + 1 + xs.length by omega]; exact k2⟩
    rw [List.map_cons, loopL_cons (hg i b e hi) h1, h2]
    exact k1
/-- a loop that may leave the def -/
def foldS {α β γ : Type} (step : β → α → Sum β γ) : List α → β → Sum β γ
  | [], b => .inl b
  | x :: xs, b => match step b x with
    | .inl b' => foldS step xs b'
    | .inr c => .inr c
theorem loopL_ret {α β γ : Type} {gd : En → Prop} {tgt : Tgt} {body : Fs} (enc : α → PD) (I : β → En → Prop) (rv : γ → Rv) (J : γ → En → Prop) (step : β → α → Sum β γ) (hg : ∀ b e, I b e → gd e) :
    ∀ (xs : List α) (b : β) (e : En), (∀ b x e, x ∈ xs → I b e → ∃ e1 e2, tgt (enc x) e = some e1 ∧ ((∃ b', step b x = .inl b' ∧ body e1 = .ok .nx e2 ∧ I b' e2) ∨ ∃ c, step b x = .inr c ∧ body e1 = .ok (.rt (rv c)) e2 ∧ J c e2)) → I b e →
      (∃ b' e', foldS step xs b = .inl b' ∧ loopL gd tgt body (xs.map enc) e = .ok .nx e' ∧ I b' e') ∨ ∃ c e', foldS step xs b = .inr c ∧ loopL gd tgt body (xs.map enc) e = .ok (.rt (rv c)) e' ∧ J c e'
  | [], b, e, _, hi => .inl ⟨b, e, rfl, loopL_nil (hg b e hi), hi⟩
  | x :: xs, b, e, h, hi => by
    obtain ⟨e1, e2, h1, h2⟩ := h b x e List.mem_cons_self hi
    rcases h2 with ⟨b', s1, s2, s3⟩ | ⟨c, s1, s2, s3⟩
    · have z := loopL_ret enc I rv J step hg xs b' e2 (fun b x e hx => h b x e (List.mem_cons_of_mem _ hx)) s3
      unfold foldS
      rw [s1, List.map_cons, loopL_cons (hg b e hi) h1, s2]
      exact z
    · right
      refine ⟨c, e2, by unfold foldS; rw [s1], ?_, s3⟩
      rw [List.map_cons, loopL_cons (hg b e hi) h1, s2]
      rfl
theorem compL_map {α : Type} {gd : En → Prop} {tgt : Tgt} {own : List Nat} {ft : Ft} {fe : Fx} (enc : α → PD) (p : α → Bool) (g : α → PD) (ew : En) (hg : gd ew) : ∀ (xs : List α) (acc : List PD),
    (∀ x ∈ xs, ∃ e1 e2, tgt (enc x) ew = some e1 ∧ ft e1 = .ok (p x) e2 ∧ ((p x = false ∧ wipeE e2 own = ew) ∨ (p x = true ∧ ∃ e3, fDz fe e2 = .ok (.pv (g x)) e3 ∧ wipeE e3 own = ew))) → compL gd tgt own ft fe (xs.map enc) acc ew = .ok (acc ++ (xs.filter p).map g) ew
  | [], acc, _ => by
    unfold compL
    rw [List.map_nil]
    simp [hg]
  | x :: xs, acc, h => by
    obtain ⟨e1, e2, h1, h2, h3⟩ := h x List.mem_cons_self
    rw [List.map_cons, compL_cons, if_pos hg, h1]
    show (noex (ft e1)).bind _ = _
    rw [h2]
    rcases h3 with ⟨hp, hw⟩ | ⟨hp, e3, he, hw⟩
    · rw [hp]
      show compL gd tgt own ft fe (xs.map enc) acc (wipeE e2 own) = _
      rw [hw, compL_map enc p g ew hg xs acc fun x hx => h x (List.mem_cons_of_mem _ hx), List.filter_cons_of_neg (by rw [hp]; exact Bool.false_ne_true)]
    · rw [hp]
      show (noex (fDz fe e2)).bind _ = _
      rw [he]
      show compL gd tgt own ft fe (xs.map enc) (acc ++ [g x]) (wipeE e3 own) = _
      rw [hw, compL_map enc p g ew hg xs (acc ++ [g x]) fun x hx => h x (List.mem_cons_of_mem _ hx), List.filter_cons_of_pos hp, List.map_cons]
      simp
theorem compE_map {α : Type} {gd : En → Prop} {tgt : Tgt} {own : List Nat} {ft : Ft} {fe : Fx} (enc : α → PD) (p : α → Bool) (g : α → PD) (xs : List α) (e : En) (hl : xs.length ≤ 100000) (hp : own.all (fun k => plainS (e.getD k .un)) = true) (hg : gd (wipeE e own)) (hr : restE e (wipeE e own) own = e)
    (h : ∀ x ∈ xs, ∃ e1 e2, tgt (enc x) (wipeE e own) = some e1 ∧ ft e1 = .ok (p x) e2 ∧ ((p x = false ∧ wipeE e2 own = wipeE e own) ∨ (p x = true ∧ ∃ e3, fDz fe e2 = .ok (.pv (g x)) e3 ∧ wipeE e3 own = wipeE e own))) :
    compE gd tgt own ft fe (xs.map enc) e = .ok (.ow (.ls false ((xs.filter p).map g))) e := by
  unfold compE
  rw [if_pos ⟨hp, by rw [List.length_map]; exact hl⟩, compL_map enc p g _ hg xs [] h]
  show R.ok _ _ = _
  rw [hr]
  rfl
theorem atI_nn {α : Type} (xs : List α) (k : Int) (h : 0 ≤ k) : atI xs k = xs[k.toNat]? := by
  obtain ⟨n, rfl⟩ := Int.eq_ofNat_of_zero_le h
  unfold atI ixN
  rw [if_pos h]
  by_cases hn : (n : Int) < xs.length
  · simp [hn]
  · simp [hn]; omega
end Fw
namespace Fw
open PySem PySem.Spec PyProof.Rows L2

/-! ### slots that are forgotten -/
def forgE (ks : List Nat) (e : En) : Option En := if ks.all (fun k => !isRef e[k]?) = true then some (wipeE e ks) else none
def forgR (ks : List Nat) : R Fl → R Fl
  | .ok fl e => (match forgE ks e with | some e' => .ok fl e' | none => .no)
  | .ex x e => .ex x e
  | .no => .no
def fForget (ks : List Nat) (f : Fs) : Fs := fun e => forgR ks (f e)
theorem EnvAt.weak {G : Gx} {P : Pt} {σ : L2.St} {e : En} (en : EnvAt G P σ e) (ks : List Nat) : EnvAt G P σ (wipeE e ks) :=
  ⟨by rw [wipeE_len]; exact en.len, en.cs, fun i s hi => by
    by_cases h : i ∈ ks
    · have z := wipeE_in h hi
      subst z
      have hl : i < σ.length := by
        have := (List.getElem?_eq_some_iff.mp hi).1
        rw [wipeE_len, en.len] at this; exact this
      exact ⟨_, List.getElem?_eq_getElem hl, trivial⟩
    · rw [wipeE_get h] at hi; exact en.at_ i s hi⟩
theorem forgE_ref {ks : List Nat} {e e' : En} (h : forgE ks e = some e') : e' = wipeE e ks ∧ ∀ i : Nat, isRef e[i]? = true → isRef e'[i]? = true := by
  unfold forgE at h
  split at h
  · rename_i hc
    cases h
    refine ⟨rfl, fun i hi => ?_⟩
    have hn : i ∉ ks := fun hm => by
      have := List.all_eq_true.mp hc i hm
      rw [hi] at this; cases this
    rw [wipeE_get hn]; exact hi
  · cases h
theorem ss_forget {G : Gx} {W : WX} {t : TS} {f : Fs} (ks : List Nat) (s : SS G W t f) : SS G W t (fForget ks f) := fun P σ H e w en D h => by
  refine s P σ H e w en D ?_
  have h' : PostS G W P e σ D (forgR ks (f e)) := h
  cases q : f e with
  | no => rw [q] at h'; exact h'
  | ex x e1 => rw [q] at h'; exact h'
  | ok fl e1 =>
    rw [q] at h'
    intro P' H' σ' a b c
    have h2 : PostS G W P e σ D (match forgE ks e1 with | some e' => .ok fl e' | none => .no) := h'
    cases z : forgE ks e1 with
    | none => rw [z] at h2; exact h2.elim
    | some e2 =>
      rw [z] at h2
      obtain ⟨rfl, k⟩ := forgE_ref z
      exact h2 P' H' σ' a (b.weak ks) ⟨c.zero, c.one, c.len, fun i hi => ⟨k i (c.ref i hi).1, (c.ref i hi).2⟩⟩

/-! ### a hall that stands still for a while -/
def okThaw : Rv → Bool
  | .pv _ => true
  | .ow (.ls false _) => true
  | .ow (.ob false (.run _)) => true
  | _ => false
def frzn : Sl → Bool
  | .fh _ => true
  | .fp _ => true
  | .cl _ => true
  | _ => false
def liftF (F : Fx) : Fx := fun ss => match ss with
  | .ob b (.hall h) :: rest => (match F (.fh h :: rest) with
    | .ok v (_ :: rest') => if okThaw v = true ∧ rest'.all (fun s => !frzn s) = true then .ok v (.ob b (.hall h) :: rest') else .no
    | .ex x (_ :: rest') => if rest'.all (fun s => !frzn s) = true then .ex x (.ob b (.hall h) :: rest') else .no
    | _ => .no)
  | ss => F ss
theorem PcAt.gx {G G' : Gx} {J m : Hp} {q : Addr} {ls : List Addr} {c : PieceM} (e : G'.CP = G.CP) (h : PcAt G J m q ls c) : PcAt G' J m q ls c := by
  obtain ⟨x⟩ := h
  rw [← e] at x
  exact ⟨x⟩
theorem PcsAt.gx {G G' : Gx} {J m : Hp} (e : G'.CP = G.CP) : ∀ {qs : List Addr} {ls : List (List Addr)} {cs : List PieceM}, PcsAt G J m qs ls cs → PcsAt G' J m qs ls cs
  | _, _, _, .nil => .nil
  | _, _, _, .cons h t => .cons (h.gx e) (PcsAt.gx e t)
theorem HallAt.gx {G G' : Gx} {J m : Hp} {p : Addr} {h : HallM} (e1 : G'.CH = G.CH) (e : G'.CP = G.CP) (k : HallAt G J m p h) : HallAt G' J m p h := by
  obtain ⟨r, k⟩ := k
  exact ⟨r, by rw [e1]; exact k.ins, k.kinds, k.rules, k.off, k.hung, k.pcs.gx e, k.dk, k.nd, k.nq⟩
theorem ObAt.gx {G G' : Gx} {J m : Hp} {p : Addr} {o : Ob} (e1 : G'.CH = G.CH) (e : G'.CP = G.CP) (e2 : G'.CR = G.CR) (k : ObAt G J m p o) : ObAt G' J m p o := by
  cases o with
  | hall h => exact HallAt.gx e1 e k
  | run r =>
    have k' : RunAt G J m p r := k
    show RunAt G' J m p r
    unfold RunAt at k' ⊢
    rw [e2]; exact k'
theorem SlAt.wC {G : Gx} {C C' J m : Hp} {v : Option V} {s : Sl} (k : Same C C') (h : SlAt (G.wC C) J m v s) : SlAt (G.wC C') J m v s := by
  cases s with
  | fh h0 => obtain ⟨p, e, q⟩ := h; exact ⟨p, e, (HallAt.gx (G := G.wC C) (G' := G.wC C') rfl rfl q).mv (Same.refl _) k⟩
  | fp c => obtain ⟨q, ls, e, z⟩ := h; exact ⟨q, ls, e, (PcAt.gx (G := G.wC C) (G' := G.wC C') rfl z).heap k⟩
  | cl xs => obtain ⟨p, e, z⟩ := h; exact ⟨p, e, k _ _ z⟩
  | ob r o => obtain ⟨p, e, z⟩ := h; exact ⟨p, e, ObAt.gx (G := G.wC C) (G' := G.wC C') rfl rfl rfl z⟩
  | _ => exact h
theorem SlAt.un_wC {G : Gx} {C C' J m : Hp} {v : Option V} {s : Sl} (k : frzn s = false) (h : SlAt (G.wC C) J m v s) : SlAt (G.wC C') J m v s := by
  cases s with
  | fh h0 => cases k
  | fp c => cases k
  | cl xs => cases k
  | ob r o => obtain ⟨p, e, z⟩ := h; exact ⟨p, e, ObAt.gx (G := G.wC C) (G' := G.wC C') rfl rfl rfl z⟩
  | _ => exact h
theorem lift_le {G : Gx} {n : Nat} {F : Fx} {vs : List V} {H : Hp} {Q : VK} {E : XK} (hh : spF G n (liftF F) vs H Q E) : spF G n F vs H Q E := by
  obtain ⟨C, P, ss, w, en, hl, post⟩ := hh
  have same : (∀ b h rest, ss ≠ .ob b (.hall h) :: rest) → liftF F ss = F ss := fun hne => by
    unfold liftF
    split
    · exact absurd rfl (hne _ _ _)
    · rfl
  by_cases hc : ∃ b h rest, ss = .ob b (.hall h) :: rest
  · obtain ⟨b, h, rest, rfl⟩ := hc
    obtain ⟨v0, hv0, p, ev0, hp⟩ := en.at_ 0 _ rfl
    subst ev0
    have d31 : ∀ a, P 3 a ≠ none → P 1 a = none := fun a ha => w.dis 3 1 (by decide) a ha
    have c3 : ∀ a, P 3 a ≠ none → C a = none := fun a ha => by
      cases q : C a with
      | none => rfl
      | some o => have := en.cs a o q; rw [d31 a ha] at this; cases this
    have sC : Same C (uni C (P 3)) := uni_l
    have s3 : Same (P 3) (uni C (P 3)) := uni_r c3
    have k0 : ((P.set 3 emp).set 1 (uni (P 1) (P 3))) 0 = P 0 := by rw [Pt.set_ne (by decide), Pt.set_ne (by decide)]
    have kj : ∀ i, ((P.set 3 emp).set 1 (uni (P 1) (P 3))) (i + 1 + 3) = P (i + 1 + 3) := fun i => by rw [Pt.set_ne (by omega), Pt.set_ne (by omega)]
    have h31 : HallAt (G.wC (uni C (P 3))) (P 0) (uni C (P 3)) p h := HallAt.mv (Same.refl _) s3 (HallAt.gx (G := G.wC C) rfl rfl hp)
    refine ⟨uni C (P 3), (P.set 3 emp).set 1 (uni (P 1) (P 3)), .fh h :: rest, w.join (by decide), ⟨by rw [List.length_cons]; exact en.len, ?_, fun i s hi => ?_⟩, hl, ?_⟩
    · rw [Pt.set_same]
      intro a o e
      have e' : (match C a with | some o => some o | none => P 3 a) = some o := e
      cases q : C a with
      | some u => rw [q] at e'; cases e'; exact uni_l _ _ (en.cs a _ q)
      | none => rw [q] at e'; exact uni_r d31 a o e'
    · cases i with
      | zero =>
        cases hi
        exact ⟨_, hv0, p, rfl, by rw [k0]; exact h31⟩
      | succ i =>
        obtain ⟨v, a1, a2⟩ := en.at_ (i + 1) s hi
        refine ⟨v, a1, ?_⟩
        rw [k0, kj i]
        exact SlAt.wC sC a2
    · -- the way back
      have back : ∀ {P'' H'' e'}, Wd P'' H'' → EnvAt (G.wC (uni C (P 3))) P'' (vs.map some) e' → Fr ((P.set 3 emp).set 1 (uni (P 1) (P 3))) P'' (.fh h :: rest) e' → ∀ s0 rest', e' = s0 :: rest' → rest'.all (fun s => !frzn s) = true →
          Wd ((P''.set 1 (P 1)).set 3 (P 3)) H'' ∧ EnvAt (G.wC C) ((P''.set 1 (P 1)).set 3 (P 3)) (vs.map some) (.ob b (.hall h) :: rest') ∧ Fr P ((P''.set 1 (P 1)).set 3 (P 3)) (.ob b (.hall h) :: rest) (.ob b (.hall h) :: rest') := by
        intro P'' H'' e' w2 en2 fr2 s0 rest' ee hfz
        subst ee
        have one2 : P'' 1 = uni (P 1) (P 3) := by rw [fr2.one, Pt.set_same]
        have s1 : Same (P 1) H'' := fun a o e => w2.sub 1 a o (by rw [one2]; exact uni_l _ _ e)
        have s3' : Same (P 3) H'' := fun a o e => w2.sub 1 a o (by rw [one2]; exact uni_r d31 _ _ e)
        have n1 : ∀ a, P 1 a ≠ none → P'' 1 a ≠ none := fun a ha => by
          cases q : P 1 a with
          | none => exact absurd q ha
          | some o => rw [one2, uni_l _ _ q]; exact fun z => by cases z
        have n3 : ∀ a, P 3 a ≠ none → P'' 1 a ≠ none := fun a ha => by
          cases q : P 3 a with
          | none => exact absurd q ha
          | some o => rw [one2, uni_r d31 _ _ q]; exact fun z => by cases z
        have wA : Wd (P''.set 1 (P 1)) H'' := w2.set s1 fun i hi a ha => w2.dis 1 i (Ne.symm hi) a (n1 a ha)
        have wB : Wd ((P''.set 1 (P 1)).set 3 (P 3)) H'' := wA.set s3' fun i hi a ha => by
          by_cases hi1 : i = 1
          · subst hi1; rw [Pt.set_same]; exact d31 a ha
          · rw [Pt.set_ne hi1]; exact w2.dis 1 i (Ne.symm hi1) a (n3 a ha)
        have z0 : ((P''.set 1 (P 1)).set 3 (P 3)) 0 = P'' 0 := by rw [Pt.set_ne (by decide), Pt.set_ne (by decide)]
        have z1 : ((P''.set 1 (P 1)).set 3 (P 3)) 1 = P 1 := by rw [Pt.set_ne (by decide), Pt.set_same]
        have zj : ∀ i, ((P''.set 1 (P 1)).set 3 (P 3)) (i + 1 + 3) = P'' (i + 1 + 3) := fun i => by rw [Pt.set_ne (by omega), Pt.set_ne (by omega)]
        have zz : Same (P 0) (P'' 0) := by have := fr2.zero; rw [k0] at this; exact this
        refine ⟨wB, ⟨en2.len, by rw [z1]; exact en.cs, fun i s hi => ?_⟩, ⟨by rw [z0]; exact zz, z1, fun i hi => ?_⟩⟩
        · cases i with
          | zero =>
            cases hi
            refine ⟨_, hv0, p, rfl, ?_⟩
            rw [z0, Pt.set_same]
            exact HallAt.mv zz (Same.refl _) hp
          | succ i =>
            obtain ⟨v, a1, a2⟩ := en2.at_ (i + 1) s hi
            refine ⟨v, a1, ?_⟩
            rw [z0, zj i]
            refine SlAt.un_wC ?_ a2
            have := List.all_eq_true.mp hfz s (List.mem_of_getElem? (by simpa using hi))
            simpa using this
        · cases i with
          | zero => exact hi
          | succ i => exact fr2.ref (i + 1) hi
      have post' : PostE (G.wC C) (WXof E) P (.ob b (.hall h) :: rest) (vs.map some) Q (match F (.fh h :: rest) with
        | .ok v (_ :: rest') => if okThaw v = true ∧ rest'.all (fun s => !frzn s) = true then .ok v (.ob b (.hall h) :: rest') else .no
        | .ex x (_ :: rest') => if rest'.all (fun s => !frzn s) = true then .ex x (.ob b (.hall h) :: rest') else .no
        | _ => .no) := post
      cases q : F (.fh h :: rest) with
      | no => rw [q] at post'; exact post'.elim
      | ok v e' =>
        rw [q] at post'
        intro P'' H'' x w2 en2 fr2 r2
        cases e' with
        | nil => exact post'.elim
        | cons s0 rest' =>
          have p2 : PostE (G.wC C) (WXof E) P (.ob b (.hall h) :: rest) (vs.map some) Q (if okThaw v = true ∧ rest'.all (fun s => !frzn s) = true then .ok v (.ob b (.hall h) :: rest') else .no) := post'
          by_cases hk : okThaw v = true ∧ rest'.all (fun s => !frzn s) = true
          · rw [if_pos hk] at p2
            obtain ⟨a1, a2, a3⟩ := back w2 en2 fr2 s0 rest' rfl hk.2
            refine p2 _ _ x a1 a2 a3 ?_
            have z0 : ((P''.set 1 (P 1)).set 3 (P 3)) 0 = P'' 0 := by rw [Pt.set_ne (by decide), Pt.set_ne (by decide)]
            have z2 : ((P''.set 1 (P 1)).set 3 (P 3)) 2 = P'' 2 := by rw [Pt.set_ne (by decide), Pt.set_ne (by decide)]
            cases v with
            | pv d => show Dq _ x d; rw [z0]; exact r2
            | bor i => cases hk.1
            | ow s =>
              cases s with
              | ls r xs =>
                obtain ⟨p2', vs2, e1, e2, e3⟩ := r2
                exact ⟨p2', vs2, e1, by rw [z2]; exact e2, by rw [z0]; exact e3⟩
              | ob r o =>
                obtain ⟨p2', e1, e2⟩ := r2
                exact ⟨p2', e1, by rw [z2, z0]; exact ObAt.gx (G := G.wC (uni C (P 3))) (G' := G.wC C) rfl rfl rfl e2⟩
              | _ => cases hk.1
          · rw [if_neg hk] at p2; exact p2.elim
      | ex y e' =>
        rw [q] at post'
        intro P'' H'' cls d w2 en2 fr2 r2
        cases e' with
        | nil => exact post'.elim
        | cons s0 rest' =>
          have p2 : PostE (G.wC C) (WXof E) P (.ob b (.hall h) :: rest) (vs.map some) Q (if rest'.all (fun s => !frzn s) = true then .ex y (.ob b (.hall h) :: rest') else .no) := post'
          by_cases hk : rest'.all (fun s => !frzn s) = true
          · rw [if_pos hk] at p2
            obtain ⟨a1, a2, a3⟩ := back w2 en2 fr2 s0 rest' rfl hk
            refine p2 _ _ cls d a1 a2 a3 ?_
            have z0 : ((P''.set 1 (P 1)).set 3 (P 3)) 0 = P'' 0 := by rw [Pt.set_ne (by decide), Pt.set_ne (by decide)]
            show XcD _ _ _ _ _
            rw [z0]; exact r2
          · rw [if_neg hk] at p2; exact p2.elim
  · rw [same fun b h rest z => hc ⟨b, h, rest, z⟩] at post
    exact ⟨C, P, ss, w, en, hl, post⟩
theorem fnok_lift {P : Program} {w : World} {K : PySem.W.Frag} {mg : Str → Option Value} {base : Heap} {CX : CXT} {k n : Nat} {f : Addr} {fd : FuncData} {ps : List Str} {G : Gx} {F : Fx} (h : FnOk P w K mg base CX k f fd ps (spF G n F)) : FnOk P w K mg base CX k f fd ps (spF G n (liftF F)) :=
  fnok_as h fun _ _ _ _ z => lift_le z
end Fw
namespace Fw
open PySem PySem.Spec PyProof.Rows L2

/-! ### methods of a hall or a run in a slot -/
def Gx.cOf (G : Gx) : Bool → Addr
  | true => G.CH
  | false => G.CR
/-- what is handed on as self -/
def recv (hall : Bool) (e : En) (i : Nat) : Option Rv := match e[i]?, hall with
  | some (.ob _ (.hall _)), true => some (.bor i)
  | some (.fh h), true => some (.ow (.fh h))
  | some (.ob _ (.run _)), false => some (.bor i)
  | _, _ => none
def fMeth (hall : Bool) (n : Nat) (F : Fx) (ds : List PD) (i : Nat) (fa : Fa) : Fx := fun e => match recv hall e i with
  | some v => (fa e).bind fun vs e1 => callF n F (v :: (vs ++ ds.map .pv)) e1
  | none => .no
def tMethSD (C : Addr) (m : Str) (sp : Sp) (dvs : List V) (E : L2.St → XK) (ta : TE) (t : TA) : TE := fun σ H Q => ta σ H fun x H1 => ∃ a dx fs, x = .ref a ∧ H1 a = some (.ins C dx fs) ∧ fs.lookup m = none ∧ t σ H1 fun vs H2 => sp (x :: (vs ++ dvs)) H2 Q (E σ)
def fldsOf : Bool → List Str
  | true => ["kinds", "rules", "hung", "off"]
  | false => ["kind", "rule", "rows", "worth", "spot", "shut", "torn", "told", "backs", "held"]
theorem lookup_none {m : Str} : ∀ {fs : List (Str × V)} {ns : List Str}, fs.map (·.1) = ns → ns.contains m = false → fs.lookup m = none
  | [], _, _, _ => rfl
  | (x, v) :: fs, [], e, _ => by cases e
  | (x, v) :: fs, n :: ns, e, h => by
    obtain ⟨e1, e2⟩ := List.cons.inj e
    have h' : (m == n || ns.contains m) = false := h
    rw [Bool.or_eq_false_iff] at h'
    have e1' : x = n := e1
    subst e1'
    show (match m == x with | true => some v | false => fs.lookup m) = none
    rw [h'.1]
    exact lookup_none e2 h'.2
theorem se_meth {G : Gx} {W : WX} {hall : Bool} {m : Str} {n : Nat} {F : Fx} {ds : List PD} {dvs : List V} {i : Nat} {ta : TA} {fa : Fa} (hm : (fldsOf hall).contains m = false) (hd : ∀ J, DqAll J dvs ds) (s : SA G W ta fa) :
    SE G W (tMethSD (G.cOf hall) m (spF G n F) dvs (WE W) (tVar i) ta) (fMeth hall n F ds i fa) := fun P σ H e w en Q h => by
  have go : ∀ (x : V) (v : Rv) (p dx : Addr) (fs : List (Str × V)), recv hall e i = some v → σ[i]? = some (some x) → x = .ref p → H p = some (.ins (G.cOf hall) dx fs) → fs.map (·.1) = fldsOf hall → (∀ P1 e1, Fr P P1 e e1 → Held G P1 σ x v) →
      tMethSD (G.cOf hall) m (spF G n F) dvs (WE W) (tVar i) ta σ H Q := by
    intro x v p dx fs hv hx ex hp hf hh
    have h' : PostE G W P e σ Q (match recv hall e i with
      | some v => (fa e).bind fun vs e1 => callF n F (v :: (vs ++ ds.map .pv)) e1
      | none => .no) := h
    rw [hv] at h'
    refine ⟨x, hx, p, dx, fs, ex, hp, lookup_none hf hm, ?_⟩
    exact s.bindG w en (PostE.gen h') fun vs2 e2 P1 H1 ws w1 en1 fr1 r1 h1 => callF_ok w1 en1 (.cons (hh P1 e2 fr1) (r1.app (heldDs (hd (P1 0))))) (PostG.toE h1)
  have hno : ∀ o, recv hall e i = o → o ≠ none := fun o ho hn => by
    have h' : PostE G W P e σ Q (match recv hall e i with
      | some v => (fa e).bind fun vs e1 => callF n F (v :: (vs ++ ds.map .pv)) e1
      | none => .no) := h
    rw [ho, hn] at h'
    exact h'.elim
  cases q : e[i]? with
  | none => exact absurd (show recv hall e i = none by unfold recv; rw [q]) (fun z => hno _ z rfl)
  | some sl =>
    obtain ⟨ov, a1, a2⟩ := en.at_ i sl q
    cases sl with
    | ob r o =>
      cases o with
      | hall h0 =>
        cases hall with
        | true =>
          obtain ⟨p, rfl, hr, k⟩ := a2
          exact go _ (.bor i) p hr.dx _ (by unfold recv; rw [q]) a1 rfl (w.sub _ _ _ k.ins) rfl fun P1 e1 fr => a1
        | false => exact absurd (show recv false e i = none by unfold recv; rw [q]) (fun z => hno _ z rfl)
      | run r0 =>
        cases hall with
        | true => exact absurd (show recv true e i = none by unfold recv; rw [q]) (fun z => hno _ z rfl)
        | false =>
          obtain ⟨p, rfl, dx, wa, ta', ba, ea, ws, ts, hs, k, _⟩ := a2
          exact go _ (.bor i) p dx _ (by unfold recv; rw [q]) a1 rfl (w.sub _ _ _ k) rfl fun P1 e1 fr => a1
    | fh h0 =>
      cases hall with
      | true =>
        obtain ⟨p, rfl, hr, k⟩ := a2
        exact go _ (.ow (.fh h0)) p hr.dx _ (by unfold recv; rw [q]) a1 rfl (w.sub 1 _ _ (en.cs _ _ k.ins)) rfl fun P1 e1 fr => ⟨p, rfl, HallAt.mv fr.zero (Same.refl _) ⟨hr, k⟩⟩
      | false => exact absurd (show recv false e i = none by unfold recv; rw [q]) (fun z => hno _ z rfl)
    | _ => exact absurd (show recv hall e i = none by unfold recv; rw [q]) (fun z => hno _ z rfl)
theorem vals_nones : ∀ n : Nat, Vals (List.replicate n V.non) (List.replicate n Value.none)
  | 0 => .nil
  | n + 1 => .cons rfl (vals_nones n)
theorem dq_nones : ∀ (n : Nat) (J : Hp), DqAll J (List.replicate n V.non) (List.replicate n PyData.none)
  | 0, _ => .nil
  | n + 1, J => .cons .non (dq_nones n J)
/-- a method that a caller may call -/
structure MCal (P : Program) (w : World) (base : Heap) (G : Gx) (k : Nat) (hall : Bool) (m : Str) (n : Nat) (nd : Nat) (F : Fx) : Prop where
  cls : Cls G.K (G.cOf hall)
  ex : ∃ f fd ps, FnOk P w G.K G.mg base (L2.CX P w) k f fd ps (spF G n F) ∧ Meth G.K (G.cOf hall) m f ∧ Binds G.K fd ps (List.replicate nd Value.none)
theorem MCal.wC {P : Program} {w : World} {base : Heap} {G : Gx} {k : Nat} {hall : Bool} {m : Str} {n nd : Nat} {F : Fx} (c : MCal P w base G k hall m n nd F) (C : Hp) : MCal P w base (G.wC C) k hall m n nd F := by
  cases hall <;> exact ⟨c.cls, c.ex⟩
theorem MCal.lift {P : Program} {w : World} {base : Heap} {G : Gx} {k : Nat} {hall : Bool} {m : Str} {n nd : Nat} {F : Fx} (c : MCal P w base G k hall m n nd F) : MCal P w base G k hall m n nd (liftF F) := by
  obtain ⟨f, fd, ps, h1, h⟩ := c.ex
  exact ⟨c.cls, f, fd, ps, fnok_lift h1, h⟩
theorem MCal.fx {P : Program} {w : World} {base : Heap} {G : Gx} {k : Nat} {hall : Bool} {m : Str} {n nd : Nat} {F F' : Fx} (c : MCal P w base G k hall m n nd F) (le : ∀ ss, ss.length = n → F' ss = .no ∨ F' ss = F ss) : MCal P w base G k hall m n nd F' := by
  obtain ⟨f, fd, ps, h1, h⟩ := c.ex
  exact ⟨c.cls, f, fd, ps, fnok_fx h1 le, h⟩
theorem Cal.lift {P : Program} {w : World} {base : Heap} {G : Gx} {k : Nat} {x : Str} {n : Nat} {F : Fx} (c : Cal P w base G k x n F) : Cal P w base G k x n (liftF F) := by
  obtain ⟨f, fd, ps, h1, h⟩ := c.ex
  exact ⟨f, fd, ps, fnok_lift h1, h⟩
theorem Cal.fx {P : Program} {w : World} {base : Heap} {G : Gx} {k : Nat} {x : Str} {n : Nat} {F F' : Fx} (c : Cal P w base G k x n F) (le : ∀ ss, ss.length = n → F' ss = .no ∨ F' ss = F ss) : Cal P w base G k x n F' := by
  obtain ⟨f, fd, ps, h1, h⟩ := c.ex
  exact ⟨f, fd, ps, fnok_fx h1 le, h⟩
section
variable {X : Cx} {CX : CXT} {k : Nat} {f C : Addr} {fd : FuncData} {ps : List Str} {sp : Sp} {dvs : List V} {ds : List Value} {E : L2.St → XK} {m : Str} {pos apos : Pos} {e o : Expr} {es : List Expr} {ta : TE} {t : TA}
theorem pe_mthE {pl : Sem Bool} (he : PE X o ta) (c : Cls X.K C) (hm : Meth X.K C m f) (F : FnOk X.prog X.w X.K X.mg X.base CX k f fd ps sp) (hr : Room k X.A) (hb : Binds X.K fd ps ds) (hd : Vals dvs ds) (hx : ∀ σ, PassesAt CX X σ (E σ)) (ha : PA X (e :: es) t)
    (h1 : starEach (e :: es) X.env = (false, eval e X.env) :: starEach es X.env := by rfl) (h2 : (backTo pos (starEach es X.env)).any (·.1) = false := by rfl)
    (ht : eval (.Call (.Attribute o m apos) (e :: es) [] pos) X.env = (do
      let recvd ← eval o X.env
      standAt apos.atName
      let (fn, fst) ← holding [recvd] (getMethod recvd m pl)
      callWith pos fn fst (backTo pos (starEach (e :: es) X.env)) (backToKw pos (keywordEach [] X.env))) := by rfl) :
    PE X (.Call (.Attribute o m apos) (e :: es) [] pos) (tMethSD C m sp dvs E ta t) := by
  constructor
  intro pins s σ H Q I h
  refine PySem.W.methodCall_KW (pl := pl) (thn (he.run pins s σ H _ I h) ?_) ht
  rintro u s1 ⟨x, H1, I1, rx, a, dx, fs, ex, ea, l, q⟩
  subst ex
  cases (show u = Value.ref a from rx)
  refine getmeth_ok I1 ea c hm l (PySem.W.callWith_K (first := [.ref a]) (h₀ := X.base) I.ok.mod.kin hm.kp (thn (ha.run pos pins s1 σ H1 _ I1 q) ?_) h1 h2)
  rintro us s2 ⟨vs, H2, I2, r, q2⟩
  exact ⟨I2.kIn, run_fnSD (us := .ref a :: us) (vs := .ref a :: vs) F hr hb hd (hx σ) I2 (.cons rfl r) q2⟩
theorem pe_mthE0 {pl : Sem Bool} (he : PE X o ta) (c : Cls X.K C) (hm : Meth X.K C m f) (F : FnOk X.prog X.w X.K X.mg X.base CX k f fd ps sp) (hr : Room k X.A) (hb : Binds X.K fd ps ds) (hd : Vals dvs ds) (hx : ∀ σ, PassesAt CX X σ (E σ))
    (ht : eval (.Call (.Attribute o m apos) [] [] pos) X.env = (do
      let recvd ← eval o X.env
      standAt apos.atName
      let (fn, fst) ← holding [recvd] (getMethod recvd m pl)
      callWith pos fn fst (backTo pos (starEach [] X.env)) (backToKw pos (keywordEach [] X.env))) := by rfl) :
    PE X (.Call (.Attribute o m apos) [] [] pos) (tMethSD C m sp dvs E ta tNil) := by
  constructor
  intro pins s σ H Q I h
  refine PySem.W.methodCall_KW (pl := pl) (thn (he.run pins s σ H _ I h) ?_) ht
  rintro u s1 ⟨x, H1, I1, rx, a, dx, fs, ex, ea, l, q⟩
  subst ex
  cases (show u = Value.ref a from rx)
  exact getmeth_ok I1 ea c hm l (PySem.W.callWith_K0 (first := [.ref a]) I1.kIn hm.kp (run_fnSD (us := [.ref a]) (vs := [.ref a]) F hr hb hd (hx σ) I1 (.cons rfl .nil) q))
end
section
variable {X : Cx} {G : Gx} {W : WX} {a b c e : Expr} {es : List Expr} {ta tb te : TE} {fa fb fe : Fx} {pos : Pos}
theorem px_mth {hall : Bool} {m x : Str} {n k i nd : Nat} {F : Fx} {t : TA} {fargs : Fa} {apos p : Pos} {pl : Sem Bool} (M : MCal X.prog X.w X.base G k hall m n nd F) (tk : Takes X W) (hr : Room k X.A) (hK : G.K = X.K) (hM : G.mg = X.mg) (hv : PE X (.Name x p) (tVar i)) (ha : PAx X G W (e :: es) t fargs)
    (hf : (fldsOf hall).contains m = false := by decide +kernel)
    (h1 : starEach (e :: es) X.env = (false, eval e X.env) :: starEach es X.env := by rfl) (h2 : (backTo pos (starEach es X.env)).any (·.1) = false := by rfl)
    (ht : eval (.Call (.Attribute (.Name x p) m apos) (e :: es) [] pos) X.env = (do
      let recvd ← eval (.Name x p) X.env
      standAt apos.atName
      let (fn, fst) ← holding [recvd] (getMethod recvd m pl)
      callWith pos fn fst (backTo pos (starEach (e :: es) X.env)) (backToKw pos (keywordEach [] X.env))) := by rfl) :
    PEx X G W (.Call (.Attribute (.Name x p) m apos) (e :: es) [] pos) (tMethSD (G.cOf hall) m (spF G n F) (List.replicate nd .non) (WE W) (tVar i) t) (fMeth hall n F (List.replicate nd .none) i fargs) := by
  obtain ⟨f, fd, ps, h3, h4, h5⟩ := M.ex
  have c := M.cls
  rw [hK] at h3 h4 h5 c
  rw [hM] at h3
  exact ⟨pe_mthE (pl := pl) hv c h4 h3 hr h5 (vals_nones nd) (fun σ => passAt tk σ) ha.pa h1 h2 ht, se_meth hf (dq_nones nd) ha.sa⟩
theorem px_mth0 {hall : Bool} {m x : Str} {n k i nd : Nat} {F : Fx} {apos p : Pos} {pl : Sem Bool} (M : MCal X.prog X.w X.base G k hall m n nd F) (tk : Takes X W) (hr : Room k X.A) (hK : G.K = X.K) (hM : G.mg = X.mg) (hv : PE X (.Name x p) (tVar i))
    (hf : (fldsOf hall).contains m = false := by decide +kernel)
    (ht : eval (.Call (.Attribute (.Name x p) m apos) [] [] pos) X.env = (do
      let recvd ← eval (.Name x p) X.env
      standAt apos.atName
      let (fn, fst) ← holding [recvd] (getMethod recvd m pl)
      callWith pos fn fst (backTo pos (starEach [] X.env)) (backToKw pos (keywordEach [] X.env))) := by rfl) :
    PEx X G W (.Call (.Attribute (.Name x p) m apos) [] [] pos) (tMethSD (G.cOf hall) m (spF G n F) (List.replicate nd .non) (WE W) (tVar i) tNil) (fMeth hall n F (List.replicate nd .none) i fNil) := by
  obtain ⟨f, fd, ps, h3, h4, h5⟩ := M.ex
  have c := M.cls
  rw [hK] at h3 h4 h5 c
  rw [hM] at h3
  exact ⟨pe_mthE0 (pl := pl) hv c h4 h3 hr h5 (vals_nones nd) (fun σ => passAt tk σ) ht, se_meth hf (dq_nones nd) sa_nil⟩
end
end Fw
namespace Fw
open PySem PySem.Spec PyProof.Rows L2

/-! ### several except clauses, with and without a name -/
abbrev Clause := Value × Option Nat × (Addr → Value → Option Addr → TS)
def gone (i : Nat) (D : Ends) : Ends := { nx := fun τ K => D.nx (τ.set i none) K, rt := D.rt, bk := fun τ K => D.bk (τ.set i none) K, ct := fun τ K => D.ct (τ.set i none) K }
def wMix (K : PySem.W.Frag) (Wo : WX) (D : Ends) : List Clause → WX
  | [] => Wo
  | (c, oi, ts) :: r => fun cls d σ H => ∃ b, PySem.W.exmOne K cls c = some b ∧
    (b = true → ∀ a, H a = none → (match oi with | none => ts a cls d D σ H | some i => ts a cls d (gone i D) (σ.set i (some (.ref a))) H)) ∧ (b = false → wMix K Wo D r cls d σ H)
inductive Mixed (X : Cx) : List ExceptHandler → List Clause → Prop
  | nil : Mixed X [] []
  | bare {x : Str} {c : Value} {ts : Addr → Value → Option Addr → TS} {st : Stmt} {sts : List Stmt} {p1 p2 : Pos} {hds : List ExceptHandler} {l : List Clause} (hc : Names X x c)
      (hsu : ∀ (a : Addr) (oe : Obj) (cls : Value) (d : Option Addr) (pn : List (Addr × Obj)), Zc cls d oe → (∃ vs, oe.data = .fields vs) → PSs (X.suite a ((a, oe) :: pn)) (st :: sts) (ts a cls d)) (r : Mixed X hds l) :
      Mixed X (.ExceptHandler (some (.Name x p1)) none (st :: sts) p2 :: hds) ((c, none, ts) :: l)
  | named {x n : Str} {i : Nat} {c : Value} {ts : Addr → Value → Option Addr → TS} {st : Stmt} {sts : List Stmt} {p1 p2 : Pos} {hds : List ExceptHandler} {l : List Clause} (hc : Names X x c) (hN : X.N.Nodup) (hi : X.N[i]? = some n) (hl : X.env.kindOf n = some .local)
      (hsu : ∀ (a : Addr) (oe : Obj) (cls : Value) (d : Option Addr) (pn : List (Addr × Obj)), Zc cls d oe → (∃ vs, oe.data = .fields vs) → PSs (X.suite a ((a, oe) :: pn)) (st :: sts) (ts a cls d)) (r : Mixed X hds l) :
      Mixed X (.ExceptHandler (some (.Name x p1)) (some n) (st :: sts) p2 :: hds) ((c, some i, ts) :: l)
section
variable {X : Cx} {body : List Stmt} {h0 : ExceptHandler} {hds : List ExceptHandler} {l : List Clause} {pos : Pos} {tb : WX → TS} {Wo : WX}
theorem ps_try_mix (hs : X.stack = X.env :: X.outer) (hf : X.env.frame = some X.env.locals) (tk : Takes X Wo)
    (hb : ∀ (W : WX) (pn : List (Addr × Obj)) (xe : Value → Shared → Prop), Takes (X.tr pn xe) W → PassesOwn (model X.prog X.w) X.A X.env xe → PSs (X.tr pn xe) body (tb W))
    (hm : Mixed X (h0 :: hds) l) : PS X (.Try body (h0 :: hds) [] [] pos) (fun D σ H => tb (wMix X.K Wo D l) D σ H) := by
  constructor
  intro pins s σ H D I h
  have ok := I.ok
  have fr0 : X.A.frames = some (X.env :: X.outer) := by rw [ok.frames, hs]
  refine wpAny_Try_except (wpAny_mono ((hb (wMix X.K Wo D l) (X.pn ++ pins) (fun e s₁ => wpAny (model X.prog X.w) X.A (noteFrame e X.env) (fun _ s₂ => wpAny (model X.prog X.w) X.A (setFlight e none) (fun _ s₃ =>
    wpAny (model X.prog X.w) X.A (handleBy e X.env (h0 :: hds)) (SP X pins D) X.xe s₃) X.xe s₂) X.xe s₁) (fun u s' xx => ?_) PassesOwn.looking).run [] s σ H D (I.toTry _) h) (fun f s1 hsp => ?_) (fun e s1 he => he))
  · obtain ⟨a, B, sI, pins', σ', H', cls, d, rfl, J', nb, up, sky, na, os, ag, w⟩ := xx
    have J : Inv X pins σ' H' sI := J'.ofTry ok
    have sky2 : Sky B (X.env :: X.outer) a (Zc cls d) X.env.locals s'.heap := by rw [← hs]; exact sky
    show wpAny (model X.prog X.w) X.A (noteFrame (.ref a) X.env) _ _ _
    refine Sky.land Zc.steady fr0 hf sky2 fun h3 fl3 up3 => ?_
    have J3 : Inv X pins σ' H' { s' with heap := h3 } := J.landed nb fl3.1 (up.trans up3) os ag
    obtain ⟨oe3, vs3, he3, hz3, hd3⟩ := fl3.there
    have nfr : a ∉ frs (X.env :: X.outer) := fun hm => by
      obtain ⟨_, o2, e2, hnf⟩ := fl3.2.2.1.mem hm
      rw [he3] at e2; cases e2
      exact hnf _ hd3
    have nL : a ≠ X.env.locals := fun z => nfr (List.mem_filterMap.mpr ⟨X.env, List.mem_cons_self, by rw [hf, z]⟩)
    have nF : a ∉ X.fs := fun hm => by
      obtain ⟨ee, he, q⟩ := List.mem_filterMap.mp hm
      exact nfr (List.mem_filterMap.mpr ⟨ee, List.mem_cons_of_mem _ he, q⟩)
    have S3 := J3.suite he3 hd3 na nL nF
    have LT : PySem.W.Looks (model X.prog X.w) h3 (typeOf (.ref a)) cls := fun A Q E s k q => wpAny_typeOf_ref (k _ _ he3) (by rw [hz3.1]; exact q)
    have look : ∀ {x : Str} {c : Value} {np : Pos} {Q : Value → Shared → Prop} {E : Value → Shared → Prop}, Names X x c → Q c { s' with heap := h3 } → wpAny (model X.prog X.w) (X.A.mark (some (.ref a))) (eval (.Name x np) X.env) Q E { s' with heap := h3 } := by
      rintro x c np Q E ⟨hg, hdbg, hm | ⟨hm, hv, hnn⟩⟩ q
      · exact ld_glob (X := X.suite a ((a, oe3) :: (X.pn ++ pins))) S3 hg hm q hdbg
      · exact ld_blt (X := X.suite a ((a, oe3) :: (X.pn ++ pins))) S3 hg hm hv q hnn hdbg
    have go : ∀ {hds' : List ExceptHandler} {l' : List Clause}, Mixed X hds' l' → wMix X.K Wo D l' cls d σ' H' → wpAny (model X.prog X.w) X.A (handleBy (.ref a) X.env hds') (SP X pins D) X.xe { s' with heap := h3 } := by
      intro hds' l' hk
      induction hk with
      | nil =>
        intro w
        refine wpAny_handleBy_nil ?_
        obtain ⟨k1, k2, k3, oe, vs, T, oT, ts2, he, hz, hd, h1, hr⟩ := id fl3
        unfold PySem.passOn
        refine wpAny_bind (wpAny_field he hd h1 ?_)
        rw [if_neg (show ¬ ((Value.ref T == Value.none) = true) from by simp)]
        have fin : wpAny (model X.prog X.w) X.A (setFlight (.ref a) X.env.frame) (fun _ s4 => wpAny (model X.prog X.w) X.A (throw (.ref a) : Sem Flow) (SP X pins D) X.xe s4) X.xe { s' with heap := h3 } := by
          rw [hf]
          refine HandSPX.setFlight_upZ fl3 fun h4 hh4 up4 => wpAny_throw (tk _ _ ⟨a, B, sI, pins, σ', H', cls, d, rfl, J, nb, (up.trans up3).trans up4, .inr (.inr (by rw [hs]; exact hh4)), na, os, ag, w⟩)
        first
          | exact wpAny_bind (wpAny_pure (wpAny_bind fin))
          | exact wpAny_bind fin
      | @bare x c ts st sts np pos' hds2 l2 hc hsu r ih =>
        intro w
        obtain ⟨b, hb1, hyes, hno⟩ := w
        refine wpAny_handleBy_cons (codeAny_handlers_test ?_) (by intro q; cases q)
        refine look hc ((PySem.W.exm_one (M := model X.prog X.w) (J3.kIn) LT hb1).here ?_)
        cases b with
        | false => exact ih (hno rfl)
        | true =>
          refine codeAny_handlers_suite (HandSPX.lands_againZ fl3 fun h4 fl4 up4 => ?_)
          have J4 : Inv X pins σ' H' { s' with heap := h4 } := J.landed nb fl4.1 ((up.trans up3).trans up4) os ag
          obtain ⟨oe4, vs4, he4, hz4, hd4⟩ := fl4.there
          refine wpAny_mono ((hsu a oe4 cls d (X.pn ++ pins) hz4 ⟨_, hd4⟩).run [] _ _ H' _ (J4.suite he4 hd4 na nL nF) (hyes rfl a na)) (fun f s6 hsp => ?_) (fun _ _ z => False.elim z)
          cases f with
          | ret u => obtain ⟨v6, σ6, H6, S6, r6, q6⟩ := hsp; exact ⟨_, _, _, S6.unsuite ok, r6, q6⟩
          | next => obtain ⟨σ6, H6, S6, q6⟩ := hsp; exact ⟨_, _, S6.unsuite ok, q6⟩
          | brk => obtain ⟨σ6, H6, S6, q6⟩ := hsp; exact ⟨_, _, S6.unsuite ok, q6⟩
          | cont => obtain ⟨σ6, H6, S6, q6⟩ := hsp; exact ⟨_, _, S6.unsuite ok, q6⟩
      | @named x n i c ts st sts np pos' hds2 l2 hc hN hi hln hsu r ih =>
        intro w
        obtain ⟨b, hb1, hyes, hno⟩ := w
        refine wpAny_handleBy_cons (codeAny_handlers_test ?_) (by intro q; cases q)
        refine look hc ((PySem.W.exm_one (M := model X.prog X.w) (J3.kIn) LT hb1).here ?_)
        cases b with
        | false => exact ih (hno rfl)
        | true =>
          refine codeAny_handlers_suite_as (HandSPX.lands_againZ fl3 fun h4 fl4 up4 => ?_)
          have J4 : Inv X pins σ' H' { s' with heap := h4 } := J.landed nb fl4.1 ((up.trans up3).trans up4) os ag
          obtain ⟨oe4, vs4, he4, hz4, hd4⟩ := fl4.there
          refine store_ok (X := X.suite a ((a, oe4) :: (X.pn ++ pins))) (v := .ref a) (J4.suite he4 hd4 na nL nF) hN hi (.inl hln) rfl (fun s5 S5 => ?_) (.inr hln)
          refine wpAny_mono ((hsu a oe4 cls d (X.pn ++ pins) hz4 ⟨_, hd4⟩).run [] s5 _ H' _ S5 (hyes rfl a na)) (fun f s6 hsp => ?_) (fun _ _ z => False.elim z)
          have end_ : ∀ {σ6 : L2.St} {H6 : Hp} {Q : Shared → Prop}, Inv (X.suite a ((a, oe4) :: (X.pn ++ pins))) [] σ6 H6 s6 → (∀ s7, Inv X pins (σ6.set i none) H6 s7 → Q s7) →
              wpAny (model X.prog X.w) X.A (do bindName X.env n .none; unbindBehindTheSuite X.env n pos') (fun _ s7 => Q s7) X.xe s6 := fun {σ6 H6 Q} S6 hq => gone_ok (S6.unsuite ok) hN hi hln hq
          cases f with
          | ret u => obtain ⟨v6, σ6, H6, S6, r6, q6⟩ := hsp; exact end_ S6 fun s7 J7 => ⟨_, _, _, J7, r6, q6⟩
          | next => obtain ⟨σ6, H6, S6, q6⟩ := hsp; exact end_ S6 fun s7 J7 => ⟨_, _, J7, q6⟩
          | brk => obtain ⟨σ6, H6, S6, q6⟩ := hsp; exact end_ S6 fun s7 J7 => ⟨_, _, J7, q6⟩
          | cont => obtain ⟨σ6, H6, S6, q6⟩ := hsp; exact end_ S6 fun s7 J7 => ⟨_, _, J7, q6⟩
    exact go hm w
  · cases f with
    | ret u => obtain ⟨v, σ', H', J', r, q⟩ := hsp; exact ⟨v, σ', H', J'.ofTry ok, r, q⟩
    | next => obtain ⟨σ', H', J', q⟩ := hsp; exact wpAny_execs_nil ⟨σ', H', J'.ofTry ok, q⟩
    | brk => obtain ⟨σ', H', J', q⟩ := hsp; exact ⟨σ', H', J'.ofTry ok, q⟩
    | cont => obtain ⟨σ', H', J', q⟩ := hsp; exact ⟨σ', H', J'.ofTry ok, q⟩
end

/-! ### the same, of functions -/
def leafs : List Str := ["NameThere", "NoPlace", "NoPiece", "TooMany", "NoAnswer", "Ring", "Barred", "DeedFault"]
def isSub (x c : Str) : Bool := decide (c = "HallError") || decide (c = x)
/-- how the classes stand to one another -/
structure Exm (G : Gx) : Prop where
  ok : ∀ x ∈ leafs, ∀ c ∈ ("HallError" : Str) :: leafs, ∀ C D, G.mg x = some (.ref C) → G.mg c = some (.ref D) → PySem.W.exmOne G.K (.ref C) (.ref D) = some (isSub x c)
def isXc : Sl → Bool
  | .xc _ => true
  | _ => false
abbrev Hd := Str × Option Nat × Fs
def noRt : Fl → Bool
  | .rt (.pv _) => true
  | .rt _ => false
  | _ => true
def unsetE (i : Option Nat) (e : En) : En := match i with
  | none => e
  | some i => e.set i .un
def clean (i : Option Nat) : R Fl → R Fl
  | .ok fl e => if (unsetE i e).all (fun s => !isXc s) = true ∧ noRt fl = true then .ok fl (unsetE i e) else .no
  | _ => .no
def hdl (x : Xc) : List Hd → En → R Fl
  | [], e => .ex x e
  | (c, oi, g) :: r, e => if x.cls ∈ leafs ∧ c ∈ ("HallError" : Str) :: leafs then
      (if isSub x.cls c = true then (match oi with
        | none => clean none (g e)
        | some i => if isRef e[i]? = true then .no else clean (some i) (g (e.set i (.xc x)))) else hdl x r e) else .no
def fTry (f : Fs) (hs : List Hd) : Fs := fun e => match f e with
  | .ex x e1 => if e1.all (fun s => !isXc s) = true then hdl x hs e1 else .no
  | r => r
theorem SlAt.wx {G : Gx} {z : Addr × Value × Option Addr} {J m : Hp} {v : Option V} {s : Sl} (hx : isXc s = false) (h : SlAt G J m v s) : SlAt (G.wx z) J m v s := by
  cases s with
  | xc x => cases hx
  | fh h0 => obtain ⟨p, e, q⟩ := h; exact ⟨p, e, HallAt.gx (G := G) (G' := G.wx z) rfl rfl q⟩
  | fp c => obtain ⟨q, ls, e, k⟩ := h; exact ⟨q, ls, e, PcAt.gx (G := G) (G' := G.wx z) rfl k⟩
  | ob r o => obtain ⟨p, e, k⟩ := h; exact ⟨p, e, ObAt.gx (G := G) (G' := G.wx z) rfl rfl rfl k⟩
  | _ => exact h
theorem SlAt.unwx {G : Gx} {z : Addr × Value × Option Addr} {J m : Hp} {v : Option V} {s : Sl} (hx : isXc s = false) (h : SlAt (G.wx z) J m v s) : SlAt G J m v s := by
  cases s with
  | xc x => cases hx
  | fh h0 => obtain ⟨p, e, q⟩ := h; exact ⟨p, e, HallAt.gx (G := G.wx z) (G' := G) rfl rfl q⟩
  | fp c => obtain ⟨q, ls, e, k⟩ := h; exact ⟨q, ls, e, PcAt.gx (G := G.wx z) (G' := G) rfl k⟩
  | ob r o => obtain ⟨p, e, k⟩ := h; exact ⟨p, e, ObAt.gx (G := G.wx z) (G' := G) rfl rfl rfl k⟩
  | _ => exact h
theorem noXc {e : En} (h : e.all (fun s => !isXc s) = true) {i : Nat} {s : Sl} (hi : e[i]? = some s) : isXc s = false := by
  have := List.all_eq_true.mp h s (List.mem_of_getElem? hi)
  simpa using this
theorem EnvAt.wx {G : Gx} {z : Addr × Value × Option Addr} {P : Pt} {σ : L2.St} {e : En} (en : EnvAt G P σ e) (h : e.all (fun s => !isXc s) = true) : EnvAt (G.wx z) P σ e :=
  ⟨en.len, en.cs, fun i s hi => by
    obtain ⟨v, a, b⟩ := en.at_ i s hi
    exact ⟨v, a, b.wx (noXc h hi)⟩⟩
theorem EnvAt.unwx {G : Gx} {z : Addr × Value × Option Addr} {P : Pt} {σ : L2.St} {e : En} (en : EnvAt (G.wx z) P σ e) (h : e.all (fun s => !isXc s) = true) : EnvAt G P σ e :=
  ⟨en.len, en.cs, fun i s hi => by
    obtain ⟨v, a, b⟩ := en.at_ i s hi
    exact ⟨v, a, b.unwx (noXc h hi)⟩⟩
/-- the clauses, by their functions -/
inductive MixS (X : Cx) (G : Gx) : List Clause → List Hd → Prop
  | nil : MixS X G [] []
  | cons {c : Str} {D : Addr} {oi : Option Nat} {ts : Addr → Value → Option Addr → TS} {g : Fs} {l : List Clause} {hs : List Hd} (hD : G.mg c = some (.ref D)) (hs1 : ∀ a cls d, SS (G.wx (a, cls, d)) W0 (ts a cls d) g) (r : MixS X G l hs) : MixS X G ((.ref D, oi, ts) :: l) ((c, oi, g) :: hs)
theorem endAt_wx {G : Gx} {z : Addr × Value × Option Addr} {D : Ends} {P : Pt} {σ σ2 : L2.St} {H : Hp} {fl : Fl} (hn : noRt fl = true) (h : EndAt G D P σ H fl) (hs : σ2 = σ) : EndAt (G.wx z) D P σ2 H fl := by
  subst hs
  cases fl with
  | rt v =>
    cases v with
    | pv d => exact h
    | _ => cases hn
  | _ => exact h
theorem endAt_gone {G : Gx} {z : Addr × Value × Option Addr} {D : Ends} {P : Pt} {σ : L2.St} {H : Hp} {fl : Fl} {i : Nat} (hn : noRt fl = true) (h : EndAt G D P (σ.set i none) H fl) : EndAt (G.wx z) (gone i D) P σ H fl := by
  cases fl with
  | rt v =>
    cases v with
    | pv d => exact h
    | _ => cases hn
  | _ => exact h
theorem put_xc {G : Gx} {P : Pt} {σ : L2.St} {e : En} {i : Nat} {x : Xc} {a : Addr} {cls : Value} {d : Option Addr} (en : EnvAt (G.wx (a, cls, d)) P σ e) (h : XcD G (P 0) cls d x) (hr : isRef e[i]? = false) :
    EnvAt (G.wx (a, cls, d)) P (σ.set i (some (.ref a))) (e.set i (.xc x)) ∧ FrS P P e (e.set i (.xc x)) σ (σ.set i (some (.ref a))) := by
  refine ⟨⟨by rw [List.length_set, List.length_set]; exact en.len, en.cs, fun j s hj => ?_⟩, Same.refl _, rfl, by rw [List.length_set], fun j hj => ?_⟩
  · by_cases hij : i = j
    · subst hij
      by_cases hlt : i < e.length
      · rw [List.getElem?_set_self hlt] at hj; cases hj
        exact ⟨_, List.getElem?_set_self (by rw [← en.len]; exact hlt), a, cls, d, rfl, rfl, h⟩
      · rw [List.getElem?_eq_none (by rw [List.length_set]; omega)] at hj; cases hj
    · rw [List.getElem?_set_ne hij] at hj
      rw [st_set hij]
      exact en.at_ j s hj
  · have hij : i ≠ j := fun z => by subst z; rw [hr] at hj; cases hj
    rw [List.getElem?_set_ne hij, st_set hij]
    exact ⟨hj, rfl⟩
theorem un_xc {G : Gx} {z : Addr × Value × Option Addr} {P P0 : Pt} {σ σ0 : L2.St} {e e0 : En} {i : Nat} (en : EnvAt (G.wx z) P σ e) (hx : (e.set i .un).all (fun s => !isXc s) = true) : EnvAt G P (σ.set i none) (e.set i .un) := by
  refine EnvAt.unwx (z := z) ⟨by rw [List.length_set, List.length_set]; exact en.len, en.cs, fun j s hj => ?_⟩ hx
  by_cases hij : i = j
  · subst hij
    by_cases hlt : i < e.length
    · rw [List.getElem?_set_self hlt] at hj; cases hj
      exact ⟨_, List.getElem?_set_self (by rw [← en.len]; exact hlt), trivial⟩
    · rw [List.getElem?_eq_none (by rw [List.length_set]; omega)] at hj; cases hj
  · rw [List.getElem?_set_ne hij] at hj
    rw [st_set hij]
    exact en.at_ j s hj
theorem hdl_ok {X : Cx} {G : Gx} {Wo : WX} (ex : Exm G) {P : Pt} {σ : L2.St} {e : En} {D : Ends} {x : Xc} {e1 : En} {P' : Pt} {H' : Hp} {σ' : L2.St} {cls : Value} {d : Option Addr} (w : Wd P' H') (en : EnvAt G P' σ' e1) (fr : FrS P P' e e1 σ σ') (xa : XcAt G P' cls d x)
    (hno : e1.all (fun s => !isXc s) = true) {l : List Clause} {hs : List Hd} (hm : MixS X G l hs) (h : PostS G Wo P e σ D (hdl x hs e1)) : wMix G.K Wo D l cls d σ' H' := by
  induction hm with
  | nil => exact h P' H' σ' cls d w en fr xa
  | @cons c Da oi ts g l hs hD hs1 r ih =>
    have h2 : PostS G Wo P e σ D (if x.cls ∈ leafs ∧ c ∈ ("HallError" : Str) :: leafs then
      (if isSub x.cls c = true then (match (generalizing := false) oi with
        | none => clean none (g e1)
        | some i => if isRef e1[i]? = true then .no else clean (some i) (g (e1.set i (.xc x)))) else hdl x hs e1) else .no) := h
    by_cases hl : x.cls ∈ leafs ∧ c ∈ ("HallError" : Str) :: leafs
    · rw [if_pos hl] at h2
      obtain ⟨C, hC, hcls, _⟩ := id xa
      refine ⟨isSub x.cls c, by rw [hcls]; exact ex.ok _ hl.1 _ hl.2 _ _ hC hD, fun hb a ha => ?_, fun hb => ?_⟩
      · rw [if_pos hb] at h2
        cases oi with
        | none =>
          refine hs1 a cls d P' σ' H' e1 w (en.wx hno) D ?_
          have h3 : PostS G Wo P e σ D (clean none (g e1)) := h2
          cases qg : g e1 with
          | no => rw [qg] at h3; exact h3.elim
          | ex y e2 => rw [qg] at h3; exact h3.elim
          | ok fl e2 =>
            rw [qg] at h3
            have h4 : PostS G Wo P e σ D (if e2.all (fun s => !isXc s) = true ∧ noRt fl = true then .ok fl e2 else .no) := h3
            by_cases hc : e2.all (fun s => !isXc s) = true ∧ noRt fl = true
            · rw [if_pos hc] at h4
              intro P2 H2 σ2 w2 en2 fr2
              exact endAt_wx hc.2 (h4 P2 H2 σ2 w2 (en2.unwx hc.1) (fr.trans fr2)) rfl
            · rw [if_neg hc] at h4; exact h4.elim
        | some i =>
          have h3 : PostS G Wo P e σ D (if isRef e1[i]? = true then .no else clean (some i) (g (e1.set i (.xc x)))) := h2
          by_cases hri : isRef e1[i]? = true
          · rw [if_pos hri] at h3; exact h3.elim
          · rw [if_neg hri] at h3
            have hr : isRef e1[i]? = false := by simpa using hri
            obtain ⟨k1, k2⟩ := put_xc (a := a) (EnvAt.wx (z := (a, cls, d)) en hno) xa hr
            refine hs1 a cls d P' _ H' _ w k1 (gone i D) ?_
            cases qg : g (e1.set i (.xc x)) with
            | no => rw [qg] at h3; exact h3.elim
            | ex y e2 => rw [qg] at h3; exact h3.elim
            | ok fl e2 =>
              rw [qg] at h3
              have h4 : PostS G Wo P e σ D (if (e2.set i .un).all (fun s => !isXc s) = true ∧ noRt fl = true then .ok fl (e2.set i .un) else .no) := h3
              by_cases hc : (e2.set i .un).all (fun s => !isXc s) = true ∧ noRt fl = true
              · rw [if_pos hc] at h4
                intro P2 H2 σ2 w2 en2 fr2
                refine endAt_gone hc.2 (h4 P2 H2 _ w2 (un_xc (P0 := P2) (σ0 := σ2) (e0 := e2) en2 hc.1) ⟨fr.zero.trans fr2.zero, fr2.one.trans fr.one, by rw [List.length_set, fr2.len, List.length_set, fr.len], fun j hj => ?_⟩)
                obtain ⟨z1, z2⟩ := fr.ref j hj
                have hij : i ≠ j := fun z => by subst z; rw [hr] at z1; cases z1
                obtain ⟨z3, z4⟩ := fr2.ref j (by rw [List.getElem?_set_ne hij]; exact z1)
                rw [List.getElem?_set_ne hij, st_set hij]
                rw [st_set hij] at z4
                exact ⟨z3, z4.trans z2⟩
              · rw [if_neg hc] at h4; exact h4.elim
      · rw [if_neg (by rw [hb]; exact Bool.false_ne_true)] at h2
        exact ih h2
    · rw [if_neg hl] at h2; exact h2.elim
theorem ss_try {X : Cx} {G : Gx} {Wo : WX} {tb : WX → TS} {fb : Fs} {l : List Clause} {hs : List Hd} (ex : Exm G) (hbody : ∀ W, SS G W (tb W) fb) (hm : MixS X G l hs) : SS G Wo (fun D σ H => tb (wMix G.K Wo D l) D σ H) (fTry fb hs) := fun P σ H e w en D h => by
  refine hbody _ P σ H e w en D ?_
  have h' : PostS G Wo P e σ D (match fb e with
    | .ex x e1 => if e1.all (fun s => !isXc s) = true then hdl x hs e1 else .no
    | r => r) := h
  cases q : fb e with
  | no => rw [q] at h'; exact h'
  | ok fl e1 => rw [q] at h'; exact h'
  | ex x e1 =>
    rw [q] at h'
    have h2 : PostS G Wo P e σ D (if e1.all (fun s => !isXc s) = true then hdl x hs e1 else .no) := h'
    by_cases hc : e1.all (fun s => !isXc s) = true
    · rw [if_pos hc] at h2
      intro P' H' σ' cls d a b c t
      exact hdl_ok ex a b c t hc hm h2
    · rw [if_neg hc] at h2; exact h2.elim
/-- clauses, text and function at once -/
inductive Mixx (X : Cx) (G : Gx) : List ExceptHandler → List Clause → List Hd → Prop
  | nil : Mixx X G [] [] []
  | bare {x : Str} {D : Addr} {ts : Addr → Value → Option Addr → TS} {g : Fs} {st : Stmt} {sts : List Stmt} {p1 p2 : Pos} {hds : List ExceptHandler} {l : List Clause} {hs : List Hd} (hD : G.mg x = some (.ref D)) (hM : G.mg = X.mg) (hg : Gl X x) (hdb : (x == ("__debug__" : Str)) = false)
      (hsu : ∀ (a : Addr) (oe : Obj) (cls : Value) (d : Option Addr) (pn : List (Addr × Obj)), Zc cls d oe → (∃ vs, oe.data = .fields vs) → PBx (X.suite a ((a, oe) :: pn)) (G.wx (a, cls, d)) W0 (st :: sts) (ts a cls d) g) (r : Mixx X G hds l hs) :
      Mixx X G (.ExceptHandler (some (.Name x p1)) none (st :: sts) p2 :: hds) ((.ref D, none, ts) :: l) ((x, none, g) :: hs)
  | named {x n : Str} {i : Nat} {D : Addr} {ts : Addr → Value → Option Addr → TS} {g : Fs} {st : Stmt} {sts : List Stmt} {p1 p2 : Pos} {hds : List ExceptHandler} {l : List Clause} {hs : List Hd} (hD : G.mg x = some (.ref D)) (hM : G.mg = X.mg) (hg : Gl X x) (hdb : (x == ("__debug__" : Str)) = false)
      (hN : X.N.Nodup) (hi : X.N[i]? = some n) (hl : X.env.kindOf n = some .local)
      (hsu : ∀ (a : Addr) (oe : Obj) (cls : Value) (d : Option Addr) (pn : List (Addr × Obj)), Zc cls d oe → (∃ vs, oe.data = .fields vs) → PBx (X.suite a ((a, oe) :: pn)) (G.wx (a, cls, d)) W0 (st :: sts) (ts a cls d) g) (r : Mixx X G hds l hs) :
      Mixx X G (.ExceptHandler (some (.Name x p1)) (some n) (st :: sts) p2 :: hds) ((.ref D, some i, ts) :: l) ((x, some i, g) :: hs)
theorem Mixx.text {X : Cx} {G : Gx} {hds : List ExceptHandler} {l : List Clause} {hs : List Hd} (m : Mixx X G hds l hs) : Mixed X hds l := by
  induction m with
  | nil => exact .nil
  | bare hD hM hg hdb hsu r ih => exact .bare ⟨hg, hdb, .inl (by rw [← hM]; exact hD)⟩ (fun a oe cls d pn hz hf => (hsu a oe cls d pn hz hf).ps) ih
  | named hD hM hg hdb hN hi hl hsu r ih => exact .named ⟨hg, hdb, .inl (by rw [← hM]; exact hD)⟩ hN hi hl (fun a oe cls d pn hz hf => (hsu a oe cls d pn hz hf).ps) ih
theorem Mixx.fns {X : Cx} {G : Gx} {hds : List ExceptHandler} {l : List Clause} {hs : List Hd} (m : Mixx X G hds l hs) : MixS X G l hs := by
  induction m with
  | nil => exact .nil
  | bare hD hM hg hdb hsu r ih => exact .cons hD (fun a cls d => (hsu a { cls := cls, dict := d, data := .fields #[] } cls d [] ⟨rfl, rfl⟩ ⟨_, rfl⟩).ss) ih
  | named hD hM hg hdb hN hi hl hsu r ih => exact .cons hD (fun a cls d => (hsu a { cls := cls, dict := d, data := .fields #[] } cls d [] ⟨rfl, rfl⟩ ⟨_, rfl⟩).ss) ih
theorem psx_try {X : Cx} {G : Gx} {Wo : WX} {body : List Stmt} {h0 : ExceptHandler} {hds : List ExceptHandler} {l : List Clause} {hs : List Hd} {pos : Pos} {tb : WX → TS} {fb : Fs} (ex : Exm G) (hK : G.K = X.K) (h1 : X.stack = X.env :: X.outer) (h2 : X.env.frame = some X.env.locals) (tk : Takes X Wo)
    (hb : ∀ (W : WX) (pn : List (Addr × Obj)) (xe : Value → Shared → Prop), Takes (X.tr pn xe) W → PBx (X.tr pn xe) G W body (tb W) fb) (m : Mixx X G (h0 :: hds) l hs) :
    PSx X G Wo (.Try body (h0 :: hds) [] [] pos) (fun D σ H => tb (wMix X.K Wo D l) D σ H) (fTry fb hs) :=
  ⟨ps_try_mix h1 h2 tk (fun W pn xe a _ => (hb W pn xe a).ps) m.text, by rw [← hK]; exact ss_try ex (fun W => (hb W [] (fun _ _ => True) fun _ _ _ => trivial).ss) m.fns⟩
/-! ### raise C('..') -/
abbrev VEb : List Value := [.type "ValueError", .type "Exception", .type "BaseException", .type "object"]
structure ExA (G : Gx) (x : Str) : Prop where
  ex : ∃ C, G.mg x = some (.ref C) ∧ PySem.W.excIn G.K C VEb "ValueError.__new__" = true ∧ PySem.W.keepIn G.K (.ref C) = true ∧ PySem.W.subIn G.K (.ref C) (.type "BaseException") = some true ∧ PySem.W.typeIn G.K (.ref C) = some (.type "type")
theorem ExA.wC {G : Gx} {x : Str} (h : ExA G x) (C : Hp) : ExA (G.wC C) x := ⟨h.ex⟩
theorem Exm.wC {G : Gx} (h : Exm G) (C : Hp) : Exm (G.wC C) := ⟨h.ok⟩
def fRaise (x : Str) : Fs := fun e => .ex ⟨x, []⟩ e
def tRaise (G : Gx) (x : Str) (W : WX) : TS := fun _ σ H => ∀ C, G.mg x = some (.ref C) → W (.ref C) none σ H
theorem psx_raise {X : Cx} {G : Gx} {W : WX} {x m : Str} {j : Nat} {p p2 pos pos2 : Pos} (A : ExA G x) (tk : Takes X W) (hc : X.calm = true) (hK : G.K = X.K) (hM : G.mg = X.mg) (hg : Gl X x) (hdb : (x == ("__debug__" : Str)) = false := by decide) :
    PSx X G W (.Raise (some (.Call (.Name x p) [.Constant (.str m) j p2] [] pos)) none pos2) (tRaise G x W) (fRaise x) := by
  obtain ⟨C, h1, h2, h3, h4, h5⟩ := A.ex
  refine ⟨⟨fun pins s σ H D I h => ?_⟩, fun P σ H e w en D h C' hC' => h P H σ (.ref C') none w en (FrS.refl _ _ _) ⟨C', hC', rfl, .inl ⟨rfl, rfl⟩⟩⟩
  have g1 : X.mg x = some (.ref C) := by rw [← hM]; exact h1
  rw [hK] at h2 h3 h4 h5
  exact (ps_raise hc tk (pmk_own PySem.F.excBase_ValueError h2 g1 h3 (raises_own h4 h5) hg hdb)).run pins s σ H D I (h C h1)
end Fw
namespace Fw
open PySem PySem.Spec PyProof.Rows L2

/-! ### a hall's methods that only look -/
structure HallTxt (G : Gx) : Prop where
  cH : Cls G.K G.CH
  nH : ∀ f ∈ fldsOf true, NoAttr G.K G.CH f
  cP : Cls G.K G.CP
  nP : ∀ f ∈ (["name", "place", "deed", "by", "ahead", "behind", "needs", "bars"] : List Str), NoAttr G.K G.CP f
  gH : G.mg "Hall" = some (.ref G.CH)
  gP : G.mg "Piece" = some (.ref G.CP)
def HallM.names (h : HallM) : List Str := h.pieces.map (·.name)
def HallM.keys (h : HallM) : List Str := h.kinds.map (·.1)
def HallM.find (h : HallM) (n : Str) : Option PieceM := h.pieces.find? fun c => decide (c.name = n)
theorem PcsAt.len {G : Gx} {J m : Hp} : ∀ {qs : List Addr} {ls : List (List Addr)} {cs : List PieceM}, PcsAt G J m qs ls cs → qs.length = cs.length
  | _, _, _, .nil => rfl
  | _, _, _, .cons _ t => congrArg (· + 1) t.len
theorem PcsAt.get {G : Gx} {J m : Hp} : ∀ {qs : List Addr} {ls : List (List Addr)} {cs : List PieceM} {j : Nat} {q : Addr}, PcsAt G J m qs ls cs → qs[j]? = some q → ∃ l c, cs[j]? = some c ∧ ls[j]? = some l ∧ PcAt G J m q l c
  | _, _, _, _, _, .nil, h => by simp at h
  | _, _, _, 0, _, .cons h1 _, h => by simp at h; subst h; exact ⟨_, _, rfl, rfl, h1⟩
  | _, _, _, j + 1, _, .cons _ t, h => by
    obtain ⟨l, c, a, b, d⟩ := PcsAt.get (j := j) t (by simpa using h)
    exact ⟨l, c, by simpa using a, by simpa using b, d⟩
theorem take_succ_map {α β : Type} {f : α → β} {xs : List α} {i : Nat} {x : α} (h : xs[i]? = some x) : (xs.take (i + 1)).map f = (xs.take i).map f ++ [f x] := by
  rw [List.take_succ, h]
  simp
theorem map_ref_get {qs : List Addr} {i : Nat} {x : V} (h : (qs.map V.ref)[i]? = some x) : ∃ q, qs[i]? = some q ∧ x = .ref q := by
  rw [List.getElem?_map] at h
  cases e : qs[i]? with
  | none => rw [e] at h; cases h
  | some q => rw [e] at h; exact ⟨q, rfl, (Option.some.inj h).symm⟩
/-- the one hall of a frozen call -/
theorem frozen_at {G : Gx} {C : Hp} {P : Pt} {vs : List V} {h : HallM} {rest : En} {H : Hp} (w : Wd P H) (en : EnvAt (G.wC C) P (vs.map some) (.fh h :: rest)) :
    ∃ p ws r, vs = .ref p :: ws ∧ HallOk (G.wC C) (P 0) H p h r ∧ ws.length = rest.length ∧ HallOk (G.wC C) (P 0) C p h r := by
  obtain ⟨v, hv, p, e, r, k⟩ := en.at_ 0 _ rfl
  cases vs with
  | nil => simp at hv
  | cons x ws =>
    have hx : some x = v := by simpa using hv
    rw [e] at hx
    cases hx
    exact ⟨p, ws, r, rfl, k.heap (en.cs.trans (w.sub 1)), by have := en.len; simp at this; exact this.symm, k⟩
theorem slot_pv {G : Gx} {P : Pt} {vs : List V} {ss : En} {i : Nat} {d : PD} (en : EnvAt G P (vs.map some) ss) (h : ss[i]? = some (.pv d)) : ∃ v, vs[i]? = some v ∧ Dq (P 0) v d := by
  obtain ⟨v, hv, x, e, q⟩ := en.at_ i _ h
  rw [List.getElem?_map] at hv
  cases z : vs[i]? with
  | none => rw [z] at hv; cases hv
  | some y => rw [z] at hv; have := Option.some.inj hv; rw [e] at this; cases this; exact ⟨_, rfl, q⟩
/-- names() -/
def F_names : Fx := fun ss => match ss with
  | [.fh h] => if h.pieces.length ≤ 1000 then .ok (.ow (.ls false (h.names.map PyData.str))) [.un] else .no
  | _ => .no
def t_names (K : PySem.W.Frag) : TS := tRet (tLc (iList K (tFld K (tVar 0) "hung")) (gName 1) tYes (tFld K (tVar 1) "name") [1])
theorem un_env {G : Gx} {P : Pt} {σ : L2.St} {e : En} (en : EnvAt G P σ e) : EnvAt G P σ (e.map fun _ => .un) :=
  ⟨by rw [List.length_map]; exact en.len, en.cs, fun i s hi => by
    rw [List.getElem?_map] at hi
    cases z : e[i]? with
    | none => rw [z] at hi; cases hi
    | some s0 => rw [z] at hi; cases hi; obtain ⟨v, a, _⟩ := en.at_ i s0 z; exact ⟨v, a, trivial⟩⟩
theorem pure_names {G : Gx} (T : HallTxt G) {vs : List V} {H : Hp} {Q : VK} {E : XK} (h : spF G 1 F_names vs H Q E) : t_names G.K { nx := fun _ H' => Q .non H', rt := Q } (L2.start ["self", "piece"] vs) H := by
  obtain ⟨C, P, ss, w, en, hl, post⟩ := h
  unfold F_names at post
  split at post
  · rename_i h
    split at post
    · rename_i hsz
      obtain ⟨p, ws, r, rfl, k, hw, _⟩ := frozen_at w en
      cases ws with
      | cons _ _ => cases hw
      | nil =>
        refine ⟨_, rfl, p, _, _, _, _, rfl, k.ins, T.cH, T.nH "hung" (by decide), rfl, r.ha, rfl, ⟨_, SqL.of k.hung⟩, fun D hD => ?_⟩
        have hlen : r.qs.length = h.pieces.length := k.pcs.len
        refine lc_list (K := G.K) (a := r.ha) (xs := r.qs.map V.ref) (fun i H' => H' = upd H D (.lst ((h.names.take i).map V.str))) rfl (fun i H' _ e => ?_) (fun i x H' hx e => ?_) (fun H' e => ?_)
        · subst e
          exact SqL.of (by rw [upd_ne (ne_of_none k.hung hD)]; exact k.hung)
        · subst e
          obtain ⟨q, hq, rfl⟩ := map_ref_get hx
          obtain ⟨l, c, hc, _, pc⟩ := k.pcs.get hq
          obtain ⟨dq, a1, a2, a3, a4, wd, _, _, hins, _⟩ := pc.ex
          refine ⟨rfl, _, rfl, q, _, _, _, _, rfl, (by rw [upd_ne (ne_of_none hins hD)]; exact hins), T.cP, T.nP "name" (by decide), rfl, _, upd_same, ?_, ?_⟩
          · have : ((h.names.take i).map V.str).length ≤ 1000 := by
              rw [List.length_map, List.length_take]
              unfold HallM.names
              rw [List.length_map]; omega
            exact Nat.lt_of_le_of_lt this (by decide)
          · rw [upd_upd]
            have hn : h.names[i]? = some c.name := by unfold HallM.names; rw [List.getElem?_map, hc]; rfl
            rw [take_succ_map hn]
        · subst e
          have hf : h.names.take (r.qs.map V.ref).length = h.names := by
            apply List.take_of_length_le
            unfold HallM.names
            rw [List.length_map, List.length_map]; omega
          rw [hf]
          obtain ⟨b1, b2, b3, b4⟩ := new_res (xs := h.names.map PyData.str) (vs := h.names.map V.str) w en hD (DqAll.strs _)
          refine post _ _ _ b1 (un_env b2) ⟨b3.zero, b3.one, fun i hi => ?_⟩ b4
          match i, hi with
          | 0, hi => cases hi
    · exact post.elim
  · exact post.elim
end Fw
namespace Fw
open PySem PySem.Spec PyProof.Rows L2

theorem ifT {c : Bool} {A B : Prop} (hc : c = true) (h : A) : if c = true then A else B := by rw [if_pos hc]; exact h
theorem ifF {c : Bool} {A B : Prop} (hc : c = false) (h : B) : if c = true then A else B := by rw [hc, if_neg Bool.false_ne_true]; exact h
/-- the slots behind: nothing of ours -/
theorem un_fr {P P' : Pt} {e : En} (f : Fr P P' e e) (h : e.all (fun s => !isRef (some s)) = true) (e2 : En) : Fr P P' e e2 := ⟨f.zero, f.one, fun i hi => by
  cases z : e[i]? with
  | none => rw [z] at hi; cases hi
  | some s =>
    have := List.all_eq_true.mp h s (List.mem_of_getElem? z)
    rw [z] at hi; rw [hi] at this; cases this⟩
/-! ### look_up -/
def F_look : Fx := fun ss => match ss with
  | [.fh h, .pv (.str n)] => (match h.find n with
    | some c => .ok (.ow (.fp c)) [.un, .un]
    | none => .ex ⟨"NoPiece", []⟩ [.un, .un])
  | _ => .no
def t_look (G : Gx) (W : WX) : TS := tSeq (tFor (iList G.K (tFld G.K (tVar 0) "hung")) (gName 2) (tIfS (tTest (tOp rEq (tFld G.K (tVar 2) "name") (tVar 1))) (tRet (tVar 2)) tNext)) (tRaise G "NoPiece" W)
theorem find_at {ps : List PieceM} {n : Str} {i : Nat} {c : PieceM} (h : ps[i]? = some c) (hc : c.name = n) (hno : ∀ d ∈ ps.take i, d.name ≠ n) : ps.find? (fun c => decide (c.name = n)) = some c := by
  induction ps generalizing i with
  | nil => simp at h
  | cons a ps ih =>
    cases i with
    | zero =>
      simp at h; subst h
      rw [List.find?_cons_of_pos (by simpa using hc)]
    | succ i =>
      have ha : a.name ≠ n := hno a (by simp)
      rw [List.find?_cons_of_neg (by simpa using ha)]
      exact ih (by simpa using h) fun d hd => hno d (by rw [List.take_succ_cons]; exact List.mem_cons_of_mem _ hd)
theorem find_no {ps : List PieceM} {n : Str} (hno : ∀ d ∈ ps, d.name ≠ n) : ps.find? (fun c => decide (c.name = n)) = none := by
  rw [List.find?_eq_none]
  intro d hd
  simpa using hno d hd
theorem pure_look {G : Gx} (T : HallTxt G) {vs : List V} {H : Hp} {Q : VK} {E : XK} (h : spF G 2 F_look vs H Q E) : t_look G (WXof E) { nx := fun _ H' => Q .non H', rt := Q } (L2.start ["self", "name", "piece"] vs) H := by
  obtain ⟨C, P, ss, w, en, hl, post⟩ := h
  unfold F_look at post
  split at post
  · rename_i h n
    obtain ⟨p, ws, r, rfl, k, hw, kC⟩ := frozen_at w en
    obtain ⟨v, hv, qv⟩ := slot_pv (i := 1) en rfl
    cases qv
    have hws : ws = [V.str n] := by
      match ws, hw with
      | [x], _ => have : x = V.str n := by simpa using hv
                  rw [this]
    subst hws
    have e2 := un_env en
    have fr2 : Fr P P [.fh h, .pv (.str n)] [.un, .un] := un_fr (Fr.refl _ _) rfl _
    refine ⟨_, rfl, p, _, _, _, _, rfl, k.ins, T.cH, T.nH "hung" (by decide), rfl, r.ha, rfl, ⟨_, SqL.of k.hung⟩,
      for_list (K := G.K) (a := r.ha) (xs := r.qs.map V.ref) (fun i σ H' => H' = H ∧ (∃ v2, σ = [some (.ref p), some (.str n), v2]) ∧ ∀ d ∈ h.pieces.take i, d.name ≠ n) ⟨rfl, ⟨none, rfl⟩, by simp⟩ ?_ ?_ ?_⟩
    · rintro i σ H' _ ⟨rfl, _, _⟩
      exact SqL.of k.hung
    · rintro i x σ H' hx ⟨rfl, ⟨v2, rfl⟩, hno⟩
      obtain ⟨q, hq, rfl⟩ := map_ref_get hx
      obtain ⟨l, c, hc, _, pc⟩ := k.pcs.get hq
      obtain ⟨_, c2, hc2, _, pcC⟩ := kC.pcs.get hq
      rw [hc] at hc2; cases hc2
      obtain ⟨dq, a1, a2, a3, a4, wd, _, _, hins, _⟩ := pc.ex
      refine ⟨_, rfl, q, _, _, _, _, rfl, hins, T.cP, T.nP "name" (by decide), rfl, _, rfl, rfl, _, rfl, ?_⟩
      by_cases hn : c.name = n
      · refine ifT (by simpa using hn) ?_
        have hf : h.find n = some c := find_at hc hn hno
        rw [hf] at post
        exact ⟨_, rfl, post P _ (.ref q) w e2 fr2 ⟨q, _, rfl, pcC⟩⟩
      · refine ifF (by simpa using hn) ?_
        refine ⟨rfl, ⟨_, rfl⟩, fun d hd => ?_⟩
        rw [List.take_succ, hc] at hd
        rcases List.mem_append.mp hd with hd | hd
        · exact hno d hd
        · simp at hd; subst hd; exact hn
    · rintro σ H' ⟨rfl, ⟨v2, rfl⟩, hno⟩
      have hf : h.find n = none := find_no fun d hd => hno d (by
        rw [List.length_map, k.pcs.len, List.take_length]; exact hd)
      rw [hf] at post
      exact fun Ca hC => post P _ (.ref Ca) none w e2 fr2 ⟨Ca, hC, rfl, .inl ⟨rfl, rfl⟩⟩
  · exact post.elim
/-! ### at -/
def HallM.at (h : HallM) (place : Str) : List Str := (h.pieces.filter fun c => decide (c.place = place) && !decide (c.name ∈ h.off)).map (·.name)
def F_at : Fx := fun ss => match ss with
  | [.fh h, .pv (.str n)] => if h.pieces.length ≤ 1000 then (if n ∈ h.keys then .ok (.ow (.ls false ((h.at n).map PyData.str))) [.un, .un] else .ex ⟨"NoPlace", []⟩ [.un, .un]) else .no
  | _ => .no
def t_at (G : Gx) (W : WX) : TS := tSeq (tIfS (tB (tDNotIn (tVar 1) (tFld G.K (tVar 0) "kinds"))) (tRaise G "NoPlace" W) tNext)
  (tRet (tLc (iList G.K (tFld G.K (tVar 0) "hung")) (gName 2) (tAnd (tTest (tOp rEq (tFld G.K (tVar 2) "place") (tVar 1))) (tB (tDNotIn (tFld G.K (tVar 2) "name") (tFld G.K (tVar 0) "off")))) (tFld G.K (tVar 2) "name") [2]))
theorem valV_str {α : Type} (f : α → Str) (g : α → V) (xs : List α) (n : Str) : (valV (xs.map fun z => ((Sum.inr (f z) : Key), g z)) (Sum.inr n)).isSome = decide (n ∈ xs.map f) := by
  rw [← valV_any]
  induction xs with
  | nil => simp
  | cons a xs ih =>
    rw [List.map_cons, List.any_cons, ih, List.map_cons]
    by_cases h : f a = n
    · subst h; simp
    · have : ¬ n = f a := fun z => h z.symm
      simp [h, this]
theorem pure_at {G : Gx} (T : HallTxt G) {vs : List V} {H : Hp} {Q : VK} {E : XK} (h : spF G 2 F_at vs H Q E) : t_at G (WXof E) { nx := fun _ H' => Q .non H', rt := Q } (L2.start ["self", "place", "piece"] vs) H := by
  obtain ⟨C, P, ss, w, en, hl, post⟩ := h
  unfold F_at at post
  split at post
  · rename_i h n
    split at post
    · rename_i hsz
      obtain ⟨p, ws, r, rfl, k, hw, kC⟩ := frozen_at w en
      obtain ⟨v, hv, qv⟩ := slot_pv (i := 1) en rfl
      cases qv
      have hws : ws = [V.str n] := by
        match ws, hw with
        | [x], _ => have : x = V.str n := by simpa using hv
                    rw [this]
      subst hws
      have fr2 : ∀ P', Fr P P' [.fh h, .pv (.str n)] [.fh h, .pv (.str n)] → Fr P P' [.fh h, .pv (.str n)] [.un, .un] := fun P' f => un_fr f rfl _
      have hlen : r.qs.length = h.pieces.length := k.pcs.len
      have hv1 := valV_str (fun z : Str × Str => z.1) (fun z => V.str z.2) h.kinds n
      refine ⟨_, rfl, _, rfl, p, _, _, _, _, rfl, k.ins, T.cH, T.nH "kinds" (by decide), rfl, r.ka, _, rfl, DGet.k (k := Sum.inr n) k.kinds, _, rfl, ?_⟩
      by_cases hk : n ∈ h.keys
      · have hk' : n ∈ h.kinds.map fun z => z.1 := hk
        rw [if_pos hk] at post
        refine ifF (by rw [hv1, decide_eq_true hk']; rfl) ?_
        refine ⟨_, rfl, p, _, _, _, _, rfl, k.ins, T.cH, T.nH "hung" (by decide), rfl, r.ha, rfl, ⟨_, SqL.of k.hung⟩, fun D hD => ?_⟩
        refine lc_list (K := G.K) (a := r.ha) (xs := r.qs.map V.ref) (fun i H' => H' = upd H D (.lst ((((h.pieces.take i).filter fun c => decide (c.place = n) && !decide (c.name ∈ h.off)).map (·.name)).map V.str))) rfl (fun i H' _ e => ?_) (fun i x H' hx e => ?_) (fun H' e => ?_)
        · subst e
          exact SqL.of (by rw [upd_ne (ne_of_none k.hung hD)]; exact k.hung)
        · subst e
          obtain ⟨q, hq, rfl⟩ := map_ref_get hx
          obtain ⟨l, c, hc, _, pc⟩ := k.pcs.get hq
          obtain ⟨dq, a1, a2, a3, a4, wd, _, _, hins, _⟩ := pc.ex
          have hins' := hins
          have step : (h.pieces.take (i + 1)) = h.pieces.take i ++ [c] := by rw [List.take_succ, hc]; rfl
          have kp : ∀ {b : Addr} {o : HO} (l : List V), H b = some o → upd H D (.lst l) b = some o := fun {b o} l e => by rw [upd_ne (ne_of_none e hD)]; exact e
          refine ⟨rfl, _, rfl, q, _, _, _, _, rfl, kp _ hins, T.cP, T.nP "place" (by decide), rfl, _, rfl, rfl, _, rfl, ?_⟩
          by_cases hp : c.place = n
          · refine ifT (by simpa using hp) ?_
            have hv2 := valV_str (fun z : Str => z) (fun z => V.bl true) h.off c.name
            rw [List.map_id'] at hv2
            refine ⟨_, rfl, q, _, _, _, _, rfl, kp _ hins, T.cP, T.nP "name" (by decide), rfl, _, rfl, p, _, _, _, _, rfl, kp _ k.ins, T.cH, T.nH "off" (by decide), rfl, r.oa, _, rfl, DGet.k (k := Sum.inr c.name) (kp _ k.off), _, rfl, ?_⟩
            by_cases ho : c.name ∈ h.off
            · refine ifF (by rw [hv2, decide_eq_true ho]; rfl) ?_
              rw [step, List.filter_append]
              simp [ho]
            · refine ifT (by rw [hv2, decide_eq_false ho]; rfl) ?_
              refine ⟨_, rfl, q, _, _, _, _, rfl, kp _ hins, T.cP, T.nP "name" (by decide), rfl, _, upd_same, ?_, ?_⟩
              · rw [List.length_map, List.length_map]
                have z := List.length_filter_le (fun c : PieceM => decide (c.place = n) && !decide (c.name ∈ h.off)) (h.pieces.take i)
                rw [List.length_take] at z
                exact Nat.lt_of_le_of_lt (show _ ≤ 1000 by omega) (by decide)
              · rw [upd_upd, step, List.filter_append]
                simp [hp, ho]
          · refine ifF (by simpa using hp) (ifF rfl ?_)
            rw [step, List.filter_append]
            simp [hp]
        · subst e
          have hf : h.pieces.take (r.qs.map V.ref).length = h.pieces := by
            apply List.take_of_length_le
            rw [List.length_map]; omega
          rw [hf]
          obtain ⟨b1, b2, b3, b4⟩ := new_res (xs := (h.at n).map PyData.str) (vs := (h.at n).map V.str) w en hD (DqAll.strs _)
          exact post _ _ _ b1 (un_env b2) (fr2 _ b3) b4
      · have hk' : ¬ n ∈ h.kinds.map fun z => z.1 := hk
        rw [if_neg hk] at post
        refine ifT (by rw [hv1, decide_eq_false hk']; rfl) ?_
        exact fun Ca hC => post P _ (.ref Ca) none w (un_env en) (fr2 _ (Fr.refl _ _)) ⟨Ca, hC, rfl, .inl ⟨rfl, rfl⟩⟩
    · exact post.elim
  · exact post.elim
end Fw
namespace PySem.AutoSeq1
open PySem PySem.Spec PyProof.Rows
theorem ext_tup (l : Addr) (items : Array Value) (n : Nat) (b : Addr) (dd : Option Addr) (sl : Array (Option Value)) (items2 : Array Value) (n2 : Nat) (hs0 : ¬(!items.isEmpty && Builtin.List.listTooLong (items.size + items2.size)) = true) (hs1 : items.size ≤ sizeLine) (hs2 : items.size + items2.size ≤ sizeLine + 1) :
    Meets (Builtin.«list.extend» ⟨[.ref l, .ref b], []⟩) (fun _ R s => s.heap.get? l = some { cls := .type "list", dict := none, data := .seq items n, slots := #[] } ∧ s.heap.get? b = some { cls := .type "tuple", dict := dd, data := .seq items2 n2, slots := sl } ∧
      R (.ok (.ret Value.none)) { s with heap := s.heap.update l (Obj.mapSeq fun x => x ++ items2), toks := s.toks }) :=
  .of_wp fun prog w A R s h => by
    obtain ⟨hp, g, d, tk, os⟩ := s
    obtain ⟨hl, hb, h⟩ := h
    have f1 := idx_int
    have f2 := sub_tuple_tuple
    have f3 := sub_list_list
    have f4 := sub_tuple_list
    have f5 := sub_list_tuple
    have hz' : (items ++ items2).size ≤ sizeLine + 1 := by rw [Array.size_append]; exact hs2
    wp_walk using (wpAny_updateSeq hl rfl (hz := hs1) (_hz' := hz')), wpAny_loadPart' hl, wpAny_loadPart' hb
    exact ⟨_, rfl, h⟩
end PySem.AutoSeq1
namespace Fw
open PySem PySem.Spec PyProof.Rows L2
/-- xs.extend(ys), ys a list or a tuple -/
def rExtT : V → List V → Hp → VK → Prop := fun x vs H Q => ∃ l b xs zs, x = .ref l ∧ vs = [.ref b] ∧ H l = some (.lst xs) ∧ H b = some (.tup zs) ∧ xs.length + zs.length ≤ sizeLine ∧ Q .non (upd H l (.lst (xs ++ zs)))
theorem mt_extT {X : Cx} : MtM X "list.extend" rExtT := by
  intro pins s σ H x vs v us Q I rx rv h
  obtain ⟨l, b, xs, zs, rfl, rfl, hH, hB, hz, q⟩ := h
  cases rx
  obtain ⟨u, rfl, ru⟩ := rv.one
  cases ru
  obtain ⟨z, its, n, r, hl, e⟩ := I.lstM hH
  obtain ⟨its2, r2, ⟨o2, e2, c2, n2, d2⟩, hl2⟩ := I.tuple (SqT.of hB)
  obtain ⟨oc, od, odt, osl⟩ := o2
  simp only at c2 d2
  subst c2 d2
  have len2 := r2.length
  have hsz : its.toArray.size + its2.toArray.size ≤ sizeLine := by rw [List.size_toArray, List.size_toArray]; omega
  have hlong : ¬ (!its.toArray.isEmpty && Builtin.List.listTooLong (its.toArray.size + its2.toArray.size)) = true := by
    rw [notLongL hsz, Bool.and_false]; exact Bool.false_ne_true
  refine call_meets PySem.F.slot_list_extend ⟨_, e, rfl⟩ PySem.F.entry_list_extend (PySem.F.args_list_extend_2 _ _) (AutoSeq1.ext_tup l its.toArray n b od osl its2.toArray n2 hlong (by rw [List.size_toArray]; omega) (by omega)) ⟨e, e2, ?_⟩
  refine ⟨.non, _, I.lset (its' := its ++ its2) hH e (by simp) (r.append r2) ?_, rfl, q⟩
  rw [List.length_append]; omega
def rExtA : V → List V → Hp → VK → Prop := fun x vs H Q => rExtend x vs H Q ∨ rExtT x vs H Q
theorem mt_extA {X : Cx} : MtM X "list.extend" rExtA := by
  intro pins s σ H x vs v us Q I rx rv h
  rcases h with h | h
  · exact mt_extend pins s σ H x vs v us Q I rx rv h
  · exact mt_extT pins s σ H x vs v us Q I rx rv h
end Fw
namespace Fw
open PySem PySem.Spec PyProof.Rows L2

/-! ### a hall's dicts, by rules -/
inductive HA where
  | kinds
  | rules
  | off
def HA.nm : HA → Str
  | .kinds => "kinds"
  | .rules => "rules"
  | .off => "off"
def HallM.ent (h : HallM) : HA → List (Str × PD)
  | .kinds => h.kinds.map fun z => (z.1, .str z.2)
  | .rules => h.rules.map fun z => (z.1, .str z.2)
  | .off => h.off.map fun z => (z, .bool true)
def vOf : PD → V
  | .str s => .str s
  | .bool b => .bl b
  | _ => .non
def HallR.da (r : HallR) : HA → Addr
  | .kinds => r.ka
  | .rules => r.ra
  | .off => r.oa
theorem HallOk.dk_at {G : Gx} {J m : Hp} {p : Addr} {h : HallM} {r : HallR} (k : HallOk G J m p h r) (a : HA) : m (r.da a) = some (.dK ((h.ent a).map fun z => (Sum.inr z.1, vOf z.2))) := by
  cases a with
  | kinds => show m r.ka = _; rw [k.kinds]; unfold HallM.ent; rw [List.map_map]; rfl
  | rules => show m r.ra = _; rw [k.rules]; unfold HallM.ent; rw [List.map_map]; rfl
  | off => show m r.oa = _; rw [k.off]; unfold HallM.ent; rw [List.map_map]; rfl
theorem HallOk.fld {G : Gx} {J m : Hp} {p : Addr} {h : HallM} {r : HallR} (k : HallOk G J m p h r) (T : HallTxt G) (a : HA) {σ : L2.St} {i : Nat} {Q : VK} (hs : σ[i]? = some (some (.ref p))) (q : Q (.ref (r.da a)) m) : tFld G.K (tVar i) a.nm σ m Q := by
  refine ⟨_, hs, p, _, _, _, _, rfl, k.ins, T.cH, T.nH a.nm (by cases a <;> decide), ?_, q⟩
  cases a <;> rfl
def hallOf (e : En) (i : Nat) : Option HallM := match e[i]? with
  | some (.ob _ (.hall h)) => some h
  | some (.fh h) => some h
  | _ => none
theorem hall_at {G : Gx} {P : Pt} {H : Hp} {σ : L2.St} {e : En} {i : Nat} {h : HallM} (w : Wd P H) (en : EnvAt G P σ e) (hh : hallOf e i = some h) : ∃ p r, σ[i]? = some (some (.ref p)) ∧ HallOk G (P 0) H p h r := by
  unfold hallOf at hh
  split at hh
  · rename_i b h0 q
    cases hh
    obtain ⟨v, a, p, e1, r, k⟩ := en.at_ i _ q
    subst e1
    exact ⟨p, r, a, k.heap (w.sub _)⟩
  · rename_i h0 q
    cases hh
    obtain ⟨v, a, p, e1, r, k⟩ := en.at_ i _ q
    subst e1
    exact ⟨p, r, a, k.heap (en.cs.trans (w.sub 1))⟩
  · cases hh
def keyIn (n : Str) (xs : List (Str × PD)) : Bool := decide (n ∈ xs.map (·.1))
theorem valV_ent (xs : List (Str × PD)) (n : Str) : (valV (xs.map fun z => ((Sum.inr z.1 : Key), vOf z.2)) (Sum.inr n)).isSome = keyIn n xs := valV_str (fun z : Str × PD => z.1) (fun z => vOf z.2) xs n
/-- a in self.d -/
def fAin (neg : Bool) (a : HA) (i : Nat) (fa : Fx) : Fx := fun e => (fz fa e).bind fun v e1 => match v, hallOf e1 i with
  | .pv (.str n), some h => .ok (.pv (.bool (if neg then !keyIn n (h.ent a) else keyIn n (h.ent a)))) e1
  | _, _ => .no
theorem se_ain {G : Gx} {W : WX} (T : HallTxt G) {neg : Bool} {a : HA} {i : Nat} {ta : TE} {fa : Fx} (s : SE G W ta fa) : SE G W (if neg then tDNotIn ta (tFld G.K (tVar i) a.nm) else tDIn ta (tFld G.K (tVar i) a.nm)) (fAin neg a i fa) := fun P σ H e w en Q h => by
  cases neg with
  | true =>
    refine s.bindz (Q1 := fun y H1 => tFld G.K (tVar i) a.nm σ H1 fun x H2 => ∃ aa o, x = .ref aa ∧ DGet H2 aa y o ∧ Q (.bl (!o.isSome)) H2) w en h fun v e1 P1 H1 x w1 en1 fr1 r1 h1 => ?_
    split at h1
    · rename_i n h0 hh
      cases r1
      obtain ⟨p, r, hs, k⟩ := hall_at w1 en1 hh
      refine k.fld T a hs ⟨r.da a, _, rfl, DGet.k (k := Sum.inr n) (k.dk_at a), ?_⟩
      rw [valV_ent]
      exact h1 P1 H1 _ w1 en1 (Fr.refl _ _) (.bl _)
    · exact h1.elim
  | false =>
    refine s.bindz (Q1 := fun y H1 => tFld G.K (tVar i) a.nm σ H1 fun x H2 => ∃ aa o, x = .ref aa ∧ DGet H2 aa y o ∧ Q (.bl o.isSome) H2) w en h fun v e1 P1 H1 x w1 en1 fr1 r1 h1 => ?_
    split at h1
    · rename_i n h0 hh
      cases r1
      obtain ⟨p, r, hs, k⟩ := hall_at w1 en1 hh
      refine k.fld T a hs ⟨r.da a, _, rfl, DGet.k (k := Sum.inr n) (k.dk_at a), ?_⟩
      rw [valV_ent]
      exact h1 P1 H1 _ w1 en1 (Fr.refl _ _) (.bl _)
    · exact h1.elim
/-- self.d[a] -/
def getD (n : Str) (xs : List (Str × PD)) : Option PD := (xs.find? fun z => decide (z.1 = n)).map (·.2)
def flat1 : PD → Bool
  | .str _ => true
  | .bool _ => true
  | .none => true
  | _ => false
theorem ent_flat (h : HallM) (a : HA) : ∀ z ∈ h.ent a, flat1 z.2 = true := by
  intro z hz
  cases a <;> (unfold HallM.ent at hz; obtain ⟨y, _, rfl⟩ := List.mem_map.mp hz; rfl)
theorem vOf_dq {J : Hp} {d : PD} (h : flat1 d = true) : Dq J (vOf d) d := by
  cases d <;> first | cases h | skip
  · exact .non
  · exact .bl _
  · exact .str _
theorem valV_get {xs : List (Str × PD)} {n : Str} {d : PD} (h : getD n xs = some d) : valV (xs.map fun z => ((Sum.inr z.1 : Key), vOf z.2)) (Sum.inr n) = some (vOf d) := by
  induction xs with
  | nil => cases h
  | cons z xs ih =>
    unfold getD at h
    rw [List.map_cons]
    by_cases e : z.1 = n
    · rw [List.find?_cons_of_pos (by simpa using e)] at h
      cases h
      exact valV_pos (by rw [e])
    · rw [List.find?_cons_of_neg (by simpa using e)] at h
      rw [valV_neg (by intro q; exact e (Sum.inr.inj q))]
      exact ih h
def strAt (e : En) (j : Nat) : Option Str := match e[j]? with
  | some (.pv (.str n)) => some n
  | _ => none
theorem str_at {G : Gx} {P : Pt} {σ : L2.St} {e : En} {j : Nat} {n : Str} (en : EnvAt G P σ e) (h : strAt e j = some n) : σ[j]? = some (some (.str n)) := by
  unfold strAt at h
  split at h
  · rename_i m q
    cases h
    obtain ⟨v, a, x, e1, d⟩ := en.at_ j _ q
    subst e1; cases d
    exact a
  · cases h
def fAget (a : HA) (i j : Nat) : Fx := fun e => match hallOf e i, strAt e j with
  | some h, some n => (match getD n (h.ent a) with
      | some d => .ok (.pv d) e
      | none => .no)
  | _, _ => .no
theorem getD_mem {n : Str} {xs : List (Str × PD)} {d : PD} (h : getD n xs = some d) : ∃ z ∈ xs, z.2 = d := by
  unfold getD at h
  cases q : xs.find? fun z => decide (z.1 = n) with
  | none => rw [q] at h; cases h
  | some z => rw [q] at h; cases h; exact ⟨z, List.mem_of_find?_eq_some q, rfl⟩
def isRob : Option Sl → Bool
  | some (.ob true _) => true
  | some (.fh _) => true
  | _ => false
/-- put into, taken out of a dict -/
def putD (n : Str) (d : PD) (xs : List (Str × PD)) : List (Str × PD) := if keyIn n xs = true then xs.map fun z => if z.1 = n then (z.1, d) else z else xs ++ [(n, d)]
theorem putK_ent (n : Str) (d : PD) (xs : List (Str × PD)) : putK (xs.map fun z => ((Sum.inr z.1 : Key), vOf z.2)) (Sum.inr n) (vOf d) = (putD n d xs).map fun z => ((Sum.inr z.1 : Key), vOf z.2) := by
  unfold putK putD
  rw [valV_any, valV_ent]
  by_cases h : keyIn n xs = true
  · rw [if_pos h, if_pos h, List.map_map, List.map_map]
    apply List.map_congr_left
    intro z _
    show (if (Sum.inr z.1 : Key) = Sum.inr n then ((Sum.inr z.1 : Key), vOf d) else ((Sum.inr z.1 : Key), vOf z.2)) = _
    by_cases e : z.1 = n
    · rw [if_pos (by rw [e])]
      simp [e]
    · rw [if_neg (by intro q; exact e (Sum.inr.inj q))]
      simp [e]
  · rw [if_neg h, if_neg h]
    simp
theorem se_aget {G : Gx} {W : WX} (T : HallTxt G) {a : HA} {i j : Nat} : SE G W (tDGet (tFld G.K (tVar i) a.nm) (tVar j)) (fAget a i j) := fun P σ H e w en Q h => by
  unfold fAget at h
  split at h
  · rename_i h0 n q1 q2
    split at h
    · rename_i d q3
      obtain ⟨p, r, hs, k⟩ := hall_at w en q1
      refine k.fld T a hs ⟨_, str_at en q2, r.da a, _, rfl, by rw [← valV_get q3]; exact DGet.k (k := Sum.inr n) (k.dk_at a), h P H _ w en (Fr.refl _ _) (vOf_dq ?_)⟩
      obtain ⟨z, hz, e2⟩ := getD_mem q3
      rw [← e2]; exact ent_flat h0 a z hz
    · exact h.elim
  · exact h.elim
/-- len(self.d), len(self.hung) -/
inductive HL where
  | d (a : HA)
  | hung
def HL.nm : HL → Str
  | .d a => a.nm
  | .hung => "hung"
def HallM.len (h : HallM) : HL → Nat
  | .d a => (h.ent a).length
  | .hung => h.pieces.length
def rLenA (K : PySem.W.Frag) : List V → Hp → VK → Prop := fun xs H Q => (∃ a kvs, xs = [V.ref a] ∧ H a = some (.dK kvs) ∧ Q (.int kvs.length) H) ∨ rLen1 K xs H Q
theorem call_lenA {X : Cx} : CallR X (.builtin "len") (rLenA X.K) := by
  intro pins s σ H xs us Q I r h
  rcases h with h | h
  · exact call_lenD pins s σ H xs us Q I r h
  · exact call_len_seq pins s σ H xs us Q I r h
def fAlen (l : HL) (i : Nat) : Fx := fun e => match hallOf e i with
  | some h => .ok (.pv (.int (h.len l : Nat))) e
  | none => .no
theorem se_alen {G : Gx} {W : WX} (T : HallTxt G) {l : HL} {i : Nat} : SE G W (tCB (rLenA G.K) (tCons (tFld G.K (tVar i) l.nm) tNil)) (fAlen l i) := fun P σ H e w en Q h => by
  unfold fAlen at h
  split at h
  · rename_i h0 q1
    obtain ⟨p, r, hs, k⟩ := hall_at w en q1
    cases l with
    | d a =>
      refine k.fld T a hs (.inl ⟨r.da a, _, rfl, k.dk_at a, ?_⟩)
      rw [List.length_map]
      exact h P H _ w en (Fr.refl _ _) (.int _)
    | hung =>
      refine ⟨_, hs, p, _, _, _, _, rfl, k.ins, T.cH, T.nH "hung" (by decide), rfl, .inr ⟨r.ha, _, rfl, .inl (SqL.of k.hung), ?_⟩⟩
      rw [List.length_map, k.pcs.len]
      exact h P H _ w en (Fr.refl _ _) (.int _)
  · exact h.elim
/-! ### a hall is changed -/
theorem Pt.set_set {P : Pt} {k : Nat} {m m' : Hp} : (P.set k m).set k m' = P.set k m' := by
  funext i
  unfold Pt.set
  by_cases h : i = k <;> simp [h]
theorem Pt.set_id {P : Pt} {k : Nat} : P.set k (P k) = P := by
  funext i
  unfold Pt.set
  by_cases h : i = k
  · subst h; simp
  · simp [h]
theorem own_mut {P : Pt} {H m : Hp} {k : Nat} {a : Addr} {u o : HO} (w : Wd (P.set k m) H) (h : m a = some u) : Wd (P.set k (upd m a o)) (upd H a o) := by
  have := w.mut (p := a) (u := u) (o := o) (k := k) (by rw [Pt.set_same]; exact h)
  rw [Pt.set_set, Pt.set_same] at this
  exact this
theorem own_new {P : Pt} {H m : Hp} {k : Nat} {a : Addr} {o : HO} (w : Wd (P.set k m) H) (h : H a = none) : Wd (P.set k (upd m a o)) (upd H a o) := by
  have := w.alloc (p := a) (o := o) h k
  rw [Pt.set_set, Pt.set_same] at this
  exact this
/-- the hall of the slot i is another -/
theorem hall_set {G : Gx} {P : Pt} {m : Hp} {σ : L2.St} {e : En} {i : Nat} {b : Bool} {h h' : HallM} {p : Addr} (en : EnvAt G P σ e) (hi : e[i]? = some (.ob b (.hall h))) (hs : σ[i]? = some (some (.ref p))) (k : HallAt G (P 0) m p h') :
    EnvAt G (P.set (i + 3) m) σ (e.set i (.ob b (.hall h'))) ∧ Fr P (P.set (i + 3) m) e (e.set i (.ob b (.hall h'))) := by
  have z : (P.set (i + 3) m) 0 = P 0 := Pt.set_ne (by omega)
  have hlt : i < e.length := (List.getElem?_eq_some_iff.mp hi).1
  refine ⟨⟨by rw [List.length_set]; exact en.len, by rw [Pt.set_ne (by omega)]; exact en.cs, fun j s hj => ?_⟩, ⟨by rw [z]; exact Same.refl _, Pt.set_ne (by omega), fun j hj => ?_⟩⟩
  · by_cases hij : i = j
    · subst hij
      rw [List.getElem?_set_self hlt] at hj
      cases hj
      refine ⟨_, hs, p, rfl, ?_⟩
      rw [Pt.set_same, z]; exact k
    · rw [List.getElem?_set_ne hij] at hj
      obtain ⟨v, a, c⟩ := en.at_ j s hj
      refine ⟨v, a, ?_⟩
      rw [z, Pt.set_ne (show j + 3 ≠ i + 3 by omega)]; exact c
  · by_cases hij : i = j
    · subst hij
      rw [List.getElem?_set_self hlt]
      rw [hi] at hj
      cases b with
      | true => rfl
      | false => cases hj
    · rw [List.getElem?_set_ne hij]; exact hj
theorem PcAt.upd {G : Gx} {J m : Hp} {q : Addr} {l : List Addr} {c : PieceM} {a : Addr} {o u : HO} (h : PcAt G J m q l c) (ha : m a = some u) (h1 : ∀ xs, u ≠ .lst xs) (h2 : ∀ C d f, u ≠ .ins C d f) : PcAt G J (upd m a o) q l c := by
  obtain ⟨dq, a1, a2, a3, a4, wd, e, d, k0, k1, k2, k3, k4⟩ := h.ex
  have z : ∀ {b v}, m b = some v → v ≠ u → L2.upd m a o b = some v := fun {b v} hb hv => by rw [upd_ne (ne_of hb ha hv)]; exact hb
  exact ⟨dq, a1, a2, a3, a4, wd, e, d, z k0 (fun q => h2 _ _ _ q.symm), z k1 (fun q => h1 _ q.symm), z k2 (fun q => h1 _ q.symm), z k3 (fun q => h1 _ q.symm), z k4 (fun q => h1 _ q.symm)⟩
theorem PcsAt.upd {G : Gx} {J m : Hp} {a : Addr} {o u : HO} (ha : m a = some u) (h1 : ∀ xs, u ≠ .lst xs) (h2 : ∀ C d f, u ≠ .ins C d f) : ∀ {qs : List Addr} {ls : List (List Addr)} {cs : List PieceM}, PcsAt G J m qs ls cs → PcsAt G J (upd m a o) qs ls cs
  | _, _, _, .nil => .nil
  | _, _, _, .cons h t => .cons (h.upd ha h1 h2) (PcsAt.upd ha h1 h2 t)
theorem HallOk.put {G : Gx} {J m : Hp} {p : Addr} {h h' : HallM} {r : HallR} (k : HallOk G J m p h r) (a : HA) (hp : h'.pieces = h.pieces) (hk : ∀ b, b.nm ≠ a.nm → h'.ent b = h.ent b) :
    HallOk G J (upd m (r.da a) (.dK ((h'.ent a).map fun z => (Sum.inr z.1, vOf z.2)))) p h' r := by
  have hd := k.dk_at a
  have z : ∀ {b v}, m b = some v → (∀ ks, v ≠ .dK ks) → upd m (r.da a) (.dK ((h'.ent a).map fun z => (Sum.inr z.1, vOf z.2))) b = some v := fun {b v} hb hv => by rw [upd_ne (ne_of hb hd (hv _))]; exact hb
  have dk : ∀ b, upd m (r.da a) (.dK ((h'.ent a).map fun z => (Sum.inr z.1, vOf z.2))) (r.da b) = some (.dK ((h'.ent b).map fun z => (Sum.inr z.1, vOf z.2))) := fun b => by
    by_cases e : b.nm = a.nm
    · have eb : b = a := by cases a <;> cases b <;> first | rfl | (exact absurd e (by decide))
      subst eb; exact upd_same
    · have nd : r.da b ≠ r.da a := by
        obtain ⟨d1, d2, d3⟩ := k.dk
        cases a <;> cases b <;> first | exact absurd rfl e | exact d1 | exact d2 | exact d3 | exact Ne.symm d1 | exact Ne.symm d2 | exact Ne.symm d3
      rw [upd_ne nd, hk b e]; exact k.dk_at b
  refine ⟨z k.ins (fun _ q => by cases q), ?_, ?_, ?_, z k.hung (fun _ q => by cases q), ?_, k.dk, k.nd, k.nq⟩
  · have := dk .kinds; unfold HallM.ent at this; rw [List.map_map] at this; exact this
  · have := dk .rules; unfold HallM.ent at this; rw [List.map_map] at this; exact this
  · have := dk .off; unfold HallM.ent at this; rw [List.map_map] at this; exact this
  · rw [hp]; exact k.pcs.upd hd (fun _ q => by cases q) (fun _ _ _ q => by cases q)
def putSt {α : Type} (n : Str) (d : α) (xs : List (Str × α)) : List (Str × α) := if n ∈ xs.map (·.1) then xs.map fun z => if z.1 = n then (z.1, d) else z else xs ++ [(n, d)]
def HallM.put (h : HallM) (a : HA) (n : Str) (d : PD) : Option HallM := match a, d with
  | .kinds, .str s => some { h with kinds := Fw.putSt n s h.kinds }
  | .rules, .str s => some { h with rules := Fw.putSt n s h.rules }
  | .off, .bool true => some { h with off := if n ∈ h.off then h.off else h.off ++ [n] }
  | _, _ => none
end Fw
namespace Fw
open PySem PySem.Spec PyProof.Rows L2

theorem keyIn_map {α : Type} (f : α → PD) (n : Str) (xs : List (Str × α)) : keyIn n (xs.map fun z => (z.1, f z.2)) = decide (n ∈ xs.map (·.1)) := by
  unfold keyIn
  rw [List.map_map]; rfl
theorem putD_map {α : Type} (f : α → PD) (n : Str) (d : α) (xs : List (Str × α)) : putD n (f d) (xs.map fun z => (z.1, f z.2)) = (putSt n d xs).map fun z => (z.1, f z.2) := by
  unfold putD putSt
  rw [keyIn_map]
  by_cases h : n ∈ xs.map (·.1)
  · rw [if_pos (by simpa using h), if_pos h, List.map_map, List.map_map]
    apply List.map_congr_left
    intro z _
    show (if z.1 = n then (z.1, f d) else (z.1, f z.2)) = _
    by_cases e : z.1 = n <;> simp [e]
  · rw [if_neg (by simpa using h), if_neg h]; simp
theorem HallM.put_ok {h h' : HallM} {a : HA} {n : Str} {d : PD} (e : h.put a n d = some h') : h'.ent a = putD n d (h.ent a) ∧ h'.pieces = h.pieces ∧ ∀ b, b.nm ≠ a.nm → h'.ent b = h.ent b := by
  unfold HallM.put at e
  split at e
  · rename_i s
    cases e
    refine ⟨(putD_map PyData.str n s h.kinds).symm, rfl, fun b hb => ?_⟩
    cases b <;> first | rfl | exact absurd rfl hb
  · rename_i s
    cases e
    refine ⟨(putD_map PyData.str n s h.rules).symm, rfl, fun b hb => ?_⟩
    cases b <;> first | rfl | exact absurd rfl hb
  · cases e
    refine ⟨?_, rfl, fun b hb => ?_⟩
    · show (if n ∈ h.off then h.off else h.off ++ [n]).map (fun z => (z, PyData.bool true)) = putD n (.bool true) (h.off.map fun z => (z, PyData.bool true))
      unfold putD keyIn
      rw [List.map_map]
      have e1 : (h.off.map ((fun x : Str × PD => x.1) ∘ fun z => (z, PyData.bool true))) = h.off := by simp [Function.comp_def]
      rw [e1]
      by_cases hn : n ∈ h.off
      · rw [if_pos hn, if_pos (by simpa using hn), List.map_map]
        apply List.map_congr_left
        intro z _
        show (z, PyData.bool true) = if z = n then (z, PyData.bool true) else (z, PyData.bool true)
        split <;> rfl
      · rw [if_neg hn, if_neg (by simpa using hn)]; simp
    · cases b <;> first | rfl | exact absurd rfl hb
  · cases e
theorem vOf_of {J : Hp} {x : V} {d : PD} (h : flat1 d = true) (q : Dq J x d) : x = vOf d := by
  cases q <;> first | rfl | cases h
theorem put_flat {h h' : HallM} {a : HA} {n : Str} {d : PD} (e : h.put a n d = some h') : flat1 d = true := by
  unfold HallM.put at e
  split at e <;> first | rfl | cases e
/-- self.d[k] = v -/
def fAput (a : HA) (i j : Nat) (fv : Fx) : Fs := fun e => (fz fv e).bind fun v e1 => match v, strAt e1 j, e1[i]? with
  | .pv d, some n, some (.ob b (.hall h)) => (match h.put a n d with
    | some h' => if (h.ent a).length ≤ 1000 then .ok .nx (e1.set i (.ob b (.hall h'))) else .no
    | none => .no)
  | _, _, _ => .no
theorem hallOf_ob {e : En} {i : Nat} {b : Bool} {h : HallM} (q : e[i]? = some (.ob b (.hall h))) : hallOf e i = some h := by unfold hallOf; rw [q]
/-- the hall that a slot owns -/
theorem hall_own {G : Gx} {P : Pt} {H : Hp} {σ : L2.St} {e : En} {i : Nat} {b : Bool} {h : HallM} (w : Wd P H) (en : EnvAt G P σ e) (q : e[i]? = some (.ob b (.hall h))) : ∃ p r, σ[i]? = some (some (.ref p)) ∧ HallOk G (P 0) (P (i + 3)) p h r ∧ HallOk G (P 0) H p h r := by
  obtain ⟨v, a, p, e1, r, k⟩ := en.at_ i _ q
  subst e1
  exact ⟨p, r, a, k, k.heap (w.sub _)⟩
theorem ss_aput {G : Gx} {W : WX} (T : HallTxt G) {a : HA} {i j : Nat} {tv : TE} {fv : Fx} (s : SE G W tv fv) : SS G W (sDPut (tFld G.K (tVar i) a.nm) (tVar j) tv) (fAput a i j fv) := fun P σ H e w en D h => by
  refine s.bindzS (Q1 := fun v H1 => tFld G.K (tVar i) a.nm σ H1 fun x H2 => tVar j σ H2 fun y H3 => ∃ aa H4, x = .ref aa ∧ DPut H3 aa y v H4 ∧ D.nx σ H4) w en h fun v e1 P1 H1 x w1 en1 fr1 r1 h1 => ?_
  split at h1
  · rename_i d n b h0 q1 q2
    split at h1
    · rename_i h' q3
      split at h1
      · rename_i hl
        obtain ⟨p, r, hs, km, k⟩ := hall_own w1 en1 q2
        obtain ⟨e1', e2', e3'⟩ := HallM.put_ok q3
        have ex : x = vOf d := vOf_of (put_flat q3) r1
        subst ex
        refine k.fld T a hs ⟨_, str_at en1 q1, r.da a, _, rfl, DPut.k (k := Sum.inr n) (k.dk_at a) (by rw [List.length_map]; exact Nat.lt_of_le_of_lt hl (by decide)), ?_⟩
        rw [putK_ent, ← e1']
        have w2 : Wd (P1.set (i + 3) (P1 (i + 3))) H1 := by rw [Pt.set_id]; exact w1
        have w3 := own_mut (o := .dK ((h'.ent a).map fun z => (Sum.inr z.1, vOf z.2))) w2 (km.dk_at a)
        obtain ⟨z1, z2⟩ := hall_set en1 q2 hs ⟨r, km.put a e2' e3'⟩
        exact h1 _ _ σ w3 z1 z2.s
      · exact h1.elim
    · exact h1.elim
  · exact h1.elim
/-- self.off.pop(k, None) -/
def fApop (i j : Nat) : Fx := fun e => match e[i]?, strAt e j with
  | some (.ob b (.hall h)), some n => .ok (.pv (.bool (decide (n ∈ h.off)))) (e.set i (.ob b (.hall { h with off := h.off.filter fun z => decide (z ≠ n) })))
  | _, _ => .no
theorem filter_id {α : Type} {p : α → Bool} {xs : List α} (h : ∀ x ∈ xs, p x = true) : xs.filter p = xs := List.filter_eq_self.mpr h
theorem dropK_off (n : Str) (xs : List Str) : dropK (xs.map fun z => ((Sum.inr z : Key), V.bl true)) (Sum.inr n) = (xs.filter fun z => decide (z ≠ n)).map fun z => ((Sum.inr z : Key), V.bl true) := by
  unfold dropK
  rw [List.filter_map]
  congr 1
  apply List.filter_congr
  intro z _
  show decide ((Sum.inr z : Key) ≠ Sum.inr n) = decide (z ≠ n)
  by_cases e : z = n
  · subst e; simp
  · have : (Sum.inr z : Key) ≠ Sum.inr n := fun q => e (Sum.inr.inj q)
    simp [e, this]
/-- the statement: what it answers is dropped -/
theorem ss_apop {G : Gx} {W : WX} (T : HallTxt G) {i j : Nat} : SS G W (tDrop (tDPop2 (tFld G.K (tVar i) "off") (tVar j) (tC .non))) (fExpr (fApop i j)) := fun P σ H e w en D h => by
  have h' : PostS G W P e σ D ((fApop i j e).bind fun _ e1 => .ok .nx e1) := h
  unfold fApop at h'
  split at h'
  · rename_i b h0 n q1 q2
    have h' : PostS G W P e σ D (.ok .nx (e.set i (.ob b (.hall { h0 with off := h0.off.filter fun z => decide (z ≠ n) })))) := h'
    obtain ⟨p, r, hs, km, k⟩ := hall_own w en q1
    refine ⟨_, hs, p, _, _, _, _, rfl, k.ins, T.cH, T.nH "off" (by decide), rfl, r.oa, rfl, .inl ⟨_, Rd.of k.off⟩, _, str_at en q2, ?_⟩
    refine ⟨_, Sum.inr n, k.off, rfl, fun v hv => ?_, fun hv => ?_⟩
    · rw [dropK_off]
      have w2 : Wd (P.set (i + 3) (P (i + 3))) H := by rw [Pt.set_id]; exact w
      have w3 := own_mut (o := .dK ((h0.off.filter fun z => decide (z ≠ n)).map fun z => ((Sum.inr z : Key), V.bl true))) w2 km.off
      have k4 := km.put (h' := { h0 with off := h0.off.filter fun z => decide (z ≠ n) }) .off rfl (fun b hb => by cases b <;> first | rfl | exact absurd rfl hb)
      have e4 : ((HallM.ent { h0 with off := h0.off.filter fun z => decide (z ≠ n) } .off).map fun z => ((Sum.inr z.1 : Key), vOf z.2)) = (h0.off.filter fun z => decide (z ≠ n)).map fun z => ((Sum.inr z : Key), V.bl true) := by
        unfold HallM.ent; rw [List.map_map]; rfl
      rw [e4] at k4
      obtain ⟨z1, z2⟩ := hall_set en q1 hs ⟨r, k4⟩
      exact h' _ _ σ w3 z1 z2.s
    · have hno : h0.off.filter (fun z => decide (z ≠ n)) = h0.off := filter_id fun z hz => by
        have z1 := valV_str (fun z : Str => z) (fun z => V.bl true) h0.off n
        rw [hv, List.map_id'] at z1
        have hn : n ∉ h0.off := by simpa using z1.symm
        exact decide_eq_true fun q => hn (q ▸ hz)
      rw [hno] at h'
      have w2 : Wd (P.set (i + 3) (P (i + 3))) H := by rw [Pt.set_id]; exact w
      obtain ⟨z1, z2⟩ := hall_set en q1 hs ⟨r, km⟩
      exact h' _ _ σ w2 z1 z2.s
  · exact h'.elim
/-! ### a new piece -/
/-- what Piece(..) leaves: at q, with its four lists -/
def spPI (G : Gx) : Sp := fun vs H Q _ => ∃ p dx x1 x2 x3 x4, vs = [.ref p, x1, x2, x3, x4] ∧ H p = some (.ins G.CP dx []) ∧
  ∀ a1 a2 a3 a4 H', H a1 = none → H a2 = none → H a3 = none → H a4 = none → [a1, a2, a3, a4].Nodup →
    H' = upd (upd (upd (upd (upd H a1 (.lst [])) a2 (.lst [])) a3 (.lst [])) a4 (.lst [])) p (.ins G.CP dx [("name", x1), ("place", x2), ("deed", x3), ("by", x4), ("ahead", .ref a1), ("behind", .ref a2), ("needs", .ref a3), ("bars", .ref a4)]) → Q .non H'
def t_piece (K : PySem.W.Frag) : TS := tSeq (sFld K (tVar 0) (tVar 1) "name") (tSeq (sFld K (tVar 0) (tVar 2) "place") (tSeq (sFld K (tVar 0) (tVar 3) "deed") (tSeq (sFld K (tVar 0) (tVar 4) "by")
  (tSeq (sFld K (tVar 0) (tLst tNil) "ahead") (tSeq (sFld K (tVar 0) (tLst tNil) "behind") (tSeq (sFld K (tVar 0) (tLst tNil) "needs") (sFld K (tVar 0) (tLst tNil) "bars")))))))
theorem few {f : Str} {v : V} {n : Nat} : ∀ {fs : List (Str × V)}, fs.length ≤ n → (putF f v fs).length ≤ n + 1
  | [], h => by show 1 ≤ n + 1; omega
  | (g, x) :: r, h => by
    show (if g = f then (g, v) :: r else (g, x) :: putF f v r).length ≤ n + 1
    split
    · have : r.length + 1 ≤ n := h
      show r.length + 1 ≤ n + 1; omega
    · cases n with
      | zero => cases h
      | succ n =>
        have : (putF f v r).length ≤ n + 1 := few (Nat.le_of_succ_le_succ h)
        show (putF f v r).length + 1 ≤ n + 1 + 1; omega
theorem upd_comm {H : Hp} {a b : Addr} {o u : HO} (h : a ≠ b) : upd (upd H a o) b u = upd (upd H b u) a o := by
  funext c
  unfold upd
  by_cases h1 : c = a
  · subst h1; simp [h]
  · by_cases h2 : c = b
    · subst h2; simp [h1]
    · simp [h1, h2]
theorem pure_piece {G : Gx} (T : HallTxt G) {vs : List V} {H : Hp} {Q : VK} {E : XK} (h : spPI G vs H Q E) : t_piece G.K { nx := fun _ H' => Q .non H', rt := Q } (L2.start ["self", "name", "place", "deed", "by"] vs) H := by
  obtain ⟨p, dx, x1, x2, x3, x4, rfl, hp, k⟩ := h
  have lt : ∀ n : Nat, n ≤ 8 → n < 1000 := fun n h => by omega
  refine ⟨_, rfl, _, rfl, p, _, dx, _, rfl, hp, T.cP, T.nP "name" (by decide), by decide, ?_⟩
  refine ⟨_, rfl, _, rfl, p, _, dx, _, rfl, upd_same, T.cP, T.nP "place" (by decide), Nat.lt_of_le_of_lt (few (Nat.le_refl 0)) (by decide), ?_⟩
  refine ⟨_, rfl, _, rfl, p, _, dx, _, rfl, upd_same, T.cP, T.nP "deed" (by decide), Nat.lt_of_le_of_lt (few (few (Nat.le_refl 0))) (by decide), ?_⟩
  refine ⟨_, rfl, _, rfl, p, _, dx, _, rfl, upd_same, T.cP, T.nP "by" (by decide), Nat.lt_of_le_of_lt (few (few (few (Nat.le_refl 0)))) (by decide), ?_⟩
  refine ⟨by decide, fun a1 n1 => ?_⟩
  have p1 : p ≠ a1 := fun z => by subst z; rw [upd_same] at n1; cases n1
  refine ⟨_, rfl, p, _, dx, _, rfl, by rw [upd_ne p1]; exact upd_same, T.cP, T.nP "ahead" (by decide), Nat.lt_of_le_of_lt (few (few (few (few (Nat.le_refl 0))))) (by decide), ?_⟩
  refine ⟨by decide, fun a2 n2 => ?_⟩
  have p2 : p ≠ a2 := fun z => by subst z; rw [upd_same] at n2; cases n2
  refine ⟨_, rfl, p, _, dx, _, rfl, by rw [upd_ne p2]; exact upd_same, T.cP, T.nP "behind" (by decide), Nat.lt_of_le_of_lt (few (few (few (few (few (Nat.le_refl 0)))))) (by decide), ?_⟩
  refine ⟨by decide, fun a3 n3 => ?_⟩
  have p3 : p ≠ a3 := fun z => by subst z; rw [upd_same] at n3; cases n3
  refine ⟨_, rfl, p, _, dx, _, rfl, by rw [upd_ne p3]; exact upd_same, T.cP, T.nP "needs" (by decide), Nat.lt_of_le_of_lt (few (few (few (few (few (few (Nat.le_refl 0))))))) (by decide), ?_⟩
  refine ⟨by decide, fun a4 n4 => ?_⟩
  have p4 : p ≠ a4 := fun z => by subst z; rw [upd_same] at n4; cases n4
  refine ⟨_, rfl, p, _, dx, _, rfl, by rw [upd_ne p4]; exact upd_same, T.cP, T.nP "bars" (by decide), Nat.lt_of_le_of_lt (few (few (few (few (few (few (few (Nat.le_refl 0)))))))) (by decide), ?_⟩
  -- what is free
  simp only [upd_upd] at n1 n2 n3 n4
  rw [upd_ne p1.symm] at n1
  rw [upd_ne p2.symm] at n2
  have a12 : a1 ≠ a2 := fun z => by subst z; rw [upd_same] at n2; cases n2
  rw [upd_ne a12.symm, upd_ne p2.symm] at n2
  rw [upd_ne p3.symm] at n3
  have a23 : a2 ≠ a3 := fun z => by subst z; rw [upd_same] at n3; cases n3
  rw [upd_ne a23.symm, upd_ne p3.symm] at n3
  have a13 : a1 ≠ a3 := fun z => by subst z; rw [upd_same] at n3; cases n3
  rw [upd_ne a13.symm, upd_ne p3.symm] at n3
  rw [upd_ne p4.symm] at n4
  have a34 : a3 ≠ a4 := fun z => by subst z; rw [upd_same] at n4; cases n4
  rw [upd_ne a34.symm, upd_ne p4.symm] at n4
  have a24 : a2 ≠ a4 := fun z => by subst z; rw [upd_same] at n4; cases n4
  rw [upd_ne a24.symm, upd_ne p4.symm] at n4
  have a14 : a1 ≠ a4 := fun z => by subst z; rw [upd_same] at n4; cases n4
  rw [upd_ne a14.symm, upd_ne p4.symm] at n4
  refine k a1 a2 a3 a4 _ n1 n2 n3 n4 (by simp [a12, a13, a14, a23, a24, a34]) ?_
  funext c
  by_cases hc : c = p
  · subst hc
    rw [upd_same, upd_same]
    rfl
  · rw [upd_ne hc, upd_ne hc]
    by_cases c4 : c = a4
    · subst c4; rw [upd_same, upd_same]
    · rw [upd_ne c4, upd_ne c4, upd_ne hc]
      by_cases c3 : c = a3
      · subst c3; rw [upd_same, upd_same]
      · rw [upd_ne c3, upd_ne c3, upd_ne hc]
        by_cases c2 : c = a2
        · subst c2; rw [upd_same, upd_same]
        · rw [upd_ne c2, upd_ne c2, upd_ne hc]
          by_cases c1 : c = a1
          · subst c1; rw [upd_same, upd_same]
          · rw [upd_ne c1, upd_ne c1, upd_ne hc, upd_ne hc, upd_ne hc, upd_ne hc]
end Fw
namespace Fw
open PySem PySem.Spec PyProof.Rows L2

/-! ### a new hall -/
def hall0 : HallM := ⟨[], [], [], []⟩
def spHI (G : Gx) : Sp := fun vs H Q _ => ∃ p dx, vs = [.ref p] ∧ H p = some (.ins G.CH dx []) ∧
  ∀ a1 a2 a3 a4, H a1 = none → H a2 = none → H a3 = none → H a4 = none → [a1, a2, a3, a4].Nodup →
    Q .non (upd (upd (upd (upd (upd H a1 (.dK [])) a2 (.dK [])) a3 (.lst [])) a4 (.dK [])) p (.ins G.CH dx [("kinds", .ref a1), ("rules", .ref a2), ("hung", .ref a3), ("off", .ref a4)]))
def t_hall (K : PySem.W.Frag) : TS := tSeq (sFld K (tVar 0) tDNewK "kinds") (tSeq (sFld K (tVar 0) tDNewK "rules") (tSeq (sFld K (tVar 0) (tLst tNil) "hung") (sFld K (tVar 0) tDNewK "off")))
theorem pure_hall {G : Gx} (T : HallTxt G) {vs : List V} {H : Hp} {Q : VK} {E : XK} (h : spHI G vs H Q E) : t_hall G.K { nx := fun _ H' => Q .non H', rt := Q } (L2.start ["self"] vs) H := by
  obtain ⟨p, dx, rfl, hp, k⟩ := h
  intro a1 n1
  have p1 : p ≠ a1 := ne_of_none hp n1
  refine ⟨_, rfl, p, _, dx, _, rfl, by rw [upd_ne p1]; exact hp, T.cH, T.nH "kinds" (by decide), by decide, ?_⟩
  intro a2 n2
  have p2 : p ≠ a2 := fun z => by subst z; rw [upd_same] at n2; cases n2
  refine ⟨_, rfl, p, _, dx, _, rfl, by rw [upd_ne p2]; exact upd_same, T.cH, T.nH "rules" (by decide), Nat.lt_of_le_of_lt (few (Nat.le_refl 0)) (by decide), ?_⟩
  refine ⟨by decide, fun a3 n3 => ?_⟩
  have p3 : p ≠ a3 := fun z => by subst z; rw [upd_same] at n3; cases n3
  refine ⟨_, rfl, p, _, dx, _, rfl, by rw [upd_ne p3]; exact upd_same, T.cH, T.nH "hung" (by decide), Nat.lt_of_le_of_lt (few (few (Nat.le_refl 0))) (by decide), ?_⟩
  intro a4 n4
  have p4 : p ≠ a4 := fun z => by subst z; rw [upd_same] at n4; cases n4
  refine ⟨_, rfl, p, _, dx, _, rfl, by rw [upd_ne p4]; exact upd_same, T.cH, T.nH "off" (by decide), Nat.lt_of_le_of_lt (few (few (few (Nat.le_refl 0)))) (by decide), ?_⟩
  rw [upd_ne p2.symm] at n2
  have a12 : a1 ≠ a2 := fun z => by subst z; rw [upd_same] at n2; cases n2
  rw [upd_ne a12.symm] at n2
  rw [upd_ne p3.symm] at n3
  have a23 : a2 ≠ a3 := fun z => by subst z; rw [upd_same] at n3; cases n3
  rw [upd_ne a23.symm, upd_ne p3.symm] at n3
  have a13 : a1 ≠ a3 := fun z => by subst z; rw [upd_same] at n3; cases n3
  rw [upd_ne a13.symm] at n3
  rw [upd_ne p4.symm] at n4
  have a34 : a3 ≠ a4 := fun z => by subst z; rw [upd_same] at n4; cases n4
  rw [upd_ne a34.symm, upd_ne p4.symm] at n4
  have a24 : a2 ≠ a4 := fun z => by subst z; rw [upd_same] at n4; cases n4
  rw [upd_ne a24.symm, upd_ne p4.symm] at n4
  have a14 : a1 ≠ a4 := fun z => by subst z; rw [upd_same] at n4; cases n4
  rw [upd_ne a14.symm] at n4
  have hq := k a1 a2 a3 a4 n1 n2 n3 n4 (by simp [a12, a13, a14, a23, a24, a34])
  refine Eq.subst (motive := fun z => Q .non z) ?_ hq
  funext c
  by_cases hc : c = p
  · subst hc
    rw [upd_same, upd_same]
    rfl
  · rw [upd_ne hc, upd_ne hc]
    by_cases c4 : c = a4
    · subst c4; rw [upd_same, upd_same]
    · rw [upd_ne c4, upd_ne c4, upd_ne hc]
      by_cases c3 : c = a3
      · subst c3; rw [upd_same, upd_same]
      · rw [upd_ne c3, upd_ne c3, upd_ne hc]
        by_cases c2 : c = a2
        · subst c2; rw [upd_same, upd_same]
        · rw [upd_ne c2, upd_ne c2, upd_ne hc]
/-- Hall() -/
def fHall : Fx := fun e => .ok (.ow (.ob false (.hall hall0))) e
theorem se_hall {G : Gx} {W : WX} : SE G W (tMake G.CH (spHI G) [] (fun _ _ _ => False) tNil) fHall := fun P σ H e w en Q h => by
  intro x dx hx hdx hne
  refine ⟨x, dx, rfl, upd_same, fun a1 a2 a3 a4 n1 n2 n3 n4 nd => ⟨rfl, ?_⟩⟩
  simp only [List.nodup_cons, List.mem_cons, List.not_mem_nil, or_false, not_or, List.nodup_nil, and_true, not_false_eq_true] at nd
  obtain ⟨⟨a12, a13, a14⟩, ⟨a23, a24⟩, a34⟩ := nd
  have w0 : Wd (P.set 2 emp) H := w.drop 2
  have w1 := own_new (o := .own x) w0 hdx
  have w2 := own_new (o := .ins G.CH dx []) w1 (show upd H dx (.own x) x = none by rw [upd_ne (Ne.symm hne)]; exact hx)
  have w3 := own_new (o := .dK []) w2 n1
  have w4 := own_new (o := .dK []) w3 (show upd _ a1 _ a2 = none by rw [upd_ne (Ne.symm a12)]; exact n2)
  have w5 := own_new (o := .lst []) w4 (show upd (upd _ a1 _) a2 _ a3 = none by rw [upd_ne (Ne.symm a23), upd_ne (Ne.symm a13)]; exact n3)
  have w6 := own_new (o := .dK []) w5 (show upd (upd (upd _ a1 _) a2 _) a3 _ a4 = none by rw [upd_ne (Ne.symm a34), upd_ne (Ne.symm a24), upd_ne (Ne.symm a14)]; exact n4)
  have x1 : x ≠ a1 := fun z => by subst z; rw [upd_same] at n1; cases n1
  have x2 : x ≠ a2 := fun z => by subst z; rw [upd_same] at n2; cases n2
  have x3 : x ≠ a3 := fun z => by subst z; rw [upd_same] at n3; cases n3
  have x4 : x ≠ a4 := fun z => by subst z; rw [upd_same] at n4; cases n4
  have w7 := own_mut (a := x) (u := .ins G.CH dx []) (o := .ins G.CH dx [("kinds", .ref a1), ("rules", .ref a2), ("hung", .ref a3), ("off", .ref a4)]) w6 (by rw [upd_ne x4, upd_ne x3, upd_ne x2, upd_ne x1]; exact upd_same)
  refine h _ _ (.ref x) w7 (en.mono (by rw [Pt.set_ne (by decide)]; exact Same.refl _) (by rw [Pt.set_ne (by decide)]; exact en.cs) fun i => Pt.set_ne (by omega)) ⟨by rw [Pt.set_ne (by decide)]; exact Same.refl _, Pt.set_ne (by decide), fun _ h => h⟩ ?_
  refine ⟨x, rfl, ⟨dx, a1, a2, a3, a4, [], []⟩, ?_⟩
  rw [Pt.set_same]
  refine ⟨upd_same, ?_, ?_, ?_, ?_, .nil, ⟨a12, a14, a24⟩, by simp, by simp⟩
  · rw [upd_ne x1.symm, upd_ne a14, upd_ne a13, upd_ne a12]; exact upd_same
  · rw [upd_ne x2.symm, upd_ne a24, upd_ne a23]; exact upd_same
  · rw [upd_ne x4.symm]; exact upd_same
  · rw [upd_ne x3.symm, upd_ne a34]; exact upd_same
/-! ### a piece is hung -/
def byOf : PD → Option (Option Str)
  | .none => some none
  | .str s => some (some s)
  | _ => none
def fHung (i j1 j2 j3 j4 : Nat) : Fs := fun e => match e[i]?, strAt e j1, strAt e j2, e[j3]?, e[j4]? with
  | some (.ob b (.hall h)), some n, some pl, some (.pv d), some (.pv dby) => (match byOf dby with
    | some by_ => if h.pieces.length ≤ 1000 then .ok .nx (e.set i (.ob b (.hall { h with pieces := h.pieces ++ [⟨n, pl, d, by_, [], [], [], []⟩] }))) else .no
    | none => .no)
  | _, _, _, _, _ => .no
theorem PcsAt.lists {G : Gx} {J m : Hp} : ∀ {qs : List Addr} {ls : List (List Addr)} {cs : List PieceM}, PcsAt G J m qs ls cs → ∀ b ∈ ls.flatten, ∃ xs, m b = some (.lst xs)
  | _, _, _, .nil, b, h => by simp at h
  | _, l :: ls, _, .cons h t, b, hb => by
    rw [List.flatten_cons] at hb
    rcases List.mem_append.mp hb with hb | hb
    · obtain ⟨dq, a1, a2, a3, a4, w, e, d, _, k1, k2, k3, k4⟩ := h.ex
      subst e
      simp only [List.mem_cons, List.not_mem_nil, or_false] at hb
      rcases hb with rfl | rfl | rfl | rfl
      · exact ⟨_, k1⟩
      · exact ⟨_, k2⟩
      · exact ⟨_, k3⟩
      · exact ⟨_, k4⟩
    · exact t.lists b hb
theorem PcsAt.objs {G : Gx} {J m : Hp} : ∀ {qs : List Addr} {ls : List (List Addr)} {cs : List PieceM}, PcsAt G J m qs ls cs → ∀ q ∈ qs, ∃ dq fs, m q = some (.ins G.CP dq fs)
  | _, _, _, .nil, b, h => by simp at h
  | q0 :: qs, _, _, .cons h t, b, hb => by
    rcases List.mem_cons.mp hb with rfl | hb
    · obtain ⟨dq, a1, a2, a3, a4, w, e, d, k0, _⟩ := h.ex
      exact ⟨_, _, k0⟩
    · exact t.objs b hb
/-- the pieces stay where the heap part changes elsewhere -/
theorem PcAt.keep {G : Gx} {J m m' : Hp} {q : Addr} {l : List Addr} {c : PieceM} (h : PcAt G J m q l c) (kq : m' q = m q) (kl : ∀ b ∈ l, m' b = m b) : PcAt G J m' q l c := by
  obtain ⟨dq, a1, a2, a3, a4, w, e, d, k0, k1, k2, k3, k4⟩ := h.ex
  subst e
  exact ⟨dq, a1, a2, a3, a4, w, rfl, d, kq.trans k0, (kl _ (by simp)).trans k1, (kl _ (by simp)).trans k2, (kl _ (by simp)).trans k3, (kl _ (by simp)).trans k4⟩
theorem PcsAt.keep {G : Gx} {J m m' : Hp} : ∀ {qs : List Addr} {ls : List (List Addr)} {cs : List PieceM}, PcsAt G J m qs ls cs → (∀ q ∈ qs, m' q = m q) → (∀ b ∈ ls.flatten, m' b = m b) → PcsAt G J m' qs ls cs
  | _, _, _, .nil, _, _ => .nil
  | _, _, _, .cons h t, kq, kl => .cons (h.keep (kq _ (by simp)) fun b hb => kl b (by rw [List.flatten_cons]; exact List.mem_append.mpr (.inl hb))) (t.keep (fun q hq => kq q (List.mem_cons_of_mem _ hq)) fun b hb => kl b (by rw [List.flatten_cons]; exact List.mem_append.mpr (.inr hb)))
theorem PcsAt.snoc {G : Gx} {J m : Hp} {q : Addr} {l : List Addr} {c : PieceM} (h : PcAt G J m q l c) : ∀ {qs : List Addr} {ls : List (List Addr)} {cs : List PieceM}, PcsAt G J m qs ls cs → PcsAt G J m (qs ++ [q]) (ls ++ [l]) (cs ++ [c])
  | _, _, _, .nil => .cons h .nil
  | _, _, _, .cons h0 t => .cons h0 (t.snoc h)
def tHung (G : Gx) (i : Nat) (t : TA) : TS := tDrop (tBM G.K "list" rAppend (tFld G.K (tVar i) "hung") (tCons (tMake G.CP (spPI G) [] (fun _ _ _ => False) t) tNil))
theorem ss_hung {G : Gx} {W : WX} (T : HallTxt G) {i j1 j2 j3 j4 : Nat} : SS G W (tHung G i (tCons (tVar j1) (tCons (tVar j2) (tCons (tVar j3) (tCons (tVar j4) tNil))))) (fHung i j1 j2 j3 j4) := fun P σ H e w en D h => by
  unfold fHung at h
  split at h
  · rename_i b h0 n pl d dby q1 q2 q3 q4 q5
    split at h
    · rename_i by_ q6
      split at h
      · rename_i hl
        obtain ⟨p, r, hs, km, k⟩ := hall_own w en q1
        obtain ⟨v3, s3, x3, e3, d3⟩ := en.at_ j3 _ q4
        subst e3
        obtain ⟨v4, s4, x4, e4, d4⟩ := en.at_ j4 _ q5
        subst e4
        have ex4 : (by_ = none ∧ x4 = V.non) ∨ ∃ s, by_ = some s ∧ x4 = V.str s := by
          unfold byOf at q6
          split at q6
          · cases q6; cases d4; exact .inl ⟨rfl, rfl⟩
          · cases q6; cases d4; exact .inr ⟨_, rfl, rfl⟩
          · cases q6
        refine ⟨_, hs, p, _, _, _, _, rfl, k.ins, T.cH, T.nH "hung" (by decide), rfl, .inl ⟨rfl, _, SqL.of k.hung⟩, ?_⟩
        refine ⟨_, str_at en q2, _, str_at en q3, _, s3, _, s4, ?_⟩
        intro x dx hx hdx hne
        refine ⟨x, dx, _, _, _, _, rfl, upd_same, fun a1 a2 a3 a4 H' n1 n2 n3 n4 nd eH => ⟨rfl, ?_⟩⟩
        have nd' := nd
        simp only [List.nodup_cons, List.mem_cons, List.not_mem_nil, or_false, not_or, List.nodup_nil, and_true, not_false_eq_true] at nd'
        obtain ⟨⟨a12, a13, a14⟩, ⟨a23, a24⟩, a34⟩ := nd'
        have x1 : x ≠ a1 := fun z => by subst z; rw [upd_same] at n1; cases n1
        have x2 : x ≠ a2 := fun z => by subst z; rw [upd_same] at n2; cases n2
        have x3' : x ≠ a3 := fun z => by subst z; rw [upd_same] at n3; cases n3
        have x4' : x ≠ a4 := fun z => by subst z; rw [upd_same] at n4; cases n4
        have w0 : Wd (P.set (i + 3) (P (i + 3))) H := by rw [Pt.set_id]; exact w
        have w1 := own_new (o := .own x) w0 hdx
        have w2 := own_new (o := .ins G.CP dx []) w1 (show upd H dx (.own x) x = none by rw [upd_ne (Ne.symm hne)]; exact hx)
        have w3 := own_new (o := .lst []) w2 n1
        have w4 := own_new (o := .lst []) w3 (show upd _ a1 _ a2 = none by rw [upd_ne (Ne.symm a12)]; exact n2)
        have w5 := own_new (o := .lst []) w4 (show upd (upd _ a1 _) a2 _ a3 = none by rw [upd_ne (Ne.symm a23), upd_ne (Ne.symm a13)]; exact n3)
        have w6 := own_new (o := .lst []) w5 (show upd (upd (upd _ a1 _) a2 _) a3 _ a4 = none by rw [upd_ne (Ne.symm a34), upd_ne (Ne.symm a24), upd_ne (Ne.symm a14)]; exact n4)
        have w7 := own_mut (a := x) (u := .ins G.CP dx []) (o := .ins G.CP dx [("name", .str n), ("place", .str pl), ("deed", x3), ("by", x4), ("ahead", .ref a1), ("behind", .ref a2), ("needs", .ref a3), ("bars", .ref a4)]) w6
          (by rw [upd_ne x4', upd_ne x3', upd_ne x2, upd_ne x1]; exact upd_same)
        rw [← eH] at w7
        -- what stood is elsewhere
        have fr : ∀ {a : Addr}, upd (upd H dx (.own x)) x (.ins G.CP dx []) a = none → H a = none := fun {a} ha => by
          by_cases e1 : a = x
          · subst e1; rw [upd_same] at ha; cases ha
          · rw [upd_ne e1] at ha
            by_cases e2 : a = dx
            · subst e2; rw [upd_same] at ha; cases ha
            · rw [upd_ne e2] at ha; exact ha
        have f1 := fr n1
        have f2 := fr n2
        have f3 := fr n3
        have f4 := fr n4
        generalize hm7 : upd (upd (upd (upd (upd (upd (upd (P (i + 3)) dx (.own x)) x (.ins G.CP dx [])) a1 (.lst [])) a2 (.lst [])) a3 (.lst [])) a4 (.lst [])) x (.ins G.CP dx [("name", .str n), ("place", .str pl), ("deed", x3), ("by", x4), ("ahead", .ref a1), ("behind", .ref a2), ("needs", .ref a3), ("bars", .ref a4)]) = m7 at w7
        have old : ∀ {a : Addr}, H a ≠ none → m7 a = P (i + 3) a := fun {a} ha => by
          have z : ∀ {c : Addr}, H c = none → a ≠ c := fun {c} hc e => by subst e; exact ha hc
          rw [← hm7, upd_ne (z hx), upd_ne (z f4), upd_ne (z f3), upd_ne (z f2), upd_ne (z f1), upd_ne (z hx), upd_ne (z hdx)]
        have oldm : ∀ {a : Addr} {o : HO}, P (i + 3) a = some o → m7 a = some o := fun {a o} ha => by
          rw [old (by rw [w.sub _ _ _ ha]; exact fun z => by cases z)]; exact ha
        have m7h : m7 r.ha = some (.lst (r.qs.map V.ref)) := oldm km.hung
        have H'h : H' r.ha = some (.lst (r.qs.map V.ref)) := w7.sub (i + 3) _ _ (by rw [Pt.set_same]; exact m7h)
        refine ⟨r.ha, _, .ref x, rfl, rfl, H'h, ?_, ?_⟩
        · rw [List.length_map, km.pcs.len]
          exact Nat.lt_of_le_of_lt hl (by decide)
        · have w8 := own_mut (a := r.ha) (u := .lst (r.qs.map V.ref)) (o := .lst (r.qs.map V.ref ++ [.ref x])) w7 m7h
          have ndl := km.nd
          have lsts := km.pcs.lists
          have nh : ∀ {a : Addr} {o : HO}, P (i + 3) a = some o → (∀ xs, o ≠ .lst xs) → upd m7 r.ha (.lst (r.qs.map V.ref ++ [.ref x])) a = some o := fun {a o} ha ho => by
            rw [upd_ne (ne_of ha km.hung (ho _))]; exact oldm ha
          have xh : x ≠ r.ha := (ne_of_none (w.sub _ _ _ km.hung) hx).symm
          have hn : ∀ {a : Addr}, H a = none → a ≠ r.ha := fun {a} ha => (ne_of_none (w.sub _ _ _ km.hung) ha).symm
          have k' : HallOk G (P 0) (upd m7 r.ha (.lst (r.qs.map V.ref ++ [.ref x]))) p { h0 with pieces := h0.pieces ++ [⟨n, pl, d, by_, [], [], [], []⟩] } { r with qs := r.qs ++ [x], ls := r.ls ++ [[a1, a2, a3, a4]] } := by
            refine ⟨nh km.ins (fun _ z => by cases z), nh km.kinds (fun _ z => by cases z), nh km.rules (fun _ z => by cases z), nh km.off (fun _ z => by cases z), by rw [List.map_append]; exact upd_same, ?_, km.dk, ?_, ?_⟩
            · refine PcsAt.snoc ?_ (km.pcs.keep (fun q hq => ?_) fun a ha => ?_)
              · have m7x : m7 x = some (.ins G.CP dx [("name", .str n), ("place", .str pl), ("deed", x3), ("by", x4), ("ahead", .ref a1), ("behind", .ref a2), ("needs", .ref a3), ("bars", .ref a4)]) := by rw [← hm7]; exact upd_same
                refine ⟨dx, a1, a2, a3, a4, x3, rfl, d3, by rw [upd_ne xh, m7x]; rcases ex4 with ⟨rfl, rfl⟩ | ⟨s, rfl, rfl⟩ <;> rfl, ?_, ?_, ?_, ?_⟩
                · rw [upd_ne (hn f1), ← hm7, upd_ne x1.symm, upd_ne a14, upd_ne a13, upd_ne a12]; exact upd_same
                · rw [upd_ne (hn f2), ← hm7, upd_ne x2.symm, upd_ne a24, upd_ne a23]; exact upd_same
                · rw [upd_ne (hn f3), ← hm7, upd_ne x3'.symm, upd_ne a34]; exact upd_same
                · rw [upd_ne (hn f4), ← hm7, upd_ne x4'.symm]; exact upd_same
              · obtain ⟨dq, fs, e⟩ := km.pcs.objs q hq
                rw [nh e (fun _ z => by cases z), e]
              · obtain ⟨xs, e⟩ := lsts a ha
                have : a ≠ r.ha := fun z => by subst z; exact (List.nodup_cons.mp ndl).1 ha
                rw [upd_ne this, oldm e, e]
            · show (r.ha :: (r.ls ++ [[a1, a2, a3, a4]]).flatten).Nodup
              rw [List.flatten_append, show ([[a1, a2, a3, a4]] : List (List Addr)).flatten = [a1, a2, a3, a4] from rfl, ← List.cons_append]
              refine List.nodup_append.mpr ⟨ndl, nd, fun a ha b hb => ?_⟩
              have ne : P (i + 3) a ≠ none := by
                rcases List.mem_cons.mp ha with rfl | ha
                · rw [km.hung]; exact fun z => by cases z
                · obtain ⟨xs, e⟩ := lsts a ha
                  rw [e]; exact fun z => by cases z
              intro z
              subst z
              have hb' : H a = none := by
                simp only [List.mem_cons, List.not_mem_nil, or_false] at hb
                rcases hb with rfl | rfl | rfl | rfl <;> assumption
              exact ne ((w.sub _).free hb')
            · refine List.nodup_append.mpr ⟨km.nq, by simp, fun a ha b hb => ?_⟩
              have eb : b = x := by simpa using hb
              subst eb
              intro z
              subst z
              obtain ⟨dq, fs, e⟩ := km.pcs.objs a ha
              rw [w.sub _ _ _ e] at hx; cases hx
          obtain ⟨z1, z2⟩ := hall_set en q1 hs ⟨_, k'⟩
          exact h _ _ σ w8 z1 z2.s
      · exact h.elim
    · exact h.elim
  · exact h.elim
end Fw
namespace Fw
open PySem PySem.Spec PyProof.Rows L2

/-! ### look_up, with the piece's place -/
def spLk (G : Gx) : Sp := fun vs H Q E => ∃ p n J h r, vs = [.ref p, .str n] ∧ HallOk G J H p h r ∧ (∀ (j : Nat) c q, h.pieces[j]? = some c → r.qs[j]? = some q → c.name = n → (∀ d ∈ h.pieces.take j, d.name ≠ n) → Q (.ref q) H) ∧
  ((∀ d ∈ h.pieces, d.name ≠ n) → ∀ C, G.mg "NoPiece" = some (.ref C) → E (.ref C) none H)
theorem pure_lookX {G : Gx} (T : HallTxt G) {vs : List V} {H : Hp} {Q : VK} {E : XK} (h : spLk G vs H Q E) : t_look G (WXof E) { nx := fun _ H' => Q .non H', rt := Q } (L2.start ["self", "name", "piece"] vs) H := by
  obtain ⟨p, n, J, h, r, rfl, k, yes, no⟩ := h
  refine ⟨_, rfl, p, _, _, _, _, rfl, k.ins, T.cH, T.nH "hung" (by decide), rfl, r.ha, rfl, ⟨_, SqL.of k.hung⟩,
    for_list (K := G.K) (a := r.ha) (xs := r.qs.map V.ref) (fun i σ H' => H' = H ∧ (∃ v2, σ = [some (.ref p), some (.str n), v2]) ∧ ∀ d ∈ h.pieces.take i, d.name ≠ n) ⟨rfl, ⟨none, rfl⟩, by simp⟩ ?_ ?_ ?_⟩
  · rintro i σ H' _ ⟨rfl, _, _⟩
    exact SqL.of k.hung
  · rintro i x σ H' hx ⟨rfl, ⟨v2, rfl⟩, hno⟩
    obtain ⟨q, hq, rfl⟩ := map_ref_get hx
    obtain ⟨l, c, hc, _, pc⟩ := k.pcs.get hq
    obtain ⟨dq, a1, a2, a3, a4, wd, _, _, hins, _⟩ := pc.ex
    refine ⟨_, rfl, q, _, _, _, _, rfl, hins, T.cP, T.nP "name" (by decide), rfl, _, rfl, rfl, _, rfl, ?_⟩
    by_cases hn : c.name = n
    · exact ifT (by simpa using hn) ⟨_, rfl, yes i c q hc hq hn hno⟩
    · refine ifF (by simpa using hn) ⟨rfl, ⟨_, rfl⟩, fun d hd => ?_⟩
      rw [List.take_succ, hc] at hd
      rcases List.mem_append.mp hd with hd | hd
      · exact hno d hd
      · simp at hd; subst hd; exact hn
  · rintro σ H' ⟨rfl, ⟨v2, rfl⟩, hno⟩
    exact fun Ca hC => no (fun d hd => hno d (by rw [List.length_map, k.pcs.len, List.take_length]; exact hd)) Ca hC
theorem HallOk.gx {G G' : Gx} {J m : Hp} {p : Addr} {h : HallM} {r : HallR} (e1 : G'.CH = G.CH) (e : G'.CP = G.CP) (k : HallOk G J m p h r) : HallOk G' J m p h r :=
  ⟨by rw [e1]; exact k.ins, k.kinds, k.rules, k.off, k.hung, k.pcs.gx e, k.dk, k.nd, k.nq⟩
theorem look_le {G : Gx} {vs : List V} {H : Hp} {Q : VK} {E : XK} (h : spF G 2 F_look vs H Q E) : spLk G vs H Q E := by
  obtain ⟨C, P, ss, w, en, hl, post⟩ := h
  unfold F_look at post
  split at post
  · rename_i h n
    obtain ⟨p, ws, r, rfl, k, hw, kC⟩ := frozen_at w en
    obtain ⟨v, hv, qv⟩ := slot_pv (i := 1) en rfl
    cases qv
    have hws : ws = [V.str n] := by
      match ws, hw with
      | [x], _ => have : x = V.str n := by simpa using hv
                  rw [this]
    subst hws
    have e2 := un_env en
    have fr2 : Fr P P [.fh h, .pv (.str n)] [.un, .un] := un_fr (Fr.refl _ _) rfl _
    refine ⟨p, n, P 0, h, r, rfl, HallOk.gx (G := G.wC C) rfl rfl k, fun j c q hc hq hn hno => ?_, fun hno Ca hC => ?_⟩
    · have hf : h.find n = some c := find_at hc hn hno
      rw [hf] at post
      obtain ⟨l2, c2, hc2, _, pcC⟩ := kC.pcs.get hq
      rw [hc] at hc2; cases hc2
      exact post P _ (.ref q) w e2 fr2 ⟨q, _, rfl, pcC⟩
    · have hf : h.find n = none := find_no hno
      rw [hf] at post
      exact post P _ (.ref Ca) none w e2 fr2 ⟨Ca, hC, rfl, .inl ⟨rfl, rfl⟩⟩
  · exact post.elim
/-! ### wished -/
def spWd : Sp := fun vs H Q _ => ∃ v, vs = [v] ∧ ((v = .non ∧ ∀ p, H p = none → Q (.ref p) (upd H p (.lst []))) ∨ ((∃ a, v = .ref a) ∧ Q v H))
def t_wished : TS := tSeq (tIfS (tTest (tOp rIsA (tVar 0) (tC .non))) (tRet (tLst tNil)) tNext) (tRet (tVar 0))
theorem pure_wished {vs : List V} {H : Hp} {Q : VK} {E : XK} (h : spWd vs H Q E) : t_wished { nx := fun _ H' => Q .non H', rt := Q } (L2.start ["names"] vs) H := by
  obtain ⟨v, rfl, ⟨rfl, k⟩ | ⟨⟨a, rfl⟩, k⟩⟩ := h
  · exact ⟨_, rfl, rfl, _, rfl, ifT rfl ⟨by decide, k⟩⟩
  · exact ⟨_, rfl, rfl, _, rfl, ifF rfl ⟨_, rfl, k⟩⟩
/-! ### wish -/
inductive WL where
  | ahead
  | behind
  | needs
  | bars
def WL.nm : WL → Str
  | .ahead => "ahead"
  | .behind => "behind"
  | .needs => "needs"
  | .bars => "bars"
def PieceM.get (c : PieceM) : WL → List Str
  | .ahead => c.ahead
  | .behind => c.behind
  | .needs => c.needs
  | .bars => c.bars
def PieceM.more (c : PieceM) (ys : List Str) : WL → PieceM
  | .ahead => { c with ahead := c.ahead ++ ys }
  | .behind => { c with behind := c.behind ++ ys }
  | .needs => { c with needs := c.needs ++ ys }
  | .bars => { c with bars := c.bars ++ ys }
theorem more_name (c : PieceM) (ys : List Str) (L : WL) : (c.more ys L).name = c.name := by cases L <;> rfl
/-- the list of a piece is another -/
theorem PcAt.more {G : Gx} {J m : Hp} {q : Addr} {l : List Addr} {c : PieceM} (h : PcAt G J m q l c) (nd : l.Nodup) (L : WL) (ys : List Str) : ∃ a dq fs, a ∈ l ∧ m q = some (.ins G.CP dq fs) ∧ fs.lookup L.nm = some (.ref a) ∧ m a = some (.lst ((c.get L).map V.str)) ∧
    PcAt G J (L2.upd m a (.lst ((c.get L ++ ys).map V.str))) q l (c.more ys L) := by
  obtain ⟨dq, a1, a2, a3, a4, w, e, d, k0, k1, k2, k3, k4⟩ := h.ex
  subst e
  simp only [List.nodup_cons, List.mem_cons, List.not_mem_nil, or_false, not_or, List.nodup_nil, and_true, not_false_eq_true] at nd
  obtain ⟨⟨a12, a13, a14⟩, ⟨a23, a24⟩, a34⟩ := nd
  have z : ∀ {a b : Addr} {o : HO} {xs : List V}, m a = some (.lst xs) → m b = some o → (∀ ys, o ≠ .lst ys) → ∀ u, L2.upd m a u b = some o := fun {a b o xs} ha hb ho u => by rw [upd_ne (ne_of hb ha (ho _))]; exact hb
  have y : ∀ {a b : Addr} {o : HO}, m b = some o → b ≠ a → ∀ u, L2.upd m a u b = some o := fun {a b o} hb hn u => by rw [upd_ne hn]; exact hb
  have zi : ∀ (b : Addr) {a : Addr} {xs : List V}, m a = some (.lst xs) → ∀ u, L2.upd m a u q = some (.ins G.CP dq [("name", .str c.name), ("place", .str c.place), ("deed", w), ("by", match c.by_ with | none => V.non | some s => V.str s), ("ahead", .ref a1), ("behind", .ref a2), ("needs", .ref a3), ("bars", .ref a4)]) :=
    fun b {a xs} ha u => z ha k0 (fun _ q => by cases q) u
  cases L with
  | ahead => exact ⟨a1, dq, _, by simp, k0, rfl, k1, dq, a1, a2, a3, a4, w, rfl, d, zi q k1 _, upd_same, y k2 (Ne.symm a12) _, y k3 (Ne.symm a13) _, y k4 (Ne.symm a14) _⟩
  | behind => exact ⟨a2, dq, _, by simp, k0, rfl, k2, dq, a1, a2, a3, a4, w, rfl, d, zi q k2 _, y k1 a12 _, upd_same, y k3 (Ne.symm a23) _, y k4 (Ne.symm a24) _⟩
  | needs => exact ⟨a3, dq, _, by simp, k0, rfl, k3, dq, a1, a2, a3, a4, w, rfl, d, zi q k3 _, y k1 a13 _, y k2 a23 _, upd_same, y k4 (Ne.symm a34) _⟩
  | bars => exact ⟨a4, dq, _, by simp, k0, rfl, k4, dq, a1, a2, a3, a4, w, rfl, d, zi q k4 _, y k1 a14 _, y k2 a24 _, y k3 a34 _, upd_same⟩
theorem PcsAt.set {G : Gx} {J m m' : Hp} {a : Addr} {c' : PieceM} (hm : ∀ b, b ≠ a → m' b = m b) : ∀ {qs : List Addr} {ls : List (List Addr)} {cs : List PieceM} {j : Nat} {q : Addr} {l : List Addr}, PcsAt G J m qs ls cs → qs[j]? = some q → ls[j]? = some l → ls.flatten.Nodup → a ∈ l → (∀ q ∈ qs, q ≠ a) → PcAt G J m' q l c' → PcsAt G J m' qs ls (cs.set j c')
  | _, _, _, j, _, _, .nil, h, _, _, _, _, _ => by simp at h
  | q0 :: qs, l0 :: ls, _ :: cs, 0, _, _, .cons h0 t, h1, h2, nd, ha, hq, hc => by
    simp at h1 h2; subst h1 h2
    rw [List.flatten_cons] at nd
    refine .cons hc (t.keep (fun q hq2 => hm q (hq q (List.mem_cons_of_mem _ hq2))) fun b hb => hm b fun z => ?_)
    subst z
    exact (List.nodup_append.mp nd).2.2 _ ha _ hb rfl
  | q0 :: qs, l0 :: ls, c0 :: cs, j + 1, q, l, .cons h0 t, h1, h2, nd, ha, hq, hc => by
    rw [List.flatten_cons] at nd
    have h2' : ls[j]? = some l := by simpa using h2
    refine .cons (h0.keep (hm _ (hq _ (by simp))) fun b hb => hm b fun z => ?_) (PcsAt.set hm (j := j) t (by simpa using h1) h2' (List.nodup_append.mp nd).2.1 ha (fun q hq2 => hq q (List.mem_cons_of_mem _ hq2)) hc)
    subst z
    exact (List.nodup_append.mp nd).2.2 _ hb _ (List.mem_flatten.mpr ⟨_, List.mem_of_getElem? h2', ha⟩) rfl
theorem nodup_of_flatten {ls : List (List Addr)} {l : List Addr} (h : ls.flatten.Nodup) (hl : l ∈ ls) : l.Nodup := by
  induction ls with
  | nil => cases hl
  | cons a ls ih =>
    rw [List.flatten_cons] at h
    obtain ⟨h1, h2, _⟩ := List.nodup_append.mp h
    rcases List.mem_cons.mp hl with rfl | hl
    · exact h1
    · exact ih h2 hl
theorem HallOk.more {G : Gx} {J m : Hp} {p q : Addr} {h : HallM} {r : HallR} {j : Nat} {c : PieceM} (k : HallOk G J m p h r) (hc : h.pieces[j]? = some c) (hq : r.qs[j]? = some q) (L : WL) (ys : List Str) : ∃ a dq fs, m q = some (.ins G.CP dq fs) ∧ fs.lookup L.nm = some (.ref a) ∧ m a = some (.lst ((c.get L).map V.str)) ∧
    HallOk G J (upd m a (.lst ((c.get L ++ ys).map V.str))) p { h with pieces := h.pieces.set j (c.more ys L) } r := by
  obtain ⟨l, c2, hc2, hl, pc⟩ := k.pcs.get hq
  rw [hc] at hc2; cases hc2
  have ndf := (List.nodup_cons.mp k.nd)
  obtain ⟨a, dq, fs, ha, k0, k1, k2, pc'⟩ := pc.more (nodup_of_flatten ndf.2 (List.mem_of_getElem? hl)) L ys
  have z : ∀ {b : Addr} {o : HO}, m b = some o → (∀ ys, o ≠ .lst ys) → upd m a (.lst ((c.get L ++ ys).map V.str)) b = some o := fun {b o} hb ho => by rw [upd_ne (ne_of hb k2 (ho _))]; exact hb
  refine ⟨a, dq, fs, k0, k1, k2, z k.ins (fun _ q => by cases q), z k.kinds (fun _ q => by cases q), z k.rules (fun _ q => by cases q), z k.off (fun _ q => by cases q), ?_, ?_, k.dk, k.nd, k.nq⟩
  · have : r.ha ≠ a := fun e => ndf.1 (by rw [e]; exact List.mem_flatten.mpr ⟨_, List.mem_of_getElem? hl, ha⟩)
    rw [upd_ne this]; exact k.hung
  · refine PcsAt.set (a := a) (fun b hb => upd_ne hb) k.pcs hq hl ndf.2 ha (fun q' hq' e => ?_) pc'
    subst e
    obtain ⟨dq2, fs2, e2⟩ := k.pcs.objs _ hq'
    rw [k2] at e2; cases e2
/-- what is handed in as wishes -/
def wishArg : Sl → Option (List Str)
  | .pv .none => some []
  | .pv (.list ds) => strsOf ds
  | .pv (.tuple ds) => strsOf ds
  | .ls _ ds => strsOf ds
  | _ => none
theorem wishArg_at {G : Gx} {P : Pt} {H : Hp} {i : Nat} {v : Option V} {s : Sl} {ys : List Str} (w : Wd P H) (a : SlAt G (P 0) (P (i + 3)) v s) (h : wishArg s = some ys) : (v = some .non ∧ ys = []) ∨ ∃ b, v = some (.ref b) ∧
    ((P 0 b = some (.lst (ys.map V.str)) ∨ P (i + 3) b = some (.lst (ys.map V.str))) ∨ P 0 b = some (.tup (ys.map V.str))) := by
  unfold wishArg at h
  split at h
  · cases h
    obtain ⟨x, e, d⟩ := a
    cases d; exact .inl ⟨e, rfl⟩
  · obtain ⟨x, e, d⟩ := a
    cases d with
    | lst h1 h2 =>
      rw [strsOf_eq h] at h2
      have := strs_at h2
      subst this
      exact .inr ⟨_, e, .inl (.inl h1)⟩
  · obtain ⟨x, e, d⟩ := a
    cases d with
    | tup h1 h2 =>
      rw [strsOf_eq h] at h2
      have := strs_at h2
      subst this
      exact .inr ⟨_, e, .inr h1⟩
  · obtain ⟨p, vs, e, h1, h2⟩ := a
    rw [strsOf_eq h] at h2
    have := strs_at h2
    subst this
    exact .inr ⟨_, e, .inl (.inr h1)⟩
  · cases h
def tW (G : Gx) (W : WX) (L : WL) (j : Nat) : TS := tDrop (tBM G.K "list" rExtA (tFld G.K (tVar 6) L.nm) (tCons (tCallSD spWd [] (WE W) (tCons (tVar j) tNil)) tNil))
theorem wish_step {G : Gx} {W : WX} (T : HallTxt G) {P : Pt} {m H : Hp} {σ : L2.St} {D : Ends} {p q : Addr} {h : HallM} {r : HallR} {j jj : Nat} {c : PieceM} {L : WL} {v : V} {ys : List Str} (w : Wd (P.set 3 m) H) (k : HallOk G (P 0) m p h r) (hc : h.pieces[j]? = some c) (hq : r.qs[j]? = some q)
    (s6 : σ[6]? = some (some (.ref q))) (sj : σ[jj]? = some (some v)) (hv : (v = .non ∧ ys = []) ∨ ∃ b x, v = .ref b ∧ x ≠ 3 ∧ (P x b = some (.lst (ys.map V.str)) ∨ P x b = some (.tup (ys.map V.str)))) (hb : (c.get L).length + ys.length ≤ 100000)
    (next : ∀ m' H', Wd (P.set 3 m') H' → HallOk G (P 0) m' p { h with pieces := h.pieces.set j (c.more ys L) } r → D.nx σ H') : tW G W L jj D σ H := by
  obtain ⟨a, dq, fs, k0, k1, k2, k3⟩ := k.more hc hq L ys
  have sm : Same m H := by have := w.sub 3; rw [Pt.set_same] at this; exact this
  have hbz : (c.get L).length + ys.length ≤ sizeLine := Nat.le_trans hb (by decide)
  refine ⟨_, s6, q, _, _, _, _, rfl, sm _ _ k0, T.cP, T.nP L.nm (by cases L <;> decide), k1, .inl ⟨rfl, _, SqL.of (sm _ _ k2)⟩, ?_⟩
  rcases hv with ⟨rfl, rfl⟩ | ⟨b, x, rfl, hx, hbx⟩
  · refine ⟨_, sj, _, rfl, .inl ⟨rfl, fun p0 hp0 => ?_⟩⟩
    have na : a ≠ p0 := ne_of_none (sm _ _ k2) hp0
    have w1 := own_new (o := .lst []) w hp0
    have w2 := own_mut (a := a) (u := .lst ((c.get L).map V.str)) (o := .lst ((c.get L).map V.str ++ [])) w1 (by rw [upd_ne na]; exact k2)
    refine .inl ⟨a, p0, _, [], rfl, rfl, by rw [upd_ne na]; exact sm _ _ k2, upd_same, by rw [List.length_map]; exact hbz, next _ _ w2 ?_⟩
    rw [upd_comm (Ne.symm na)]
    have k4 := k3
    rw [List.map_append] at k4
    exact k4.heap fun b o e => by
      by_cases e1 : b = p0
      · subst e1
        exfalso
        rw [upd_ne (Ne.symm na)] at e
        rw [sm _ _ e] at hp0; cases hp0
      · rw [upd_ne e1]; exact e
  · refine ⟨_, sj, _, rfl, .inr ⟨⟨b, rfl⟩, ?_⟩⟩
    have sx : ∀ {o : HO}, P x b = some o → H b = some o := fun {o} e => w.sub x _ _ (by rw [Pt.set_ne hx]; exact e)
    have w2 := own_mut (a := a) (u := .lst ((c.get L).map V.str)) (o := .lst ((c.get L ++ ys).map V.str)) w k2
    have fin : D.nx σ (upd H a (.lst ((c.get L).map V.str ++ ys.map V.str))) := by
      rw [← List.map_append]
      exact next _ _ w2 k3
    rcases hbx with e | e
    · exact .inl ⟨a, b, _, _, rfl, rfl, sm _ _ k2, sx e, by rw [List.length_map, List.length_map]; exact hbz, fin⟩
    · exact .inr ⟨a, b, _, _, rfl, rfl, sm _ _ k2, sx e, by rw [List.length_map, List.length_map]; exact hbz, fin⟩
end Fw
namespace Fw
open PySem PySem.Spec PyProof.Rows L2

theorem EnvAt.le {G : Gx} {P : Pt} {σ : L2.St} {e e2 : En} (en : EnvAt G P σ e) (hl : e2.length = e.length) (h : ∀ (i : Nat) s, e2[i]? = some s → s = .un ∨ e[i]? = some s) : EnvAt G P σ e2 :=
  ⟨hl.trans en.len, en.cs, fun i s hi => by
    rcases h i s hi with rfl | z
    · have hlt : i < σ.length := by
        have := (List.getElem?_eq_some_iff.mp hi).1
        rw [hl, en.len] at this; exact this
      exact ⟨_, List.getElem?_eq_getElem hlt, trivial⟩
    · exact en.at_ i s z⟩
theorem Fr.le {P P' : Pt} {e e1 e2 : En} (f : Fr P P' e e1) (h : ∀ i : Nat, isRef e1[i]? = true → isRef e2[i]? = true) : Fr P P' e e2 := ⟨f.zero, f.one, fun i hi => h i (f.ref i hi)⟩
/-- what comes back of an argument -/
def backS (s : Sl) : Sl := if isRef (some s) = true then s else .un
theorem backS_or (s : Sl) : backS s = .un ∨ backS s = s := by unfold backS; split <;> simp
theorem backS_ref {s : Sl} (h : isRef (some s) = true) : backS s = s := if_pos h
def HallM.wish (h : HallM) (n : Str) (a b c d : List Str) : Option HallM := match h.pieces.findIdx? fun z => decide (z.name = n) with
  | some j => (match h.pieces[j]? with
    | some z => some { h with pieces := h.pieces.set j ((((z.more a .ahead).more b .behind).more c .needs).more d .bars) }
    | none => none)
  | none => none
def fewW (h : HallM) (k : Nat) : Bool := h.pieces.all fun c => decide (c.ahead.length + k ≤ 100000) && decide (c.behind.length + k ≤ 100000) && decide (c.needs.length + k ≤ 100000) && decide (c.bars.length + k ≤ 100000)
def F_wish : Fx := fun ss => match ss with
  | [.ob true (.hall h), .pv (.str n), a, b, c, d] => (match wishArg a, wishArg b, wishArg c, wishArg d with
    | some wa, some wb, some wc, some wd => if fewW h (wa.length + wb.length + wc.length + wd.length) = true then (match h.wish n wa wb wc wd with
      | some h' => .ok (.pv .none) [.ob true (.hall h'), .un, backS a, backS b, backS c, backS d]
      | none => .ex ⟨"NoPiece", []⟩ [.ob true (.hall h), .un, backS a, backS b, backS c, backS d]) else .no
    | _, _, _, _ => .no)
  | _ => .no
def t_wish (G : Gx) (W : WX) : TS := tSeq (tAsg (tMethSD G.CH "look_up" (spLk G) [] (WE W) (tVar 0) (tCons (tVar 1) tNil)) (gName 6)) (tSeq (tW G W .ahead 2) (tSeq (tW G W .behind 3) (tSeq (tW G W .needs 4) (tW G W .bars 5))))
theorem findIdx_of {ps : List PieceM} {n : Str} {j : Nat} {c : PieceM} (h : ps[j]? = some c) (hc : c.name = n) (hno : ∀ d ∈ ps.take j, d.name ≠ n) : ps.findIdx? (fun z => decide (z.name = n)) = some j := by
  induction ps generalizing j with
  | nil => simp at h
  | cons a ps ih =>
    rw [List.findIdx?_cons]
    cases j with
    | zero => simp at h; subst h; simp [hc]
    | succ j =>
      have ha : a.name ≠ n := hno a (by simp)
      rw [ih (by simpa using h) fun d hd => hno d (by rw [List.take_succ_cons]; exact List.mem_cons_of_mem _ hd)]
      simp [ha]
theorem findIdx_no {ps : List PieceM} {n : Str} (hno : ∀ d ∈ ps, d.name ≠ n) : ps.findIdx? (fun z => decide (z.name = n)) = none := by
  rw [List.findIdx?_eq_none_iff]
  intro d hd
  simpa using hno d hd
theorem pure_wish {G : Gx} (T : HallTxt G) {vs : List V} {H : Hp} {Q : VK} {E : XK} (h : spF G 6 F_wish vs H Q E) : t_wish G (WXof E) { nx := fun _ H' => Q .non H', rt := Q } (L2.start ["self", "name", "ahead", "behind", "needs", "bars", "piece"] vs) H := by
  obtain ⟨C, P, ss, w, en, hl, post⟩ := h
  unfold F_wish at post
  split at post
  · rename_i h n a b c d
    split at post
    · rename_i wa wb wc wd qa qb qc qd
      split at post
      · rename_i hf
        obtain ⟨p, r, hs, km, k⟩ := hall_own (i := 0) w en rfl
        have hlen : vs.length = 6 := by have := en.len; simpa using this.symm
        obtain ⟨v0, v1, v2, v3, v4, v5, rfl⟩ : ∃ v0 v1 v2 v3 v4 v5, vs = [v0, v1, v2, v3, v4, v5] := by
          match vs, hlen with
          | [v0, v1, v2, v3, v4, v5], _ => exact ⟨_, _, _, _, _, _, rfl⟩
        have e0 : v0 = .ref p := by simpa using hs
        subst e0
        obtain ⟨y1, z1, q1⟩ := slot_pv (i := 1) en rfl
        cases q1
        have e1 : v1 = .str n := by simpa using z1
        subst e1
        have arg : ∀ (i : Nat) (s : Sl) (ys : List Str) (v : V), i ≠ 0 → [Sl.ob true (.hall h), .pv (.str n), a, b, c, d][i]? = some s → wishArg s = some ys → ([V.ref p, V.str n, v2, v3, v4, v5].map some)[i]? = some (some v) → (v = .non ∧ ys = []) ∨ ∃ bb x, v = .ref bb ∧ x ≠ 3 ∧ (P x bb = some (.lst (ys.map V.str)) ∨ P x bb = some (.tup (ys.map V.str))) := by
          intro i s ys v hi hs hy hv
          obtain ⟨ov, o1, o2⟩ := en.at_ i s hs
          rw [hv] at o1; cases o1
          rcases wishArg_at w o2 hy with ⟨e, rfl⟩ | ⟨bb, e, (e2 | e2) | e2⟩
          · cases e; exact .inl ⟨rfl, rfl⟩
          · cases e; exact .inr ⟨bb, 0, rfl, by decide, .inl e2⟩
          · cases e; exact .inr ⟨bb, i + 3, rfl, by omega, .inl e2⟩
          · cases e; exact .inr ⟨bb, 0, rfl, by decide, .inr e2⟩
        have fin : ∀ {m' : Hp} {H' : Hp} {h' : HallM}, Wd (P.set 3 m') H' → HallOk G (P 0) m' p h' r → EnvAt (G.wC C) (P.set 3 m') ([V.ref p, V.str n, v2, v3, v4, v5].map some) [.ob true (.hall h'), .un, backS a, backS b, backS c, backS d] ∧
            Fr P (P.set 3 m') [.ob true (.hall h), .pv (.str n), a, b, c, d] [.ob true (.hall h'), .un, backS a, backS b, backS c, backS d] := by
          intro m' H' h' w' k'
          obtain ⟨t1, t2⟩ := hall_set (i := 0) (h' := h') en rfl rfl ⟨r, HallOk.gx (G := G) (G' := G.wC C) rfl rfl k'⟩
          refine ⟨t1.le rfl fun i s hi => ?_, t2.le fun i hi => ?_⟩
          · match i, hi with
            | 0, hi => right; exact hi
            | 1, hi => left; cases hi; rfl
            | 2, hi => cases hi; exact (backS_or a).imp id fun z => by rw [z]; rfl
            | 3, hi => cases hi; exact (backS_or b).imp id fun z => by rw [z]; rfl
            | 4, hi => cases hi; exact (backS_or c).imp id fun z => by rw [z]; rfl
            | 5, hi => cases hi; exact (backS_or d).imp id fun z => by rw [z]; rfl
            | i + 6, hi => simp at hi
          · match i, hi with
            | 0, hi => exact hi
            | 1, hi => cases hi
            | 2, hi => show isRef (some (backS a)) = true; rw [backS_ref hi]; exact hi
            | 3, hi => show isRef (some (backS b)) = true; rw [backS_ref hi]; exact hi
            | 4, hi => show isRef (some (backS c)) = true; rw [backS_ref hi]; exact hi
            | 5, hi => show isRef (some (backS d)) = true; rw [backS_ref hi]; exact hi
            | i + 6, hi => simp [isRef] at hi
        have w0 : Wd (P.set 3 (P 3)) H := by rw [Pt.set_id]; exact w
        have kG : HallOk G (P 0) (P 3) p h r := HallOk.gx (G := G.wC C) (G' := G) rfl rfl km
        refine ⟨_, rfl, p, _, _, rfl, k.ins, rfl, _, rfl, p, n, P 0, h, r, rfl, HallOk.gx (G := G.wC C) (G' := G) rfl rfl k, fun j z q hz hq hn hno => ?_, fun hno Ca hC => ?_⟩
        · have hw : h.wish n wa wb wc wd = some { h with pieces := h.pieces.set j ((((z.more wa .ahead).more wb .behind).more wc .needs).more wd .bars) } := by
            unfold HallM.wish
            rw [findIdx_of hz hn hno]
            show (match h.pieces[j]? with | some z => _ | none => _) = _
            rw [hz]
          rw [hw] at post
          have fw := List.all_eq_true.mp hf z (List.mem_of_getElem? hz)
          simp only [Bool.and_eq_true, decide_eq_true_eq] at fw
          obtain ⟨⟨⟨f1, f2⟩, f3⟩, f4⟩ := fw
          have hjl : j < h.pieces.length := (List.getElem?_eq_some_iff.mp hz).1
          have upto : ∀ (x y : PieceM), { ({ h with pieces := h.pieces.set j x } : HallM) with pieces := (h.pieces.set j x).set j y } = ({ h with pieces := h.pieces.set j y } : HallM) := fun x y => by rw [List.set_set]
          have at_ : ∀ x : PieceM, (h.pieces.set j x)[j]? = some x := fun x => List.getElem?_set_self hjl
          show tSeq (tW G (WXof E) .ahead 2) _ _ _ H
          refine wish_step (P := P) T w0 kG hz hq rfl rfl (arg 2 a wa v2 (by decide) rfl qa rfl) (by show z.ahead.length + _ ≤ _; omega) fun m1 H1 w1 k1 => ?_
          refine wish_step (P := P) T w1 k1 (at_ _) hq rfl rfl (arg 3 b wb v3 (by decide) rfl qb rfl) (by show z.behind.length + _ ≤ _; omega) fun m2 H2 w2 k2 => ?_
          rw [upto] at k2
          refine wish_step (P := P) T w2 k2 (at_ _) hq rfl rfl (arg 4 c wc v4 (by decide) rfl qc rfl) (by show z.needs.length + _ ≤ _; omega) fun m3 H3 w3 k3 => ?_
          rw [upto] at k3
          refine wish_step (P := P) T w3 k3 (at_ _) hq rfl rfl (arg 5 d wd v5 (by decide) rfl qd rfl) (by show z.bars.length + _ ≤ _; omega) fun m4 H4 w4 k4 => ?_
          rw [upto] at k4
          obtain ⟨t1, t2⟩ := fin w4 k4
          exact post _ _ .non w4 t1 t2 .non
        · have hw : h.wish n wa wb wc wd = none := by
            unfold HallM.wish
            rw [findIdx_no hno]
          rw [hw] at post
          obtain ⟨t1, t2⟩ := fin w0 kG
          exact post _ _ (.ref Ca) none w0 t1 t2 ⟨Ca, hC, rfl, .inl ⟨rfl, rfl⟩⟩
      · exact post.elim
    · exact post.elim
  · exact post.elim
end Fw
namespace Fw
open PySem PySem.Spec PyProof.Rows L2

/-! ### drop -/
def goStep (g : List Str) (c : PieceM) : List Str := if (match c.by_ with | some b => decide (b ∈ g) | none => false) = true ∧ c.name ∉ g then g ++ [c.name] else g
def goneOf (n : Str) (cs : List PieceM) : List Str := cs.foldl goStep [n]
def HallM.drop (h : HallM) (n : Str) : HallM := { h with pieces := h.pieces.filter fun c => !decide (c.name ∈ goneOf n h.pieces), off := h.off.filter fun z => !decide (z ∈ goneOf n h.pieces) }
def F_drop : Fx := fun ss => match ss with
  | [.ob true (.hall h), .pv (.str n)] => if h.pieces.length ≤ 1000 then (match h.find n with
    | some _ => .ok (.ow (.ls false ((goneOf n h.pieces).map PyData.str))) [.ob true (.hall (h.drop n)), .un]
    | none => .ex ⟨"NoPiece", []⟩ [.ob true (.hall h), .un]) else .no
  | _ => .no
def t_drop (G : Gx) (W : WX) : TS :=
  tSeq (tAsg (tLst (tCons (tFld G.K (tMethSD G.CH "look_up" (spLk G) [] (WE W) (tVar 0) (tCons (tVar 1) tNil)) "name") tNil)) (gName 2))
  (tSeq (tFor (iList G.K (tFld G.K (tVar 0) "hung")) (gName 3) (tIfS (tAnd (tTest (tOp (rIn G.K false) (tFld G.K (tVar 3) "by") (tVar 2))) (tTest (tOp (rIn G.K true) (tFld G.K (tVar 3) "name") (tVar 2)))) (tDrop (tBM G.K "list" rAppend (tVar 2) (tCons (tFld G.K (tVar 3) "name") tNil))) tNext))
  (tSeq (sFld G.K (tVar 0) (tLc (iList G.K (tFld G.K (tVar 0) "hung")) (gName 3) (tTest (tOp (rIn G.K true) (tFld G.K (tVar 3) "name") (tVar 2))) (tVar 3) [3]) "hung")
  (tSeq (tFor (iList G.K (tVar 2)) (gName 4) (tDrop (tDPop2 (tFld G.K (tVar 0) "off") (tVar 4) (tC .non))))
  (tRet (tVar 2)))))
theorem go_or (g : List Str) (c : PieceM) : goStep g c = g ++ [c.name] ∨ goStep g c = g := by
  unfold goStep
  by_cases h : (match c.by_ with | some b => decide (b ∈ g) | none => false) = true ∧ c.name ∉ g
  · left; rw [if_pos h]
  · right; rw [if_neg h]
theorem go_len (cs : List PieceM) (g : List Str) : (cs.foldl goStep g).length ≤ g.length + cs.length := by
  induction cs generalizing g with
  | nil => simp
  | cons c cs ih =>
    rw [List.foldl_cons, List.length_cons]
    have h1 := ih (goStep g c)
    have h2 : (goStep g c).length ≤ g.length + 1 := by
      rcases go_or g c with e | e <;> rw [e]
      · simp
      · omega
    omega
theorem go_take (n : Str) (cs : List PieceM) {i : Nat} {c : PieceM} (h : cs[i]? = some c) : goneOf n (cs.take (i + 1)) = goStep (goneOf n (cs.take i)) c := by
  unfold goneOf
  rw [List.take_succ, h, List.foldl_append]
  rfl
theorem inV_strs (n : Str) (ys : List Str) : inV (.str n) (ys.map V.str) = decide (n ∈ ys) := by
  induction ys with
  | nil => rfl
  | cons y ys ih =>
    unfold inV at ih ⊢
    rw [List.map_cons, List.any_cons, ih]
    by_cases h : y = n
    · subst h; simp [eqV]
    · have : ¬ n = y := fun z => h z.symm
      simp [eqV, h, this]
theorem inV_non (ys : List Str) : inV .non (ys.map V.str) = false := by
  induction ys with
  | nil => rfl
  | cons y ys ih =>
    unfold inV at ih ⊢
    rw [List.map_cons, List.any_cons, ih]
    rfl
theorem flat_strs (ys : List Str) : (ys.map V.str).all flatV = true := by
  induction ys with
  | nil => rfl
  | cons y ys ih => rw [List.map_cons, List.all_cons, ih]; rfl
def selQ {α : Type} (f : PieceM → Bool) : List α → List PieceM → List α
  | q :: qs, c :: cs => if f c = true then q :: selQ f qs cs else selQ f qs cs
  | _, _ => []
theorem selQ_snoc {α : Type} (f : PieceM → Bool) : ∀ {qs : List α} {cs : List PieceM} {q : α} {c : PieceM}, qs.length = cs.length → selQ f (qs ++ [q]) (cs ++ [c]) = selQ f qs cs ++ (if f c = true then [q] else [])
  | [], [], q, c, _ => by
    show (if f c = true then q :: selQ f [] [] else selQ f [] []) = _
    split <;> rfl
  | a :: qs, b :: cs, q, c, h => by
    have ih := selQ_snoc f (qs := qs) (cs := cs) (q := q) (c := c) (by simpa using h)
    show (if f b = true then a :: selQ f (qs ++ [q]) (cs ++ [c]) else selQ f (qs ++ [q]) (cs ++ [c])) = (if f b = true then a :: selQ f qs cs else selQ f qs cs) ++ _
    rw [ih]
    split <;> simp
  | [], _ :: _, _, _, h => by simp at h
  | _ :: _, [], _, _, h => by simp at h
theorem selQ_len {α : Type} (f : PieceM → Bool) : ∀ (qs : List α) (cs : List PieceM), (selQ f qs cs).length ≤ qs.length
  | [], _ => by simp [selQ]
  | q :: qs, [] => by simp [selQ]
  | q :: qs, c :: cs => by
    have ih := selQ_len f qs cs
    show (if f c = true then q :: selQ f qs cs else selQ f qs cs).length ≤ qs.length + 1
    split
    · rw [List.length_cons]; omega
    · omega
theorem selQ_sub {α : Type} (f : PieceM → Bool) : ∀ (qs : List α) (cs : List PieceM), (selQ f qs cs).Sublist qs
  | [], _ => by simp [selQ]
  | q :: qs, [] => by simp [selQ]
  | q :: qs, c :: cs => by
    show (if f c = true then q :: selQ f qs cs else selQ f qs cs).Sublist (q :: qs)
    split
    · exact (selQ_sub f qs cs).cons_cons q
    · exact (selQ_sub f qs cs).cons q
theorem PcsAt.sel {G : Gx} {J m : Hp} (f : PieceM → Bool) : ∀ {qs : List Addr} {ls : List (List Addr)} {cs : List PieceM}, PcsAt G J m qs ls cs → PcsAt G J m (selQ f qs cs) (selQ f ls cs) (cs.filter f)
  | _, _, _, .nil => .nil
  | q :: qs, l :: ls, c :: cs, .cons h t => by
    show PcsAt G J m (if f c = true then q :: selQ f qs cs else selQ f qs cs) (if f c = true then l :: selQ f ls cs else selQ f ls cs) ((c :: cs).filter f)
    by_cases hf : f c = true
    · rw [if_pos hf, if_pos hf, List.filter_cons_of_pos hf]
      exact .cons h (t.sel f)
    · rw [if_neg hf, if_neg hf, List.filter_cons_of_neg hf]
      exact t.sel f
theorem flatten_sub {ls ls' : List (List Addr)} (h : ls'.Sublist ls) : ls'.flatten.Sublist ls.flatten := by
  induction h with
  | slnil => exact .refl _
  | cons a _ ih => rw [List.flatten_cons]; exact ih.trans (List.sublist_append_right _ _)
  | cons_cons a _ ih => rw [List.flatten_cons, List.flatten_cons]; exact (List.Sublist.refl _).append ih
theorem pure_drop {G : Gx} (T : HallTxt G) {vs : List V} {H : Hp} {Q : VK} {E : XK} (h : spF G 2 F_drop vs H Q E) : t_drop G (WXof E) { nx := fun _ H' => Q .non H', rt := Q } (L2.start ["self", "name", "gone", "piece", "one"] vs) H := by
  obtain ⟨C, P, ss, w, en, hl, post⟩ := h
  unfold F_drop at post
  split at post
  · rename_i h n
    split at post
    · rename_i hsz
      obtain ⟨p, r, hs, km', k'⟩ := hall_own (i := 0) w en rfl
      have km : HallOk G (P 0) (P 3) p h r := HallOk.gx (G := G.wC C) (G' := G) rfl rfl km'
      have k : HallOk G (P 0) H p h r := HallOk.gx (G := G.wC C) (G' := G) rfl rfl k'
      have hlen : vs.length = 2 := by have := en.len; simpa using this.symm
      obtain ⟨v0, v1, rfl⟩ : ∃ v0 v1, vs = [v0, v1] := by
        match vs, hlen with
        | [v0, v1], _ => exact ⟨_, _, rfl⟩
      have e0 : v0 = .ref p := by simpa using hs
      subst e0
      obtain ⟨y1, z1, q1⟩ := slot_pv (i := 1) en rfl
      cases q1
      have e1 : v1 = .str n := by simpa using z1
      subst e1
      have hql : r.qs.length = h.pieces.length := k.pcs.len
      refine ⟨_, rfl, p, _, _, rfl, k.ins, rfl, _, rfl, p, n, P 0, h, r, rfl, k, fun j z q hz hq hn hno => ?_, fun hno Ca hC => ?_⟩
      · have hf : h.find n = some z := find_at hz hn hno
        rw [hf] at post
        obtain ⟨l, c2, hc2, _, pc⟩ := k.pcs.get hq
        rw [hz] at hc2; cases hc2
        obtain ⟨dq, a1, a2, a3, a4, wd, _, _, hins, _⟩ := pc.ex
        refine ⟨q, _, _, _, _, rfl, hins, T.cP, T.nP "name" (by decide), rfl, (show 1 ≤ sizeLine by decide), fun g0 hg0 => ?_⟩
        subst hn
        have kp : ∀ {b : Addr} {o : HO} (l : List V), H b = some o → upd H g0 (.lst l) b = some o := fun {b o} l e => by rw [upd_ne (ne_of_none e hg0)]; exact e
        -- the names that go
        refine ⟨_, rfl, p, _, _, _, _, rfl, kp _ k.ins, T.cH, T.nH "hung" (by decide), rfl, r.ha, rfl, ⟨_, SqL.of (kp _ k.hung)⟩,
          for_list (K := G.K) (a := r.ha) (xs := r.qs.map V.ref) (fun i σ H' => (∃ v3, σ = [some (.ref p), some (.str z.name), some (.ref g0), v3, none]) ∧ H' = upd H g0 (.lst ((goneOf z.name (h.pieces.take i)).map V.str))) ⟨⟨none, rfl⟩, rfl⟩ ?_ ?_ ?_⟩
        · rintro i σ H' _ ⟨_, rfl⟩
          exact SqL.of (kp _ k.hung)
        · rintro i x σ H' hx ⟨⟨v3, rfl⟩, rfl⟩
          obtain ⟨q', hq', rfl⟩ := map_ref_get hx
          obtain ⟨l', c, hc, _, pc'⟩ := k.pcs.get hq'
          obtain ⟨dq', b1, b2, b3, b4, wd', _, _, hins', _⟩ := pc'.ex
          have hgl : ((goneOf z.name (h.pieces.take i)).map V.str).length < sizeLine := by
            rw [List.length_map]
            have := go_len (h.pieces.take i) [z.name]
            rw [List.length_take] at this
            exact Nat.lt_of_le_of_lt (show _ ≤ 2000 by unfold goneOf; simp at this; omega) (by decide)
          refine ⟨_, rfl, q', _, _, _, _, rfl, kp _ hins', T.cP, T.nP "by" (by decide), rfl, _, rfl, g0, _, rfl, .inl (SqL.of upd_same), ?_, flat_strs _, _, rfl, ?_⟩
          · cases c.by_ <;> rfl
          · have gt := go_take z.name h.pieces hc
            have eby : inV (match c.by_ with | none => V.non | some s => V.str s) ((goneOf z.name (h.pieces.take i)).map V.str) = (match c.by_ with | some b => decide (b ∈ goneOf z.name (h.pieces.take i)) | none => false) := by
              cases c.by_ with
              | none => exact inV_non _
              | some s => exact inV_strs _ _
            have stay : ∀ {b : Bool}, goStep (goneOf z.name (h.pieces.take i)) c = goneOf z.name (h.pieces.take i) → (∃ v3, ([some (V.ref p), some (V.str z.name), some (V.ref g0), v3, none].set 3 (some (.ref q'))) = [some (.ref p), some (.str z.name), some (.ref g0), v3, none]) ∧ upd H g0 (.lst ((goneOf z.name (h.pieces.take i)).map V.str)) = upd H g0 (.lst ((goneOf z.name (h.pieces.take (i + 1))).map V.str)) := fun {b} e => ⟨⟨_, rfl⟩, by rw [gt, e]⟩
            by_cases h1 : (match c.by_ with | some b => decide (b ∈ goneOf z.name (h.pieces.take i)) | none => false) = true
            · refine ifT (eby.trans h1) ?_
              refine ⟨_, rfl, q', _, _, _, _, rfl, kp _ hins', T.cP, T.nP "name" (by decide), rfl, _, rfl, g0, _, rfl, .inl (SqL.of upd_same), rfl, flat_strs _, _, rfl, ?_⟩
              by_cases h2 : c.name ∈ goneOf z.name (h.pieces.take i)
              · refine ifF (show (!inV _ _) = false from by rw [inV_strs]; simp [h2]) (stay (b := true) ?_)
                unfold goStep; rw [if_neg (fun q => q.2 h2)]
              · refine ifT (show (!inV _ _) = true from by rw [inV_strs]; simp [h2]) ?_
                refine ⟨_, rfl, .inl ⟨rfl, _, SqL.of upd_same⟩, _, rfl, q', _, _, _, _, rfl, kp _ hins', T.cP, T.nP "name" (by decide), rfl, g0, _, _, rfl, rfl, upd_same, hgl, ⟨_, rfl⟩, ?_⟩
                rw [upd_upd, gt]
                unfold goStep; rw [if_pos ⟨h1, h2⟩]
                simp
            · refine ifF (eby.trans (by simpa using h1)) (ifF rfl (stay (b := true) ?_))
              unfold goStep; rw [if_neg (fun q => h1 q.1)]
        · rintro σ H' ⟨⟨v3, rfl⟩, rfl⟩
          have hall : h.pieces.take (r.qs.map V.ref).length = h.pieces := List.take_of_length_le (by rw [List.length_map]; omega)
          rw [hall]
          obtain ⟨gone, hg⟩ : ∃ g, g = goneOf z.name h.pieces := ⟨_, rfl⟩
          rw [← hg] at post ⊢
          obtain ⟨f, hf'⟩ : ∃ f : PieceM → Bool, f = fun c => !decide (c.name ∈ gone) := ⟨_, rfl⟩
          -- what is left
          refine ⟨_, rfl, p, _, _, _, _, rfl, kp _ k.ins, T.cH, T.nH "hung" (by decide), rfl, r.ha, rfl, ⟨_, SqL.of (kp _ k.hung)⟩, fun Dn hDn => ?_⟩
          have hDH : H Dn = none := by
            by_cases e : Dn = g0
            · subst e; exact hg0
            · rw [upd_ne e] at hDn; exact hDn
          have gD : g0 ≠ Dn := fun e => by subst e; rw [upd_same] at hDn; cases hDn
          have kp2 : ∀ {b : Addr} {o : HO} (l2 : List V), H b = some o → upd (upd H g0 (.lst (gone.map V.str))) Dn (.lst l2) b = some o := fun {b o} l2 e => by rw [upd_ne (ne_of_none e hDH)]; exact kp _ e
          refine lc_list (K := G.K) (a := r.ha) (xs := r.qs.map V.ref) (fun i H' => H' = upd (upd H g0 (.lst (gone.map V.str))) Dn (.lst ((selQ f (r.qs.take i) (h.pieces.take i)).map V.ref))) ?_ (fun i H' _ e => ?_) (fun i x H' hx e => ?_) (fun H' e => ?_)
          · show upd _ Dn (.lst []) = upd _ Dn (.lst ((selQ f (r.qs.take 0) (h.pieces.take 0)).map V.ref))
            rfl
          · subst e; exact SqL.of (kp2 _ k.hung)
          · subst e
            obtain ⟨q', hq', rfl⟩ := map_ref_get hx
            obtain ⟨l', c, hc, _, pc'⟩ := k.pcs.get hq'
            obtain ⟨dq', b1, b2, b3, b4, wd', _, _, hins', _⟩ := pc'.ex
            have st : selQ f (r.qs.take (i + 1)) (h.pieces.take (i + 1)) = selQ f (r.qs.take i) (h.pieces.take i) ++ (if f c = true then [q'] else []) := by
              rw [List.take_succ, List.take_succ, hq', hc]
              exact selQ_snoc f (by rw [List.length_take, List.length_take, hql])
            refine ⟨rfl, _, rfl, q', _, _, _, _, rfl, kp2 _ hins', T.cP, T.nP "name" (by decide), rfl, _, rfl, g0, _, rfl, .inl (SqL.of (by rw [upd_ne gD]; exact upd_same)), rfl, flat_strs _, _, rfl, ?_⟩
            by_cases h2 : c.name ∈ gone
            · refine ifF (show (!inV _ _) = false from by rw [inV_strs]; simp [h2]) ?_
              have hfc : f c = false := by rw [hf']; simp [h2]
              rw [st, hfc]
              simp
            · refine ifT (show (!inV _ _) = true from by rw [inV_strs]; simp [h2]) ?_
              have hfc : f c = true := by rw [hf']; simp [h2]
              refine ⟨_, rfl, _, upd_same, ?_, ?_⟩
              · rw [List.length_map]
                have := selQ_len f (r.qs.take i) (h.pieces.take i)
                rw [List.length_take] at this
                exact Nat.lt_of_le_of_lt (show _ ≤ 1000 by omega) (by decide)
              · rw [upd_upd, st, hfc]
                simp
          · subst e
            rw [hall, show r.qs.take (r.qs.map V.ref).length = r.qs from List.take_of_length_le (by rw [List.length_map]; exact Nat.le_refl _)]
            have pD : p ≠ Dn := ne_of_none k.ins hDH
            refine ⟨_, rfl, p, _, _, _, rfl, kp2 _ k.ins, T.cH, T.nH "hung" (by decide), (show 4 < 1000 by decide), ?_⟩
            -- the parts from here on
            have w1 : Wd (P.set 2 (one g0 (.lst (gone.map V.str)))) (upd H g0 (.lst (gone.map V.str))) := w.alloc1 hg0 2
            have w2 : Wd ((P.set 2 (one g0 (.lst (gone.map V.str)))).set 3 (P 3)) (upd H g0 (.lst (gone.map V.str))) := by
              have : (P.set 2 (one g0 (.lst (gone.map V.str)))).set 3 (P 3) = P.set 2 (one g0 (.lst (gone.map V.str))) := by
                have e : (P.set 2 (one g0 (.lst (gone.map V.str)))) 3 = P 3 := Pt.set_ne (by decide)
                rw [← e, Pt.set_id]
              rw [this]; exact w1
            have w3 := own_new (o := .lst ((selQ f r.qs h.pieces).map V.ref)) w2 hDn
            have nD : ∀ {b : Addr} {o : HO}, P 3 b = some o → b ≠ Dn := fun {b o} e => ne_of_none (w.sub 3 _ _ e) hDH
            have w4 := own_mut (a := p) (o := .ins G.CH r.dx [("kinds", .ref r.ka), ("rules", .ref r.ra), ("hung", .ref Dn), ("off", .ref r.oa)]) w3 (by rw [upd_ne (nD km.ins)]; exact km.ins)
            have nn : ∀ {b : Addr} {o : HO}, P 3 b = some o → (∀ C d fs, o ≠ .ins C d fs) → upd (upd (P 3) Dn (.lst ((selQ f r.qs h.pieces).map V.ref))) p (.ins G.CH r.dx [("kinds", .ref r.ka), ("rules", .ref r.ra), ("hung", .ref Dn), ("off", .ref r.oa)]) b = some o := fun {b o} e ho => by
              rw [upd_ne (ne_of e km.ins (ho _ _ _)), upd_ne (nD e)]; exact e
            have pne : ∀ {q : Addr} {c : PieceM} {l : List Addr}, PcAt G (P 0) (P 3) q l c → q ≠ p := fun {q c l} pc e => by
              obtain ⟨dq, _, _, _, _, _, _, _, e1, _⟩ := pc.ex
              subst e
              rw [km.ins] at e1
              have z1 := Option.some.inj e1
              injection z1 with z2 z3 z4
              have z5 := congrArg List.length z4
              cases z5
            have k5 : HallOk G (P 0) (upd (upd (P 3) Dn (.lst ((selQ f r.qs h.pieces).map V.ref))) p (.ins G.CH r.dx [("kinds", .ref r.ka), ("rules", .ref r.ra), ("hung", .ref Dn), ("off", .ref r.oa)])) p { h with pieces := h.pieces.filter f } { r with ha := Dn, qs := selQ f r.qs h.pieces, ls := selQ f r.ls h.pieces } := by
              refine ⟨upd_same, nn km.kinds (fun _ _ _ q => by cases q), nn km.rules (fun _ _ _ q => by cases q), nn km.off (fun _ _ _ q => by cases q), by rw [upd_ne pD.symm]; exact upd_same, ?_, km.dk, ?_, ?_⟩
              · refine (km.pcs.sel f).keep (fun q hq => ?_) fun b hb => ?_
                · have hq2 := (selQ_sub f r.qs h.pieces).subset hq
                  obtain ⟨i, hi, hiq⟩ := List.mem_iff_getElem.mp hq2
                  obtain ⟨l9, c9, _, _, pc9⟩ := km.pcs.get (j := i) (q := q) (by rw [List.getElem?_eq_getElem hi, hiq])
                  obtain ⟨dq9, _, _, _, _, _, _, _, e9, _⟩ := pc9.ex
                  rw [upd_ne (pne pc9), upd_ne (nD e9)]
                · obtain ⟨xs, e⟩ := km.pcs.lists b ((flatten_sub (selQ_sub f r.ls h.pieces)).subset hb)
                  rw [nn e (fun _ _ _ q => by cases q), e]
              · refine List.nodup_cons.mpr ⟨fun hb => ?_, (flatten_sub (selQ_sub f r.ls h.pieces)).nodup (List.nodup_cons.mp km.nd).2⟩
                obtain ⟨xs, e⟩ := km.pcs.lists Dn ((flatten_sub (selQ_sub f r.ls h.pieces)).subset hb)
                exact nD e rfl
              · exact (selQ_sub f r.qs h.pieces).nodup km.nq
            obtain ⟨m5, hm5⟩ : ∃ m5, m5 = upd (upd (P 3) Dn (.lst ((selQ f r.qs h.pieces).map V.ref))) p (.ins G.CH r.dx [("kinds", .ref r.ka), ("rules", .ref r.ra), ("hung", .ref Dn), ("off", .ref r.oa)]) := ⟨_, rfl⟩
            rw [← hm5] at w4 k5
            obtain ⟨r5, hr5⟩ : ∃ r5 : HallR, r5 = { r with ha := Dn, qs := selQ f r.qs h.pieces, ls := selQ f r.ls h.pieces } := ⟨_, rfl⟩
            rw [← hr5] at k5
            have P20 : ((P.set 2 (one g0 (.lst (gone.map V.str)))).set 3 m5) 2 = one g0 (.lst (gone.map V.str)) := by rw [Pt.set_ne (by decide), Pt.set_same]
            -- the switches
            refine ⟨_, rfl, g0, rfl, ⟨gone.map V.str, SqL.of ?_⟩, for_list (K := G.K) (a := g0) (xs := gone.map V.str) (fun i σ H' => (∃ v4, σ = [some (.ref p), some (.str z.name), some (.ref g0), v3, v4]) ∧
              ∃ m', Wd ((P.set 2 (one g0 (.lst (gone.map V.str)))).set 3 m') H' ∧ HallOk G (P 0) m' p { h with pieces := h.pieces.filter f, off := h.off.filter fun y => !decide (y ∈ gone.take i) } r5) ⟨⟨none, rfl⟩, m5, w4, ?_⟩ ?_ ?_ ?_⟩
            · exact w4.sub 2 _ _ (by rw [P20]; exact one_at)
            · have : h.off.filter (fun y => !decide (y ∈ gone.take 0)) = h.off := filter_id fun y _ => by simp
              rw [this]; exact k5
            · rintro i σ H' _ ⟨_, m', w', _⟩
              exact SqL.of (w'.sub 2 _ _ (by rw [Pt.set_ne (by decide), Pt.set_same]; exact one_at))
            · rintro i x σ H' hx ⟨⟨v4, rfl⟩, m', w', k6⟩
              obtain ⟨y, hy, rfl⟩ : ∃ y, gone[i]? = some y ∧ x = V.str y := by
                rw [List.getElem?_map] at hx
                cases e : gone[i]? with
                | none => rw [e] at hx; cases hx
                | some y => rw [e] at hx; exact ⟨y, rfl, (Option.some.inj hx).symm⟩
              have sm : Same m' H' := by have := w'.sub 3; rw [Pt.set_same] at this; exact this
              refine ⟨_, rfl, p, _, _, _, _, rfl, sm _ _ k6.ins, T.cH, T.nH "off" (by decide), rfl, r5.oa, rfl, .inl ⟨_, Rd.of (sm _ _ k6.off)⟩, _, rfl, _, Sum.inr y, sm _ _ k6.off, rfl, fun v hv => ?_, fun hv => ?_⟩
              · rw [dropK_off]
                have ee : (h.off.filter fun y => !decide (y ∈ gone.take i)).filter (fun z => decide (z ≠ y)) = h.off.filter fun z => !decide (z ∈ gone.take (i + 1)) := by
                  rw [List.filter_filter]
                  apply List.filter_congr
                  intro a _
                  rw [List.take_succ, hy]
                  by_cases e1 : a = y <;> by_cases e2 : a ∈ gone.take i <;> simp [e1, e2]
                rw [ee]
                have k7 := k6.put (h' := { h with pieces := h.pieces.filter f, off := h.off.filter fun z => !decide (z ∈ gone.take (i + 1)) }) .off rfl (fun b hb => by cases b <;> first | rfl | exact absurd rfl hb)
                have e4 : ((HallM.ent { h with pieces := h.pieces.filter f, off := h.off.filter fun z => !decide (z ∈ gone.take (i + 1)) } .off).map fun z => ((Sum.inr z.1 : Key), vOf z.2)) = (h.off.filter fun z => !decide (z ∈ gone.take (i + 1))).map fun z => ((Sum.inr z : Key), V.bl true) := by
                  unfold HallM.ent; rw [List.map_map]; rfl
                rw [e4] at k7
                exact ⟨⟨_, rfl⟩, _, own_mut w' k6.off, k7⟩
              · have ee : h.off.filter (fun z => !decide (z ∈ gone.take (i + 1))) = h.off.filter fun y => !decide (y ∈ gone.take i) := by
                  have z1 := valV_str (fun z : Str => z) (fun z => V.bl true) (h.off.filter fun y => !decide (y ∈ gone.take i)) y
                  rw [hv, List.map_id'] at z1
                  have hn : y ∉ h.off.filter fun y => !decide (y ∈ gone.take i) := by simpa using z1.symm
                  apply List.filter_congr
                  intro a ha
                  rw [List.take_succ, hy]
                  by_cases e1 : a = y
                  · subst e1
                    have : a ∈ gone.take i := by
                      by_cases e2 : a ∈ gone.take i
                      · exact e2
                      · exact absurd (List.mem_filter.mpr ⟨ha, by simp [e2]⟩) hn
                    simp [this]
                  · simp [e1]
                exact ⟨⟨_, rfl⟩, m', w', by rw [ee]; exact k6⟩
            · rintro σ H' ⟨⟨v4, rfl⟩, m', w', k6⟩
              rw [List.length_map, List.take_length] at k6
              have ed : ({ h with pieces := h.pieces.filter f, off := h.off.filter fun y => !decide (y ∈ gone) } : HallM) = h.drop z.name := by unfold HallM.drop; rw [hf', ← hg]
              rw [ed] at k6
              refine ⟨_, rfl, ?_⟩
              have en2 : EnvAt (G.wC C) (P.set 2 (one g0 (.lst (gone.map V.str)))) ([V.ref p, V.str z.name].map some) [.ob true (.hall h), .pv (.str z.name)] := en.mono (by rw [Pt.set_ne (by decide)]; exact Same.refl _) (by rw [Pt.set_ne (by decide)]; exact en.cs) fun i => Pt.set_ne (by omega)
              obtain ⟨t1, t2⟩ := hall_set (i := 0) (h' := h.drop z.name) (m := m') en2 rfl rfl ⟨r5, by rw [Pt.set_ne (by decide)]; exact HallOk.gx (G := G) (G' := G.wC C) rfl rfl k6⟩
              have fr1 : Fr P (P.set 2 (one g0 (.lst (gone.map V.str)))) [.ob true (.hall h), .pv (.str z.name)] [.ob true (.hall h), .pv (.str z.name)] := ⟨by rw [Pt.set_ne (by decide)]; exact Same.refl _, Pt.set_ne (by decide), fun _ h => h⟩
              refine post _ _ (.ref g0) w' (t1.le (e2 := [.ob true (.hall (h.drop z.name)), .un]) rfl fun i s hi => ?_) ((fr1.trans t2).le fun i hi => ?_) ⟨g0, gone.map V.str, rfl, by rw [Pt.set_ne (by decide), Pt.set_same]; exact one_at, DqAll.strs _⟩
              · match i, hi with
                | 0, hi => right; exact hi
                | 1, hi => left; cases hi; rfl
                | i + 2, hi => simp at hi
              · match i, hi with
                | 0, hi => exact hi
                | 1, hi => cases hi
                | i + 2, hi => simp [isRef] at hi
      · have hf : h.find n = none := find_no hno
        rw [hf] at post
        refine post P _ (.ref Ca) none w (en.le (e2 := [.ob true (.hall h), .un]) rfl fun i s hi => ?_) ((Fr.refl _ _).le fun i hi => ?_) ⟨Ca, hC, rfl, .inl ⟨rfl, rfl⟩⟩
        · match i, hi with
          | 0, hi => right; exact hi
          | 1, hi => left; cases hi; rfl
          | i + 2, hi => simp at hi
        · match i, hi with
          | 0, hi => exact hi
          | 1, hi => cases hi
          | i + 2, hi => simp [isRef] at hi
    · exact post.elim
  · exact post.elim
end Fw
namespace Fw
open PySem PySem.Spec PyProof.Rows L2

/-! ### text and function: a hall's attributes -/
section
variable {X : Cx} {G : Gx} {W : WX} {a b c e : Expr} {es : List Expr} {ta tb te : TE} {fa fb fe : Fx} {pos : Pos}
theorem hu1 {k : Nat} {A : Around} (r : Room k A) : A.units + 1 < cLine := by have := r.un; omega
theorem px_ain {x : Str} {i : Nat} {p pa : Pos} (d : HA) (T : HallTxt G) (hu : X.A.units + 1 < cLine) (hK : G.K = X.K) (hv : PE X (.Name x p) (tVar i)) (ha : PEx X G W a ta fa) (hb : attributeBase (.Name x p) d.nm X.env (eval (.Name x p) X.env) = eval (.Name x p) X.env := by rfl) :
    PEx X G W (.Compare a [.In] [.Attribute (.Name x p) d.nm pa] pos) (tDIn ta (tFld G.K (tVar i) d.nm)) (fAin false d i fa) := by
  rw [hK]
  exact (⟨pe_cmp (pc_din hu ha.pe (pe_fld hv hb)) rfl, by
      have z := se_ain (G := G) (W := W) T (neg := false) (a := d) (i := i) ha.se
      rw [hK] at z; exact z⟩)
theorem px_anotin {x : Str} {i : Nat} {p pa : Pos} (d : HA) (T : HallTxt G) (hu : X.A.units + 1 < cLine) (hK : G.K = X.K) (hv : PE X (.Name x p) (tVar i)) (ha : PEx X G W a ta fa) (hb : attributeBase (.Name x p) d.nm X.env (eval (.Name x p) X.env) = eval (.Name x p) X.env := by rfl) :
    PEx X G W (.Compare a [.NotIn] [.Attribute (.Name x p) d.nm pa] pos) (tDNotIn ta (tFld G.K (tVar i) d.nm)) (fAin true d i fa) := by
  rw [hK]
  exact (⟨pe_cmp (pc_dnotin hu ha.pe (pe_fld hv hb)) rfl, by
      have z := se_ain (G := G) (W := W) T (neg := true) (a := d) (i := i) ha.se
      rw [hK] at z; exact z⟩)
theorem ptx_ain {x : Str} {i : Nat} {p pa : Pos} (d : HA) (T : HallTxt G) (hu : X.A.units + 1 < cLine) (hK : G.K = X.K) (hv : PE X (.Name x p) (tVar i)) (ha : PEx X G W a ta fa) (hb : attributeBase (.Name x p) d.nm X.env (eval (.Name x p) X.env) = eval (.Name x p) X.env := by rfl) :
    PTx X G W (.Compare a [.In] [.Attribute (.Name x p) d.nm pa] pos) (tB (tDIn ta (tFld G.K (tVar i) d.nm))) (fTest (fAin false d i fa)) := by
  rw [hK]
  exact (⟨pt_cmp (pc_din hu ha.pe (pe_fld hv hb)) rfl, st_test (by have z := (px_ain (pos := pos) (pa := pa) d T hu hK hv ha hb).se; rw [hK] at z; exact z)⟩)
theorem ptx_anotin {x : Str} {i : Nat} {p pa : Pos} (d : HA) (T : HallTxt G) (hu : X.A.units + 1 < cLine) (hK : G.K = X.K) (hv : PE X (.Name x p) (tVar i)) (ha : PEx X G W a ta fa) (hb : attributeBase (.Name x p) d.nm X.env (eval (.Name x p) X.env) = eval (.Name x p) X.env := by rfl) :
    PTx X G W (.Compare a [.NotIn] [.Attribute (.Name x p) d.nm pa] pos) (tB (tDNotIn ta (tFld G.K (tVar i) d.nm))) (fTest (fAin true d i fa)) := by
  rw [hK]
  exact (⟨pt_cmp (pc_dnotin hu ha.pe (pe_fld hv hb)) rfl, st_test (by have z := (px_anotin (pos := pos) (pa := pa) d T hu hK hv ha hb).se; rw [hK] at z; exact z)⟩)
theorem px_aget {x y : Str} {i j : Nat} {p pa p2 : Pos} (d : HA) (T : HallTxt G) (hu : X.A.units + 1 < cLine) (hK : G.K = X.K) (hv : PE X (.Name x p) (tVar i)) (hy : PE X (.Name y p2) (tVar j)) (hb : attributeBase (.Name x p) d.nm X.env (eval (.Name x p) X.env) = eval (.Name x p) X.env := by rfl) :
    PEx X G W (.Subscript (.Attribute (.Name x p) d.nm pa) (.Name y p2) pos) (tDGet (tFld G.K (tVar i) d.nm) (tVar j)) (fAget d i j) := by
  rw [hK]
  exact (⟨pe_dget hu (pe_fld hv hb) hy (fun _ _ => rfl), by
      have z := se_aget (G := G) (W := W) T (a := d) (i := i) (j := j)
      rw [hK] at z; exact z⟩)
theorem px_alen {x : Str} {i : Nat} {p p2 pa : Pos} (l : HL) (T : HallTxt G) (hK : G.K = X.K) (hg : Gl X "len") (hm : X.mg "len" = none) (hv : PE X (.Name x p) (tVar i)) (hb : attributeBase (.Name x p) l.nm X.env (eval (.Name x p) X.env) = eval (.Name x p) X.env := by rfl)
    (h1 : starEach [.Attribute (.Name x p) l.nm pa] X.env = (false, eval (.Attribute (.Name x p) l.nm pa) X.env) :: starEach [] X.env := by rfl) (h2 : (backTo pos (starEach [] X.env)).any (·.1) = false := by rfl) :
    PEx X G W (.Call (.Name "len" p2) [.Attribute (.Name x p) l.nm pa] [] pos) (tCB (rLenA G.K) (tCons (tFld G.K (tVar i) l.nm) tNil)) (fAlen l i) := by
  rw [hK]
  exact (⟨pe_callB call_lenA hg hm PySem.boot_len (pa_cons (pe_fld hv hb) pa_nil h1) (by decide) (by decide) h1 h2, by
      have z := se_alen (G := G) (W := W) T (l := l) (i := i)
      rw [hK] at z; exact z⟩)
theorem psx_aput {x y : Str} {i j : Nat} {p pa p2 p3 : Pos} {v : Expr} {tv : TE} {fv : Fx} (d : HA) (T : HallTxt G) (hu : X.A.units + 1 < cLine) (hK : G.K = X.K) (hv : PE X (.Name x p) (tVar i)) (hy : PE X (.Name y p2) (tVar j)) (hval : PEx X G W v tv fv)
    (hb : attributeBase (.Name x p) d.nm X.env (eval (.Name x p) X.env) = eval (.Name x p) X.env := by rfl) (hs : swapsWith v (some (.Subscript (.Attribute (.Name x p) d.nm pa) (.Name y p2) p3)) pos.line X.env = pure false := by rfl) :
    PSx X G W (.Assign [.Subscript (.Attribute (.Name x p) d.nm pa) (.Name y p2) p3] v pos) (sDPut (tFld G.K (tVar i) d.nm) (tVar j) tv) (fAput d i j fv) := by
  rw [hK]
  exact (⟨ps_dput hu (pe_fld hv hb) hy hval.pe hs, by
      have z := ss_aput (G := G) (W := W) T (a := d) (i := i) (j := j) hval.se
      rw [hK] at z; exact z⟩)
theorem psx_apop {x y : Str} {i j : Nat} {p pa p2 p3 pc : Pos} {jj : Option String} (T : HallTxt G) (hK : G.K = X.K) (hv : PE X (.Name x p) (tVar i)) (hy : PE X (.Name y p2) (tVar j)) {cn : Expr} (hcn : PE X cn (tC .non)) (m : M2 X (.Attribute (.Name x p) "off" pa) "pop" p3 (.Name y p2) cn pc)
    (hb : attributeBase (.Name x p) "off" X.env (eval (.Name x p) X.env) = eval (.Name x p) X.env := by rfl) (hs : swapsWith (.Call (.Attribute (.Attribute (.Name x p) "off" pa) "pop" p3) [.Name y p2, cn] [] pc) none pos.line X.env = pure false := by rfl) :
    PSx X G W (.Expr (.Call (.Attribute (.Attribute (.Name x p) "off" pa) "pop" p3) [.Name y p2, cn] [] pc) pos) (tDrop (tDPop2 (tFld G.K (tVar i) "off") (tVar j) (tC .non))) (fExpr (fApop i j)) := by
  rw [hK]
  exact (⟨ps_expr (pe_dpop2 (pe_fld hv hb) hy hcn m) hs, by
      have z := ss_apop (G := G) (W := W) T (i := i) (j := j)
      rw [hK] at z; exact z⟩)
/-! ### x is True, x is False -/
def opIsB (n k : Bool) (_e : En) : Rv → Option Ou
  | .pv (.bool b) => some (.val (.bool (if n then !decide (b = k) else decide (b = k))))
  | _ => none
theorem px_isB {k : Bool} {j} {p2 : Pos} (ha : PEx X G W a ta fa) : PEx X G W (.Compare a [.Is] [.Constant (.bool k) j p2] pos) (tOp rIsB ta (tC (.bl k))) (fUn (opIsB false k) fa) := ⟨pe_cmpR op_isBl ha.pe pe_bl (nomark _), by
  refine se_un (r := fun x H Q => rIsB x (.bl k) H Q) ?_ ha.se
  intro P H σ e x v o w en h1 h
  unfold opIsB at h
  split at h
  · cases h; cases h1; exact ⟨_, .bl _, fun Q q => ⟨_, _, rfl, rfl, q⟩⟩
  · cases h⟩
theorem px_isNB {k : Bool} {j} {p2 : Pos} (ha : PEx X G W a ta fa) : PEx X G W (.Compare a [.IsNot] [.Constant (.bool k) j p2] pos) (tOp rNotB ta (tC (.bl k))) (fUn (opIsB true k) fa) := ⟨pe_cmpR op_notBl ha.pe pe_bl (nomark _), by
  refine se_un (r := fun x H Q => rNotB x (.bl k) H Q) ?_ ha.se
  intro P H σ e x v o w en h1 h
  unfold opIsB at h
  split at h
  · cases h; cases h1; exact ⟨_, .bl _, fun Q q => ⟨_, _, rfl, rfl, q⟩⟩
  · cases h⟩
theorem ptx_isB {k : Bool} {j} {p2 : Pos} (ha : PEx X G W a ta fa) : PTx X G W (.Compare a [.Is] [.Constant (.bool k) j p2] pos) (tTest (tOp rIsB ta (tC (.bl k)))) (fTest (fUn (opIsB false k) fa)) := ⟨pt_cmpR op_isBl ha.pe pe_bl (nomark _), st_testT (px_isB (pos := pos) (j := j) (p2 := p2) ha).se⟩
theorem ptx_isNB {k : Bool} {j} {p2 : Pos} (ha : PEx X G W a ta fa) : PTx X G W (.Compare a [.IsNot] [.Constant (.bool k) j p2] pos) (tTest (tOp rNotB ta (tC (.bl k)))) (fTest (fUn (opIsB true k) fa)) := ⟨pt_cmpR op_notBl ha.pe pe_bl (nomark _), st_testT (px_isNB (pos := pos) (j := j) (p2 := p2) ha).se⟩
/-! ### forgetting -/
theorem psx_forget {st : Stmt} {t : TS} {f : Fs} (ks : List Nat) (h : PSx X G W st t f) : PSx X G W st t (fForget ks f) := ⟨h.ps, ss_forget ks h.ss⟩
theorem pbx_forget {st : List Stmt} {t : TS} {f : Fs} (ks : List Nat) (h : PBx X G W st t f) : PBx X G W st t (fForget ks f) := ⟨h.ps, ss_forget ks h.ss⟩
/-- a module's number -/
theorem px_gint {x : Str} {i : Int} {tk : Tok} (hM : G.mg = X.mg) (hg : Gl X x) (hm : G.mg x = some (.int i tk)) (hd : (x == ("__debug__" : Str)) = false := by decide) : PEx X G W (.Name x pos) (tC (.int i)) (fC (.int i)) := ⟨pe_glob hg (by rw [← hM]; exact hm) ⟨_, rfl⟩ hd, se_c fun _ => .int i⟩
end
/-! ### a local dict with texts as keys -/
theorem mutD {G : Gx} {P : Pt} {H : Hp} {σ : L2.St} {e : En} {i : Nat} {r : Bool} {xs ys : List (Str × PD)} {p : Addr} {vs ws : List (Key × V)} (w : Wd P H) (en : EnvAt G P σ e) (hi : e[i]? = some (.dk r xs)) (hs : σ[i]? = some (some (.ref p))) (hp : P (i + 3) p = some (.dK vs))
    (q : kvRel (P 0) ws ys) : Wd (P.set (i + 3) (upd (P (i + 3)) p (.dK ws))) (upd H p (.dK ws)) ∧ EnvAt G (P.set (i + 3) (upd (P (i + 3)) p (.dK ws))) σ (e.set i (.dk r ys)) ∧ Fr P (P.set (i + 3) (upd (P (i + 3)) p (.dK ws))) e (e.set i (.dk r ys)) := by
  have z : (P.set (i + 3) (upd (P (i + 3)) p (.dK ws))) 0 = P 0 := Pt.set_ne (by omega)
  have hlt : i < e.length := (List.getElem?_eq_some_iff.mp hi).1
  refine ⟨w.mut hp, ⟨by rw [List.length_set]; exact en.len, by rw [Pt.set_ne (by omega)]; exact en.cs, fun j s hj => ?_⟩, ⟨by rw [z]; exact Same.refl _, Pt.set_ne (by omega), fun j hj => ?_⟩⟩
  · by_cases hij : i = j
    · subst hij
      rw [List.getElem?_set_self hlt] at hj
      cases hj
      refine ⟨_, hs, p, ws, rfl, ?_, ?_⟩
      · rw [Pt.set_same]; exact upd_same
      · rw [z]; exact q
    · rw [List.getElem?_set_ne hij] at hj
      obtain ⟨v, a, b⟩ := en.at_ j s hj
      have ep : (P.set (i + 3) (upd (P (i + 3)) p (.dK ws))) (j + 3) = P (j + 3) := Pt.set_ne (by omega)
      refine ⟨v, a, ?_⟩
      rw [ep, z]; exact b
  · by_cases hij : i = j
    · subst hij
      rw [List.getElem?_set_self hlt]
      rw [hi] at hj
      cases r with
      | true => rfl
      | false => cases hj
    · rw [List.getElem?_set_ne hij]; exact hj
def fDnew : Fx := fun e => .ok (.ow (.dk false [])) e
theorem se_dnew {G : Gx} {W : WX} : SE G W tDNewK fDnew := fun P σ H e w en Q h => fun p hp => by
  have z : (P.set 2 (one p (.dK []))) 0 = P 0 := Pt.set_ne (by decide)
  refine h _ _ (.ref p) (w.alloc1 hp 2) (en.mono (by rw [z]; exact Same.refl _) (by rw [Pt.set_ne (by decide)]; exact en.cs) fun i => Pt.set_ne (by omega)) ⟨by rw [z]; exact Same.refl _, Pt.set_ne (by decide), fun _ h => h⟩ ⟨p, [], rfl, ?_, .nil⟩
  rw [Pt.set_same]; exact one_at
theorem kv_get {J : Hp} {n : Str} : ∀ {ks : List (Key × V)} {kvs : List (Str × PD)}, kvRel J ks kvs → match getD n kvs with
    | some d => ∃ v, valV ks (Sum.inr n) = some v ∧ Dq J v d
    | none => valV ks (Sum.inr n) = none
  | _, _, .nil => rfl
  | (k, v) :: ks, (m, d) :: kvs, .cons r t => by
    obtain ⟨r1, r2⟩ := r
    have r1' : k = Sum.inr m := r1
    have ih := kv_get (n := n) t
    unfold getD at ih ⊢
    by_cases h : m = n
    · subst h
      rw [List.find?_cons_of_pos (by simp)]
      exact ⟨v, valV_pos r1', r2⟩
    · rw [List.find?_cons_of_neg (by simpa using h), valV_neg (fun q => h (Sum.inr.inj (r1'.symm.trans q)))]
      exact ih
theorem kv_put {J : Hp} {n : Str} {v : V} {d : PD} (q : Dq J v d) {ks : List (Key × V)} {kvs : List (Str × PD)} (r : kvRel J ks kvs) : kvRel J (putK ks (Sum.inr n) v) (putD n d kvs) := by
  have any : ∀ {ks : List (Key × V)} {kvs : List (Str × PD)}, kvRel J ks kvs → (ks.any fun kv => decide (kv.1 = Sum.inr n)) = keyIn n kvs := by
    intro ks kvs r
    induction r with
    | nil => rfl
    | @cons x y xs ys r t ih =>
      obtain ⟨r1, r2⟩ := r
      unfold keyIn at ih ⊢
      rw [List.any_cons, ih, List.map_cons, r1]
      by_cases h : y.1 = n
      · simp [h]
      · have : ¬ n = y.1 := fun z => h z.symm
        simp [h, this]
  have app : ∀ {ks : List (Key × V)} {kvs : List (Str × PD)}, kvRel J ks kvs → kvRel J (ks ++ [(Sum.inr n, v)]) (kvs ++ [(n, d)]) := by
    intro ks kvs r
    induction r with
    | nil => exact .cons ⟨rfl, q⟩ .nil
    | cons r t ih => exact .cons r ih
  have mp : ∀ {ks : List (Key × V)} {kvs : List (Str × PD)}, kvRel J ks kvs → kvRel J (ks.map fun kv => if kv.1 = Sum.inr n then (kv.1, v) else kv) (kvs.map fun z => if z.1 = n then (z.1, d) else z) := by
    intro ks kvs r
    induction r with
    | nil => exact .nil
    | @cons x y xs ys r t ih =>
      obtain ⟨r1, r2⟩ := r
      refine .cons ?_ ih
      dsimp only
      by_cases h : y.1 = n
      · rw [if_pos (by rw [r1, h]), if_pos h]; exact ⟨r1, q⟩
      · rw [if_neg (by rw [r1]; intro z; exact h (Sum.inr.inj z)), if_neg h]; exact ⟨r1, r2⟩
  unfold putK putD
  rw [any r]
  by_cases h : keyIn n kvs = true
  · rw [if_pos h, if_pos h]; exact mp r
  · rw [if_neg h, if_neg h]; exact app r
theorem kv_len {J : Hp} : ∀ {ks : List (Key × V)} {kvs : List (Str × PD)}, kvRel J ks kvs → ks.length = kvs.length
  | _, _, .nil => rfl
  | _, _, .cons _ t => congrArg (· + 1) (kv_len t)
theorem slot_dk {G : Gx} {P : Pt} {σ : L2.St} {e : En} {i : Nat} {r : Bool} {xs : List (Str × PD)} (en : EnvAt G P σ e) (hi : e[i]? = some (.dk r xs)) : ∃ p vs, σ[i]? = some (some (.ref p)) ∧ P (i + 3) p = some (.dK vs) ∧ kvRel (P 0) vs xs := by
  obtain ⟨v, a, p, vs, z1, z2, z3⟩ := en.at_ i _ hi
  subst z1
  exact ⟨p, vs, a, z2, z3⟩
def fDin (neg : Bool) (i : Nat) (fa : Fx) : Fx := fun e => (fz fa e).bind fun v e1 => match v, e1[i]? with
  | .pv (.str n), some (.dk _ kvs) => .ok (.pv (.bool (if neg then !(getD n kvs).isSome else (getD n kvs).isSome))) e1
  | _, _ => .no
theorem kv_some {J : Hp} {n : Str} {ks : List (Key × V)} {kvs : List (Str × PD)} (r : kvRel J ks kvs) : (valV ks (Sum.inr n)).isSome = (getD n kvs).isSome := by
  have := kv_get (n := n) r
  cases q : getD n kvs with
  | none => rw [q] at this; rw [this]; rfl
  | some d => rw [q] at this; obtain ⟨v, e, _⟩ := this; rw [e]; rfl
theorem se_din {G : Gx} {W : WX} {neg : Bool} {i : Nat} {ta : TE} {fa : Fx} (s : SE G W ta fa) : SE G W (if neg then tDNotIn ta (tVar i) else tDIn ta (tVar i)) (fDin neg i fa) := fun P σ H e w en Q h => by
  cases neg with
  | true =>
    refine s.bindz (Q1 := fun y H1 => tVar i σ H1 fun x H2 => ∃ aa o, x = .ref aa ∧ DGet H2 aa y o ∧ Q (.bl (!o.isSome)) H2) w en h fun v e1 P1 H1 x w1 en1 fr1 r1 h1 => ?_
    split at h1
    · rename_i n r0 kvs hh
      cases r1
      obtain ⟨p, vs, hs, hp, rel⟩ := slot_dk en1 hh
      refine ⟨_, hs, p, _, rfl, DGet.k (k := Sum.inr n) (w1.sub _ _ _ hp), ?_⟩
      rw [kv_some rel]
      exact h1 P1 H1 _ w1 en1 (Fr.refl _ _) (.bl _)
    · exact h1.elim
  | false =>
    refine s.bindz (Q1 := fun y H1 => tVar i σ H1 fun x H2 => ∃ aa o, x = .ref aa ∧ DGet H2 aa y o ∧ Q (.bl o.isSome) H2) w en h fun v e1 P1 H1 x w1 en1 fr1 r1 h1 => ?_
    split at h1
    · rename_i n r0 kvs hh
      cases r1
      obtain ⟨p, vs, hs, hp, rel⟩ := slot_dk en1 hh
      refine ⟨_, hs, p, _, rfl, DGet.k (k := Sum.inr n) (w1.sub _ _ _ hp), ?_⟩
      rw [kv_some rel]
      exact h1 P1 H1 _ w1 en1 (Fr.refl _ _) (.bl _)
    · exact h1.elim
def fDget (i : Nat) (fb : Fx) : Fx := fun e => match e[i]? with
  | some (.dk _ _) => (fz fb e).bind fun v e1 => (match v, e1[i]? with
    | .pv (.str n), some (.dk _ kvs) => (match getD n kvs with
      | some d => .ok (.pv d) e1
      | none => .no)
    | _, _ => .no)
  | _ => .no
theorem se_dget {G : Gx} {W : WX} {i : Nat} {tb : TE} {fb : Fx} (s : SE G W tb fb) : SE G W (tDGet (tVar i) tb) (fDget i fb) := fun P σ H e w en Q h => by
  unfold fDget at h
  split at h
  · rename_i r0 kv0 hh
    obtain ⟨p, vs0, hs, _, _⟩ := slot_dk en hh
    refine ⟨_, hs, s.bindz (Q1 := fun y H2 => ∃ a v, V.ref p = .ref a ∧ DGet H2 a y (some v) ∧ Q v H2) w en h fun v e1 P1 H1 x w1 en1 fr1 r1 h1 => ?_⟩
    split at h1
    · rename_i n r1' kvs hh1
      cases r1
      split at h1
      · rename_i d hd
        obtain ⟨p', vs, hs', hp, rel⟩ := slot_dk en1 hh1
        rw [hs] at hs'; cases hs'
        have kg := kv_get (n := n) rel
        rw [hd] at kg
        obtain ⟨y, ey, qy⟩ := kg
        exact ⟨p, y, rfl, by rw [← ey]; exact DGet.k (k := Sum.inr n) (w1.sub _ _ _ hp), h1 P1 H1 _ w1 en1 (Fr.refl _ _) qy⟩
      · exact h1.elim
    · exact h1.elim
  · exact h.elim
def fDput (i : Nat) (fk fv : Fx) : Fs := fun e => (fDz fv e).bind fun v e1 => match e1[i]? with
  | some (.dk _ _) => (fz fk e1).bind fun u e2 => (match v, u, e2[i]? with
    | .pv d, .pv (.str n), some (.dk r kvs) => if kvs.length ≤ 100000 then .ok .nx (e2.set i (.dk r (putD n d kvs))) else .no
    | _, _, _ => .no)
  | _ => .no
theorem SE.binddS {G : Gx} {W : WX} {te : TE} {f : Fx} {g : Rv → En → R Fl} {P : Pt} {e : En} {σ : L2.St} {H : Hp} {Q1 : VK} {D : Ends} (s : SE G W te f) (w : Wd P H) (en : EnvAt G P σ e) (h : PostS G W P e σ D ((fDz f e).bind g))
    (k : ∀ d e1 P1 H1 x, Wd P1 H1 → EnvAt G P1 σ e1 → FrS P P1 e e1 σ σ → Dq (P1 0) x d → PostS G W P1 e1 σ D (g (.pv d) e1) → Q1 x H1) : te σ H Q1 := by
  refine s.bindzS (D := D) (g := fun v e1 => (fzv v e1).bind g) w en ?_ fun v e1 P1 H1 x w1 en1 fr1 r1 h1 => ?_
  · have h' : PostS G W P e σ D (((Fw.fz f e).bind fzv).bind g) := h
    rw [bind_assoc] at h'
    exact h'
  · cases q : fzv v e1 with
    | ok r e2 =>
      rw [q] at h1
      obtain ⟨P2, d, rfl, a, b, c, t⟩ := fzv_at w1 en1 r1 q
      exact k d e2 P2 H1 x a b (fr1.trans c.s) t (PostS.from h1 c.s)
    | ex y e2 =>
      exfalso
      cases v with
      | pv d => cases q
      | bor i =>
        have q' : (match e1[i]? with | some (.ls false xs) => R.ok (Rv.pv (.list xs)) (e1.set i (.pv (.list xs))) | _ => .no) = .ex y e2 := q
        split at q' <;> cases q'
      | ow s => cases q
    | no => rw [q] at h1; exact h1.elim
theorem ss_dput {G : Gx} {W : WX} {i : Nat} {tk tv : TE} {fk fv : Fx} (sk : SE G W tk fk) (sv : SE G W tv fv) : SS G W (sDPut (tVar i) tk tv) (fDput i fk fv) := fun P σ H e w en D h => by
  refine sv.binddS (Q1 := fun v H1 => tVar i σ H1 fun x H2 => tk σ H2 fun y H3 => ∃ a H4, x = .ref a ∧ DPut H3 a y v H4 ∧ D.nx σ H4) w en h fun d e1 P1 H1 x w1 en1 fr1 r1 h1 => ?_
  split at h1
  · rename_i r0 kv0 hh
    obtain ⟨p, vs0, hs, _, _⟩ := slot_dk en1 hh
    refine ⟨_, hs, sk.bindzS (Q1 := fun y H3 => ∃ a H4, V.ref p = .ref a ∧ DPut H3 a y x H4 ∧ D.nx σ H4) w1 en1 h1 fun u e2 P2 H2 y w2 en2 fr2 r2 h2 => ?_⟩
    split at h2
    · rename_i d' n r1' kvs hd hh2
      cases hd
      cases r2
      split at h2
      · rename_i hl
        obtain ⟨p', vs, hs', hp, rel⟩ := slot_dk en2 hh2
        rw [hs] at hs'; cases hs'
        obtain ⟨z1, z2, z3⟩ := mutD w2 en2 hh2 hs hp (kv_put (n := n) (Dq.mono fr2.zero _ _ r1) rel)
        exact ⟨p, _, rfl, DPut.k (k := Sum.inr n) (w2.sub _ _ _ hp) (by rw [kv_len rel]; exact Nat.lt_of_le_of_lt hl (by decide)), h2 _ _ σ z1 z2 z3.s⟩
      · exact h2.elim
    · exact h2.elim
  · exact h1.elim
/-! ### xs[k] = v -/
def fSetI (i : Nat) (fk fv : Fx) : Fs := fun e => (fDz fv e).bind fun v e1 => match e1[i]? with
  | some (.ls _ _) => (fz fk e1).bind fun u e2 => (match v, u, e2[i]? with
    | .pv d, .pv (.int k), some (.ls r xs) => (match ixN xs.length k with
      | some j => .ok .nx (e2.set i (.ls r (xs.set j d)))
      | none => .no)
    | _, _, _ => .no)
  | _ => .no
theorem ss_setI {G : Gx} {W : WX} {i : Nat} {tk tv : TE} {fk fv : Fx} (sk : SE G W tk fk) (sv : SE G W tv fv) : SS G W (tAsg tv (gSub (tVar i) tk rSetL)) (fSetI i fk fv) := fun P σ H e w en D h => by
  refine sv.binddS (Q1 := fun v H1 => gSub (tVar i) tk rSetL v σ H1 D.nx) w en h fun d e1 P1 H1 x w1 en1 fr1 r1 h1 => ?_
  split at h1
  · rename_i r0 kv0 hh
    obtain ⟨p, vs0, hs, _, _⟩ := slot_ls en1 hh
    refine ⟨_, hs, sk.bindzS (Q1 := fun y H3 => rSetL (.ref p) y x H3 fun H4 => D.nx σ H4) w1 en1 h1 fun u e2 P2 H2 y w2 en2 fr2 r2 h2 => ?_⟩
    split at h2
    · rename_i d' k r1' xs hd hh2
      cases hd
      cases r2
      split at h2
      · rename_i j hj
        obtain ⟨p', vs, hs', hp, rel⟩ := slot_ls en2 hh2
        rw [hs] at hs'; cases hs'
        obtain ⟨z1, z2, z3⟩ := mutL w2 en2 hh2 hs hp (rel.set (Dq.mono fr2.zero _ _ r1) j)
        exact ⟨p, vs, k, j, rfl, rfl, w2.sub _ _ _ hp, by rw [rel.length]; exact hj, h2 _ _ σ z1 z2 z3.s⟩
      · exact h2.elim
    · exact h2.elim
  · exact h1.elim
/-! ### reversed -/
theorem lc_itv {K : PySem.W.Frag} {a : Addr} {n : Nat} {g : TG} {tt : TT} {te : TE} {vs : List Nat} {σ : L2.St} {H1 : Hp} {D : Addr} {Qd : Hp → Prop} (Pv : Nat → Hp → Prop) (h0 : Pv 0 (upd H1 D (.lst [])))
    (hl : ∀ i H, Pv i H → ∃ xs, SqL K H a xs ∧ xs.length = n ∧ ∀ x, xs[n - 1 - i]? = some x → i < n → g x (wipe σ vs) H fun σ2 H2 => wipe σ2 vs = wipe σ vs ∧ tt σ2 H2 fun b H3 =>
      if b = true then te σ2 H3 fun y H4 => ∃ acc, H4 D = some (.lst acc) ∧ acc.length < sizeLine ∧ Pv (i + 1) (upd H4 D (.lst (acc ++ [y]))) else Pv (i + 1) H3) (hd : ∀ H, Pv n H → Qd H) :
    ∃ W : Nat → Nat → Hp → Prop, (∃ m, W 0 m (upd H1 D (.lst []))) ∧ ∀ i m H, W i m H →
      ((Itv K a n).stop i H ∧ Qd H) ∨ ((Itv K a n).go i H ∧ ∃ Nx : Hp → Prop, (∀ H', Nx H' → ∃ m', m' < m ∧ W (i + 1) m' H') ∧ ∀ x H', (Itv K a n).yld i H x H' → g x (wipe σ vs) H' fun σ2 H2 => wipe σ2 vs = wipe σ vs ∧ tt σ2 H2 fun b H3 =>
        if b = true then te σ2 H3 fun y H4 => ∃ acc, H4 D = some (.lst acc) ∧ acc.length < sizeLine ∧ Nx (upd H4 D (.lst (acc ++ [y]))) else Nx H3) := by
  refine ⟨fun i m H => m = n - i ∧ i ≤ n ∧ Pv i H, ⟨n, by simp, Nat.zero_le _, h0⟩, ?_⟩
  rintro i m H ⟨rfl, hi, p⟩
  obtain ⟨xs, q, hlen, ht⟩ := hl i H p
  by_cases hlt : i < n
  · refine .inr ⟨⟨hlt, xs, xs[n - 1 - i]'(by omega), q, List.getElem?_eq_getElem _⟩, Pv (i + 1), fun H' p' => ⟨n - (i + 1), by omega, rfl, hlt, p'⟩, fun x H' y => ?_⟩
    obtain ⟨e, y⟩ := y
    subst e
    exact ht x (y xs q) hlt
  · have e : i = n := by omega
    subst e
    exact .inl ⟨Nat.le_refl _, hd H p⟩
noncomputable def compRev (tgt : Tgt) (own : List Nat) (ft : Ft) (fe : Fx) (v : Rv) (e : En) : R Rv := match v with
  | .pv (.list ds) => compE (fun _ => True) tgt own ft fe ds.reverse e
  | .bor j => (match e[j]? with
    | some (.ls r ds) => unfl r j (compE (fun e => e[j]? = some (.ls true ds)) tgt own ft fe ds.reverse (e.set j (.ls true ds)))
    | _ => .no)
  | _ => .no
noncomputable def fLcV (fi : Fx) (tgt : Tgt) (own : List Nat) (ft : Ft) (fe : Fx) : Fx := fun e => (fz fi e).bind (compRev tgt own ft fe)
theorem rev_get {J : Hp} {vs : List V} {ds : List PD} {n i : Nat} {x : V} (a : DqAll J vs ds) (hn : vs.length = n) (hi : i < n) (h : vs[n - 1 - i]? = some x) : ∃ d, ds.reverse[i]? = some d ∧ Dq J x d := by
  obtain ⟨d, e, q⟩ := a.get' h
  refine ⟨d, ?_, q⟩
  have hl := a.length
  rw [List.getElem?_reverse (by omega)]
  rw [← hl, hn]; exact e
theorem se_lcV {G : Gx} {W : WX} {tgt : Tgt} {own ks : List Nat} {ft : Ft} {fi fe : Fx} {g : TG} {tt : TT} {ti te : TE} (si : SE G W ti fi) (sg : SG G g ks tgt) (hk : ∀ k ∈ ks, k ∈ own) (st : ST G W0 tt ft) (se : SE G W0 te fe) : SE G W (tLc (iRev G.K (tCons ti tNil)) g tt te own) (fLcV fi tgt own ft fe) := fun P σ H e w en Q h =>
  si.bindz (Q1 := fun x H1 => ∃ (a : Addr) (xs : List V), [x] = [.ref a] ∧ SqL G.K H1 a xs ∧ ∀ D, H1 D = none → ∃ W : Nat → Nat → Hp → Prop, (∃ m, W 0 m (upd H1 D (.lst []))) ∧ ∀ i m H, W i m H →
      ((Itv G.K a xs.length).stop i H ∧ Q (.ref D) H) ∨ ((Itv G.K a xs.length).go i H ∧ ∃ Nx : Hp → Prop, (∀ H', Nx H' → ∃ m', m' < m ∧ W (i + 1) m' H') ∧ ∀ x H', (Itv G.K a xs.length).yld i H x H' → g x (wipe σ own) H' fun σ2 H2 => wipe σ2 own = wipe σ own ∧ tt σ2 H2 fun b H3 =>
        if b = true then te σ2 H3 fun y H4 => ∃ acc, H4 D = some (.lst acc) ∧ acc.length < sizeLine ∧ Nx (upd H4 D (.lst (acc ++ [y]))) else Nx H3)) w en h fun v e1 P1 H1 x w1 en1 fr1 r1 h1 => by
    unfold compRev at h1
    split at h1
    · rename_i ds
      cases r1 with
      | lst z1 z2 =>
        refine ⟨_, _, rfl, SqL.of (w1.s0 _ _ z1), fun D hD => ?_⟩
        obtain ⟨Pv, p0, pd, pi, pt⟩ := comp_core sg hk st se w1 en1 h1 D hD
        have hl := z2.length
        rw [List.length_reverse, ← hl] at pd
        refine lc_itv Pv p0 (fun i H' p => ?_) pd
        obtain ⟨P2, e2, a, b, c, d, _⟩ := pi i H' p
        refine ⟨_, SqL.of (a.s0 _ _ (c _ _ z1)), rfl, fun y hy hi => ?_⟩
        obtain ⟨dd, hd, qd⟩ := rev_get z2 rfl hi hy
        exact pt i dd y H' p hd fun P3 e3 a3 b3 c3 _ => Dq.mono c3 _ _ qd
    · rename_i j
      split at h1
      · rename_i r ds q
        obtain ⟨p, vs, a1, a2, a3⟩ := slot_ls en1 q
        have r1' : σ[j]? = some (some x) := r1
        rw [a1] at r1'; cases r1'
        refine ⟨p, vs, rfl, SqL.of (w1.sub _ _ _ a2), fun D hD => ?_⟩
        have h2 := unfl_postE q h1
        have hown : j ∉ own := fun hm => by
          unfold compE at h2
          split at h2
          · rename_i hc
            have pl := List.all_eq_true.mp hc.1 j hm
            rw [List.getD_eq_getElem?_getD, List.getElem?_set_self (List.getElem?_eq_some_iff.mp q).1] at pl
            cases pl
          · exact h2
        obtain ⟨Pv, p0, pd, pi, pt⟩ := comp_core sg hk st se w1 (en1.flag q) h2 D hD
        rw [List.length_reverse, ← a3.length] at pd
        refine lc_itv Pv p0 (fun i H' pp => ?_) pd
        obtain ⟨P2, e2, a, b, c, d, _⟩ := pi i H' pp
        obtain ⟨p', vs', b1, b2, b3⟩ := slot_ls b d
        rw [wipe_get hown, a1] at b1; cases b1
        have hl' : vs'.length = vs.length := by rw [b3.length, a3.length]
        refine ⟨vs', SqL.of (a.sub _ _ _ b2), hl', fun y hy hi => ?_⟩
        obtain ⟨dd, hd, qd⟩ := rev_get b3 hl' hi hy
        refine pt i dd y H' pp hd fun P3 e3 w3 en3 c3 g3 => ?_
        obtain ⟨p3, vs3, y1, y2, y3⟩ := slot_ls en3 g3
        rw [wipe_get hown, a1] at y1; cases y1
        have e1 := w3.sub _ _ _ y2
        rw [a.sub _ _ _ b2] at e1; cases e1
        obtain ⟨d4, hd4, q4⟩ := rev_get y3 hl' hi hy
        rw [hd] at hd4; cases hd4
        exact q4
      · exact h1.elim
    · exact h1.elim
end Fw
namespace Fw
open PySem PySem.Spec PyProof.Rows L2

theorem passF {P : Program} {w : World} {X : Cx} : Passes (L2.CX P w) X (fun _ _ _ => False) := fun _ _ _ _ _ _ _ c => by
  obtain ⟨_, _, _, _, _, _, _, _, _, _, _, _, h⟩ := c
  exact h.elim
section
variable {X : Cx} {G : Gx} {W : WX} {a b c e : Expr} {es : List Expr} {ta tb te : TE} {fa fb fe : Fx} {pos : Pos}
theorem px_dnew : PEx X G W (.Dict [] [] pos) tDNewK fDnew := ⟨pe_dnewK, se_dnew⟩
theorem px_din {x : Str} {i : Nat} {p : Pos} (hu : X.A.units + 1 < cLine) (hv : PE X (.Name x p) (tVar i)) (ha : PEx X G W a ta fa) : PEx X G W (.Compare a [.In] [.Name x p] pos) (tDIn ta (tVar i)) (fDin false i fa) := ⟨pe_cmp (pc_din hu ha.pe hv) rfl, se_din (neg := false) ha.se⟩
theorem px_dnotin {x : Str} {i : Nat} {p : Pos} (hu : X.A.units + 1 < cLine) (hv : PE X (.Name x p) (tVar i)) (ha : PEx X G W a ta fa) : PEx X G W (.Compare a [.NotIn] [.Name x p] pos) (tDNotIn ta (tVar i)) (fDin true i fa) := ⟨pe_cmp (pc_dnotin hu ha.pe hv) rfl, se_din (neg := true) ha.se⟩
theorem ptx_din {x : Str} {i : Nat} {p : Pos} (hu : X.A.units + 1 < cLine) (hv : PE X (.Name x p) (tVar i)) (ha : PEx X G W a ta fa) : PTx X G W (.Compare a [.In] [.Name x p] pos) (tB (tDIn ta (tVar i))) (fTest (fDin false i fa)) := ⟨pt_cmp (pc_din hu ha.pe hv) rfl, st_test (px_din (pos := pos) hu hv ha).se⟩
theorem ptx_dnotin {x : Str} {i : Nat} {p : Pos} (hu : X.A.units + 1 < cLine) (hv : PE X (.Name x p) (tVar i)) (ha : PEx X G W a ta fa) : PTx X G W (.Compare a [.NotIn] [.Name x p] pos) (tB (tDNotIn ta (tVar i))) (fTest (fDin true i fa)) := ⟨pt_cmp (pc_dnotin hu ha.pe hv) rfl, st_test (px_dnotin (pos := pos) hu hv ha).se⟩
theorem px_dget {x : Str} {i : Nat} {p : Pos} (hu : X.A.units + 1 < cLine) (hv : PE X (.Name x p) (tVar i)) (hb : PEx X G W b tb fb) (hs : PlainIx b) : PEx X G W (.Subscript (.Name x p) b pos) (tDGet (tVar i) tb) (fDget i fb) := ⟨pe_dget hu hv hb.pe hs, se_dget hb.se⟩
theorem psx_dput {x : Str} {i : Nat} {p p3 : Pos} (hu : X.A.units + 1 < cLine) (hv : PE X (.Name x p) (tVar i)) (hk : PEx X G W b tb fb) (ha : PEx X G W a ta fa) (hs : swapsWith a (some (.Subscript (.Name x p) b p3)) pos.line X.env = pure false := by rfl) :
    PSx X G W (.Assign [.Subscript (.Name x p) b p3] a pos) (sDPut (tVar i) tb ta) (fDput i fb fa) := ⟨ps_dput hu hv hk.pe ha.pe hs, ss_dput hk.se ha.se⟩
theorem psx_setI {x : Str} {i : Nat} {p p3 : Pos} (hv : PE X (.Name x p) (tVar i)) (hk : PEx X G W b tb fb) (ha : PEx X G W a ta fa) (hs : swapsWith a (some (.Subscript (.Name x p) b p3)) pos.line X.env = pure false := by rfl)
    (h1 : ∀ v, assign (.Subscript (.Name x p) b p3) X.env v = (do
      let ov ← holding [v] (eval (.Name x p) X.env)
      let iv ← holding [v, ov] (eval b X.env)
      standAt p3
      holding [v, ov, iv] (PySem.setItem ov iv v)
      release [v, ov, iv] []) := by intro _; rfl) :
    PSx X G W (.Assign [.Subscript (.Name x p) b p3] a pos) (tAsg ta (gSub (tVar i) tb rSetL)) (fSetI i fb fa) := ⟨ps_asg ha.pe (pg_sub hv hk.pe set_list h1) hs, ss_setI hk.se ha.se⟩
/-- Hall() -/
structure HMk (P : Program) (w : World) (base : Heap) (G : Gx) (k : Nat) : Prop where
  ex : ∃ f fd, Mk G.K G.CH f ∧ FnOk P w G.K G.mg base (L2.CX P w) k f fd ["self"] (spHI G) ∧ Binds G.K fd ["self"] []
theorem HMk.wC {P : Program} {w : World} {base : Heap} {G : Gx} {k : Nat} (h : HMk P w base G k) (C : Hp) : HMk P w base (G.wC C) k := ⟨h.ex⟩
theorem HallTxt.wC {G : Gx} (h : HallTxt G) (C : Hp) : HallTxt (G.wC C) := ⟨h.cH, h.nH, h.cP, h.nP, h.gH, h.gP⟩
theorem px_hall {k : Nat} {p : Pos} (M : HMk X.prog X.w X.base G k) (T : HallTxt G) (hr : Room (k + 1) X.A) (hK : G.K = X.K) (hM : G.mg = X.mg) (hg : Gl X "Hall") : PEx X G W (.Call (.Name "Hall" p) [] [] pos) (tMake G.CH (spHI G) [] (fun _ _ _ => False) tNil) fHall := by
  obtain ⟨f, fd, h1, h2, h3⟩ := M.ex
  have g := T.gH
  rw [hK] at h1 h2 h3
  rw [hM] at h2 g
  exact ⟨pe_make0 h1 h2 hr hg g h3 .nil passF, se_hall⟩
/-- self.hung.append(Piece(..)) -/
structure PMkr (P : Program) (w : World) (base : Heap) (G : Gx) (k : Nat) : Prop where
  ex : ∃ f fd, Mk G.K G.CP f ∧ FnOk P w G.K G.mg base (L2.CX P w) k f fd ["self", "name", "place", "deed", "by"] (spPI G) ∧ Binds G.K fd ["self", "name", "place", "deed", "by"] []
theorem PMkr.wC {P : Program} {w : World} {base : Heap} {G : Gx} {k : Nat} (h : PMkr P w base G k) (C : Hp) : PMkr P w base (G.wC C) k := ⟨h.ex⟩
theorem psx_hung {x : Str} {k i j1 j2 j3 j4 : Nat} {p pa pb p2 pc : Pos} (M : PMkr X.prog X.w X.base G k) (T : HallTxt G) (hr : Room (k + 1) X.A) (hK : G.K = X.K) (hM : G.mg = X.mg) (hg : Gl X "Piece") (hv : PE X (.Name x p) (tVar i)) (ha : PA X (e :: es) (tCons (tVar j1) (tCons (tVar j2) (tCons (tVar j3) (tCons (tVar j4) tNil)))))
    (hb : attributeBase (.Name x p) "hung" X.env (eval (.Name x p) X.env) = eval (.Name x p) X.env := by rfl)
    (g1 : starEach (e :: es) X.env = (false, eval e X.env) :: starEach es X.env := by rfl) (g2 : (backTo pc (starEach es X.env)).any (·.1) = false := by rfl)
    (h0 : attributeBase (.Attribute (.Name x p) "hung" pa) "append" X.env (eval (.Attribute (.Name x p) "hung" pa) X.env) = eval (.Attribute (.Name x p) "hung" pa) X.env := by rfl)
    (h1 : ((backTo p2 (starEach [.Call (.Name "Piece" pb) (e :: es) [] pc] X.env)).all (fun x => !x.1) && (backToKw p2 (keywordEach [] X.env)).all (fun x => x.1.isSome) && decide ([Expr.Call (.Name "Piece" pb) (e :: es) [] pc].length + ([] : List Keyword).length + (if ([] : List Keyword).isEmpty then 0 else 1) < 30)) = true := by rfl)
    {p3 : Pos} (h2 : (p3.endLine == p2.line) = true := by rfl) (h3 : starEach [.Call (.Name "Piece" pb) (e :: es) [] pc] X.env = (false, eval (.Call (.Name "Piece" pb) (e :: es) [] pc) X.env) :: starEach [] X.env := by rfl) (h4 : (backTo p2 (starEach [] X.env)).any (·.1) = false := by rfl)
    (hs : swapsWith (.Call (.Attribute (.Attribute (.Name x p) "hung" pa) "append" p3) [.Call (.Name "Piece" pb) (e :: es) [] pc] [] p2) none pos.line X.env = pure false := by rfl) :
    PSx X G W (.Expr (.Call (.Attribute (.Attribute (.Name x p) "hung" pa) "append" p3) [.Call (.Name "Piece" pb) (e :: es) [] pc] [] p2) pos) (tHung G i (tCons (tVar j1) (tCons (tVar j2) (tCons (tVar j3) (tCons (tVar j4) tNil))))) (fHung i j1 j2 j3 j4) := by
  obtain ⟨f, fd, k1, k2, k3⟩ := M.ex
  have g := T.gP
  have sx := ss_hung (W := W) T (i := i) (j1 := j1) (j2 := j2) (j3 := j3) (j4 := j4)
  refine ⟨?_, sx⟩
  rw [hK] at k1 k2 k3
  rw [hM] at k2 g
  unfold tHung
  rw [hK]
  exact ps_expr (pe_bm PySem.F.plainAttrs_list PySem.F.slot_list_append PySem.F.type_list_append mt_append (pe_fld hv hb) (pa_cons (pe_make k1 k2 hr hg g k3 .nil passF ha (by decide) g1 g2) pa_nil h3) h0 h1 h2 h3 h4) hs
/-- [.. for x in reversed(xs)] -/
theorem px_lcV {elt tg iter : Expr} {ifs : List Expr} {scope : Scope} {own : List (Str × Nat)} {ti : TE} {fi : Fx} {g : TG} {ks : List Nat} {tgt : Tgt} {tt : TT} {ft : Ft} {p pos' : Pos} (hK : G.K = X.K) (hc : X.calm = true) (hN : X.N.Nodup) (ok : BlkOk X.N X.env.scope scope own) (hr : Gl X "reversed") (hm : X.mg "reversed" = none) (hi : PEx X G W iter ti fi)
    (hg : ∀ (s : Shared) (H : Hp) (C : Addr) (cl : List (Str × Addr)) (fp : List Addr), PGx (X.blk s H scope (compEnvC scope cl C X.env) fp) G tg g ks tgt) (ht : ∀ (s : Shared) (H : Hp) (C : Addr) (cl : List (Str × Addr)) (fp : List Addr), PTsx (X.blk s H scope (compEnvC scope cl C X.env) fp) G W0 ifs tt ft)
    (he : ∀ (s : Shared) (H : Hp) (C : Addr) (cl : List (Str × Addr)) (fp : List Addr), PEx (X.blk s H scope (compEnvC scope cl C X.env) fp) G W0 elt te fe) (hk : ∀ k ∈ ks, k ∈ own.map (·.2))
    (h0 : starEach [iter] X.env = (false, eval iter X.env) :: starEach [] X.env := by rfl) (h1 : starEach [iter] X.env = [(false, eval iter X.env)] := by rfl) (hs : ∀ x, foldedSetIterable (.Call (.Name "reversed" p) [iter] [] pos') X.env x = pure x := by intro _; rfl) :
    PEx X G W (.ListComp elt [⟨tg, .Call (.Name "reversed" p) [iter] [] pos', ifs, 0⟩] scope pos) (tLc (iRev G.K (tCons ti tNil)) g tt te (own.map (·.2))) (fLcV fi tgt (own.map (·.2)) ft fe) := by
  rw [hK]
  exact (⟨pe_lc hc hN (pi_reversed hr hm (pa_cons hi.pe pa_nil h0) h1) ok (fun s H C cl fp => (hg s H C cl fp).pg) (fun s H C cl fp => (ht s H C cl fp).pt) (fun s H C cl fp => (he s H C cl fp).pe) hs, by
        have z := se_lcV (G := G) hi.se (hg X.s_0 X.H_0 0 [] []).sg hk (ht X.s_0 X.H_0 0 [] []).st (he X.s_0 X.H_0 0 [] []).se
        rw [hK] at z; exact z⟩)
theorem psx_setLcV (i : Nat) {y : Str} {py : Pos} {elt tg iter : Expr} {ifs : List Expr} {scope : Scope} {own : List (Str × Nat)} {spos : Pos} {ti : TE} {fi : Fx} {g : TG} {ks : List Nat} {tgt : Tgt} {tt : TT} {ft : Ft} {p pos' : Pos} (hK : G.K = X.K) (hc : X.calm = true) (hN : X.N.Nodup) (hy : X.N[i]? = some y) (hyl : X.env.scope.names.lookup y = some .local)
    (hsw : swapsWith (.ListComp elt [⟨tg, .Call (.Name "reversed" p) [iter] [] pos', ifs, 0⟩] scope pos) (some (.Name y py)) spos.line X.env = pure true) (ok : BlkOk X.N X.env.scope scope own) (hr : Gl X "reversed") (hm : X.mg "reversed" = none) (hi : PEx X G W iter ti fi)
    (hg : ∀ (s : Shared) (H : Hp) (C : Addr) (cl : List (Str × Addr)) (fp : List Addr), PGx (X.blk s H scope (compEnvC scope cl C X.env) fp) G tg g ks tgt) (ht : ∀ (s : Shared) (H : Hp) (C : Addr) (cl : List (Str × Addr)) (fp : List Addr), PTsx (X.blk s H scope (compEnvC scope cl C X.env) fp) G W0 ifs tt ft)
    (he : ∀ (s : Shared) (H : Hp) (C : Addr) (cl : List (Str × Addr)) (fp : List Addr), PEx (X.blk s H scope (compEnvC scope cl C X.env) fp) G W0 elt te fe) (hk : ∀ k ∈ ks, k ∈ own.map (·.2))
    (h0 : starEach [iter] X.env = (false, eval iter X.env) :: starEach [] X.env := by rfl) (h1 : starEach [iter] X.env = [(false, eval iter X.env)] := by rfl) (hs : ∀ x, foldedSetIterable (.Call (.Name "reversed" p) [iter] [] pos') X.env x = pure x := by intro _; rfl) :
    PSx X G W (.Assign [.Name y py] (.ListComp elt [⟨tg, .Call (.Name "reversed" p) [iter] [] pos', ifs, 0⟩] scope pos) spos) (tAsg (tLc (iRev G.K (tCons ti tNil)) g tt te (own.map (·.2))) (gName i)) (fAsg i (fLcV fi tgt (own.map (·.2)) ft fe)) := by
  rw [hK]
  exact (⟨ps_setLc hc hN hy hyl hsw (pi_reversed hr hm (pa_cons hi.pe pa_nil h0) h1) ok (fun s H C cl fp => (hg s H C cl fp).pg) (fun s H C cl fp => (ht s H C cl fp).pt) (fun s H C cl fp => (he s H C cl fp).pe) hs, by
        have z := se_lcV (G := G) (W := W) hi.se (hg X.s_0 X.H_0 0 [] []).sg hk (ht X.s_0 X.H_0 0 [] []).st (he X.s_0 X.H_0 0 [] []).se
        rw [hK] at z; exact ss_asg z⟩)
end
end Fw
namespace Fw
open PySem PySem.Spec PyProof.Rows L2

def fPre (ks : List Nat) (f : Fs) : Fs := fun e => match forgE ks e with
  | some e' => f e'
  | none => .no
theorem ss_pre {G : Gx} {W : WX} {t : TS} {f : Fs} (ks : List Nat) (s : SS G W t f) : SS G W t (fPre ks f) := fun P σ H e w en D h => by
  have h' : PostS G W P e σ D (match forgE ks e with | some e' => f e' | none => .no) := h
  cases z : forgE ks e with
  | none => rw [z] at h'; exact h'.elim
  | some e2 =>
    rw [z] at h'
    obtain ⟨rfl, k⟩ := forgE_ref z
    exact s P σ H _ w (en.weak ks) D (PostS.from h' ⟨Same.refl _, rfl, rfl, fun i hi => ⟨k i hi, rfl⟩⟩)
section
variable {X : Cx} {G : Gx} {W : WX}
theorem psx_pre {st : Stmt} {t : TS} {f : Fs} (ks : List Nat) (h : PSx X G W st t f) : PSx X G W st t (fPre ks f) := ⟨h.ps, ss_pre ks h.ss⟩
theorem psx_pass {pos : Pos} : PSx X G W (.Pass pos) tNext fNext := ⟨ps_pass, ss_next⟩
/-- slices: parts, text and function -/
structure POx (X : Cx) (G : Gx) (W : WX) (e : Option Expr) (t : TO) (f : Option Fx) : Prop where
  po : PO X e t
  so : SO G W t f
theorem pox_none : POx X G W none tNoPart none := ⟨po_none, so_none⟩
theorem pox_some {e : Expr} {te : TE} {f : Fx} (h : PEx X G W e te f) : POx X G W (some e) (tPart te) (some f) := ⟨po_some h.pe, so_some h.se⟩
theorem px_slx {e : Expr} {te : TE} {fe : Fx} {pos : Pos} {lo hi : Option Expr} {tl th : TO} {fl fh : Option Fx} {p2 : Pos} (hK : G.K = X.K) (ha : PEx X G W e te fe) (hl : POx X G W lo tl fl) (hh : POx X G W hi th fh) : PEx X G W (.Subscript e (.Slice lo hi none p2) pos) (tSl (rSlL G.K) te tl th) (fSl fe fl fh) := by
  exact px_sl hK ha hl.po hh.po hl.so hh.so
end
/-! ### how the functions read -/
section
variable {α β : Type} (e e1 : En) (f g : Fs) (fa fb : Fx) (fr : Fa) (ft fu : Ft) (i j n : Nat) (d x y : PD) (v u : Rv) (xs : List PD) (ns : List Int) (r b : Bool) (ss : En) (ks : List Nat) (h : HallM) (c : PieceM) (a : HA)
@[simp] theorem u_fForget : fForget ks f e = forgR ks (f e) := rfl
@[simp] theorem u_fPre : fPre ks f e = (match forgE ks e with | some e' => f e' | none => .no) := rfl
@[simp] theorem u_forgR (fl : Fl) : forgR ks (.ok fl e) = (match forgE ks e with | some e' => .ok fl e' | none => .no) := rfl
@[simp] theorem u_forgRx (z : Xc) : forgR ks (.ex z e) = .ex z e := rfl
@[simp] theorem u_forgRn : forgR ks .no = .no := rfl
@[simp] theorem u_forgRi (c : Prop) [Decidable c] (a b : R Fl) : forgR ks (if c then a else b) = if c then forgR ks a else forgR ks b := by split <;> rfl
@[simp] theorem u_forgE0 : forgE [] e = some e := rfl
@[simp] theorem u_wipe0 : wipeE e [] = e := rfl
@[simp] theorem u_wipe1 (k : Nat) : wipeE e (k :: ks) = (wipeE e ks).set k .un := rfl
@[simp] theorem u_forgE1 (k : Nat) : forgE (k :: ks) e = if (!isRef e[k]?) = true ∧ (ks.all fun k => !isRef e[k]?) = true then some ((wipeE e ks).set k .un) else none := by
  unfold forgE
  rw [List.all_cons]
  cases h1 : (!isRef e[k]?) <;> cases h2 : (ks.all fun k => !isRef e[k]?) <;> simp <;> rfl
@[simp] theorem isRef_fh : isRef (some (.fh h)) = false := rfl
@[simp] theorem isRef_fp : isRef (some (.fp c)) = false := rfl
@[simp] theorem isRef_cl (ys : List Str) : isRef (some (.cl ys)) = false := rfl
@[simp] theorem isRef_xc (z : Xc) : isRef (some (.xc z)) = false := rfl
@[simp] theorem frz_fh : frz (.ok (.ow (.fh h)) e) = .ok (.ow (.fh h)) e := rfl
@[simp] theorem frz_fp : frz (.ok (.ow (.fp c)) e) = .ok (.ow (.fp c)) e := rfl
@[simp] theorem frz_cl (ys : List Str) : frz (.ok (.ow (.cl ys)) e) = .ok (.ow (.cl ys)) e := rfl
@[simp] theorem seqOf_cl (ys : List Str) : seqOf e (.ow (.cl ys)) = some (true, ys.map PyData.str) := rfl
@[simp] theorem argSl_fh : argSl e (.ow (.fh h)) = some (.fh h) := rfl
@[simp] theorem argSl_fp : argSl e (.ow (.fp c)) = some (.fp c) := rfl
@[simp] theorem borsOf_ow (s : Sl) (vs) : borsOf (.ow s :: vs) = borsOf vs := rfl
@[simp] theorem wback_ow (s t : Sl) (vs) : wback (.ow s :: vs) (t :: ss) e = wback vs ss e := rfl
@[simp] theorem putS_fp : putS i (.ow (.fp c)) e = if isRef e[i]? = true then .no else .ok .nx (e.set i (.fp c)) := rfl
@[simp] theorem putS_dk (k) : putS i (.ow (.dk false k)) e = if isRef e[i]? = true then .no else .ok .nx (e.set i (.dk false k)) := rfl
@[simp] theorem resMap_dk (vs k) : resMap vs (.ow (.dk false k)) = some (.ow (.dk false k)) := rfl
@[simp] theorem u_fDnew : fDnew e = .ok (.ow (.dk false [])) e := rfl
@[simp] theorem u_fDin (neg : Bool) : fDin neg i fa e = (fz fa e).bind fun v e1 => match v, e1[i]? with
  | .pv (.str n), some (.dk _ kvs) => .ok (.pv (.bool (if neg then !(getD n kvs).isSome else (getD n kvs).isSome))) e1
  | _, _ => .no := rfl
@[simp] theorem u_fDget : fDget i fb e = (match e[i]? with
  | some (.dk _ _) => (fz fb e).bind fun v e1 => (match v, e1[i]? with
    | .pv (.str n), some (.dk _ kvs) => (match getD n kvs with
      | some d => .ok (.pv d) e1
      | none => .no)
    | _, _ => .no)
  | _ => .no) := rfl
@[simp] theorem u_fDput : fDput i fa fb e = (fDz fb e).bind fun v e1 => match e1[i]? with
  | some (.dk _ _) => (fz fa e1).bind fun u e2 => (match v, u, e2[i]? with
    | .pv d, .pv (.str n), some (.dk r kvs) => if kvs.length ≤ 100000 then .ok .nx (e2.set i (.dk r (putD n d kvs))) else .no
    | _, _, _ => .no)
  | _ => .no := rfl
@[simp] theorem u_fSetI : fSetI i fa fb e = (fDz fb e).bind fun v e1 => match e1[i]? with
  | some (.ls _ _) => (fz fa e1).bind fun u e2 => (match v, u, e2[i]? with
    | .pv d, .pv (.int k), some (.ls r xs) => (match ixN xs.length k with
      | some j => .ok .nx (e2.set i (.ls r (xs.set j d)))
      | none => .no)
    | _, _, _ => .no)
  | _ => .no := rfl
@[simp] theorem opIsB_bool (n k : Bool) : opIsB n k e (.pv (.bool b)) = some (.val (.bool (if n then !decide (b = k) else decide (b = k)))) := rfl
@[simp] theorem u_fHall : fHall e = .ok (.ow (.ob false (.hall hall0))) e := rfl
@[simp] theorem u_fAin (neg : Bool) : fAin neg a i fa e = (fz fa e).bind fun v e1 => match v, hallOf e1 i with
  | .pv (.str n), some h => .ok (.pv (.bool (if neg then !keyIn n (h.ent a) else keyIn n (h.ent a)))) e1
  | _, _ => .no := rfl
@[simp] theorem u_fAget : fAget a i j e = (match hallOf e i, strAt e j with
  | some h, some n => (match getD n (h.ent a) with
      | some d => .ok (.pv d) e
      | none => .no)
  | _, _ => .no) := rfl
@[simp] theorem u_fAlen (l : HL) : fAlen l i e = (match hallOf e i with
  | some h => .ok (.pv (.int (h.len l : Nat))) e
  | none => .no) := rfl
@[simp] theorem u_hallOf : hallOf e i = (match e[i]? with
  | some (.ob _ (.hall h)) => some h
  | some (.fh h) => some h
  | _ => none) := rfl
@[simp] theorem u_strAt : strAt e j = (match e[j]? with
  | some (.pv (.str n)) => some n
  | _ => none) := rfl
@[simp] theorem u_fAput : fAput a i j fa e = (fz fa e).bind fun v e1 => match v, strAt e1 j, e1[i]? with
  | .pv d, some n, some (.ob b (.hall h)) => (match h.put a n d with
    | some h' => if (h.ent a).length ≤ 1000 then .ok .nx (e1.set i (.ob b (.hall h'))) else .no
    | none => .no)
  | _, _, _ => .no := rfl
@[simp] theorem u_fApop : fApop i j e = (match e[i]?, strAt e j with
  | some (.ob b (.hall h)), some n => .ok (.pv (.bool (decide (n ∈ h.off)))) (e.set i (.ob b (.hall { h with off := h.off.filter fun z => decide (z ≠ n) })))
  | _, _ => .no) := rfl
@[simp] theorem u_fHung (j1 j2 j3 j4 : Nat) : fHung i j1 j2 j3 j4 e = (match e[i]?, strAt e j1, strAt e j2, e[j3]?, e[j4]? with
  | some (.ob b (.hall h)), some n, some pl, some (.pv d), some (.pv dby) => (match byOf dby with
    | some by_ => if h.pieces.length ≤ 1000 then .ok .nx (e.set i (.ob b (.hall { h with pieces := h.pieces ++ [⟨n, pl, d, by_, [], [], [], []⟩] }))) else .no
    | none => .no)
  | _, _, _, _, _ => .no) := rfl
@[simp] theorem u_fMeth (hall : Bool) (F : Fx) (ds : List PD) : fMeth hall n F ds i fr e = (match recv hall e i with
  | some v => (fr e).bind fun vs e1 => callF n F (v :: (vs ++ ds.map .pv)) e1
  | none => .no) := rfl
@[simp] theorem u_recv (hall : Bool) : recv hall e i = (match e[i]?, hall with
  | some (.ob _ (.hall _)), true => some (.bor i)
  | some (.fh h), true => some (.ow (.fh h))
  | some (.ob _ (.run _)), false => some (.bor i)
  | _, _ => none) := rfl
@[simp] theorem u_fRaise (x : Str) : fRaise x e = .ex ⟨x, []⟩ e := rfl
@[simp] theorem u_fTry (hs : List Hd) : fTry f hs e = (match f e with
  | .ex x e1 => if e1.all (fun s => !isXc s) = true then hdl x hs e1 else .no
  | r => r) := rfl
@[simp] theorem hdl_nil (z : Xc) : hdl z [] e = .ex z e := rfl
@[simp] theorem hdl_none (z : Xc) (c : Str) (hs : List Hd) : hdl z ((c, none, g) :: hs) e = if z.cls ∈ leafs ∧ c ∈ ("HallError" : Str) :: leafs then (if isSub z.cls c = true then clean none (g e) else hdl z hs e) else .no := rfl
@[simp] theorem hdl_some (z : Xc) (c : Str) (hs : List Hd) : hdl z ((c, some i, g) :: hs) e = if z.cls ∈ leafs ∧ c ∈ ("HallError" : Str) :: leafs then (if isSub z.cls c = true then (if isRef e[i]? = true then .no else clean (some i) (g (e.set i (.xc z)))) else hdl z hs e) else .no := rfl
@[simp] theorem clean_ok (oi : Option Nat) (fl : Fl) : clean oi (.ok fl e) = if (unsetE oi e).all (fun s => !isXc s) = true ∧ noRt fl = true then .ok fl (unsetE oi e) else .no := rfl
@[simp] theorem unsetE_none : unsetE none e = e := rfl
@[simp] theorem unsetE_some : unsetE (some i) e = e.set i .un := rfl
@[simp] theorem noRt_nx : noRt .nx = true := rfl
@[simp] theorem noRt_pv : noRt (.rt (.pv d)) = true := rfl
@[simp] theorem isXc_un : isXc .un = false := rfl
@[simp] theorem isXc_pv : isXc (.pv d) = false := rfl
@[simp] theorem isXc_ls : isXc (.ls r xs) = false := rfl
@[simp] theorem isXc_dk (k) : isXc (.dk r k) = false := rfl
@[simp] theorem isXc_sc : isXc (.sc ns) = false := rfl
@[simp] theorem isXc_ob (o) : isXc (.ob r o) = false := rfl
@[simp] theorem isXc_fh : isXc (.fh h) = false := rfl
@[simp] theorem isXc_xc (z) : isXc (.xc z) = true := rfl
@[simp] theorem u_fLcV (t : Tgt) (own) : fLcV fa t own ft fb e = (fz fa e).bind (compRev t own ft fb) := rfl
@[simp] theorem compRev_list (t : Tgt) (own) : compRev t own ft fb (.pv (.list xs)) e = compE (fun _ => True) t own ft fb xs.reverse e := rfl
@[simp] theorem compRev_bor (t : Tgt) (own) : compRev t own ft fb (.bor i) e = (match e[i]? with
    | some (.ls r ds) => unfl r i (compE (fun e => e[i]? = some (.ls true ds)) t own ft fb ds.reverse (e.set i (.ls true ds)))
    | _ => .no) := rfl
@[simp] theorem liftF_ob (F : Fx) (rest : En) : liftF F (.ob b (.hall h) :: rest) = (match F (.fh h :: rest) with
    | .ok v (_ :: rest') => if okThaw v = true ∧ rest'.all (fun s => !frzn s) = true then .ok v (.ob b (.hall h) :: rest') else .no
    | .ex x (_ :: rest') => if rest'.all (fun s => !frzn s) = true then .ex x (.ob b (.hall h) :: rest') else .no
    | _ => .no) := rfl
@[simp] theorem liftF_fh (F : Fx) (rest : En) : liftF F (.fh h :: rest) = F (.fh h :: rest) := rfl
@[simp] theorem okThaw_pv : okThaw (.pv d) = true := rfl
@[simp] theorem okThaw_ls : okThaw (.ow (.ls false xs)) = true := rfl
@[simp] theorem frzn_un : frzn .un = false := rfl
@[simp] theorem frzn_pv : frzn (.pv d) = false := rfl
@[simp] theorem frzn_ls : frzn (.ls r xs) = false := rfl
@[simp] theorem unfl_ok {γ : Type} (z : γ) : unfl r i (.ok z e) = (match e[i]? with
    | some (.ls _ zs) => .ok z (e.set i (.ls r zs))
    | _ => .no) := rfl
@[simp] theorem u_fO_none : fO none e = .ok none e := rfl
@[simp] theorem u_fO_some : fO (some fa) e = (fz fa e).bind fun v e1 => match v with
    | .pv (.int i) => .ok (some i) e1
    | _ => .no := rfl
@[simp] theorem u_fSl (fl fh : Option Fx) : fSl fa fl fh e = (fz fa e).bind fun v e1 => (fO fl e1).bind fun lo e2 => (fO fh e2).bind fun hi e3 => match seqOf e3 v with
  | some (true, xs) => give (some (.new (cutD xs lo hi))) e3
  | _ => .no := rfl
@[simp] theorem u_fIndex : fIndex fa fb e = (fz fa e).bind fun v e1 => if isLst e1 v = true then (fz fb e1).bind fun u e2 => give (opIndex e2 v u) e2 else .no := rfl
@[simp] theorem forV_cl (t : Tgt) (ys : List Str) : forV t f (.ow (.cl ys)) e = loopL (fun _ => True) t f (ys.map PyData.str) e := rfl
@[simp] theorem compV_cl (t : Tgt) (own) (ys : List Str) : compV t own ft fb (.ow (.cl ys)) e = compE (fun _ => True) t own ft fb (ys.map PyData.str) e := rfl
end
/-! ### loops -/
/-- a loop that runs through -/
theorem loop_eq {α β : Type} {gd : En → Prop} {tgt : Tgt} {body : Fs} (enc : α → PD) (E : β → En) (step : β → α → β) (Iv : Nat → β → Prop) (hg : ∀ b, gd (E b)) (xs : List α) (b : β) (h0 : Iv 0 b)
    (h : ∀ i b x, xs[i]? = some x → Iv i b → ∃ e1, tgt (enc x) (E b) = some e1 ∧ body e1 = .ok .nx (E (step b x)) ∧ Iv (i + 1) (step b x)) : loopL gd tgt body (xs.map enc) (E b) = .ok .nx (E (xs.foldl step b)) ∧ Iv xs.length (xs.foldl step b) := by
  have key : ∀ (ys : List α) (i : Nat) (b : β), xs.drop i = ys → Iv i b → loopL gd tgt body (ys.map enc) (E b) = .ok .nx (E (ys.foldl step b)) ∧ Iv (i + ys.length) (ys.foldl step b) := by
    intro ys
    induction ys with
    | nil => intro i b _ hi; exact ⟨loopL_nil (hg b), hi⟩
    | cons y ys ih =>
      intro i b hd hi
      have hy : xs[i]? = some y := by
        have := congrArg (fun l => l[0]?) hd
        simpa using this
      obtain ⟨e1, t1, t2, t3⟩ := h i b y hy hi
      have hd2 : xs.drop (i + 1) = ys := by
        have := congrArg (List.drop 1) hd
        rw [List.drop_drop] at this
        simpa using this
      obtain ⟨k1, k2⟩ := ih (i + 1) (step b y) hd2 t3
      refine ⟨?_, by rw [List.length_cons, show i + (ys.length + 1) = i + 1 + ys.length by omega]; exact k2⟩
      rw [List.map_cons, loopL_cons (hg b) t1, t2]
      exact k1
  have := key xs 0 b (by simp) h0
  simpa using this
/-- a loop that may leave the def -/
def foldR {α β : Type} (step : β → α → Sum β (Rv × En)) : List α → β → Sum β (Rv × En)
  | [], b => .inl b
  | x :: xs, b => match step b x with
    | .inl b' => foldR step xs b'
    | .inr c => .inr c
theorem loop_ret {α β : Type} {gd : En → Prop} {tgt : Tgt} {body : Fs} (enc : α → PD) (E : β → En) (step : β → α → Sum β (Rv × En)) (Iv : Nat → β → Prop) (hg : ∀ b, gd (E b)) (xs : List α) (b : β) (h0 : Iv 0 b)
    (h : ∀ i b x, xs[i]? = some x → Iv i b → ∃ e1, tgt (enc x) (E b) = some e1 ∧ ((∃ b', step b x = .inl b' ∧ body e1 = .ok .nx (E b') ∧ Iv (i + 1) b') ∨ ∃ v e2, step b x = .inr (v, e2) ∧ body e1 = .ok (.rt v) e2)) :
    loopL gd tgt body (xs.map enc) (E b) = match foldR step xs b with
      | .inl b' => .ok .nx (E b')
      | .inr c => .ok (.rt c.1) c.2 := by
  have key : ∀ (ys : List α) (i : Nat) (b : β), xs.drop i = ys → Iv i b → loopL gd tgt body (ys.map enc) (E b) = match foldR step ys b with
      | .inl b' => .ok .nx (E b')
      | .inr c => .ok (.rt c.1) c.2 := by
    intro ys
    induction ys with
    | nil => intro i b _ hi; exact loopL_nil (hg b)
    | cons y ys ih =>
      intro i b hd hi
      have hy : xs[i]? = some y := by
        have := congrArg (fun l => l[0]?) hd
        simpa using this
      obtain ⟨e1, t1, t2⟩ := h i b y hy hi
      have hd2 : xs.drop (i + 1) = ys := by
        have := congrArg (List.drop 1) hd
        rw [List.drop_drop] at this
        simpa using this
      rw [List.map_cons, loopL_cons (hg b) t1]
      unfold foldR
      rcases t2 with ⟨b', s1, s2, s3⟩ | ⟨v, e2, s1, s2⟩
      · rw [s1, s2]; exact ih (i + 1) b' hd2 s3
      · rw [s1, s2]; rfl
  exact key xs 0 b (by simp) h0
theorem forR_eq {tgt : Tgt} {body : Fs} {n : Int} {e : En} (hn : n ≤ 1000000) (h0 : -1000000 ≤ n) : forR tgt body 0 n e = loopL (fun _ => True) tgt body ((List.range n.toNat).map fun i : Nat => PyData.int (i : Nat)) e := by
  unfold forR
  rw [if_pos ⟨by omega, by omega, h0, hn⟩, Int.sub_zero]
  congr 1
  apply List.map_congr_left
  intro i _
  rw [Int.zero_add]
end Fw
namespace Fw
open PySem PySem.Spec PyProof.Rows L2

/-! ### self.look_up(name), for its refusal alone -/
structure LkCal (P : Program) (w : World) (base : Heap) (G : Gx) (k : Nat) : Prop where
  cls : Cls G.K G.CH
  ex : ∃ f fd ps, FnOk P w G.K G.mg base (L2.CX P w) k f fd ps (spLk G) ∧ Meth G.K G.CH "look_up" f ∧ Binds G.K fd ps []
theorem spLk_wC {G : Gx} {C : Hp} {vs : List V} {H : Hp} {Q : VK} {E : XK} (h : spLk (G.wC C) vs H Q E) : spLk G vs H Q E := by
  obtain ⟨p, n, J, h, r, e, k, a, b⟩ := h
  exact ⟨p, n, J, h, r, e, HallOk.gx (G := G.wC C) (G' := G) rfl rfl k, a, b⟩
theorem LkCal.wC {P : Program} {w : World} {base : Heap} {G : Gx} {k : Nat} (h : LkCal P w base G k) (C : Hp) : LkCal P w base (G.wC C) k := by
  obtain ⟨f, fd, ps, h1, h2, h3⟩ := h.ex
  exact ⟨h.cls, f, fd, ps, h1.imp fun _ _ _ _ z => spLk_wC z, h2, h3⟩
theorem LkCal.m {P : Program} {w : World} {base : Heap} {G : Gx} {k : Nat} (h : LkCal P w base G k) : MCal P w base G k true "look_up" 2 0 F_look := by
  obtain ⟨f, fd, ps, h1, h2, h3⟩ := h.ex
  exact ⟨h.cls, f, fd, ps, h1.imp fun _ _ _ _ z => look_le z, h2, h3⟩
def fLookD (i j : Nat) : Fs := fun e => match e[i]?, strAt e j with
  | some (.ob b (.hall h)), some n => if n ∈ h.names then .ok .nx e else .ex ⟨"NoPiece", []⟩ e
  | _, _ => .no
theorem ss_lookD {G : Gx} {W : WX} {i j : Nat} : SS G W (tDrop (tMethSD G.CH "look_up" (spLk G) [] (WE W) (tVar i) (tCons (tVar j) tNil))) (fLookD i j) := fun P σ H e w en D h => by
  unfold fLookD at h
  split at h
  · rename_i b h0 n q1 q2
    obtain ⟨p, r, hs, km, k⟩ := hall_own w en q1
    refine ⟨_, hs, p, _, _, rfl, k.ins, rfl, _, str_at en q2, p, n, P 0, h0, r, rfl, k, fun jj c q hc hq hn hno => ?_, fun hno C hC => ?_⟩
    · have hin : n ∈ h0.names := by
        unfold HallM.names
        rw [← hn]
        exact List.mem_map.mpr ⟨c, List.mem_of_getElem? hc, rfl⟩
      rw [if_pos hin] at h
      exact h P H σ w en (FrS.refl _ _ _)
    · have hin : n ∉ h0.names := by
        unfold HallM.names
        intro hm
        obtain ⟨c, hc, e⟩ := List.mem_map.mp hm
        exact hno c hc e
      rw [if_neg hin] at h
      exact h P H σ (.ref C) none w en (FrS.refl _ _ _) ⟨C, hC, rfl, .inl ⟨rfl, rfl⟩⟩
  · exact h.elim
theorem psx_look {X : Cx} {G : Gx} {W : WX} {x y : Str} {k i j : Nat} {p p2 apos pos pos2 : Pos} {pl : Sem Bool} (M : LkCal X.prog X.w X.base G k) (tk : Takes X W) (hr : Room k X.A) (hK : G.K = X.K) (hM : G.mg = X.mg) (hv : PE X (.Name x p) (tVar i)) (hy : PE X (.Name y p2) (tVar j))
    (h1 : starEach [.Name y p2] X.env = (false, eval (.Name y p2) X.env) :: starEach [] X.env := by rfl) (h2 : (backTo pos (starEach [] X.env)).any (·.1) = false := by rfl)
    (ht : eval (.Call (.Attribute (.Name x p) "look_up" apos) [.Name y p2] [] pos) X.env = (do
      let recvd ← eval (.Name x p) X.env
      standAt apos.atName
      let (fn, fst) ← holding [recvd] (getMethod recvd "look_up" pl)
      callWith pos fn fst (backTo pos (starEach [.Name y p2] X.env)) (backToKw pos (keywordEach [] X.env))) := by rfl)
    (hs : swapsWith (.Call (.Attribute (.Name x p) "look_up" apos) [.Name y p2] [] pos) none pos2.line X.env = pure false := by rfl) :
    PSx X G W (.Expr (.Call (.Attribute (.Name x p) "look_up" apos) [.Name y p2] [] pos) pos2) (tDrop (tMethSD G.CH "look_up" (spLk G) [] (WE W) (tVar i) (tCons (tVar j) tNil))) (fLookD i j) := by
  obtain ⟨f, fd, ps, h3, h4, h5⟩ := M.ex
  have c := M.cls
  rw [hK] at h3 h4 h5 c
  rw [hM] at h3
  exact ⟨ps_expr (pe_mthE (pl := pl) hv c h4 h3 hr h5 .nil (fun σ => passAt tk σ) (pa_cons hy pa_nil h1) h1 h2 ht) hs, ss_lookD⟩
@[simp] theorem u_fLookD (i j : Nat) (e : En) : fLookD i j e = (match e[i]?, strAt e j with
  | some (.ob b (.hall h)), some n => if n ∈ h.names then .ok .nx e else .ex ⟨"NoPiece", []⟩ e
  | _, _ => .no) := rfl
end Fw
namespace Fw
open PySem PySem.Spec PyProof.Rows L2

section
variable {P : Program} {w : World} {K : PySem.W.Frag} {mg : Str → Option Value} {base : Heap} {G : Gx}
theorem okFD {x qual : Str} {st : Stmt} {f : Addr} {fd : FuncData} {N ps : List Str} {k : Nat} {fs : Fs} {dvs : List V} (Fn : FunD G.K x qual (defArgs st) (defBody st) (defScope st) dvs [] f fd) (S : FnScope N ps (defScope st))
    (hb : ∀ (cdv : Value) (A : Around) (outer : List Env) (s : Shared) (H : Hp) (E : XK), Room k (A.deeper (envOfC qual (defScope st) s.heap.objs.size f cdv)) → Takes (cxOf (L2.CX P w) P w G.K mg base N qual (defScope st) f cdv A outer s H E) (WXof E) →
      ∀ C, ∃ t, PBx (cxOf (L2.CX P w) P w G.K mg base N qual (defScope st) f cdv A outer s H E) (G.wC C) (WXof E) (defBody st) t fs) : FnOk P w G.K mg base (L2.CX P w) (k + 1) f fd ps (spF G ps.length (runF N.length fs)) := by
  have hpl : ps.length ≤ N.length := by have := congrArg List.length S.pre; rw [List.length_take] at this; omega
  refine Fn.ok S (sp_len rfl) fun cdv A outer s H vs Q E hr hsp => ?_
  obtain ⟨C, PP, ss, w1, en, hn, hp⟩ := hsp
  obtain ⟨t, h1, h2⟩ := hb cdv A outer s H E hr (takes_of rfl rfl rfl rfl) C
  exact ⟨t, h1, run_body hpl h2 w1 en hn hp⟩
theorem okHD {x qual : Str} {st : Stmt} {f : Addr} {fd : FuncData} {N ps : List Str} {k : Nat} {sp : Sp} {t : XK → TS} {dvs : List V} (Fn : FunD K x qual (defArgs st) (defBody st) (defScope st) dvs [] f fd) (S : FnScope N ps (defScope st)) (len : ∀ vs H Q E, sp vs H Q E → vs.length = ps.length)
    (hb : ∀ (cdv : Value) (A : Around) (outer : List Env) (s : Shared) (H : Hp) (E : XK), Room k (A.deeper (envOfC qual (defScope st) s.heap.objs.size f cdv)) → Takes (cxOf (L2.CX P w) P w K mg base N qual (defScope st) f cdv A outer s H E) (WXof E) →
      PassesOwn (model P w) (A.deeper (envOfC qual (defScope st) s.heap.objs.size f cdv)) (envOfC qual (defScope st) s.heap.objs.size f cdv) (cxOf (L2.CX P w) P w K mg base N qual (defScope st) f cdv A outer s H E).xe →
      PSs (cxOf (L2.CX P w) P w K mg base N qual (defScope st) f cdv A outer s H E) (defBody st) (t E))
    (hp : ∀ vs H Q E, sp vs H Q E → t E { nx := fun _ H' => Q .non H', rt := Q } (L2.start N vs) H) : FnOk P w K mg base (L2.CX P w) (k + 1) f fd ps sp :=
  Fn.ok S len fun cdv A outer s H vs Q E hr hsp => ⟨t E, hb cdv A outer s H E hr (takes_of rfl rfl rfl rfl) (passes_of rfl), hp vs H Q E hsp⟩
/-- a def by hand -/
theorem okH {x qual : Str} {st : Stmt} {f : Addr} {fd : FuncData} {N ps : List Str} {k : Nat} {sp : Sp} {t : XK → TS} (Fn : Fun K x qual st f fd) (S : FnScope N ps (defScope st)) (len : ∀ vs H Q E, sp vs H Q E → vs.length = ps.length)
    (hb : ∀ (cdv : Value) (A : Around) (outer : List Env) (s : Shared) (H : Hp) (E : XK), Room k (A.deeper (envOfC qual (defScope st) s.heap.objs.size f cdv)) → Takes (cxOf (L2.CX P w) P w K mg base N qual (defScope st) f cdv A outer s H E) (WXof E) →
      PassesOwn (model P w) (A.deeper (envOfC qual (defScope st) s.heap.objs.size f cdv)) (envOfC qual (defScope st) s.heap.objs.size f cdv) (cxOf (L2.CX P w) P w K mg base N qual (defScope st) f cdv A outer s H E).xe →
      PSs (cxOf (L2.CX P w) P w K mg base N qual (defScope st) f cdv A outer s H E) (defBody st) (t E))
    (hp : ∀ vs H Q E, sp vs H Q E → t E { nx := fun _ H' => Q .non H', rt := Q } (L2.start N vs) H) : FnOk P w K mg base (L2.CX P w) (k + 1) f fd ps sp :=
  Fn.okX S len fun cdv A outer s H vs Q E hr hsp => ⟨t E, hb cdv A outer s H E hr (takes_of rfl rfl rfl rfl) (passes_of rfl), hp vs H Q E hsp⟩
/-- a method as the module's top leaves it -/
structure MDf (G : Gx) (hall : Bool) (m qual : Str) (st : Stmt) (ps : List Str) (nd : Nat) : Prop where
  cls : Cls G.K (G.cOf hall)
  ex : ∃ f fd dvs, FunD G.K m qual (defArgs st) (defBody st) (defScope st) dvs [] f fd ∧ Meth G.K (G.cOf hall) m f ∧ Binds G.K fd ps (List.replicate nd Value.none)
theorem mcal_of {hall : Bool} {m qual : Str} {st : Stmt} {N ps : List Str} {k nd : Nat} {fs : Fs} (D : MDf G hall m qual st ps nd) (S : FnScope N ps (defScope st))
    (hb : ∀ (C : Hp) (f : Addr) (cdv : Value) (A : Around) (outer : List Env) (s : Shared) (H : Hp) (E : XK), Room k (A.deeper (envOfC qual (defScope st) s.heap.objs.size f cdv)) → Takes (cxOf (L2.CX P w) P w G.K G.mg base N qual (defScope st) f cdv A outer s H E) (WXof E) →
      PassesOwn (model P w) (A.deeper (envOfC qual (defScope st) s.heap.objs.size f cdv)) (envOfC qual (defScope st) s.heap.objs.size f cdv) (cxOf (L2.CX P w) P w G.K G.mg base N qual (defScope st) f cdv A outer s H E).xe →
      ∃ t, PBx (cxOf (L2.CX P w) P w G.K G.mg base N qual (defScope st) f cdv A outer s H E) (G.wC C) (WXof E) (defBody st) t fs) : MCal P w base G (k + 1) hall m ps.length nd (runF N.length fs) := by
  obtain ⟨f, fd, dvs, h1, h2, h3⟩ := D.ex
  exact ⟨D.cls, f, fd, ps, okFD h1 S fun cdv A outer s H E hr tk C => hb C f cdv A outer s H E hr tk (passes_of rfl), h2, h3⟩
theorem mcal_h {hall : Bool} {m qual : Str} {st : Stmt} {N ps : List Str} {k nd n : Nat} {F : Fx} {t : XK → TS} (D : MDf G hall m qual st ps nd) (S : FnScope N ps (defScope st)) (hn : n = ps.length)
    (hb : ∀ (f : Addr) (cdv : Value) (A : Around) (outer : List Env) (s : Shared) (H : Hp) (E : XK), Room k (A.deeper (envOfC qual (defScope st) s.heap.objs.size f cdv)) → Takes (cxOf (L2.CX P w) P w G.K G.mg base N qual (defScope st) f cdv A outer s H E) (WXof E) →
      PassesOwn (model P w) (A.deeper (envOfC qual (defScope st) s.heap.objs.size f cdv)) (envOfC qual (defScope st) s.heap.objs.size f cdv) (cxOf (L2.CX P w) P w G.K G.mg base N qual (defScope st) f cdv A outer s H E).xe →
      PSs (cxOf (L2.CX P w) P w G.K G.mg base N qual (defScope st) f cdv A outer s H E) (defBody st) (t E))
    (hp : ∀ vs H Q E, spF G n F vs H Q E → t E { nx := fun _ H' => Q .non H', rt := Q } (L2.start N vs) H) : MCal P w base G (k + 1) hall m n nd F := by
  obtain ⟨f, fd, dvs, h1, h2, h3⟩ := D.ex
  exact ⟨D.cls, f, fd, ps, okHD h1 S (sp_len hn) (fun cdv A outer s H E hr tk hp => hb f cdv A outer s H E hr tk hp) hp, h2, h3⟩
theorem lk_h {qual : Str} {st : Stmt} {N ps : List Str} {k : Nat} {t : XK → TS} (D : MDf G true "look_up" qual st ps 0) (S : FnScope N ps (defScope st)) (hn : 2 = ps.length)
    (hb : ∀ (f : Addr) (cdv : Value) (A : Around) (outer : List Env) (s : Shared) (H : Hp) (E : XK), Room k (A.deeper (envOfC qual (defScope st) s.heap.objs.size f cdv)) → Takes (cxOf (L2.CX P w) P w G.K G.mg base N qual (defScope st) f cdv A outer s H E) (WXof E) →
      PassesOwn (model P w) (A.deeper (envOfC qual (defScope st) s.heap.objs.size f cdv)) (envOfC qual (defScope st) s.heap.objs.size f cdv) (cxOf (L2.CX P w) P w G.K G.mg base N qual (defScope st) f cdv A outer s H E).xe →
      PSs (cxOf (L2.CX P w) P w G.K G.mg base N qual (defScope st) f cdv A outer s H E) (defBody st) (t E))
    (hp : ∀ vs H Q E, spLk G vs H Q E → t E { nx := fun _ H' => Q .non H', rt := Q } (L2.start N vs) H) : LkCal P w base G (k + 1) := by
  obtain ⟨f, fd, dvs, h1, h2, h3⟩ := D.ex
  refine ⟨D.cls, f, fd, ps, okHD h1 S (fun vs H Q E h => ?_) (fun cdv A outer s H E hr tk hp => hb f cdv A outer s H E hr tk hp) hp, h2, h3⟩
  obtain ⟨p, n, J, h, r, rfl, _⟩ := h
  exact hn
/-- an __init__ as the module's top leaves it -/
structure IDf (G : Gx) (C : Addr) (qual : Str) (st : Stmt) (ps : List Str) : Prop where
  ex : ∃ f fd, Fun G.K "__init__" qual st f fd ∧ Mk G.K C f ∧ Binds G.K fd ps []
theorem mkh_h {st : Stmt} {N : List Str} {k : Nat} {t : XK → TS} (D : IDf G G.CH "Hall.__init__" st ["self"]) (S : FnScope N ["self"] (defScope st))
    (hb : ∀ (f : Addr) (cdv : Value) (A : Around) (outer : List Env) (s : Shared) (H : Hp) (E : XK), Room k (A.deeper (envOfC "Hall.__init__" (defScope st) s.heap.objs.size f cdv)) → Takes (cxOf (L2.CX P w) P w G.K G.mg base N "Hall.__init__" (defScope st) f cdv A outer s H E) (WXof E) →
      PSs (cxOf (L2.CX P w) P w G.K G.mg base N "Hall.__init__" (defScope st) f cdv A outer s H E) (defBody st) (t E))
    (hp : ∀ vs H Q E, spHI G vs H Q E → t E { nx := fun _ H' => Q .non H', rt := Q } (L2.start N vs) H) : HMk P w base G (k + 1) := by
  obtain ⟨f, fd, h1, h2, h3⟩ := D.ex
  refine ⟨f, fd, h2, okH h1 S (fun vs H Q E h => ?_) (fun cdv A outer s H E hr tk _ => hb f cdv A outer s H E hr tk) hp, h3⟩
  obtain ⟨p, dx, rfl, _⟩ := h
  rfl
theorem mkp_h {st : Stmt} {N : List Str} {k : Nat} {t : XK → TS} (D : IDf G G.CP "Piece.__init__" st ["self", "name", "place", "deed", "by"]) (S : FnScope N ["self", "name", "place", "deed", "by"] (defScope st))
    (hb : ∀ (f : Addr) (cdv : Value) (A : Around) (outer : List Env) (s : Shared) (H : Hp) (E : XK), Room k (A.deeper (envOfC "Piece.__init__" (defScope st) s.heap.objs.size f cdv)) → Takes (cxOf (L2.CX P w) P w G.K G.mg base N "Piece.__init__" (defScope st) f cdv A outer s H E) (WXof E) →
      PSs (cxOf (L2.CX P w) P w G.K G.mg base N "Piece.__init__" (defScope st) f cdv A outer s H E) (defBody st) (t E))
    (hp : ∀ vs H Q E, spPI G vs H Q E → t E { nx := fun _ H' => Q .non H', rt := Q } (L2.start N vs) H) : PMkr P w base G (k + 1) := by
  obtain ⟨f, fd, h1, h2, h3⟩ := D.ex
  refine ⟨f, fd, h2, okH h1 S (fun vs H Q E h => ?_) (fun cdv A outer s H E hr tk _ => hb f cdv A outer s H E hr tk) hp, h3⟩
  obtain ⟨p, dx, x1, x2, x3, x4, rfl, _⟩ := h
  rfl
/-- a def by hand that a caller may call -/
structure HCal (P : Program) (w : World) (base : Heap) (G : Gx) (k : Nat) (x : Str) (sp : Sp) : Prop where
  ex : ∃ f fd ps, FnOk P w G.K G.mg base (L2.CX P w) k f fd ps sp ∧ G.mg x = some (.ref f) ∧ PySem.W.keepIn G.K (.ref f) = true ∧ Binds G.K fd ps []
theorem hcal_h {x : Str} {st : Stmt} {N ps : List Str} {k : Nat} {sp : Sp} {t : XK → TS} (D : Df G x st ps) (S : FnScope N ps (defScope st)) (len : ∀ vs H Q E, sp vs H Q E → vs.length = ps.length)
    (hb : ∀ (f : Addr) (cdv : Value) (A : Around) (outer : List Env) (s : Shared) (H : Hp) (E : XK), Room k (A.deeper (envOfC x (defScope st) s.heap.objs.size f cdv)) → Takes (cxOf (L2.CX P w) P w G.K G.mg base N x (defScope st) f cdv A outer s H E) (WXof E) →
      PSs (cxOf (L2.CX P w) P w G.K G.mg base N x (defScope st) f cdv A outer s H E) (defBody st) (t E))
    (hp : ∀ vs H Q E, sp vs H Q E → t E { nx := fun _ H' => Q .non H', rt := Q } (L2.start N vs) H) : HCal P w base G (k + 1) x sp := by
  obtain ⟨f, fd, h1, h2, h3⟩ := D.ex
  exact ⟨f, fd, ps, okH h1 S len (fun cdv A outer s H E hr tk _ => hb f cdv A outer s H E hr tk) hp, h2, h1.kp, h3⟩
theorem pe_hcal {X : Cx} {G : Gx} {W : WX} {k : Nat} {sp : Sp} {x : Str} {p pos : Pos} {e : Expr} {es : List Expr} {t : TA} (C : HCal X.prog X.w X.base G k x sp) (tk : Takes X W) (hr : Room k X.A) (hK : G.K = X.K) (hM : G.mg = X.mg) (hg : Gl X x) (ha : PA X (e :: es) t)
    (hdb : (x == ("__debug__" : Str)) = false := by decide) (he : starEach (e :: es) X.env = (false, eval e X.env) :: starEach es X.env := by rfl) (hpl : (backTo pos (starEach es X.env)).any (·.1) = false := by rfl) : PE X (.Call (.Name x p) (e :: es) [] pos) (tCallSD sp [] (WE W) t) := by
  obtain ⟨f, fd, ps, h1, h2, h3, h4⟩ := C.ex
  rw [hK] at h1 h3 h4
  rw [hM] at h1 h2
  exact pe_callSD h1 hr hg h2 h3 h4 .nil (fun σ => passAt tk σ) ha hdb he hpl
/-- self.look_up(name), in a def by hand -/
theorem pe_lk {X : Cx} {G : Gx} {W : WX} {k : Nat} {o e : Expr} {ta te : TE} {apos pos : Pos} {pl : Sem Bool} (M : LkCal X.prog X.w X.base G k) (tk : Takes X W) (hr : Room k X.A) (hK : G.K = X.K) (hM : G.mg = X.mg) (hv : PE X o ta) (hy : PE X e te)
    (h1 : starEach [e] X.env = (false, eval e X.env) :: starEach [] X.env := by rfl) (h2 : (backTo pos (starEach [] X.env)).any (·.1) = false := by rfl)
    (ht : eval (.Call (.Attribute o "look_up" apos) [e] [] pos) X.env = (do
      let recvd ← eval o X.env
      standAt apos.atName
      let (fn, fst) ← holding [recvd] (getMethod recvd "look_up" pl)
      callWith pos fn fst (backTo pos (starEach [e] X.env)) (backToKw pos (keywordEach [] X.env))) := by rfl) :
    PE X (.Call (.Attribute o "look_up" apos) [e] [] pos) (tMethSD G.CH "look_up" (spLk G) [] (WE W) ta (tCons te tNil)) := by
  obtain ⟨f, fd, ps, h3, h4, h5⟩ := M.ex
  have c := M.cls
  rw [hK] at h3 h4 h5 c
  rw [hM] at h3
  exact pe_mthE (pl := pl) hv c h4 h3 hr h5 .nil (fun σ => passAt tk σ) (pa_cons hy pa_nil h1) h1 h2 ht
end
end Fw
namespace Fw
open PySem PySem.Spec PyProof.Rows L2

/-! ### what the top has written, as the callers want it -/
section
variable {P : Program} {w : World} {base : Heap} {G : Gx} {h : Heap}
theorem law_of {x : Str} {st : Stmt} {f : Addr} {fd : FuncData} {N ps : List Str} {k : Nat} {fs : Fs} (Fn : Fun G.K x x st f fd) (S : FnScope N ps (defScope st))
    (hb : ∀ (cdv : Value) (A : Around) (outer : List Env) (s : Shared) (H : Hp) (E : XK), Room k (A.deeper (envOfC x (defScope st) s.heap.objs.size f cdv)) → Takes (cxOf (L2.CX P w) P w G.K G.mg base N x (defScope st) f cdv A outer s H E) (WXof E) →
      PassesOwn (model P w) (A.deeper (envOfC x (defScope st) s.heap.objs.size f cdv)) (envOfC x (defScope st) s.heap.objs.size f cdv) (cxOf (L2.CX P w) P w G.K G.mg base N x (defScope st) f cdv A outer s H E).xe →
      ∀ C, ∃ t, PBx (cxOf (L2.CX P w) P w G.K G.mg base N x (defScope st) f cdv A outer s H E) (G.wC C) (WXof E) (defBody st) t fs) : FnOk P w G.K G.mg base (L2.CX P w) (k + 1) f fd ps (spF G ps.length (runF N.length fs)) :=
  okF Fn S fun cdv A outer s H E hr tk => hb cdv A outer s H E hr tk (passes_of rfl)
/-- the law's promise -/
def spLaw (K : PySem.W.Frag) : Sp := fun vs H Q _ => ∃ (a : Addr) (ns : List Int), vs = [.ref a] ∧ SqL K H a (ns.map V.int) ∧ ns.length ≤ 63 ∧ ∀ H', Q (.bl true) H'
theorem law_sp {F : Fx} (hF : ∀ ns : List Int, ns.length ≤ 63 → ∃ e, F [.sc ns] = .ok (.pv (.bool true)) e) : ∀ vs H Q E, spLaw G.K vs H Q E → spF G 1 F vs H Q E := by
  rintro vs H Q E ⟨a, ns, rfl, hs, hl, hq⟩
  obtain ⟨e, he⟩ := hF ns hl
  refine ⟨fun _ => none, fun i => if i = 0 then H else fun _ => none, [.sc ns], ⟨fun i => ?_, fun i j hij b hb => ?_⟩, ⟨rfl, (fun b o h => by cases h), fun i s hi => ?_⟩, rfl, ?_⟩
  · by_cases h0 : i = 0
    · subst h0; exact Same.refl _
    · show Same (if i = 0 then H else fun _ => none) H
      rw [if_neg h0]; exact fun b o h => by cases h
  · by_cases h0 : i = 0
    · subst h0
      show (if j = 0 then H else fun _ => none) b = none
      rw [if_neg (Ne.symm hij)]
    · have : (if i = 0 then H else fun _ => none) b = none := by rw [if_neg h0]
      exact absurd this hb
  · match i, hi with
    | 0, hi => cases hi; exact ⟨_, rfl, a, rfl, hs⟩
  · rw [he]
    intro P' H' w w1 en fr r
    cases r
    exact hq H'
theorem df_mk {x : Str} {st : Stmt} {ps : List Str} {f : Addr} {oc : Value} {od an : Option Addr} {osl : Array (Option Value)} {kV doc pm cdv ct : Value} (X : G.K.In h) (NS : h.Ns mainGlobals G.mg) (a : PySem.W.nsIn G.K mainGlobals x = some (some (.ref f)))
    (l : G.K.lookup f = some ⟨oc, od, .func (PySem.W.fnOf x x (defArgs st) (defBody st) (defScope st) .none kV doc pm an cdv ct), osl⟩) (c : PySem.W.codeIn G.K cdv x = true) (k : PySem.W.keepIn G.K (.ref f) = true)
    (hb : ∀ (kV doc pm : Value) (an : Option Addr) (cdv ct : Value) (us : List Value), us.length = ps.length → bindArgs (PySem.W.fnOf x x (defArgs st) (defBody st) (defScope st) .none kV doc pm an cdv ct) ⟨us, []⟩ = pure (ps.zip us)) : Df G x st ps :=
  ⟨_, _, fun_mk l c k, PySem.W.mg_of X NS a, (fun_mk l c k).binds hb⟩
theorem mdf_mk {hall : Bool} {m qual : Str} {st : Stmt} {ps : List Str} {f : Addr} {oc : Value} {od an : Option Addr} {osl : Array (Option Value)} {kV doc pm cdv ct : Value} (C : Cls G.K (G.cOf hall)) (a : PySem.W.findIn G.K (.ref (G.cOf hall)) m = some (some (.ref f))) (i : PySem.W.isFn G.K (.ref f) = true)
    (l : G.K.lookup f = some ⟨oc, od, .func (PySem.W.fnOf m qual (defArgs st) (defBody st) (defScope st) .none kV doc pm an cdv ct), osl⟩) (c : PySem.W.codeIn G.K cdv qual = true) (k : PySem.W.keepIn G.K (.ref f) = true)
    (hb : ∀ (kV doc pm : Value) (an : Option Addr) (cdv ct : Value) (us : List Value), us.length = ps.length → bindArgs (PySem.W.fnOf m qual (defArgs st) (defBody st) (defScope st) .none kV doc pm an cdv ct) ⟨us, []⟩ = pure (ps.zip us)) : MDf G hall m qual st ps 0 :=
  ⟨C, _, _, [], ⟨⟨_, _, _, _, _, _, _, _, _, _, rfl, l, c, .inl ⟨rfl, rfl⟩, .inl rfl⟩, k⟩, ⟨a, i, k⟩, (fun_mk l c k).binds hb⟩
theorem vals_rep : ∀ (n : Nat) (ds : List Value), Vals (List.replicate n V.non) ds → ds = List.replicate n Value.none
  | 0, _, h => by cases h; rfl
  | n + 1, _, h => by
    cases h with
    | cons a b => cases a; rw [vals_rep n _ b]; rfl
theorem mdfD_mk {hall : Bool} {m qual : Str} {st : Stmt} {ps : List Str} {f T : Addr} {oc : Value} {od an : Option Addr} {osl : Array (Option Value)} {kV doc pm cdv ct : Value} {o : Obj} {n : Nat} (d nd : Nat) (C : Cls G.K (G.cOf hall)) (a : PySem.W.findIn G.K (.ref (G.cOf hall)) m = some (some (.ref f))) (i : PySem.W.isFn G.K (.ref f) = true)
    (l : G.K.lookup f = some ⟨oc, od, .func (PySem.W.fnOf m qual (defArgs st) (defBody st) (defScope st) (.ref T) kV doc pm an cdv ct), osl⟩) (c : PySem.W.codeIn G.K cdv qual = true) (k : PySem.W.keepIn G.K (.ref f) = true)
    (lT : G.K.lookup T = some o) (oT : o.data = .seq (List.replicate d Value.none).toArray n) (hd : 0 < d) (hnd : nd ≤ d) (hps : d ≤ ps.length)
    (hb : ∀ (T : Addr) (kV doc pm : Value) (an : Option Addr) (cdv ct : Value) (us its : List Value), us.length = ps.length - nd → its.length = d →
      ∃ k, bindArgs (PySem.W.fnOf m qual (defArgs st) (defBody st) (defScope st) (.ref T) kV doc pm an cdv ct) ⟨us, []⟩ = seqItems? (.ref T) >>= k ∧ k (some its.toArray) = pure (ps.zip (us ++ its.drop (d - nd)))) : MDf G hall m qual st ps nd := by
  have F : FunD G.K m qual (defArgs st) (defBody st) (defScope st) (List.replicate d V.non) [] f _ := ⟨⟨_, _, _, _, _, _, _, _, _, _, rfl, l, c, .inr ⟨fun z => by have := congrArg List.length z; simp at this; omega, T, o, List.replicate d Value.none, n, rfl, lT, oT, vals_nones d⟩, .inl rfl⟩, k⟩
  have hd2 : (List.replicate d V.non) ≠ [] := fun z => by have := congrArg List.length z; simp at this; omega
  have hl : (List.replicate d V.non).length = d := List.length_replicate
  obtain ⟨ds, v, b⟩ := F.binds1 (ps := ps) (ps.length - nd) (d - nd) hd2 (by rw [hl]; omega) (fun T kV doc pm an cdv ct us its h1 h2 => hb T kV doc pm an cdv ct us its h1 (by rw [h2, hl]))
  rw [List.drop_replicate, show d - (d - nd) = nd by omega] at v
  rw [vals_rep _ _ v] at b
  exact ⟨C, _, _, _, F, ⟨a, i, k⟩, b⟩
theorem idf_mk {C : Addr} {qual : Str} {st : Stmt} {ps : List Str} {f : Addr} {oc : Value} {od an : Option Addr} {osl : Array (Option Value)} {kV doc pm cdv ct : Value} (mk : PySem.W.makesIn G.K C = true) (a : PySem.W.findIn G.K (.ref C) "__init__" = some (some (.ref f))) (i : PySem.W.isFn G.K (.ref f) = true) (kc : PySem.W.keepIn G.K (.ref C) = true)
    (l : G.K.lookup f = some ⟨oc, od, .func (PySem.W.fnOf "__init__" qual (defArgs st) (defBody st) (defScope st) .none kV doc pm an cdv ct), osl⟩) (c : PySem.W.codeIn G.K cdv qual = true) (k : PySem.W.keepIn G.K (.ref f) = true)
    (hb : ∀ (kV doc pm : Value) (an : Option Addr) (cdv ct : Value) (us : List Value), us.length = ps.length → bindArgs (PySem.W.fnOf "__init__" qual (defArgs st) (defBody st) (defScope st) .none kV doc pm an cdv ct) ⟨us, []⟩ = pure (ps.zip us)) : IDf G C qual st ps :=
  ⟨_, _, fun_mk l c k, ⟨mk, a, i, kc⟩, (fun_mk l c k).binds hb⟩
theorem exm_fact {K : PySem.W.Frag} {C D : Addr} {b : Bool} (h1 : PySem.W.subIn K (.ref D) (.type "BaseException") = some true) (h2 : PySem.W.isClsIn K D = true) (h3 : PySem.W.typeIn K (.ref D) = some (.type "type")) (h4 : PySem.W.subIn K (.ref C) (.ref D) = some b) :
    PySem.W.exmOne K (.ref C) (.ref D) = some b := by
  have e1 : (PySem.W.subIn K (.ref D) (.type "BaseException") == some true) = true := by rw [h1] <;> rfl
  have e2 : ((PySem.W.clsIn K D).isSome && PySem.W.typeIn K (.ref D) == some (.type "type")) = true := by
    have h2' : (PySem.W.clsIn K D).isSome = true := h2
    rw [h2', h3] <;> rfl
  show (if (PySem.W.subIn K (.ref D) (.type "BaseException") == some true) = true then (if ((PySem.W.clsIn K D).isSome && PySem.W.typeIn K (.ref D) == some (.type "type")) = true then PySem.W.subIn K (.ref C) (.ref D) else none) else none) = some b
  rw [if_pos e1, if_pos e2]
  exact h4
/-- how two exceptions' classes stand to one another -/
theorem exm_of {x c : Str} {C D C' D' : Addr} {b : Bool} (g1 : G.mg x = some (.ref C)) (g2 : G.mg c = some (.ref D)) (e : PySem.W.exmOne G.K (.ref C) (.ref D) = some b) (hb : isSub x c = b) (h1 : G.mg x = some (.ref C')) (h2 : G.mg c = some (.ref D')) : PySem.W.exmOne G.K (.ref C') (.ref D') = some (isSub x c) := by
  rw [g1] at h1; rw [g2] at h2
  cases h1; cases h2
  rw [hb]; exact e
theorem exm_no {x : Str} {C : Addr} {p : Prop} (g : G.mg x = none) (h : G.mg x = some (.ref C)) : p := by rw [g] at h; cases h
end
end Fw
namespace Fw
open PySem PySem.Spec PyProof.Rows L2

/-! ### a list of a piece that stands still -/
def fPcl (L : WL) (i : Nat) : Fx := fun e => match e[i]? with
  | some (.fp c) => .ok (.ow (.cl (c.get L))) e
  | _ => .no
theorem se_pcl {G : Gx} {W : WX} (T : HallTxt G) (L : WL) (i : Nat) : SE G W (tFld G.K (tVar i) L.nm) (fPcl L i) := fun P σ H e w en Q h => by
  unfold fPcl at h
  split at h
  · rename_i c q
    obtain ⟨v, hv, q', ls, e1, k⟩ := en.at_ i _ q
    subst e1
    obtain ⟨dq, a1, a2, a3, a4, w', _, _, hins, h1, h2, h3, h4⟩ := k.ex
    have hH := w.sub 1 _ _ (en.cs _ _ hins)
    cases L with
    | ahead => exact ⟨_, hv, q', _, _, _, _, rfl, hH, T.cP, T.nP "ahead" (by decide), rfl, h P H _ w en (Fr.refl _ _) ⟨a1, rfl, h1⟩⟩
    | behind => exact ⟨_, hv, q', _, _, _, _, rfl, hH, T.cP, T.nP "behind" (by decide), rfl, h P H _ w en (Fr.refl _ _) ⟨a2, rfl, h2⟩⟩
    | needs => exact ⟨_, hv, q', _, _, _, _, rfl, hH, T.cP, T.nP "needs" (by decide), rfl, h P H _ w en (Fr.refl _ _) ⟨a3, rfl, h3⟩⟩
    | bars => exact ⟨_, hv, q', _, _, _, _, rfl, hH, T.cP, T.nP "bars" (by decide), rfl, h P H _ w en (Fr.refl _ _) ⟨a4, rfl, h4⟩⟩
  · exact h.elim
theorem px_pcl {X : Cx} {G : Gx} {W : WX} {x : Str} {i : Nat} {p pa : Pos} (L : WL) (T : HallTxt G) (hK : G.K = X.K) (hv : PE X (.Name x p) (tVar i)) (hb : attributeBase (.Name x p) L.nm X.env (eval (.Name x p) X.env) = eval (.Name x p) X.env := by rfl) :
    PEx X G W (.Attribute (.Name x p) L.nm pa) (tFld G.K (tVar i) L.nm) (fPcl L i) := ⟨by rw [hK]; exact pe_fld hv hb, se_pcl T L i⟩
@[simp] theorem u_fPcl (L : WL) (i : Nat) (e : En) : fPcl L i e = (match e[i]? with
  | some (.fp c) => .ok (.ow (.cl (c.get L))) e
  | _ => .no) := rfl
end Fw
namespace Fw
open PySem PySem.Spec PyProof.Rows L2

/-! ### raise C(e, ..), C's own __init__ that keeps its arguments -/
def spXI (K : PySem.W.Frag) (C : Addr) (fields : List Str) : Sp := fun vs H Q _ => ∃ (a : Addr) (args : List V), vs = .ref a :: args ∧ args.length = fields.length ∧ H a = some (exo a C none) ∧
  ∀ d, H d = none → d ≠ a → Q .non (upd (upd H d (exd d (fields.zip args).reverse)) a (exo a C (some d)))
def t_x1 (K : PySem.W.Frag) (f : Str) : TS := tOst K f (tVar 0) (tVar 1)
def t_x2 (K : PySem.W.Frag) (f g : Str) : TS := tSeq (tOst K f (tVar 0) (tVar 1)) (tOst K g (tVar 0) (tVar 2))
theorem pure_x1 {K : PySem.W.Frag} {C : Addr} {f : Str} (T : OexC K C) (hf : PySem.W.findIn K (.ref C) f = some none) {vs : List V} {H : Hp} {Q : VK} {E : XK} (h : spXI K C [f] vs H Q E) : t_x1 K f { nx := fun _ H' => Q .non H', rt := Q } (L2.start ["self", f] vs) H := by
  obtain ⟨a, args, rfl, hl, ha, k⟩ := h
  match args, hl with
  | [y], _ => exact ⟨_, rfl, _, rfl, a, C, rfl, T, hf, .inl ⟨ha, fun dx n ne => k dx n ne⟩⟩
theorem pure_x2 {K : PySem.W.Frag} {C : Addr} {f g : Str} (T : OexC K C) (hf : PySem.W.findIn K (.ref C) f = some none) (hg : PySem.W.findIn K (.ref C) g = some none) {vs : List V} {H : Hp} {Q : VK} {E : XK} (h : spXI K C [f, g] vs H Q E) : t_x2 K f g { nx := fun _ H' => Q .non H', rt := Q } (L2.start ["self", f, g] vs) H := by
  obtain ⟨a, args, rfl, hl, ha, k⟩ := h
  match args, hl with
  | [y, z], _ =>
    refine ⟨_, rfl, _, rfl, a, C, rfl, T, hf, .inl ⟨ha, fun dx n ne => ?_⟩⟩
    refine ⟨_, rfl, _, rfl, a, C, rfl, T, hg, .inr ⟨dx, [(f, y)], upd_same, ?_, (by show 1 ≤ 900; decide), ?_⟩⟩
    · rw [upd_ne ne]; exact upd_same
    · have z2 := k dx n ne
      have e : upd (upd (upd H dx (exd dx [(f, y)])) a (exo a C (some dx))) dx (exd dx [(g, z), (f, y)]) = upd (upd H dx (exd dx [(g, z), (f, y)])) a (exo a C (some dx)) := by
        rw [upd_comm (Ne.symm ne), upd_upd]
      rw [e]
      exact z2
/-- a class of exceptions with fields -/
structure ExF (P : Program) (w : World) (base : Heap) (G : Gx) (k : Nat) (x : Str) (fields : List Str) : Prop where
  ex : ∃ C fI fd ps, G.mg x = some (.ref C) ∧ OexC G.K C ∧ PySem.W.findIn G.K (.ref C) "__init__" = some (some (.ref fI)) ∧ PySem.W.typeIn G.K (.ref fI) = some (.type "function") ∧ FnOk P w G.K G.mg base (L2.CX P w) k fI fd ps (spXI G.K C fields) ∧ Binds G.K fd ps []
theorem ExF.wC {P : Program} {w : World} {base : Heap} {G : Gx} {k : Nat} {x : Str} {fields : List Str} (h : ExF P w base G k x fields) (C : Hp) : ExF P w base (G.wC C) k x fields := ⟨h.ex⟩
theorem exF_h {P : Program} {w : World} {base : Heap} {G : Gx} {x qual : Str} {fields : List Str} {C fI : Addr} {fd : FuncData} {st : Stmt} {N : List Str} {k : Nat} {t : XK → TS} (g : G.mg x = some (.ref C)) (X : OexC G.K C) (iC : PySem.W.findIn G.K (.ref C) "__init__" = some (some (.ref fI))) (tI : PySem.W.typeIn G.K (.ref fI) = some (.type "function"))
    (F : Fun G.K "__init__" qual st fI fd) (b : Binds G.K fd ("self" :: fields) []) (S : FnScope N ("self" :: fields) (defScope st))
    (hb : ∀ (f : Addr) (cdv : Value) (A : Around) (outer : List Env) (s : Shared) (H : Hp) (E : XK), Room k (A.deeper (envOfC qual (defScope st) s.heap.objs.size f cdv)) → Takes (cxOf (L2.CX P w) P w G.K G.mg base N qual (defScope st) f cdv A outer s H E) (WXof E) →
      PSs (cxOf (L2.CX P w) P w G.K G.mg base N qual (defScope st) f cdv A outer s H E) (defBody st) (t E))
    (hp : ∀ vs H Q E, spXI G.K C fields vs H Q E → t E { nx := fun _ H' => Q .non H', rt := Q } (L2.start N vs) H) : ExF P w base G (k + 1) x fields :=
  ⟨C, fI, fd, _, g, X, iC, tI, okH F S (fun vs H Q E h => by obtain ⟨a, args, rfl, hl, _⟩ := h; exact congrArg (· + 1) hl) (fun cdv A outer s H E hr tk _ => hb fI cdv A outer s H E hr tk) hp, b⟩
def fRaiseF (x : Str) (fields : List Str) (fr : Fa) : Fs := fun e => (fr e).bind fun vs e1 => match dsOf vs with
  | some ds => if ds.length = fields.length ∧ fields.length ≤ 1000 then .ex ⟨x, (fields.zip ds).reverse⟩ e1 else .no
  | none => .no
def tRaiseF (G : Gx) (x : Str) (fields : List Str) (W : WX) (ta : TA) : TS := fun _ σ H => ∀ C, G.mg x = some (.ref C) → tMkO C (spXI G.K C fields) [] ta σ H fun cls d H' => W cls d σ H'
theorem paired_append {α β : Type} {F : α → β → Prop} : ∀ {l₁ : List α} {l₂ : List β} {m₁ : List α} {m₂ : List β}, Paired F l₁ l₂ → Paired F m₁ m₂ → Paired F (l₁ ++ m₁) (l₂ ++ m₂)
  | _, _, _, _, .nil, h => h
  | _, _, _, _, .cons a b, h => .cons a (paired_append b h)
theorem paired_reverse {α β : Type} {F : α → β → Prop} : ∀ {l₁ : List α} {l₂ : List β}, Paired F l₁ l₂ → Paired F l₁.reverse l₂.reverse
  | _, _, .nil => .nil
  | _, _, .cons a b => by rw [List.reverse_cons, List.reverse_cons]; exact paired_append (paired_reverse b) (.cons a .nil)
theorem paired_fields {J : Hp} : ∀ (fields : List Str) {ws : List V} {ds : List PD}, DqAll J ws ds → Paired (fun (p : Str × V) (q : Str × PD) => p.1 = q.1 ∧ Dq J p.2 q.2) (fields.zip ws) (fields.zip ds)
  | [], _, _, _ => .nil
  | f :: fs, _, _, .nil => .nil
  | f :: fs, _, _, .cons a b => .cons ⟨rfl, a⟩ (paired_fields fs b)
theorem new_any {G : Gx} {P : Pt} {H : Hp} {σ : L2.St} {e : En} {p : Addr} {o : HO} (w : Wd P H) (en : EnvAt G P σ e) (hp : H p = none) :
    Wd (P.set 0 (upd (P 0) p o)) (upd H p o) ∧ EnvAt G (P.set 0 (upd (P 0) p o)) σ e ∧ Fr P (P.set 0 (upd (P 0) p o)) e e ∧ Same (P 0) ((P.set 0 (upd (P 0) p o)) 0) ∧ (P.set 0 (upd (P 0) p o)) 0 p = some o := by
  have z : Same (P 0) ((P.set 0 (upd (P 0) p o)) 0) := by
    rw [Pt.set_same]
    exact fun a u e => by rw [upd_ne (ne_of_none e ((w.sub 0).free hp))]; exact e
  refine ⟨w.alloc hp 0, en.mono z (by rw [Pt.set_ne (by decide)]; exact en.cs) fun i => Pt.set_ne (by omega), ⟨z, Pt.set_ne (by decide), fun _ h => h⟩, z, ?_⟩
  rw [Pt.set_same]; exact upd_same
theorem ss_raiseF {G : Gx} {W : WX} {x : Str} {fields : List Str} {ta : TA} {fa : Fa} (s : SA G W ta fa) : SS G W (tRaiseF G x fields W ta) (fRaiseF x fields fa) := fun P σ H e w en D h C hC => by
  refine s P σ H e w en _ ?_
  have h' : PostS G W P e σ D ((fa e).bind fun vs e1 => match dsOf vs with
    | some ds => if ds.length = fields.length ∧ fields.length ≤ 1000 then .ex ⟨x, (fields.zip ds).reverse⟩ e1 else (.no : R Fl)
    | none => .no) := h
  cases q : fa e with
  | ex z e1 => rw [q] at h'; exact fun P1 H1 cls d a b c xx => h' P1 H1 σ cls d a b c.s xx
  | no => rw [q] at h'; exact h'.elim
  | ok vs e1 =>
    rw [q] at h'
    intro P1 H1 w1 en1 fr1 ws hd
    have h2 : PostS G W P e σ D (match dsOf vs with
      | some ds => if ds.length = fields.length ∧ fields.length ≤ 1000 then .ex ⟨x, (fields.zip ds).reverse⟩ e1 else (.no : R Fl)
      | none => .no) := h'
    cases q2 : dsOf vs with
    | none => rw [q2] at h2; exact h2.elim
    | some ds =>
      rw [q2] at h2
      have h3 : PostS G W P e σ D (if ds.length = fields.length ∧ fields.length ≤ 1000 then .ex ⟨x, (fields.zip ds).reverse⟩ e1 else (.no : R Fl)) := h2
      by_cases hl : ds.length = fields.length ∧ fields.length ≤ 1000
      · rw [if_pos hl] at h3
        have da := dsOf_at hd q2
        have hwl : ws.length = fields.length := da.length.trans hl.1
        refine ⟨by rw [hwl]; exact hl.2, fun a ha => ⟨a, ws, by rw [List.append_nil], hwl, upd_same, fun d hdn hne => ⟨rfl, d, (fields.zip ws).reverse, upd_same, ?_, ?_, ?_⟩⟩⟩
        · rw [upd_ne hne]; exact upd_same
        · rw [upd_ne hne] at hdn; exact hdn
        · have hdn' : H1 d = none := by rw [upd_ne hne] at hdn; exact hdn
          have eh : upd (del (upd (upd (upd H1 a (exo a C none)) d (exd d (fields.zip ws).reverse)) a (exo a C (some d))) a) d (.xd (fields.zip ws).reverse) = upd H1 d (.xd (fields.zip ws).reverse) := by
            funext b
            by_cases hb : b = d
            · subst hb; rw [upd_same, upd_same]
            · rw [upd_ne hb, upd_ne hb]
              by_cases hb2 : b = a
              · subst hb2; rw [del_same, ha]
              · rw [del_ne hb2, upd_ne hb2, upd_ne hb, upd_ne hb2]
          rw [eh]
          obtain ⟨n1, n2, n3, n4, n5⟩ := new_any (o := .xd (fields.zip ws).reverse) w1 en1 hdn'
          refine h3 _ _ σ _ _ n1 n2 (fr1.trans n3).s ⟨C, hC, rfl, .inr ⟨d, _, rfl, n5, ?_⟩⟩
          exact xcs_mono n4 (paired_reverse (paired_fields fields da))
      · rw [if_neg hl] at h3; exact h3.elim
theorem psx_raiseF {X : Cx} {G : Gx} {W : WX} {x : Str} {fields : List Str} {k : Nat} {e : Expr} {es : List Expr} {ta : TA} {fa : Fa} {p pos pos2 : Pos} (A : ExF X.prog X.w X.base G k x fields) (tk : Takes X W) (hr : Room (k + 1) X.A) (hc : X.calm = true) (hK : G.K = X.K) (hM : G.mg = X.mg) (hg : Gl X x) (ha : PAx X G W (e :: es) ta fa)
    (hdb : (x == ("__debug__" : Str)) = false := by decide) (he : starEach (e :: es) X.env = (false, eval e X.env) :: starEach es X.env := by rfl) (hpl : (backTo pos (starEach es X.env)).any (·.1) = false := by rfl) :
    PSx X G W (.Raise (some (.Call (.Name x p) (e :: es) [] pos)) none pos2) (tRaiseF G x fields W ta) (fRaiseF x fields fa) := by
  obtain ⟨C, fI, fd, ps, h1, h2, h3, h4, h5, h6⟩ := A.ex
  refine ⟨⟨fun pins s σ H D I h => ?_⟩, ss_raiseF ha.sa⟩
  have z := h C h1
  rw [hK] at h2 h3 h4 h5 h6 z
  rw [hM] at h1 h5
  exact (ps_raise hc tk (pmk_oex (ds := []) (dvs := []) h2 h3 h4 h5 hr h6 .nil passF hg h1 ha.pa hdb he hpl)).run pins s σ H D I z
@[simp] theorem u_fRaiseF (x : Str) (fields : List Str) (fa : Fa) (e : En) : fRaiseF x fields fa e = (fa e).bind fun vs e1 => match dsOf vs with
  | some ds => if ds.length = fields.length ∧ fields.length ≤ 1000 then .ex ⟨x, (fields.zip ds).reverse⟩ e1 else .no
  | none => .no := rfl
/-! ### e.field, e the exception in hand -/
def fXf (i : Nat) (x f : Str) : Fx := fun e => match e[i]? with
  | some (.xc z) => if z.cls = x then (match z.fs.lookup f with
    | some d => .ok (.pv d) e
    | none => .no) else .no
  | _ => .no
theorem paired_lookup {J : Hp} {f : Str} {d : PD} : ∀ {fs : List (Str × V)} {xs : List (Str × PD)}, Paired (fun (p : Str × V) (q : Str × PD) => p.1 = q.1 ∧ Dq J p.2 q.2) fs xs → xs.lookup f = some d → ∃ v, fs.lookup f = some v ∧ Dq J v d
  | _, _, .nil, h => by cases h
  | (g, v) :: fs, (g', d') :: xs, .cons a b, h => by
    obtain ⟨e, r⟩ := a
    dsimp only at e r
    subst e
    rw [List.lookup_cons] at h ⊢
    cases q : (f == g) with
    | true => rw [q] at h; cases h; exact ⟨v, rfl, r⟩
    | false => rw [q] at h; exact paired_lookup b h
theorem se_xf {G : Gx} {W : WX} {a D : Addr} {cls : Value} {d : Option Addr} {i : Nat} {x f : Str} (g : G.mg x = some (.ref D)) : SE (G.wx (a, cls, d)) W (tXf a cls d D f (tVar i)) (fXf i x f) := fun P σ H e w en Q h => by
  unfold fXf at h
  split at h
  · rename_i z q
    split at h
    · rename_i hz
      cases ql : z.fs.lookup f with
      | none => rw [ql] at h; exact h.elim
      | some dd =>
        rw [ql] at h
        obtain ⟨v, hv, a', cls', d', ex, ev, C, hC, hcls, hd⟩ := en.at_ i _ q
        cases ex
        subst ev
        rw [hz] at hC
        have hCD : C = D := by
          have : G.mg x = some (.ref C) := hC
          rw [g] at this; cases this; rfl
        subst hCD
        rcases hd with ⟨e1, _⟩ | ⟨da, fs, e1, e2, e3⟩
        · rw [e1] at ql; cases ql
        · obtain ⟨u, hu, ru⟩ := paired_lookup e3 ql
          exact ⟨_, hv, rfl, hcls, da, fs, u, e1, w.sub 0 _ _ e2, hu, h P H u w en (Fr.refl _ _) ru⟩
    · exact h.elim
  · exact h.elim
theorem px_xf {X : Cx} {G : Gx} {W : WX} {a D : Addr} {oe : Obj} {cls : Value} {d : Option Addr} {pn : List (Addr × Obj)} {i : Nat} {x f nm : Str} {p pos : Pos} (hK : G.K = X.K) (g : G.mg x = some (.ref D)) (T : XfC G.K D) (hno : PySem.W.findIn G.K (.ref D) f = some none) (hz : Zc cls d oe) (hf : ∃ vs, oe.data = .fields vs)
    (hv : PE (X.suite a ((a, oe) :: pn)) (.Name nm p) (tVar i)) (hb : attributeBase (.Name nm p) f (X.suite a ((a, oe) :: pn)).env (eval (.Name nm p) (X.suite a ((a, oe) :: pn)).env) = eval (.Name nm p) (X.suite a ((a, oe) :: pn)).env := by rfl) :
    PEx (X.suite a ((a, oe) :: pn)) (G.wx (a, cls, d)) W (.Attribute (.Name nm p) f pos) (tXf a cls d D f (tVar i)) (fXf i x f) := by
  rw [hK] at T hno
  exact ⟨pe_xf T hno hz hf hv hb, se_xf g⟩
@[simp] theorem u_fXf (i : Nat) (x f : Str) (e : En) : fXf i x f e = (match e[i]? with
  | some (.xc z) => if z.cls = x then (match z.fs.lookup f with
    | some d => .ok (.pv d) e
    | none => .no) else .no
  | _ => .no) := rfl
end Fw
namespace Fw
open PySem PySem.Spec PyProof.Rows L2

/-! ### sorted(..) of texts -/
def LeS (a b : Str) : Prop := a.cps.toList ≤ b.cps.toList
instance (a b : Str) : Decidable (LeS a b) := inferInstanceAs (Decidable (a.cps.toList ≤ b.cps.toList))
theorem le_of_lt0 {a b : Str} (h : PySem.Spec.ltCps b.cps.toList a.cps.toList = false) : LeS a b := by
  rw [ltCps_eq] at h
  exact List.not_lt.mp (of_decide_eq_false h)
theorem le_anti {a b : Str} (h1 : LeS a b) (h2 : LeS b a) : a = b := by
  have := List.le_antisymm h1 h2
  cases a; cases b
  congr 1
  exact Array.toList_inj.mp this
theorem le_tr {a b c : Str} (h1 : LeS a b) (h2 : LeS b c) : LeS a c := List.le_trans h1 h2
theorem le_tot (a b : Str) : LeS a b ∨ LeS b a := List.le_total a.cps.toList b.cps.toList
def insS (x : Str) : List Str → List Str
  | [] => [x]
  | y :: r => if LeS x y then x :: y :: r else y :: insS x r
def sortC : List Str → List Str
  | [] => []
  | x :: r => insS x (sortC r)
theorem ins_perm (x : Str) : ∀ l : List Str, (insS x l).Perm (x :: l)
  | [] => List.Perm.refl _
  | y :: r => by
    unfold insS
    split
    · exact List.Perm.refl _
    · exact ((ins_perm x r).cons y).trans (List.Perm.swap x y r)
theorem sort_perm : ∀ l : List Str, (sortC l).Perm l
  | [] => List.Perm.refl _
  | x :: r => (ins_perm x (sortC r)).trans ((sort_perm r).cons x)
theorem ins_sorted (x : Str) : ∀ l : List Str, l.Pairwise LeS → (insS x l).Pairwise LeS
  | [], _ => by unfold insS; exact List.pairwise_singleton _ _
  | y :: r, h => by
    obtain ⟨h1, h2⟩ := List.pairwise_cons.mp h
    unfold insS
    split
    · rename_i hl
      refine List.pairwise_cons.mpr ⟨fun z hz => ?_, h⟩
      rcases List.mem_cons.mp hz with rfl | hz
      · exact hl
      · exact le_tr hl (h1 z hz)
    · rename_i hl
      refine List.pairwise_cons.mpr ⟨fun z hz => ?_, ins_sorted x r h2⟩
      rcases List.mem_cons.mp ((ins_perm x r).mem_iff.mp hz) with rfl | hz
      · exact (le_tot z y).resolve_left hl
      · exact h1 z hz
theorem sort_sorted : ∀ l : List Str, (sortC l).Pairwise LeS
  | [] => List.Pairwise.nil
  | x :: r => ins_sorted x _ (sort_sorted r)
theorem sorted_uniq : ∀ {l m : List Str}, l.Perm m → l.Pairwise LeS → m.Pairwise LeS → l = m
  | [], m, p, _, _ => (List.nil_perm.mp p).symm
  | x :: r, m, p, h1, h2 => by
    obtain ⟨a1, a2⟩ := List.pairwise_cons.mp h1
    cases m with
    | nil => exact absurd p.length_eq (by simp)
    | cons y s =>
      obtain ⟨b1, b2⟩ := List.pairwise_cons.mp h2
      have hx : x ∈ y :: s := p.mem_iff.mp List.mem_cons_self
      have hy : y ∈ x :: r := p.mem_iff.mpr List.mem_cons_self
      have e : x = y := by
        rcases List.mem_cons.mp hx with e | hx
        · exact e
        · rcases List.mem_cons.mp hy with e | hy
          · exact e.symm
          · exact le_anti (a1 y hy) (b1 x hx)
      subst e
      rw [sorted_uniq ((List.perm_cons x).mp p) a2 b2]
theorem rising_le : ∀ (p : Str) (l : List Str), risingS p l = true → (p :: l).Pairwise LeS
  | p, [], _ => List.pairwise_singleton _ _
  | p, x :: r, h => by
    have h' : (!PySem.Spec.ltCps x.cps.toList p.cps.toList && risingS x r) = true := h
    rw [Bool.and_eq_true, Bool.not_eq_true'] at h'
    have hp := le_of_lt0 h'.1
    have ih := rising_le x r h'.2
    refine List.pairwise_cons.mpr ⟨fun z hz => ?_, ih⟩
    rcases List.mem_cons.mp hz with rfl | hz
    · exact hp
    · exact le_tr hp ((List.pairwise_cons.mp ih).1 z hz)
theorem sortedS_le : ∀ l : List Str, sortedS l = true → l.Pairwise LeS
  | [], _ => List.Pairwise.nil
  | x :: r, h => rising_le x r h
theorem sort_is {xs ys : List Str} (p : ys.Perm xs) (h : sortedS ys = true) : ys = sortC xs := sorted_uniq (p.trans (sort_perm xs).symm) (sortedS_le ys h) (sort_sorted xs)
def opSorted (e : En) (v : Rv) : Option Ou := match seqOf e v with
  | some (true, xs) => (match strsOf xs with
    | some ys => if ys.length < 64 then some (.new ((sortC ys).map PyData.str)) else none
    | none => none)
  | _ => none
theorem opu_sorted {G : Gx} : OpU G (fun x H Q => rSortedS G.K [x] H Q) opSorted := by
  intro P H σ e x v o wd en h1 h
  unfold opSorted at h
  split at h
  · rename_i xs q
    split at h
    · rename_i ys e3
      split at h
      · rename_i hl
        cases h
        obtain ⟨a, vs, ea, da, l1, l2⟩ := seqOf_at wd en h1 q
        rw [strsOf_eq e3] at da
        have ev := strs_at da
        subst ev
        refine ⟨(sortC ys).map V.str, DqAll.strs _, fun Q k => ⟨a, ys, by rw [ea], l1 rfl, hl, fun zs p hp hs hn => ?_⟩⟩
        rw [sort_is hp hs]
        exact k p hn
      · cases h
    · cases h
  · cases h
theorem px_sorted {X : Cx} {G : Gx} {W : WX} {a : Expr} {ta : TE} {fa : Fx} {p pos : Pos} (hK : G.K = X.K) (hg : Gl X "sorted") (hm : X.mg "sorted" = none) (ha : PEx X G W a ta fa) (h1 : starEach [a] X.env = (false, eval a X.env) :: starEach [] X.env := by rfl) (h2 : (backTo pos (starEach [] X.env)).any (·.1) = false := by rfl) :
    PEx X G W (.Call (.Name "sorted" p) [a] [] pos) (tCB (rSortedS G.K) (tCons ta tNil)) (fUn opSorted fa) := by
  rw [hK]
  exact ⟨pe_callB cr_sortedS hg hm PyProof.Rows.Boot.«sorted» (pa_cons ha.pe pa_nil h1) (by decide) (by decide) h1 h2, by
      have z := se_cb1 (G := G) opu_sorted ha.se
      rw [hK] at z; exact z⟩
@[simp] theorem opSorted_list (e : En) (ys : List Str) : opSorted e (.pv (.list (ys.map PyData.str))) = if ys.length < 64 then some (.new ((sortC ys).map PyData.str)) else none := by
  unfold opSorted
  simp
end Fw
namespace Fw
open PySem PySem.Spec PySem.Calls PyProof.Rows L2

/-! ### isinstance(e, C), e the exception in hand, with or without a dict of its own -/
section
open PySem.W
theorem cls_found {K : PySem.W.Frag} {D : Addr} (c : ExcC K D) (od : Option Obj) : findObj K D od "__class__" = some (.bind (.builtin "getset_descriptor.__get__") (.builtin "object.__class__")) := by
  obtain ⟨cd, e1, _⟩ := any_some c.hd
  unfold findObj
  rw [e1, Option.bind_some, c.ha, Option.bind_some]
  simp [c.hn, c.ht]
theorem cls_read {prog : Program} {w : World} {A : Around} {E : Value → Shared → Prop} {s : Shared} {K : PySem.W.Frag} {a D : Addr} {oa : Obj} {od : Option Obj} {Q : Option Value → Shared → Prop} (c : ExcC K D) (hk : K.In s.heap) (I : InstAt s.heap a oa D od)
    (q : Q (some (.ref D)) { s with toks := s.toks + 1 }) : wpAny (model prog w) A (getAttr? (.ref a) "__class__") Q E s := by
  have fd := cls_found c od
  obtain ⟨hp, gs, dr, tk, os⟩ := s
  have ty := I.type (M := model prog w)
  have isB : Looks (model prog w) hp (isInstance (.ref a) (.type "BaseException")) true := ty.andThen (looks_subIn hk c.hs)
  have u1 : (Value.builtin "BaseException.__getattribute__" == Value.builtin "object.__getattribute__") = false := by decide +kernel
  have u2 : (onTheHeap (Value.ref D) && Value.builtin "BaseException.__getattribute__" == Value.builtin "object.__getattribute__") = false := by rw [u1]; rfl
  unfold getAttr? getAttrBy? getAttrBy
  refine wpAny_bind (wpAny_mkText (wpAny_bind (wpAny_attempt (wpAny_holding (wpAny_bind (ty.at (wpAny_bind ((looks_findIn (M := model prog w) hk c.hg).at ?_))))))))
  show wpAny _ _ (ite _ _ _) _ _ _
  rw [u2, if_neg (by simp)]
  unfold getAttrByItsOwn hookBefore
  refine wpAny_bind ?_
  rw [if_pos (by rfl)]
  refine (looks_findIn (M := model prog w) hk c.hk).at (wpAny_bind (wpAny_attempt (wpAny_holding ?_)))
  unfold callGetattribute
  rw [show (false && onTheHeap (Value.builtin "BaseException.__getattribute__")) = false from rfl, if_neg (by simp)]
  unfold boundAndCalled
  rw [PySem.F.excAttr_ValueError.ga.bind (.ref a)]
  refine wpAny_bind (wpAny_pure ?_)
  refine wpAny_call (codeAny_call_builtin PySem.F.excAttr_ValueError.ga.plain PySem.F.entry_bexc_ga ?_)
  have slotA := PySem.F.args_bexc_ga (.ref a) (.str "__class__" tk)
  have n1 : ("BaseException" : String) ≠ "object" := by decide
  refine @check_slot (model prog w) _ _ ⟨hp, gs, dr, tk + 1, os⟩ "BaseException.__getattribute__" "BaseException" "__getattribute__" (.ref a) [.str "__class__" tk] [] _ (by decide +kernel) (by decide +kernel) isB slotA ?_
  unfold Builtin.«object.__getattribute__»
  refine wpAny_bind (wpAny_of_eq (a := ((Value.ref a : Value), [Value.str "__class__" tk])) (by first | rfl | (simp only [slotArgs]; rfl)) ?_)
  refine wpAny_bind (wpAny_pure (wpAny_bind (ty.at (wpAny_bind ((looks_find (M := model prog w) hk I fd).at ?_)))))
  refine wpAny_bind (wpAny_holding (wpAny_call (class_get (s := ⟨hp, gs, dr, tk + 1, os⟩) hk I c.hm ?_)))
  refine wpAny_pure ?_
  show wpAny _ _ (handedOut (.ref D)) _ _ _
  rw [handedOut_of (v := .ref D) rfl]
  first
    | exact wpAny_pure (wpAny_pure q)
    | exact wpAny_pure q
    | exact wpAny_pure (wpAny_bind (wpAny_pure (wpAny_pure q)))
theorem cls_at {K : PySem.W.Frag} {D : Addr} (c : ExcC K D) : ∃ o1 o2 cd o3, K.lookup D = some ⟨o1, o2, .cls cd, o3⟩ := by
  obtain ⟨cd, e1, _⟩ := any_some c.hd
  unfold clsIn at e1
  split at e1
  · rename_i hl
    exact ⟨_, _, _, _, hl⟩
  · cases e1
theorem kitx_any {K : PySem.W.Frag} {a D : Addr} {oa : Obj} {od : Option Obj} (c : ExcC K D) : KitX K (.ref a) (.ref D) (fun h => InstAt h a oa D od) where
  ty := fun _ _ _ I => I.type
  it := fun M h X _ A2 Q2 E2 s2 kp q => by
    obtain ⟨o1, o2, cd, o3, hl⟩ := cls_at c
    unfold isType loadHead
    exact wpAny_bind (wpAny_loadPart (kp _ _ (X _ _ hl)) (wpAny_pure q))
  ne := fun h tp dd its n sl X e => by
    obtain ⟨o1, o2, cd, o3, hl⟩ := cls_at c
    have h1 := X _ _ hl
    by_cases z : D = tp
    · subst z
      rw [e] at h1; cases h1
    · exact beq_eq_false_iff_ne.mpr fun y => z (Value.ref.inj y)
  ca := fun X I k => cls_read c X I k
end
/-- what isinstance asks, of a class that may have a dict -/
def rIsG (K : PySem.W.Frag) (D a : Addr) (d : Option Addr) : List V → Hp → VK → Prop := fun xs H Q => ∃ (c : V) (cv : Value) (b : Bool), xs = [.ref a, c] ∧ (∀ u, RelV c u → u = cv) ∧ PySem.W.kitOne K (.ref D) cv = some b ∧ (d = none ∨ ∃ dd fs, d = some dd ∧ H dd = some (.xd fs)) ∧ Q (.bl b) H
theorem call_isG {X : Cx} {a D : Addr} {oe : Obj} {d : Option Addr} {pn : List (Addr × Obj)} (C : ExcC X.K D) (hz : Zc (.ref D) d oe) (hf : ∃ vs, oe.data = .fields vs) : CallR (X.suite a ((a, oe) :: pn)) (.builtin "isinstance") (rIsG X.K D a d) := by
  intro pins s σ H xs us Q I r h
  obtain ⟨c, cv, b, rfl, hcv, e, hd, q⟩ := h
  obtain ⟨u1, us', rfl, ra, r2⟩ : ∃ u1 us', us = u1 :: us' ∧ RelV (.ref a) u1 ∧ Vals [c] us' := by
    cases r with
    | cons x y => exact ⟨_, _, rfl, x, y⟩
  obtain ⟨u2, rfl, rt⟩ := r2.one
  obtain rfl : u1 = Value.ref a := ra
  rw [hcv u2 rt]
  have hpin := (I.pin (a, oe) (List.mem_append_left _ List.mem_cons_self)).1
  obtain ⟨vs, hv⟩ := hf
  have hnc : PySem.W.notCls oe = true := by unfold PySem.W.notCls; rw [hv] <;> rfl
  rcases hd with hd | ⟨dd, fs, hd, hx⟩
  · have J : PySem.W.InstAt s.heap a oe D none := ⟨hpin, hz.1, hnc, by rw [hz.2, hd]; trivial⟩
    exact PySem.W.kia_one (kitx_any C) I.kIn J e (fun z => nomatch z) fun tk => ⟨.bl b, H, I.tok _, rfl, q⟩
  · obtain ⟨mA, hns, _⟩ : ObjOk X.prog X.w H s.heap dd (.xd fs) := I.hok dd _ hx
    obtain ⟨od, ho, _⟩ := lookIn_ns hns
    have J : PySem.W.InstAt s.heap a oe D (some od) := ⟨hpin, hz.1, hnc, by rw [hz.2, hd]; exact ho⟩
    exact PySem.W.kia_one (kitx_any C) I.kIn J e (fun z => nomatch z) fun tk => ⟨.bl b, H, I.tok _, rfl, q⟩
/-- what the classes of exceptions answer -/
structure Exi (G : Gx) : Prop where
  cls : ∀ x ∈ leafs, ∀ D, G.mg x = some (.ref D) → ExcC G.K D
  ve : ∀ x ∈ leafs, ∀ D, G.mg x = some (.ref D) → PySem.W.kitOne G.K (.ref D) (.type "ValueError") = some true
  own : ∀ x ∈ leafs, ∀ c ∈ ("HallError" : Str) :: leafs, ∀ D C, G.mg x = some (.ref D) → G.mg c = some (.ref C) → PySem.W.kitOne G.K (.ref D) (.ref C) = some (isSub x c)
theorem Exi.wC {G : Gx} (h : Exi G) (C : Hp) : Exi (G.wC C) := ⟨h.cls, h.ve, h.own⟩
def rIsX (K : PySem.W.Frag) (a : Addr) (cls : Value) (d : Option Addr) : List V → Hp → VK → Prop := fun xs H Q => ∃ D, cls = .ref D ∧ ExcC K D ∧ rIsG K D a d xs H Q
theorem call_isX {X : Cx} {a : Addr} {cls : Value} {oe : Obj} {d : Option Addr} {pn : List (Addr × Obj)} (hz : Zc cls d oe) (hf : ∃ vs, oe.data = .fields vs) : CallR (X.suite a ((a, oe) :: pn)) (.builtin "isinstance") (rIsX X.K a cls d) := by
  intro pins s σ H xs us Q I r h
  obtain ⟨D, rfl, C, h⟩ := h
  exact call_isG C hz hf pins s σ H xs us Q I r h
def fIsE (i : Nat) (c : Str) : Fx := fun e => match e[i]? with
  | some (.xc x) => if x.cls ∈ leafs ∧ c ∈ ("HallError" : Str) :: leafs then .ok (.pv (.bool (isSub x.cls c))) e else .no
  | _ => .no
def fIsV (i : Nat) : Fx := fun e => match e[i]? with
  | some (.xc x) => if x.cls ∈ leafs then .ok (.pv (.bool true)) e else .no
  | _ => .no
theorem se_isE {G : Gx} {W : WX} {a C : Addr} {cls : Value} {d : Option Addr} {i : Nat} {c : Str} (xi : Exi G) (hc : G.mg c = some (.ref C)) : SE (G.wx (a, cls, d)) W (tCB (rIsX G.K a cls d) (tCons (tVar i) (tCons (tC (.ref C)) tNil))) (fIsE i c) := fun P σ H e w en Q h => by
  unfold fIsE at h
  split at h
  · rename_i z q
    split at h
    · rename_i hz
      obtain ⟨v, hv, a', cls', d', ex, ev, D, hD, hcls, hd⟩ := en.at_ i _ q
      cases ex
      subst ev
      have hD' : G.mg z.cls = some (.ref D) := hD
      refine ⟨_, hv, D, hcls, xi.cls _ hz.1 D hD', .ref C, .ref C, _, rfl, fun u hu => hu, xi.own _ hz.1 _ hz.2 D C hD' hc, ?_, h P H _ w en (Fr.refl _ _) (.bl _)⟩
      rcases hd with ⟨_, e1⟩ | ⟨dd, fs, e1, e2, _⟩
      · exact .inl e1
      · exact .inr ⟨dd, fs, e1, w.sub 0 _ _ e2⟩
    · exact h.elim
  · exact h.elim
theorem se_isV {G : Gx} {W : WX} {a : Addr} {cls : Value} {d : Option Addr} {i : Nat} (xi : Exi G) : SE (G.wx (a, cls, d)) W (tCB (rIsX G.K a cls d) (tCons (tVar i) (tCons (tC (.ty "ValueError")) tNil))) (fIsV i) := fun P σ H e w en Q h => by
  unfold fIsV at h
  split at h
  · rename_i z q
    split at h
    · rename_i hz
      obtain ⟨v, hv, a', cls', d', ex, ev, D, hD, hcls, hd⟩ := en.at_ i _ q
      cases ex
      subst ev
      have hD' : G.mg z.cls = some (.ref D) := hD
      refine ⟨_, hv, D, hcls, xi.cls _ hz D hD', .ty "ValueError", .type "ValueError", _, rfl, fun u hu => hu, xi.ve _ hz D hD', ?_, h P H _ w en (Fr.refl _ _) (.bl _)⟩
      rcases hd with ⟨_, e1⟩ | ⟨dd, fs, e1, e2, _⟩
      · exact .inl e1
      · exact .inr ⟨dd, fs, e1, w.sub 0 _ _ e2⟩
    · exact h.elim
  · exact h.elim
theorem px_isE {X : Cx} {G : Gx} {W : WX} {a C : Addr} {oe : Obj} {cls : Value} {d : Option Addr} {pn : List (Addr × Obj)} {i : Nat} {c nm : Str} {p p2 p3 pos : Pos} (xi : Exi G) (hK : G.K = X.K) (hM : G.mg = X.mg) (hc : G.mg c = some (.ref C)) (hz : Zc cls d oe) (hf : ∃ vs, oe.data = .fields vs)
    (hg : Gl (X.suite a ((a, oe) :: pn)) "isinstance") (hm : (X.suite a ((a, oe) :: pn)).mg "isinstance" = none) (hg2 : Gl (X.suite a ((a, oe) :: pn)) c) (hv : PE (X.suite a ((a, oe) :: pn)) (.Name nm p) (tVar i)) (hd : (c == ("__debug__" : Str)) = false := by decide)
    (h1 : starEach [.Name nm p, .Name c p2] (X.suite a ((a, oe) :: pn)).env = (false, eval (.Name nm p) (X.suite a ((a, oe) :: pn)).env) :: starEach [.Name c p2] (X.suite a ((a, oe) :: pn)).env := by rfl) (h0 : starEach [.Name c p2] (X.suite a ((a, oe) :: pn)).env = (false, eval (.Name c p2) (X.suite a ((a, oe) :: pn)).env) :: starEach [] (X.suite a ((a, oe) :: pn)).env := by rfl)
    (h2 : (backTo pos (starEach [.Name c p2] (X.suite a ((a, oe) :: pn)).env)).any (·.1) = false := by rfl) :
    PEx (X.suite a ((a, oe) :: pn)) (G.wx (a, cls, d)) W (.Call (.Name "isinstance" p3) [.Name nm p, .Name c p2] [] pos) (tCB (rIsX G.K a cls d) (tCons (tVar i) (tCons (tC (.ref C)) tNil))) (fIsE i c) := by
  refine ⟨?_, se_isE xi hc⟩
  rw [hK]
  exact pe_callB (call_isX hz hf) hg hm (by decide +kernel) (pa_cons hv (pa_cons (pe_glob hg2 (by rw [← show G.mg = (X.suite a ((a, oe) :: pn)).mg from hM]; exact hc) rfl hd) pa_nil h0) h1) (by decide) (by decide) h1 h2
theorem px_isV {X : Cx} {G : Gx} {W : WX} {a : Addr} {oe : Obj} {cls : Value} {d : Option Addr} {pn : List (Addr × Obj)} {i : Nat} {nm : Str} {p p2 p3 pos : Pos} (xi : Exi G) (hK : G.K = X.K) (hz : Zc cls d oe) (hf : ∃ vs, oe.data = .fields vs)
    (hg : Gl (X.suite a ((a, oe) :: pn)) "isinstance") (hm : (X.suite a ((a, oe) :: pn)).mg "isinstance" = none) (hg2 : Gl (X.suite a ((a, oe) :: pn)) "ValueError") (hm2 : (X.suite a ((a, oe) :: pn)).mg "ValueError" = none) (hv : PE (X.suite a ((a, oe) :: pn)) (.Name nm p) (tVar i))
    (h1 : starEach [.Name nm p, .Name "ValueError" p2] (X.suite a ((a, oe) :: pn)).env = (false, eval (.Name nm p) (X.suite a ((a, oe) :: pn)).env) :: starEach [.Name "ValueError" p2] (X.suite a ((a, oe) :: pn)).env := by rfl) (h0 : starEach [.Name "ValueError" p2] (X.suite a ((a, oe) :: pn)).env = (false, eval (.Name "ValueError" p2) (X.suite a ((a, oe) :: pn)).env) :: starEach [] (X.suite a ((a, oe) :: pn)).env := by rfl)
    (h2 : (backTo pos (starEach [.Name "ValueError" p2] (X.suite a ((a, oe) :: pn)).env)).any (·.1) = false := by rfl) :
    PEx (X.suite a ((a, oe) :: pn)) (G.wx (a, cls, d)) W (.Call (.Name "isinstance" p3) [.Name nm p, .Name "ValueError" p2] [] pos) (tCB (rIsX G.K a cls d) (tCons (tVar i) (tCons (tC (.ty "ValueError")) tNil))) (fIsV i) := by
  refine ⟨?_, se_isV xi⟩
  rw [hK]
  exact pe_callB (call_isX hz hf) hg hm (by decide +kernel) (pa_cons hv (pa_cons (pe_bltn hg2 hm2 PyProof.Rows.Boot.«ValueError» rfl (by decide) (by decide)) pa_nil h0) h1) (by decide) (by decide) h1 h2
@[simp] theorem u_fIsE (i : Nat) (c : Str) (e : En) : fIsE i c e = (match e[i]? with
  | some (.xc x) => if x.cls ∈ leafs ∧ c ∈ ("HallError" : Str) :: leafs then .ok (.pv (.bool (isSub x.cls c))) e else .no
  | _ => .no) := rfl
@[simp] theorem u_fIsV (i : Nat) (e : En) : fIsV i e = (match e[i]? with
  | some (.xc x) => if x.cls ∈ leafs then .ok (.pv (.bool true)) e else .no
  | _ => .no) := rfl
end Fw
namespace Fw
open PySem PySem.Spec PyProof.Rows L2

/-! ### a run's attributes -/
structure RunTxt (G : Gx) : Prop where
  cR : Cls G.K G.CR
  nR : ∀ f ∈ fldsOf false, NoAttr G.K G.CR f
  gR : G.mg "Run" = some (.ref G.CR)
theorem RunTxt.wC {G : Gx} (h : RunTxt G) (C : Hp) : RunTxt (G.wC C) := ⟨h.cR, h.nR, h.gR⟩
inductive RF where
  | kind
  | rule
  | rows
  | worth
  | spot
  | shut
  | torn
def RF.nm : RF → Str
  | .kind => "kind"
  | .rule => "rule"
  | .rows => "rows"
  | .worth => "worth"
  | .spot => "spot"
  | .shut => "shut"
  | .torn => "torn"
def RunM.get (r : RunM) : RF → PD
  | .kind => .str r.kind
  | .rule => .str r.rule
  | .rows => .list (r.rows.map rowD)
  | .worth => .int r.worth
  | .spot => .int (r.spot : Nat)
  | .shut => .bool r.shut
  | .torn => .bool r.torn
def fRget (f : RF) (i : Nat) : Fx := fun e => match e[i]? with
  | some (.ob _ (.run r)) => .ok (.pv (r.get f)) e
  | _ => .no
theorem se_rget {G : Gx} {W : WX} (T : RunTxt G) (f : RF) (i : Nat) : SE G W (tFld G.K (tVar i) f.nm) (fRget f i) := fun P σ H e w en Q h => by
  unfold fRget at h
  split at h
  · rename_i b r q
    obtain ⟨v, hv, p, e1, dx, wa, ta, ba, ea, ws, ts, hs, k0, k1, k2, _⟩ := en.at_ i _ q
    subst e1
    have hH := w.sub (i + 3) _ _ k0
    cases f with
    | kind => exact ⟨_, hv, p, _, _, _, _, rfl, hH, T.cR, T.nR "kind" (by decide), rfl, h P H _ w en (Fr.refl _ _) (.str _)⟩
    | rule => exact ⟨_, hv, p, _, _, _, _, rfl, hH, T.cR, T.nR "rule" (by decide), rfl, h P H _ w en (Fr.refl _ _) (.str _)⟩
    | rows => exact ⟨_, hv, p, _, _, _, _, rfl, hH, T.cR, T.nR "rows" (by decide), rfl, h P H _ w en (Fr.refl _ _) (.lst k1 k2)⟩
    | worth => exact ⟨_, hv, p, _, _, _, _, rfl, hH, T.cR, T.nR "worth" (by decide), rfl, h P H _ w en (Fr.refl _ _) (.int _)⟩
    | spot => exact ⟨_, hv, p, _, _, _, _, rfl, hH, T.cR, T.nR "spot" (by decide), rfl, h P H _ w en (Fr.refl _ _) (.int _)⟩
    | shut => exact ⟨_, hv, p, _, _, _, _, rfl, hH, T.cR, T.nR "shut" (by decide), rfl, h P H _ w en (Fr.refl _ _) (.bl _)⟩
    | torn => exact ⟨_, hv, p, _, _, _, _, rfl, hH, T.cR, T.nR "torn" (by decide), rfl, h P H _ w en (Fr.refl _ _) (.bl _)⟩
  · exact h.elim
theorem px_rget {X : Cx} {G : Gx} {W : WX} {x : Str} {i : Nat} {p pa : Pos} (f : RF) (T : RunTxt G) (hK : G.K = X.K) (hv : PE X (.Name x p) (tVar i)) (hb : attributeBase (.Name x p) f.nm X.env (eval (.Name x p) X.env) = eval (.Name x p) X.env := by rfl) :
    PEx X G W (.Attribute (.Name x p) f.nm pa) (tFld G.K (tVar i) f.nm) (fRget f i) := ⟨by rw [hK]; exact pe_fld hv hb, se_rget T f i⟩
@[simp] theorem u_fRget (f : RF) (i : Nat) (e : En) : fRget f i e = (match e[i]? with
  | some (.ob _ (.run r)) => .ok (.pv (r.get f)) e
  | _ => .no) := rfl
/-- the run of the slot i is another -/
theorem run_set {G : Gx} {P : Pt} {m : Hp} {σ : L2.St} {e : En} {i : Nat} {b : Bool} {r r' : RunM} {p : Addr} (en : EnvAt G P σ e) (hi : e[i]? = some (.ob b (.run r))) (hs : σ[i]? = some (some (.ref p))) (k : RunAt G (P 0) m p r') :
    EnvAt G (P.set (i + 3) m) σ (e.set i (.ob b (.run r'))) ∧ Fr P (P.set (i + 3) m) e (e.set i (.ob b (.run r'))) := by
  have z : (P.set (i + 3) m) 0 = P 0 := Pt.set_ne (by omega)
  have hlt : i < e.length := (List.getElem?_eq_some_iff.mp hi).1
  constructor
  · refine ⟨by rw [List.length_set]; exact en.len, by rw [Pt.set_ne (by omega)]; exact en.cs, fun j s hj => ?_⟩
    by_cases hij : i = j
    · subst hij
      rw [List.getElem?_set_self hlt] at hj
      cases hj
      exact ⟨_, hs, p, rfl, by rw [Pt.set_same, z]; exact k⟩
    · rw [List.getElem?_set_ne hij] at hj
      obtain ⟨v, a, c⟩ := en.at_ j s hj
      exact ⟨v, a, by rw [z, Pt.set_ne (show j + 3 ≠ i + 3 by omega)]; exact c⟩
  · refine ⟨by rw [z]; exact Same.refl _, Pt.set_ne (by omega), fun j hj => ?_⟩
    by_cases hij : i = j
    · subst hij
      rw [List.getElem?_set_self hlt]
      rw [hi] at hj
      cases b <;> exact hj
    · rw [List.getElem?_set_ne hij]; exact hj
def RunM.put (r : RunM) (f : RF) (d : PD) : Option RunM := match f, d with
  | .worth, .int k => some { r with worth := k }
  | .spot, .int k => if 0 ≤ k then some { r with spot := k.toNat } else none
  | .shut, .bool b => some { r with shut := b }
  | .torn, .bool b => some { r with torn := b }
  | _, _ => none
def fRput (f : RF) (i : Nat) (fa : Fx) : Fs := fun e => (fz fa e).bind fun v e1 => match v, e1[i]? with
  | .pv d, some (.ob b (.run r)) => (match r.put f d with
    | some r' => .ok .nx (e1.set i (.ob b (.run r')))
    | none => .no)
  | _, _ => .no
@[simp] theorem u_fRput (f : RF) (i : Nat) (fa : Fx) (e : En) : fRput f i fa e = (fz fa e).bind fun v e1 => match v, e1[i]? with
  | .pv d, some (.ob b (.run r)) => (match r.put f d with
    | some r' => .ok .nx (e1.set i (.ob b (.run r')))
    | none => .no)
  | _, _ => .no := rfl
def runFs (wa ta ba ea : Addr) (r : RunM) : List (Str × V) := [("kind", .str r.kind), ("rule", .str r.rule), ("rows", .ref wa), ("worth", .int r.worth), ("spot", .int (r.spot : Nat)), ("shut", .bl r.shut), ("torn", .bl r.torn), ("told", .ref ta), ("backs", .ref ba), ("held", .ref ea)]
theorem run_put {f : RF} {d : PD} {r r' : RunM} {J : Hp} {x : V} (h : r.put f d = some r') (hx : Dq J x d) : (∀ wa ta ba ea, putF f.nm x (runFs wa ta ba ea r) = runFs wa ta ba ea r') ∧ r'.rows = r.rows ∧ r'.told = r.told ∧ r'.backs = r.backs ∧ r'.held = r.held := by
  unfold RunM.put at h
  split at h
  · cases h; cases hx; exact ⟨fun _ _ _ _ => rfl, rfl, rfl, rfl, rfl⟩
  · split at h
    · rename_i k hk
      cases h; cases hx
      refine ⟨fun wa ta ba ea => ?_, rfl, rfl, rfl, rfl⟩
      obtain ⟨n, rfl⟩ := Int.eq_ofNat_of_zero_le hk
      rfl
    · cases h
  · cases h; cases hx; exact ⟨fun _ _ _ _ => rfl, rfl, rfl, rfl, rfl⟩
  · cases h; cases hx; exact ⟨fun _ _ _ _ => rfl, rfl, rfl, rfl, rfl⟩
  · cases h
theorem ss_rput {G : Gx} {W : WX} (T : RunTxt G) {f : RF} {i : Nat} {tv : TE} {fv : Fx} (s : SE G W tv fv) : SS G W (sFld G.K (tVar i) tv f.nm) (fRput f i fv) := fun P σ H e w en D h => by
  refine s.bindzS (Q1 := fun v H1 => tVar i σ H1 fun x H2 => ∃ a C dx fs, x = .ref a ∧ H2 a = some (.ins C dx fs) ∧ Cls G.K C ∧ NoAttr G.K C f.nm ∧ fs.length < 1000 ∧ D.nx σ (upd H2 a (.ins C dx (putF f.nm v fs)))) w en h fun v e1 P1 H1 x w1 en1 fr1 r1 h1 => ?_
  split at h1
  · rename_i d b r q
    cases q3 : r.put f d with
    | none => rw [q3] at h1; exact h1.elim
    | some r' =>
      rw [q3] at h1
      obtain ⟨v, hv, p, e2, dx, wa, ta, ba, ea, ws, ts, hs, k0, k1, k2, k3, k4, k5, k6, k7, n1, n2, n3⟩ := en1.at_ i _ q
      subst e2
      obtain ⟨z1, z2, z3, z4, z5⟩ := run_put q3 r1
      have hH := w1.sub (i + 3) _ _ k0
      have hno : NoAttr G.K G.CR f.nm := T.nR _ (by cases f <;> decide)
      refine ⟨_, hv, p, _, dx, _, rfl, hH, T.cR, hno, by show 10 < 1000; decide, ?_⟩
      have w2 : Wd (P1.set (i + 3) (P1 (i + 3))) H1 := by rw [Pt.set_id]; exact w1
      have w3 := own_mut (o := .ins G.CR dx (putF f.nm x (runFs wa ta ba ea r))) w2 k0
      have pt : ta ≠ p := fun z => by rw [z, k0] at k3; cases k3
      have pb : ba ≠ p := fun z => by rw [z, k0] at k5; cases k5
      have pe : ea ≠ p := fun z => by rw [z, k0] at k6; cases k6
      have k' : RunAt G (P1 0) (upd (P1 (i + 3)) p (.ins G.CR dx (putF f.nm x (runFs wa ta ba ea r)))) p r' := by
        rw [z1]
        refine ⟨dx, wa, ta, ba, ea, ws, ts, hs, upd_same, k1, by rw [z2]; exact k2, by rw [upd_ne pt]; exact k3, by rw [z3]; exact k4, by rw [upd_ne pb, z4]; exact k5, by rw [upd_ne pe]; exact k6, by rw [z5]; exact k7, n1, n2, n3⟩
      obtain ⟨y1, y2⟩ := run_set en1 q hv k'
      exact h1 _ _ σ w3 y1 y2.s
  · exact h1.elim
theorem psx_rput {X : Cx} {G : Gx} {W : WX} {x : Str} {i : Nat} {p pa pos : Pos} {ev : Expr} {tv : TE} {fv : Fx} (f : RF) (T : RunTxt G) (hK : G.K = X.K) (hv : PE X (.Name x p) (tVar i)) (ha : PEx X G W ev tv fv) (hs : swapsWith ev (some (.Attribute (.Name x p) f.nm pa)) pos.line X.env = pure false := by rfl) :
    PSx X G W (.Assign [.Attribute (.Name x p) f.nm pa] ev pos) (sFld G.K (tVar i) tv f.nm) (fRput f i fv) := ⟨by rw [hK]; exact ps_fld hv ha.pe hs, ss_rput T ha.se⟩
end Fw
namespace Fw
open PySem PySem.Spec PyProof.Rows L2

/-! ### data expressions that write nothing -/
def KE (G : Gx) (te : TE) (g : En → Option PD) : Prop := ∀ P σ H e, Wd P H → EnvAt G P σ e → ∀ (Q : VK) d, g e = some d → (∀ P' H' x, Wd P' H' → EnvAt G P' σ e → Fr P P' e e → (∀ k, 0 < k → P' k = P k) → Dq (P' 0) x d → Q x H') → te σ H Q
def gVar (i : Nat) : En → Option PD := fun e => match e[i]? with
  | some (.pv d) => some d
  | _ => none
theorem ke_var {G : Gx} (i : Nat) : KE G (tVar i) (gVar i) := fun P σ H e w en Q d h k => by
  unfold gVar at h
  split at h
  · rename_i d' q
    cases h
    obtain ⟨v, hv, x, ex, dq⟩ := en.at_ i _ q
    subst ex
    exact ⟨x, hv, k P H x w en (Fr.refl _ _) (fun _ _ => rfl) dq⟩
  · cases h
def gInt (n : Int) : En → Option PD := fun _ => some (.int n)
theorem ke_int {G : Gx} (n : Int) : KE G (tC (.int n)) (gInt n) := fun P σ H e w en Q d h k => by
  cases h
  exact k P H _ w en (Fr.refl _ _) (fun _ _ => rfl) (.int n)
def gIx (ga gb : En → Option PD) : En → Option PD := fun e => (ga e).bind fun a => (gb e).bind fun b => match opIx e (.pv a) (.pv b) with
  | some (.val d) => some d
  | _ => none
theorem ke_ix {G : Gx} {ta tb : TE} {ga gb : En → Option PD} (ha : KE G ta ga) (hb : KE G tb gb) : KE G (tOp (rIx G.K) ta tb) (gIx ga gb) := fun P σ H e w en Q d h k => by
  unfold gIx at h
  cases q1 : ga e with
  | none => rw [q1] at h; cases h
  | some a =>
    cases q2 : gb e with
    | none => rw [q1, q2] at h; cases h
    | some b =>
      rw [q1, q2] at h
      have h' : (match opIx e (.pv a) (.pv b) with | some (.val d) => some d | _ => none) = some d := h
      split at h'
      · rename_i d' q3
        cases h'
        refine ha P σ H e w en _ a q1 fun P1 H1 x w1 en1 fr1 k1 d1 => ?_
        refine hb P1 σ H1 e w1 en1 _ b q2 fun P2 H2 y w2 en2 fr2 k2 d2 => ?_
        obtain ⟨z, z1, z2⟩ := opv_ix P2 H2 σ e x y (.pv a) (.pv b) (.val d) w2 en2 (Dq.mono fr2.zero _ _ d1) d2 q3
        exact z2 Q (k P2 H2 z w2 en2 (fr1.trans fr2) (fun j hj => (k2 j hj).trans (k1 j hj)) z1)
      · cases h'
def gTup2 (ga gb : En → Option PD) : En → Option PD := fun e => (ga e).bind fun a => (gb e).bind fun b => some (.tuple [a, b])
theorem ke_tup2 {G : Gx} {ta tb : TE} {ga gb : En → Option PD} (ha : KE G ta ga) (hb : KE G tb gb) : KE G (tTup (tCons ta (tCons tb tNil))) (gTup2 ga gb) := fun P σ H e w en Q d h k => by
  unfold gTup2 at h
  cases q1 : ga e with
  | none => rw [q1] at h; cases h
  | some a =>
    cases q2 : gb e with
    | none => rw [q1, q2] at h; cases h
    | some b =>
      rw [q1, q2] at h
      cases h
      refine ha P σ H e w en _ a q1 fun P1 H1 x w1 en1 fr1 k1 d1 => ?_
      refine hb P1 σ H1 e w1 en1 _ b q2 fun P2 H2 y w2 en2 fr2 k2 d2 => ?_
      refine ⟨by show 2 ≤ sizeLine; decide, fun p hp => ?_⟩
      obtain ⟨n1, n2, n3, n4⟩ := new_tup (vs := [x, y]) (xs := [a, b]) w2 en2 hp (.cons (Dq.mono fr2.zero _ _ d1) (.cons d2 .nil))
      exact k _ _ _ n1 n2 ((fr1.trans fr2).trans n3) (fun j hj => by rw [Pt.set_ne (by omega)]; exact (k2 j hj).trans (k1 j hj)) n4
/-! ### a run's lists -/
inductive RL where
  | told
  | backs
  | held
def RL.nm : RL → Str
  | .told => "told"
  | .backs => "backs"
  | .held => "held"
def RunM.lst (r : RunM) : RL → List PD
  | .told => r.told
  | .backs => r.backs.map PyData.int
  | .held => r.held
def RunM.app (r : RunM) : RL → PD → Option RunM
  | .told, d => some { r with told := r.told ++ [d] }
  | .held, d => some { r with held := r.held ++ [d] }
  | .backs, .int k => some { r with backs := r.backs ++ [k] }
  | .backs, _ => none
theorem run_lst {G : Gx} {J m : Hp} {p : Addr} {r : RunM} (L : RL) (k : RunAt G J m p r) : ∃ dx fs la vs, m p = some (.ins G.CR dx fs) ∧ fs.lookup L.nm = some (.ref la) ∧ m la = some (.lst vs) ∧ DqAll J vs (r.lst L) := by
  obtain ⟨dx, wa, ta, ba, ea, ws, ts, hs, k0, k1, k2, k3, k4, k5, k6, k7, _⟩ := k
  cases L with
  | told => exact ⟨dx, _, ta, ts, k0, rfl, k3, k4⟩
  | backs => exact ⟨dx, _, ba, _, k0, rfl, k5, DqAll.ints _⟩
  | held => exact ⟨dx, _, ea, hs, k0, rfl, k6, k7⟩
theorem dq_snoc {J : Hp} {vs : List V} {xs : List PD} {v : V} {d : PD} (h : DqAll J vs xs) (q : Dq J v d) : DqAll J (vs ++ [v]) (xs ++ [d]) := by
  induction vs generalizing xs with
  | nil => cases h; exact .cons q .nil
  | cons a vs ih => cases h with
    | cons h1 h2 => exact .cons h1 (ih h2)
/-- a list of the run has one more -/
theorem run_app {G : Gx} {J J' m : Hp} {p : Addr} {r r' : RunM} {L : RL} {d : PD} {x : V} (h : r.app L d = some r') (k : RunAt G J m p r) (s : Same J J') (dq : Dq J' x d) : ∃ dx fs la vs, m p = some (.ins G.CR dx fs) ∧ fs.lookup L.nm = some (.ref la) ∧ m la = some (.lst vs) ∧ vs.length = (r.lst L).length ∧ RunAt G J' (upd m la (.lst (vs ++ [x]))) p r' := by
  obtain ⟨dx, wa, ta, ba, ea, ws, ts, hs, k0, k1, k2, k3, k4, k5, k6, k7, n1, n2, n3⟩ := k
  have pt : p ≠ ta := fun z => by rw [z, k3] at k0; cases k0
  have pb : p ≠ ba := fun z => by rw [z, k5] at k0; cases k0
  have pe : p ≠ ea := fun z => by rw [z, k6] at k0; cases k0
  have k2' := DqAll.mono s _ _ k2
  have k4' := DqAll.mono s _ _ k4
  have k7' := DqAll.mono s _ _ k7
  have k1' := s _ _ k1
  cases L with
  | told =>
    cases h
    exact ⟨dx, _, ta, ts, k0, rfl, k3, k4.length, dx, wa, ta, ba, ea, ws, ts ++ [x], hs, by rw [upd_ne pt]; exact k0, k1', k2', upd_same, dq_snoc k4' dq, by rw [upd_ne (Ne.symm n1)]; exact k5, by rw [upd_ne (Ne.symm n2)]; exact k6, k7', n1, n2, n3⟩
  | held =>
    cases h
    exact ⟨dx, _, ea, hs, k0, rfl, k6, k7.length, dx, wa, ta, ba, ea, ws, ts, hs ++ [x], by rw [upd_ne pe]; exact k0, k1', k2', by rw [upd_ne n2]; exact k3, k4', by rw [upd_ne n3]; exact k5, upd_same, dq_snoc k7' dq, n1, n2, n3⟩
  | backs =>
    cases d with
    | int n =>
      cases h; cases dq
      refine ⟨dx, _, ba, _, k0, rfl, k5, by show _ = (r.backs.map PyData.int).length; rw [List.length_map, List.length_map], dx, wa, ta, ba, ea, ws, ts, hs, by rw [upd_ne pb]; exact k0, k1', k2', by rw [upd_ne n1]; exact k3, k4', ?_, by rw [upd_ne (Ne.symm n3)]; exact k6, k7', n1, n2, n3⟩
      rw [upd_same, List.map_append]; rfl
    | _ => cases h
def fRapp (L : RL) (i : Nat) (g : En → Option PD) : Fs := fun e => match e[i]?, g e with
  | some (.ob b (.run r)), some d => if (r.lst L).length ≤ 100000 then (match r.app L d with
    | some r' => .ok .nx (e.set i (.ob b (.run r')))
    | none => .no) else .no
  | _, _ => .no
theorem ss_rapp {G : Gx} {W : WX} (T : RunTxt G) {L : RL} {i : Nat} {te : TE} {g : En → Option PD} (k : KE G te g) : SS G W (tDrop (tBM G.K "list" rAppend (tFld G.K (tVar i) L.nm) (tCons te tNil))) (fRapp L i g) := fun P σ H e w en D h => by
  unfold fRapp at h
  split at h
  · rename_i b r d q1 q2
    split at h
    · rename_i hl
      cases q3 : r.app L d with
      | none => rw [q3] at h; exact h.elim
      | some r' =>
        rw [q3] at h
        obtain ⟨v, hv, p, e1, ra⟩ := en.at_ i _ q1
        subst e1
        obtain ⟨dx, fs, la, vs, c1, c2, c3, c4⟩ := run_lst L (show RunAt G (P 0) (P (i + 3)) p r from ra)
        have hH := w.sub (i + 3) _ _ c1
        have hno : NoAttr G.K G.CR L.nm := T.nR _ (by cases L <;> decide)
        refine ⟨_, hv, p, _, dx, _, _, rfl, hH, T.cR, hno, c2, .inl ⟨rfl, vs, SqL.of (w.sub (i + 3) _ _ c3)⟩, ?_⟩
        refine k P σ H e w en _ d q2 fun P1 H1 x w1 en1 fr1 kp dq => ?_
        have kp3 : P1 (i + 3) = P (i + 3) := kp _ (by omega)
        obtain ⟨dx2, fs2, la2, vs2, b1, b2, b3, b4, b5⟩ := run_app q3 (show RunAt G (P 0) (P (i + 3)) p r from ra) fr1.zero dq
        rw [c1] at b1; cases b1
        rw [c2] at b2; cases b2
        rw [c3] at b3; cases b3
        have cH1 : H1 la = some (.lst vs) := w1.sub (i + 3) _ _ (by rw [kp3]; exact c3)
        have hz : vs.length < sizeLine := by rw [b4]; exact Nat.lt_of_le_of_lt hl (by decide)
        refine ⟨la, vs, x, rfl, rfl, cH1, hz, ?_⟩
        have w2 : Wd (P1.set (i + 3) (P1 (i + 3))) H1 := by rw [Pt.set_id]; exact w1
        have w3 := own_mut (o := .lst (vs ++ [x])) w2 (by rw [kp3]; exact c3)
        rw [kp3] at w3
        obtain ⟨y1, y2⟩ := run_set en1 q1 hv b5
        exact h _ _ σ w3 y1 (fr1.trans y2).s
    · exact h.elim
  · exact h.elim
end Fw
namespace Fw
open PySem PySem.Spec PyProof.Rows L2

/-! ### a run's lists, read -/
theorem run_rd {G : Gx} {P : Pt} {H : Hp} {σ : L2.St} {e : En} {i : Nat} {b : Bool} {r : RunM} (L : RL) (w : Wd P H) (en : EnvAt G P σ e) (q : e[i]? = some (.ob b (.run r))) : ∃ p dx fs la vs, σ[i]? = some (some (.ref p)) ∧ H p = some (.ins G.CR dx fs) ∧ fs.lookup L.nm = some (.ref la) ∧ H la = some (.lst vs) ∧ DqAll (P 0) vs (r.lst L) := by
  obtain ⟨v, hv, p, e1, ra⟩ := en.at_ i _ q
  subst e1
  obtain ⟨dx, fs, la, vs, c1, c2, c3, c4⟩ := run_lst L (show RunAt G (P 0) (P (i + 3)) p r from ra)
  exact ⟨p, dx, fs, la, vs, hv, w.sub (i + 3) _ _ c1, c2, w.sub (i + 3) _ _ c3, c4⟩
theorem rl_no {G : Gx} (T : RunTxt G) (L : RL) : NoAttr G.K G.CR L.nm := T.nR _ (by cases L <;> decide)
/-- list(self.told) -/
def fRlist (L : RL) (i : Nat) : Fx := fun e => match e[i]? with
  | some (.ob _ (.run r)) => .ok (.ow (.ls false (r.lst L))) e
  | _ => .no
theorem se_rlist {G : Gx} {W : WX} (T : RunTxt G) (L : RL) (i : Nat) : SE G W (tCB (rList1 G.K) (tCons (tFld G.K (tVar i) L.nm) tNil)) (fRlist L i) := fun P σ H e w en Q h => by
  unfold fRlist at h
  split at h
  · rename_i b r q
    obtain ⟨p, dx, fs, la, vs, hv, c1, c2, c3, c4⟩ := run_rd L w en q
    refine ⟨_, hv, p, _, dx, _, _, rfl, c1, T.cR, rl_no T L, c2, la, vs, rfl, .inl (SqL.of c3), fun l hl => ?_⟩
    obtain ⟨n1, n2, n3, n4⟩ := new_res w en hl c4
    exact h _ _ _ n1 n2 n3 n4
  · exact h.elim
/-- self.told[0] -/
def fRix (L : RL) (i : Nat) (n : Int) : Fx := fun e => match e[i]? with
  | some (.ob _ (.run r)) => (match atI (r.lst L) n with
    | some d => .ok (.pv d) e
    | none => .no)
  | _ => .no
theorem se_rix {G : Gx} {W : WX} (T : RunTxt G) (L : RL) (i : Nat) (n : Int) : SE G W (tOp (rIx G.K) (tFld G.K (tVar i) L.nm) (tC (.int n))) (fRix L i n) := fun P σ H e w en Q h => by
  unfold fRix at h
  split at h
  · rename_i b r q
    cases q2 : atI (r.lst L) n with
    | none => rw [q2] at h; exact h.elim
    | some d =>
      rw [q2] at h
      obtain ⟨p, dx, fs, la, vs, hv, c1, c2, c3, c4⟩ := run_rd L w en q
      obtain ⟨z, z1, z2⟩ := atI_at c4 q2
      exact ⟨_, hv, p, _, dx, _, _, rfl, c1, T.cR, rl_no T L, c2, .inl ⟨la, vs, n, z, rfl, rfl, SqL.of c3, z1, h P H z w en (Fr.refl _ _) z2⟩⟩
  · exact h.elim
@[simp] theorem u_fRlist (L : RL) (i : Nat) (e : En) : fRlist L i e = (match e[i]? with
  | some (.ob _ (.run r)) => .ok (.ow (.ls false (r.lst L))) e
  | _ => .no) := rfl
@[simp] theorem u_fRix (L : RL) (i : Nat) (n : Int) (e : En) : fRix L i n e = (match e[i]? with
  | some (.ob _ (.run r)) => (match atI (r.lst L) n with
    | some d => .ok (.pv d) e
    | none => .no)
  | _ => .no) := rfl
@[simp] theorem u_fRapp (L : RL) (i : Nat) (g : En → Option PD) (e : En) : fRapp L i g e = (match e[i]?, g e with
  | some (.ob b (.run r)), some d => if (r.lst L).length ≤ 100000 then (match r.app L d with
    | some r' => .ok .nx (e.set i (.ob b (.run r')))
    | none => .no) else .no
  | _, _ => .no) := rfl
section
variable {X : Cx} {G : Gx} {W : WX}
theorem px_rlist {x : Str} {i : Nat} {p pa p2 pos : Pos} (L : RL) (T : RunTxt G) (hK : G.K = X.K) (hg : Gl X "list") (hm : X.mg "list" = none) (hv : PE X (.Name x p) (tVar i)) (hb : attributeBase (.Name x p) L.nm X.env (eval (.Name x p) X.env) = eval (.Name x p) X.env := by rfl)
    (h1 : starEach [.Attribute (.Name x p) L.nm pa] X.env = (false, eval (.Attribute (.Name x p) L.nm pa) X.env) :: starEach [] X.env := by rfl) (h2 : (backTo pos (starEach [] X.env)).any (·.1) = false := by rfl) :
    PEx X G W (.Call (.Name "list" p2) [.Attribute (.Name x p) L.nm pa] [] pos) (tCB (rList1 G.K) (tCons (tFld G.K (tVar i) L.nm) tNil)) (fRlist L i) := by
  refine ⟨?_, se_rlist T L i⟩
  rw [hK]
  exact pe_callTy call_list_of hg hm (by decide +kernel) (pa_cons (pe_fld hv hb) pa_nil h1) (by decide) (by decide) h1 h2
theorem px_rix {x : Str} {i j : Nat} {n : Int} {p pa p2 pos : Pos} (L : RL) (T : RunTxt G) (hK : G.K = X.K) (hv : PE X (.Name x p) (tVar i)) (hb : attributeBase (.Name x p) L.nm X.env (eval (.Name x p) X.env) = eval (.Name x p) X.env := by rfl) (hs : PlainIx (.Constant (.int n) j p2)) :
    PEx X G W (.Subscript (.Attribute (.Name x p) L.nm pa) (.Constant (.int n) j p2) pos) (tOp (rIx G.K) (tFld G.K (tVar i) L.nm) (tC (.int n))) (fRix L i n) := by
  refine ⟨?_, se_rix T L i n⟩
  rw [hK]
  exact pe_ix ix_seq (pe_fld hv hb) pe_int hs
theorem psx_rapp {x : Str} {i : Nat} {ev : Expr} {te : TE} {g : En → Option PD} {p pa p2 cpos pos : Pos} (L : RL) (T : RunTxt G) (hK : G.K = X.K) (hv : PE X (.Name x p) (tVar i)) (he : PE X ev te) (k : KE G te g)
    (hb : attributeBase (.Name x p) L.nm X.env (eval (.Name x p) X.env) = eval (.Name x p) X.env := by rfl)
    (h0 : attributeBase (.Attribute (.Name x p) L.nm pa) "append" X.env (eval (.Attribute (.Name x p) L.nm pa) X.env) = eval (.Attribute (.Name x p) L.nm pa) X.env := by rfl)
    (h1 : ((backTo cpos (starEach [ev] X.env)).all (fun x => !x.1) && (backToKw cpos (keywordEach [] X.env)).all (fun x => x.1.isSome) && decide ([ev].length + ([] : List Keyword).length + (if ([] : List Keyword).isEmpty then 0 else 1) < 30)) = true := by rfl)
    (h2 : (p2.endLine == cpos.line) = true := by rfl) (h3 : starEach [ev] X.env = (false, eval ev X.env) :: starEach [] X.env := by rfl) (h4 : (backTo cpos (starEach [] X.env)).any (·.1) = false := by rfl)
    (hs : swapsWith (.Call (.Attribute (.Attribute (.Name x p) L.nm pa) "append" p2) [ev] [] cpos) none pos.line X.env = pure false := by rfl) :
    PSx X G W (.Expr (.Call (.Attribute (.Attribute (.Name x p) L.nm pa) "append" p2) [ev] [] cpos) pos) (tDrop (tBM G.K "list" rAppend (tFld G.K (tVar i) L.nm) (tCons te tNil))) (fRapp L i g) := by
  refine ⟨?_, ss_rapp T k⟩
  rw [hK]
  exact ps_expr (pe_bm PySem.F.plainAttrs_list PySem.F.slot_list_append PySem.F.type_list_append mt_append (pe_fld hv hb) (pa_cons he pa_nil h3) h0 h1 h2 h3 h4) hs
end
/-- self.told == [] -/
def fRnil (L : RL) (i : Nat) : Fx := fun e => match e[i]? with
  | some (.ob _ (.run r)) => if SeqAt.shaped (.list (r.lst L)) = true then .ok (.pv (.bool (PyData.eqv (.list (r.lst L)) (.list [])))) e else .no
  | _ => .no
theorem se_rnil {G : Gx} {W : WX} (T : RunTxt G) (L : RL) (i : Nat) : SE G W (tOp (rEqA G.K) (tFld G.K (tVar i) L.nm) (tLst tNil)) (fRnil L i) := fun P σ H e w en Q h => by
  unfold fRnil at h
  split at h
  · rename_i b r q
    split at h
    · rename_i hs
      obtain ⟨p, dx, fs, la, vs, hv, c1, c2, c3, c4⟩ := run_rd L w en q
      refine ⟨_, hv, p, _, dx, _, _, rfl, c1, T.cR, rl_no T L, c2, by decide, fun l hl => ?_⟩
      obtain ⟨n1, n2, n3, n4⟩ := new_res (vs := []) (xs := []) w en hl .nil
      have hne : la ≠ l := fun z => by rw [z, hl] at c3; cases c3
      have sH : Same (P 0) (upd H l (.lst [])) := fun a o z => by rw [upd_ne (ne_of_none (w.sub 0 a o z) hl)]; exact w.sub 0 a o z
      have d1 : Dp G.K (upd H l (.lst [])) (.ref la) (.list (r.lst L)) := .lst (SqL.of (by rw [upd_ne hne]; exact c3)) (DqAll.dp _ _ (DqAll.mono sH _ _ c4))
      have d2 : Dp G.K (upd H l (.lst [])) (.ref l) (.list []) := .lst (SqL.of upd_same) .nil
      exact .inr ⟨_, _, d1, d2, hs, by decide +kernel, h _ _ _ n1 n2 n3 (.bl _)⟩
    · exact h.elim
  · exact h.elim
theorem px_rnil {X : Cx} {G : Gx} {W : WX} {x : Str} {i : Nat} {p pa p2 pos : Pos} (L : RL) (T : RunTxt G) (hu : X.A.units + 64 < cLine) (hK : G.K = X.K) (hv : PE X (.Name x p) (tVar i)) (hb : attributeBase (.Name x p) L.nm X.env (eval (.Name x p) X.env) = eval (.Name x p) X.env := by rfl) :
    PEx X G W (.Compare (.Attribute (.Name x p) L.nm pa) [.Eq] [.List [] p2] pos) (tOp (rEqA G.K) (tFld G.K (tVar i) L.nm) (tLst tNil)) (fRnil L i) := by
  refine ⟨?_, se_rnil T L i⟩
  rw [hK]
  exact pe_cmpR (op_eqA hu) (pe_fld hv hb) (pe_lst pa_nil) (nomark _)
@[simp] theorem u_fRnil (L : RL) (i : Nat) (e : En) : fRnil L i e = (match e[i]? with
  | some (.ob _ (.run r)) => if SeqAt.shaped (.list (r.lst L)) = true then .ok (.pv (.bool (PyData.eqv (.list (r.lst L)) (.list [])))) e else .no
  | _ => .no) := rfl
end Fw
namespace Fw
open PySem PySem.Spec PyProof.Rows L2

/-! ### a new run -/
def spRI (G : Gx) : Sp := fun vs H Q _ => ∃ p dx x1 x2 x3 x4, vs = [.ref p, x1, x2, x3, x4] ∧ H p = some (.ins G.CR dx []) ∧
  ∀ a1 a2 a3 H', H a1 = none → H a2 = none → H a3 = none → [a1, a2, a3].Nodup →
    H' = upd (upd (upd (upd H a1 (.lst [])) a2 (.lst [])) a3 (.lst [])) p (.ins G.CR dx [("kind", x1), ("rule", x2), ("rows", x3), ("worth", x4), ("spot", .int 0), ("shut", .bl false), ("torn", .bl false), ("told", .ref a1), ("backs", .ref a2), ("held", .ref a3)]) → Q .non H'
def t_run (K : PySem.W.Frag) : TS := tSeq (sFld K (tVar 0) (tVar 1) "kind") (tSeq (sFld K (tVar 0) (tVar 2) "rule") (tSeq (sFld K (tVar 0) (tVar 3) "rows") (tSeq (sFld K (tVar 0) (tVar 4) "worth")
  (tSeq (sFld K (tVar 0) (tC (.int 0)) "spot") (tSeq (sFld K (tVar 0) (tC (.bl false)) "shut") (tSeq (sFld K (tVar 0) (tC (.bl false)) "torn") (tSeq (sFld K (tVar 0) (tLst tNil) "told") (tSeq (sFld K (tVar 0) (tLst tNil) "backs") (sFld K (tVar 0) (tLst tNil) "held")))))))))
theorem pure_run {G : Gx} (T : RunTxt G) {vs : List V} {H : Hp} {Q : VK} {E : XK} (h : spRI G vs H Q E) : t_run G.K { nx := fun _ H' => Q .non H', rt := Q } (L2.start ["self", "kind", "rule", "rows", "worth"] vs) H := by
  obtain ⟨p, dx, x1, x2, x3, x4, rfl, hp, k⟩ := h
  refine ⟨_, rfl, _, rfl, p, _, dx, _, rfl, hp, T.cR, T.nR "kind" (by decide), by decide, ?_⟩
  refine ⟨_, rfl, _, rfl, p, _, dx, _, rfl, upd_same, T.cR, T.nR "rule" (by decide), Nat.lt_of_le_of_lt (few (Nat.le_refl 0)) (by decide), ?_⟩
  refine ⟨_, rfl, _, rfl, p, _, dx, _, rfl, upd_same, T.cR, T.nR "rows" (by decide), Nat.lt_of_le_of_lt (few (few (Nat.le_refl 0))) (by decide), ?_⟩
  refine ⟨_, rfl, _, rfl, p, _, dx, _, rfl, upd_same, T.cR, T.nR "worth" (by decide), Nat.lt_of_le_of_lt (few (few (few (Nat.le_refl 0)))) (by decide), ?_⟩
  refine ⟨_, rfl, p, _, dx, _, rfl, upd_same, T.cR, T.nR "spot" (by decide), Nat.lt_of_le_of_lt (few (few (few (few (Nat.le_refl 0))))) (by decide), ?_⟩
  refine ⟨_, rfl, p, _, dx, _, rfl, upd_same, T.cR, T.nR "shut" (by decide), Nat.lt_of_le_of_lt (few (few (few (few (few (Nat.le_refl 0)))))) (by decide), ?_⟩
  refine ⟨_, rfl, p, _, dx, _, rfl, upd_same, T.cR, T.nR "torn" (by decide), Nat.lt_of_le_of_lt (few (few (few (few (few (few (Nat.le_refl 0))))))) (by decide), ?_⟩
  refine ⟨by decide, fun a1 n1 => ?_⟩
  have p1 : p ≠ a1 := fun z => by subst z; rw [upd_same] at n1; cases n1
  refine ⟨_, rfl, p, _, dx, _, rfl, by rw [upd_ne p1]; exact upd_same, T.cR, T.nR "told" (by decide), Nat.lt_of_le_of_lt (few (few (few (few (few (few (few (Nat.le_refl 0)))))))) (by decide), ?_⟩
  refine ⟨by decide, fun a2 n2 => ?_⟩
  have p2 : p ≠ a2 := fun z => by subst z; rw [upd_same] at n2; cases n2
  refine ⟨_, rfl, p, _, dx, _, rfl, by rw [upd_ne p2]; exact upd_same, T.cR, T.nR "backs" (by decide), Nat.lt_of_le_of_lt (few (few (few (few (few (few (few (few (Nat.le_refl 0))))))))) (by decide), ?_⟩
  refine ⟨by decide, fun a3 n3 => ?_⟩
  have p3 : p ≠ a3 := fun z => by subst z; rw [upd_same] at n3; cases n3
  refine ⟨_, rfl, p, _, dx, _, rfl, by rw [upd_ne p3]; exact upd_same, T.cR, T.nR "held" (by decide), Nat.lt_of_le_of_lt (few (few (few (few (few (few (few (few (few (Nat.le_refl 0)))))))))) (by decide), ?_⟩
  simp only [upd_upd] at n1 n2 n3
  rw [upd_ne p1.symm] at n1
  rw [upd_ne p2.symm] at n2
  have a12 : a1 ≠ a2 := fun z => by subst z; rw [upd_same] at n2; cases n2
  rw [upd_ne a12.symm, upd_ne p2.symm] at n2
  rw [upd_ne p3.symm] at n3
  have a23 : a2 ≠ a3 := fun z => by subst z; rw [upd_same] at n3; cases n3
  rw [upd_ne a23.symm, upd_ne p3.symm] at n3
  have a13 : a1 ≠ a3 := fun z => by subst z; rw [upd_same] at n3; cases n3
  rw [upd_ne a13.symm, upd_ne p3.symm] at n3
  refine k a1 a2 a3 _ n1 n2 n3 (by simp [a12, a13, a23]) ?_
  simp only [upd_upd]
  funext c
  by_cases hc : c = p
  · subst hc
    rw [upd_same, upd_same]
    rfl
  · rw [upd_ne hc, upd_ne hc]
    by_cases c3 : c = a3
    · subst c3; rw [upd_same, upd_same]
    · rw [upd_ne c3, upd_ne c3, upd_ne hc]
      by_cases c2 : c = a2
      · subst c2; rw [upd_same, upd_same]
      · rw [upd_ne c2, upd_ne c2, upd_ne hc]
        by_cases c1 : c = a1
        · subst c1; rw [upd_same, upd_same]
        · rw [upd_ne c1, upd_ne c1, upd_ne hc]
def rowsOf : List PD → Option (List (Str × PD))
  | [] => some []
  | .tuple [.str n, d] :: r => (rowsOf r).map ((n, d) :: ·)
  | _ :: _ => none
theorem rowsOf_eq : ∀ {ds : List PD} {rows : List (Str × PD)}, rowsOf ds = some rows → ds = rows.map rowD
  | [], _, h => by cases h; rfl
  | x :: r, rows, h => by
    unfold rowsOf at h
    split at h
    · cases ‹_ :: _ = []›
    · rename_i n d r' e
      cases e
      cases q : rowsOf r with
      | none => rw [q] at h; cases h
      | some rs => rw [q] at h; cases h; rw [rowsOf_eq q]; rfl
    · cases h
theorem rowsOf_map (rows : List (Str × PD)) : rowsOf (rows.map rowD) = some rows := by
  induction rows with
  | nil => rfl
  | cons a r ih =>
    show (rowsOf (r.map rowD)).map ((a.1, a.2) :: ·) = some (a :: r)
    rw [ih]; rfl
def run0 (k u : Str) (rows : List (Str × PD)) (n : Int) : RunM := ⟨k, u, rows, n, 0, false, false, [], [], []⟩
def runOf : List PD → Option RunM
  | [.str k, .str u, .list ds, .int n] => (rowsOf ds).map fun rows => run0 k u rows n
  | _ => none
/-- Run(kind, rule, rows, worth) -/
def fRun (fa : Fa) : Fx := fun e => (fa e).bind fun vs e1 => match (dsOf vs).bind runOf with
  | some r => .ok (.ow (.ob false (.run r))) e1
  | none => .no
theorem se_run {G : Gx} {W : WX} {ta : TA} {fa : Fa} (s : SA G W ta fa) : SE G W (tMake G.CR (spRI G) [] (fun _ _ _ => False) ta) (fRun fa) := fun P σ H e w en Q h => by
  refine s.bindG w en (PostE.gen h) fun vs e1 P1 H1 ws w1 en1 fr1 r1 h1 => ?_
  have h2 := PostG.toE h1
  cases q : (dsOf vs).bind runOf with
  | none => rw [q] at h2; exact h2.elim
  | some r =>
    rw [q] at h2
    obtain ⟨ds, q1, q2⟩ : ∃ ds, dsOf vs = some ds ∧ runOf ds = some r := by
      cases z : dsOf vs with
      | none => rw [z] at q; cases q
      | some ds => rw [z] at q; exact ⟨ds, rfl, q⟩
    have da := dsOf_at r1 q1
    unfold runOf at q2
    split at q2
    · rename_i k u dl n
      cases q3 : rowsOf dl with
      | none => rw [q3] at q2; cases q2
      | some rows =>
        rw [q3] at q2
        cases q2
        have er := rowsOf_eq q3
        subst er
        obtain ⟨wa, wl, e4, e5, rfl⟩ : ∃ wa wl, P1 0 wa = some (.lst wl) ∧ DqAll (P1 0) wl (rows.map rowD) ∧ ws = [V.str k, V.str u, V.ref wa, V.int n] := by
          cases da with
          | cons d1 t1 => cases d1; cases t1 with
            | cons d2 t2 => cases d2; cases t2 with
              | cons d3 t3 => cases d3 with
                | lst y1 y2 => cases t3 with
                  | cons d4 t4 => cases d4; cases t4; exact ⟨_, _, y1, y2, rfl⟩
        intro x dx hx hdx hne
        refine ⟨x, dx, _, _, _, _, rfl, upd_same, fun a1 a2 a3 H' n1 n2 n3 nd eH => ⟨rfl, ?_⟩⟩
        simp only [List.nodup_cons, List.mem_cons, List.not_mem_nil, or_false, not_or, List.nodup_nil, and_true, not_false_eq_true] at nd
        obtain ⟨⟨a12, a13⟩, a23⟩ := nd
        have w0 : Wd (P1.set 2 emp) H1 := w1.drop 2
        have v1 := own_new (o := .own x) w0 hdx
        have v2 := own_new (o := .ins G.CR dx []) v1 (show upd H1 dx (.own x) x = none by rw [upd_ne (Ne.symm hne)]; exact hx)
        have v3 := own_new (o := .lst []) v2 n1
        have v4 := own_new (o := .lst []) v3 (show upd _ a1 _ a2 = none by rw [upd_ne (Ne.symm a12)]; exact n2)
        have v5 := own_new (o := .lst []) v4 (show upd (upd _ a1 _) a2 _ a3 = none by rw [upd_ne (Ne.symm a23), upd_ne (Ne.symm a13)]; exact n3)
        have x1 : x ≠ a1 := fun z => by subst z; rw [upd_same] at n1; cases n1
        have x2 : x ≠ a2 := fun z => by subst z; rw [upd_same] at n2; cases n2
        have x3 : x ≠ a3 := fun z => by subst z; rw [upd_same] at n3; cases n3
        have v6 := own_mut (a := x) (u := .ins G.CR dx []) (o := .ins G.CR dx [("kind", .str k), ("rule", .str u), ("rows", .ref wa), ("worth", .int n), ("spot", .int 0), ("shut", .bl false), ("torn", .bl false), ("told", .ref a1), ("backs", .ref a2), ("held", .ref a3)]) v5 (by rw [upd_ne x3, upd_ne x2, upd_ne x1]; exact upd_same)
        rw [← eH] at v6
        refine h2 _ _ (.ref x) v6 (en1.mono (by rw [Pt.set_ne (by decide)]; exact Same.refl _) (by rw [Pt.set_ne (by decide)]; exact en1.cs) fun i => Pt.set_ne (by omega)) ⟨by rw [Pt.set_ne (by decide)]; exact Same.refl _, Pt.set_ne (by decide), fun _ h => h⟩ ?_
        refine ⟨x, rfl, ?_⟩
        rw [Pt.set_same, Pt.set_ne (show (0 : Nat) ≠ 2 by decide)]
        refine ⟨dx, wa, a1, a2, a3, wl, [], [], upd_same, e4, e5, ?_, .nil, ?_, ?_, .nil, a12, a13, a23⟩
        · rw [upd_ne x1.symm, upd_ne a13, upd_ne a12]; exact upd_same
        · rw [upd_ne x2.symm, upd_ne a23]; exact upd_same
        · rw [upd_ne x3.symm]; exact upd_same
    · cases q2
structure RMk (P : Program) (w : World) (base : Heap) (G : Gx) (k : Nat) : Prop where
  ex : ∃ f fd, Mk G.K G.CR f ∧ FnOk P w G.K G.mg base (L2.CX P w) k f fd ["self", "kind", "rule", "rows", "worth"] (spRI G) ∧ Binds G.K fd ["self", "kind", "rule", "rows", "worth"] []
theorem RMk.wC {P : Program} {w : World} {base : Heap} {G : Gx} {k : Nat} (h : RMk P w base G k) (C : Hp) : RMk P w base (G.wC C) k := ⟨h.ex⟩
theorem mkr_h {P : Program} {w : World} {base : Heap} {G : Gx} {st : Stmt} {N : List Str} {k : Nat} {t : XK → TS} (D : IDf G G.CR "Run.__init__" st ["self", "kind", "rule", "rows", "worth"]) (S : FnScope N ["self", "kind", "rule", "rows", "worth"] (defScope st))
    (hb : ∀ (f : Addr) (cdv : Value) (A : Around) (outer : List Env) (s : Shared) (H : Hp) (E : XK), Room k (A.deeper (envOfC "Run.__init__" (defScope st) s.heap.objs.size f cdv)) → Takes (cxOf (L2.CX P w) P w G.K G.mg base N "Run.__init__" (defScope st) f cdv A outer s H E) (WXof E) →
      PSs (cxOf (L2.CX P w) P w G.K G.mg base N "Run.__init__" (defScope st) f cdv A outer s H E) (defBody st) (t E))
    (hp : ∀ vs H Q E, spRI G vs H Q E → t E { nx := fun _ H' => Q .non H', rt := Q } (L2.start N vs) H) : RMk P w base G (k + 1) := by
  obtain ⟨f, fd, h1, h2, h3⟩ := D.ex
  refine ⟨f, fd, h2, okH h1 S (fun vs H Q E h => ?_) (fun cdv A outer s H E hr tk _ => hb f cdv A outer s H E hr tk) hp, h3⟩
  obtain ⟨p, dx, x1, x2, x3, x4, rfl, _⟩ := h
  rfl
theorem px_run {X : Cx} {G : Gx} {W : WX} {k : Nat} {e : Expr} {es : List Expr} {t : TA} {fa : Fa} {p pos : Pos} (M : RMk X.prog X.w X.base G k) (T : RunTxt G) (hr : Room (k + 1) X.A) (hK : G.K = X.K) (hM : G.mg = X.mg) (hg : Gl X "Run") (ha : PAx X G W (e :: es) t fa)
    (g1 : starEach (e :: es) X.env = (false, eval e X.env) :: starEach es X.env := by rfl) (g2 : (backTo pos (starEach es X.env)).any (·.1) = false := by rfl) :
    PEx X G W (.Call (.Name "Run" p) (e :: es) [] pos) (tMake G.CR (spRI G) [] (fun _ _ _ => False) t) (fRun fa) := by
  obtain ⟨f, fd, k1, k2, k3⟩ := M.ex
  have g := T.gR
  rw [hK] at k1 k2 k3
  rw [hM] at k2 g
  exact ⟨pe_make k1 k2 hr hg g k3 .nil passF ha.pa (by decide) g1 g2, se_run ha.sa⟩
@[simp] theorem u_fRun (fa : Fa) (e : En) : fRun fa e = (fa e).bind fun vs e1 => match (dsOf vs).bind runOf with
  | some r => .ok (.ow (.ob false (.run r))) e1
  | none => .no := rfl
end Fw
namespace Fw
open PySem PySem.Spec PyProof.Rows L2

/-! ### for number in reversed(self.backs): back = 10 * back + number -/
theorem for_itv {K : PySem.W.Frag} {a : Addr} {n : Nat} {g : TG} {tb : TS} {D : Ends} {σ : L2.St} {H : Hp} (Pv : Nat → L2.St → Hp → Prop) (h0 : Pv 0 σ H)
    (hl : ∀ i σ H, Pv i σ H → ∃ vs, SqL K H a vs ∧ vs.length = n ∧ ∀ x, vs[n - 1 - i]? = some x → i < n → g x σ H fun σ2 H2 => tb { D with nx := Pv (i + 1), ct := Pv (i + 1), bk := D.nx } σ2 H2) (hd : ∀ σ H, Pv n σ H → D.nx σ H) :
    ∃ W : Nat → Nat → L2.St → Hp → Prop, (∃ m, W 0 m σ H) ∧ ∀ i m σ H, W i m σ H →
      ((Itv K a n).stop i H ∧ D.nx σ H) ∨ ((Itv K a n).go i H ∧ ∃ N : L2.St → Hp → Prop, (∀ σ' H', N σ' H' → ∃ m', m' < m ∧ W (i + 1) m' σ' H') ∧ ∀ x H', (Itv K a n).yld i H x H' → g x σ H' fun σ2 H2 => tb { D with nx := N, ct := N, bk := D.nx } σ2 H2) := by
  refine ⟨fun i m σ H => m = n - i ∧ i ≤ n ∧ Pv i σ H, ⟨n, by simp, Nat.zero_le _, h0⟩, ?_⟩
  rintro i m σ H ⟨rfl, hi, p⟩
  obtain ⟨vs, q, hlen, ht⟩ := hl i σ H p
  by_cases hlt : i < n
  · refine .inr ⟨⟨hlt, vs, vs[n - 1 - i]'(by omega), q, List.getElem?_eq_getElem _⟩, Pv (i + 1), fun σ' H' p' => ⟨n - (i + 1), by omega, rfl, hlt, p'⟩, fun x H' y => ?_⟩
    obtain ⟨e, y⟩ := y
    subst e
    exact ht x (y vs q) hlt
  · have e : i = n := by omega
    subst e
    exact .inl ⟨Nat.le_refl _, hd σ H p⟩
def backN (bs : List Int) (b : Int) : Int := bs.reverse.foldl (fun b n => 10 * b + n) b
def fForB (i j n : Nat) : Fs := fun e => match e[i]?, e[j]?, e[n]? with
  | some (.ob _ (.run r)), some (.pv (.int b)), some .un => if i ≠ j ∧ i ≠ n ∧ j ≠ n then .ok .nx (e.set j (.pv (.int (backN r.backs b)))) else .no
  | _, _, _ => .no
@[simp] theorem u_fForB (i j n : Nat) (e : En) : fForB i j n e = (match e[i]?, e[j]?, e[n]? with
  | some (.ob _ (.run r)), some (.pv (.int b)), some .un => if i ≠ j ∧ i ≠ n ∧ j ≠ n then .ok .nx (e.set j (.pv (.int (backN r.backs b)))) else .no
  | _, _, _ => .no) := rfl
abbrev tBack (j n : Nat) : TS := tAsg (tOp rAddA (tOp (rI CMul fun i j => .int (i * j)) (tC (.int 10)) (tVar j)) (tVar n)) (gName j)
theorem fold_take (bs : List Int) (b : Int) (k : Nat) (z : Int) (h : bs[k]? = some z) : (bs.take (k + 1)).foldl (fun b n => 10 * b + n) b = 10 * (bs.take k).foldl (fun b n => 10 * b + n) b + z := by
  rw [List.take_succ, h, List.foldl_append]; rfl
theorem ss_forB {G : Gx} {W : WX} (T : RunTxt G) {i j n : Nat} : SS G W (tFor (iRev G.K (tCons (tFld G.K (tVar i) "backs") tNil)) (gName n) (tBack j n)) (fForB i j n) := fun P σ H e w en D h => by
  unfold fForB at h
  split at h
  · rename_i bb r b q1 q2 q3
    split at h
    · rename_i hne
      obtain ⟨nij, nin, njn⟩ := hne
      obtain ⟨v, hv, p, e1, ra⟩ := en.at_ i _ q1
      subst e1
      obtain ⟨dx, wa, ta, ba, ea, ws, ts, hs, k0, k1, k2, k3, k4, k5, k6, k7, _⟩ := (show RunAt G (P 0) (P (i + 3)) p r from ra)
      obtain ⟨vb, hvb, wv, e2, d2⟩ := en.at_ j _ q2
      subst e2
      cases d2
      have hB : H ba = some (.lst (r.backs.map V.int)) := w.sub (i + 3) _ _ k5
      have hjl : j < σ.length := (List.getElem?_eq_some_iff.mp hvb).1
      have hnl : n < σ.length := by
        have := (List.getElem?_eq_some_iff.mp q3).1
        rw [en.len] at this; exact this
      refine ⟨_, hv, p, _, dx, _, _, rfl, w.sub (i + 3) _ _ k0, T.cR, T.nR "backs" (by decide), rfl, ba, _, rfl, SqL.of hB, ?_⟩
      refine for_itv (fun k σ' H' => H' = H ∧ σ'.length = σ.length ∧ (∀ m : Nat, m ≠ j → m ≠ n → σ'[m]? = σ[m]?) ∧ σ'[j]? = some (some (.int ((r.backs.reverse.take k).foldl (fun b n => 10 * b + n) b)))) ⟨rfl, rfl, fun _ _ _ => rfl, by simpa using hvb⟩ ?_ ?_
      · rintro k σ' H' ⟨rfl, hl, ho, hj⟩
        refine ⟨_, SqL.of hB, rfl, fun x hx hk => ?_⟩
        rw [List.getElem?_map] at hx
        rw [List.length_map] at hx hk
        cases qz : r.backs[r.backs.length - 1 - k]? with
        | none => rw [qz] at hx; cases hx
        | some z =>
          rw [qz] at hx
          have hx' : x = V.int z := (Option.some.inj hx).symm
          subst hx'
          have hz : r.backs.reverse[k]? = some z := by rw [List.getElem?_reverse hk]; exact qz
          show tBack j n _ (σ'.set n (some (V.int z))) H'
          refine ⟨_, by rw [List.getElem?_set_ne (Ne.symm njn)]; exact hj, 10, _, rfl, rfl, .inl ⟨by omega, by omega⟩, _, List.getElem?_set_self (by rw [hl]; exact hnl), .inl (.inl ⟨_, _, rfl, rfl, ?_⟩)⟩
          refine ⟨rfl, by rw [List.length_set, List.length_set]; exact hl, fun m m1 m2 => by rw [List.getElem?_set_ne (Ne.symm m1), List.getElem?_set_ne (Ne.symm m2)]; exact ho m m1 m2, ?_⟩
          rw [List.getElem?_set_self (by rw [List.length_set, hl]; exact hjl), fold_take _ _ _ _ hz]
      · rintro σ' H' ⟨rfl, hl, ho, hj⟩
        have hall : r.backs.reverse.take (r.backs.map V.int).length = r.backs.reverse := List.take_of_length_le (by rw [List.length_reverse, List.length_map]; exact Nat.le_refl _)
        rw [hall] at hj
        have hej : j < e.length := (List.getElem?_eq_some_iff.mp q2).1
        refine h P H' σ' w ⟨by rw [List.length_set, hl]; exact en.len, en.cs, fun m s hm => ?_⟩ ⟨Same.refl _, rfl, hl, fun m hm => ?_⟩
        · by_cases m1 : m = j
          · subst m1
            rw [List.getElem?_set_self hej] at hm
            cases hm
            exact ⟨_, hj, _, rfl, .int _⟩
          · rw [List.getElem?_set_ne (Ne.symm m1)] at hm
            by_cases m2 : m = n
            · subst m2
              rw [q3] at hm; cases hm
              exact ⟨_, List.getElem?_eq_getElem (by rw [hl]; exact hnl), trivial⟩
            · obtain ⟨v, a1, a2⟩ := en.at_ m s hm
              exact ⟨v, by rw [ho m m1 m2]; exact a1, a2⟩
        · have m1 : m ≠ j := fun z => by subst z; rw [q2] at hm; cases hm
          have m2 : m ≠ n := fun z => by subst z; rw [q3] at hm; cases hm
          rw [List.getElem?_set_ne (Ne.symm m1)]
          exact ⟨hm, ho m m1 m2⟩
    · exact h.elim
  · exact h.elim
theorem psx_forB {X : Cx} {G : Gx} {W : WX} {x : Str} {i j n : Nat} {tg : Expr} {body : List Stmt} {p p1 pa pos pos' : Pos} {ks : List Nat} {tgt : Tgt} (T : RunTxt G) (hK : G.K = X.K) (hp : PassesOwn (model X.prog X.w) X.A X.env X.xe) (hc : X.calm = true) (hr : Gl X "reversed") (hm : X.mg "reversed" = none)
    (hv : PE X (.Name x p) (tVar i)) (hg : PGx X G tg (gName n) ks tgt) (hb : PSs X body (tBack j n)) (hat : attributeBase (.Name x p) "backs" X.env (eval (.Name x p) X.env) = eval (.Name x p) X.env := by rfl)
    (h0 : starEach [.Attribute (.Name x p) "backs" pa] X.env = (false, eval (.Attribute (.Name x p) "backs" pa) X.env) :: starEach [] X.env := by rfl) (h1 : starEach [.Attribute (.Name x p) "backs" pa] X.env = [(false, eval (.Attribute (.Name x p) "backs" pa) X.env)] := by rfl)
    (hs : ∀ z, foldedSetIterable (.Call (.Name "reversed" p1) [.Attribute (.Name x p) "backs" pa] [] pos') X.env z = pure z := by intro _; rfl) :
    PSx X G W (.For tg (.Call (.Name "reversed" p1) [.Attribute (.Name x p) "backs" pa] [] pos') body [] pos) (tFor (iRev G.K (tCons (tFld G.K (tVar i) "backs") tNil)) (gName n) (tBack j n)) (fForB i j n) := by
  refine ⟨?_, ss_forB T⟩
  rw [hK]
  exact ps_for hp hc (pi_reversed hr hm (pa_cons (pe_fld hv hat) pa_nil h0) h1) hg.pg hb hs
end Fw
namespace Fw
open PySem PySem.Spec PyProof.Rows L2

/-! ### an attribute of a piece that an expression gives -/
inductive PA1 where
  | name
  | place
  | deed
  | by_
def PA1.nm : PA1 → Str
  | .name => "name"
  | .place => "place"
  | .deed => "deed"
  | .by_ => "by"
def PieceM.at1 (c : PieceM) : PA1 → PD
  | .name => .str c.name
  | .place => .str c.place
  | .deed => c.deed
  | .by_ => match c.by_ with
    | none => .none
    | some s => .str s
def fPat (f : PA1) (fa : Fx) : Fx := fun e => (fz fa e).bind fun v e1 => match v with
  | .ow (.fp c) => .ok (.pv (c.at1 f)) e1
  | _ => .no
def fPatL (L : WL) (fa : Fx) : Fx := fun e => (fz fa e).bind fun v e1 => match v with
  | .ow (.fp c) => .ok (.ow (.cl (c.get L))) e1
  | _ => .no
@[simp] theorem u_fPat (f : PA1) (fa : Fx) (e : En) : fPat f fa e = (fz fa e).bind fun v e1 => match v with
  | .ow (.fp c) => .ok (.pv (c.at1 f)) e1
  | _ => .no := rfl
@[simp] theorem u_fPatL (L : WL) (fa : Fx) (e : En) : fPatL L fa e = (fz fa e).bind fun v e1 => match v with
  | .ow (.fp c) => .ok (.ow (.cl (c.get L))) e1
  | _ => .no := rfl
theorem se_pat {G : Gx} {W : WX} {ta : TE} {fa : Fx} (T : HallTxt G) (f : PA1) (s : SE G W ta fa) : SE G W (tFld G.K ta f.nm) (fPat f fa) := fun P σ H e w en Q h =>
  s.bindz w en h fun v e1 P1 H1 x w1 en1 fr1 r1 h1 => by
    split at h1
    · rename_i c
      obtain ⟨q, ls, rfl, k⟩ := r1
      obtain ⟨dq, a1, a2, a3, a4, wd, _, dd, hins, _⟩ := k.ex
      have hH := w1.sub 1 _ _ (en1.cs _ _ hins)
      cases f with
      | name => exact ⟨q, _, _, _, _, rfl, hH, T.cP, T.nP "name" (by decide), rfl, h1 P1 H1 _ w1 en1 (Fr.refl _ _) (.str _)⟩
      | place => exact ⟨q, _, _, _, _, rfl, hH, T.cP, T.nP "place" (by decide), rfl, h1 P1 H1 _ w1 en1 (Fr.refl _ _) (.str _)⟩
      | deed => exact ⟨q, _, _, _, _, rfl, hH, T.cP, T.nP "deed" (by decide), rfl, h1 P1 H1 _ w1 en1 (Fr.refl _ _) dd⟩
      | by_ =>
        refine ⟨q, _, _, _, _, rfl, hH, T.cP, T.nP "by" (by decide), rfl, h1 P1 H1 _ w1 en1 (Fr.refl _ _) ?_⟩
        show Dq _ _ (match c.by_ with | none => PyData.none | some s => .str s)
        cases c.by_ with
        | none => exact .non
        | some s => exact .str s
    · exact h1.elim
theorem se_patL {G : Gx} {W : WX} {ta : TE} {fa : Fx} (T : HallTxt G) (L : WL) (s : SE G W ta fa) : SE G W (tFld G.K ta L.nm) (fPatL L fa) := fun P σ H e w en Q h =>
  s.bindz w en h fun v e1 P1 H1 x w1 en1 fr1 r1 h1 => by
    split at h1
    · rename_i c
      obtain ⟨q, ls, rfl, k⟩ := r1
      obtain ⟨dq, a1, a2, a3, a4, wd, _, dd, hins, l1, l2, l3, l4⟩ := k.ex
      have hH := w1.sub 1 _ _ (en1.cs _ _ hins)
      cases L with
      | ahead => exact ⟨q, _, _, _, _, rfl, hH, T.cP, T.nP "ahead" (by decide), rfl, h1 P1 H1 _ w1 en1 (Fr.refl _ _) ⟨a1, rfl, l1⟩⟩
      | behind => exact ⟨q, _, _, _, _, rfl, hH, T.cP, T.nP "behind" (by decide), rfl, h1 P1 H1 _ w1 en1 (Fr.refl _ _) ⟨a2, rfl, l2⟩⟩
      | needs => exact ⟨q, _, _, _, _, rfl, hH, T.cP, T.nP "needs" (by decide), rfl, h1 P1 H1 _ w1 en1 (Fr.refl _ _) ⟨a3, rfl, l3⟩⟩
      | bars => exact ⟨q, _, _, _, _, rfl, hH, T.cP, T.nP "bars" (by decide), rfl, h1 P1 H1 _ w1 en1 (Fr.refl _ _) ⟨a4, rfl, l4⟩⟩
    · exact h1.elim
theorem px_pat {X : Cx} {G : Gx} {W : WX} {a : Expr} {ta : TE} {fa : Fx} {pa : Pos} (f : PA1) (T : HallTxt G) (hK : G.K = X.K) (ha : PEx X G W a ta fa) (hb : attributeBase a f.nm X.env (eval a X.env) = eval a X.env := by rfl) :
    PEx X G W (.Attribute a f.nm pa) (tFld G.K ta f.nm) (fPat f fa) := ⟨by rw [hK]; exact pe_fld ha.pe hb, se_pat T f ha.se⟩
theorem px_patL {X : Cx} {G : Gx} {W : WX} {a : Expr} {ta : TE} {fa : Fx} {pa : Pos} (L : WL) (T : HallTxt G) (hK : G.K = X.K) (ha : PEx X G W a ta fa) (hb : attributeBase a L.nm X.env (eval a X.env) = eval a X.env := by rfl) :
    PEx X G W (.Attribute a L.nm pa) (tFld G.K ta L.nm) (fPatL L fa) := ⟨by rw [hK]; exact pe_fld ha.pe hb, se_patL T L ha.se⟩
end Fw
namespace Fw
open PySem PySem.Spec PyProof.Rows L2

theorem ptx_rnil {X : Cx} {G : Gx} {W : WX} {x : Str} {i : Nat} {p pa p2 pos : Pos} (L : RL) (T : RunTxt G) (hu : X.A.units + 64 < cLine) (hK : G.K = X.K) (hv : PE X (.Name x p) (tVar i)) (hb : attributeBase (.Name x p) L.nm X.env (eval (.Name x p) X.env) = eval (.Name x p) X.env := by rfl) :
    PTx X G W (.Compare (.Attribute (.Name x p) L.nm pa) [.Eq] [.List [] p2] pos) (tTest (tOp (rEqA G.K) (tFld G.K (tVar i) L.nm) (tLst tNil))) (fTest (fRnil L i)) := by
  have z := (px_rnil (W := W) (pos := pos) (pa := pa) (p2 := p2) L T hu hK hv hb).se
  rw [hK] at z ⊢
  exact ⟨pt_cmpR (op_eqA hu) (pe_fld hv hb) (pe_lst pa_nil) (nomark _), st_testT z⟩
end Fw
namespace Fw
open PySem PySem.Spec PyProof.Rows L2

/-! ### f(g(..), ..): what g gives is new and goes along at once -/
def KA (G : Gx) (ts : TA) (gs : En → Option (List PD)) : Prop := ∀ P σ H e, Wd P H → EnvAt G P σ e → ∀ (Q : List V → Hp → Prop) ds, gs e = some ds → (∀ P' H' xs, Wd P' H' → EnvAt G P' σ e → Fr P P' e e → (∀ k, 0 < k → P' k = P k) → DqAll (P' 0) xs ds → Q xs H') → ts σ H Q
def gNil : En → Option (List PD) := fun _ => some []
def gCons (g : En → Option PD) (gs : En → Option (List PD)) : En → Option (List PD) := fun e => match g e, gs e with
  | some d, some ds => some (d :: ds)
  | _, _ => none
theorem ka_nil {G : Gx} : KA G tNil gNil := fun P σ H e w en Q ds h k => by
  cases h
  exact k P H [] w en (Fr.refl _ _) (fun _ _ => rfl) .nil
theorem ka_cons {G : Gx} {ta : TE} {ts : TA} {g : En → Option PD} {gs : En → Option (List PD)} (ha : KE G ta g) (hs : KA G ts gs) : KA G (tCons ta ts) (gCons g gs) := fun P σ H e w en Q ds h k => by
  unfold gCons at h
  cases q1 : g e with
  | none => rw [q1] at h; cases h
  | some d =>
    cases q2 : gs e with
    | none => rw [q1, q2] at h; cases h
    | some ds' =>
      rw [q1, q2] at h; cases h
      refine ha P σ H e w en _ d q1 fun P1 H1 x w1 en1 fr1 k1 d1 => ?_
      refine hs P1 σ H1 e w1 en1 _ ds' q2 fun P2 H2 xs w2 en2 fr2 k2 d2 => ?_
      exact k P2 H2 (x :: xs) w2 en2 (fr1.trans fr2) (fun j hj => (k2 j hj).trans (k1 j hj)) (.cons (Dq.mono fr2.zero _ _ d1) d2)
def gStr (s : Str) : En → Option PD := fun _ => some (.str s)
theorem ke_str {G : Gx} (s : Str) : KE G (tC (.str s)) (gStr s) := fun P σ H e w en Q d h k => by
  cases h
  exact k P H _ w en (Fr.refl _ _) (fun _ _ => rfl) (.str s)
/-- the slot more is cut off again -/
def cutR (L : Nat) : R Rv → R Rv
  | .ok (.pv d) e => .ok (.pv d) (e.take L)
  | .ok (.ow s) e => .ok (.ow s) (e.take L)
  | .ok (.bor _) _ => .no
  | .ex x e => .ex x (e.take L)
  | .no => .no
def fCallO (n : Nat) (F : Fx) (fg : Fx) (gs : En → Option (List PD)) : Fx := fun e => (fg e).bind fun v e1 => match v, gs e1 with
  | .ow s, some ds => cutR e1.length (callF n F (.bor e1.length :: ds.map .pv) (e1 ++ [s]))
  | _, _ => .no
@[simp] theorem u_fCallO (n : Nat) (F : Fx) (fg : Fx) (gs : En → Option (List PD)) (e : En) : fCallO n F fg gs e = (fg e).bind fun v e1 => match v, gs e1 with
  | .ow s, some ds => cutR e1.length (callF n F (.bor e1.length :: ds.map .pv) (e1 ++ [s]))
  | _, _ => .no := rfl
theorem take_get {L : Nat} {e : En} {i : Nat} {s : Sl} (h : (e.take L)[i]? = some s) : i < L ∧ e[i]? = some s := by
  rw [List.getElem?_take] at h
  split at h
  · exact ⟨by assumption, h⟩
  · cases h
theorem se_callO {G : Gx} {W : WX} {n : Nat} {F fg : Fx} {gs : En → Option (List PD)} {tg : TE} {ts : TA} (hg : SE G W tg fg) (hs : KA G ts gs) : SE G W (tCallSD (spF G n F) [] (WE W) (tCons tg ts)) (fCallO n F fg gs) := fun P σ H e w en Q h => by
  refine hg.bind w en h fun v e1 P1 H1 x w1 en1 fr1 r1 h1 => ?_
  split at h1
  · rename_i s ds q
    refine hs P1 σ H1 e1 w1 en1 _ ds q fun P2 H2 xs w2 en2 fr2 kp d2 => ?_
    show spF G n F ((x :: xs) ++ []) H2 Q (WE W σ)
    rw [List.append_nil]
    obtain ⟨L, hL⟩ : ∃ L, L = e1.length := ⟨_, rfl⟩
    rw [← hL] at h1
    have hσ : σ.length = L := by rw [hL, en1.len]
    have r2 : SlAt G (P2 0) (P2 2) (some x) s := by
      have z : SlAt G (P1 0) (P1 2) (some x) s := r1
      rw [kp 2 (by decide)]
      exact z.mono fr2.zero
    have w3 := w2.move (a := 2) (b := L + 3) (by omega)
    have z0 : ((P2.set 2 emp).set (L + 3) (P2 2)) 0 = P2 0 := by rw [Pt.set_ne (by omega), Pt.set_ne (by decide)]
    have z1 : ((P2.set 2 emp).set (L + 3) (P2 2)) 1 = P2 1 := by rw [Pt.set_ne (by omega), Pt.set_ne (by decide)]
    have zi : ∀ i, i < L → ((P2.set 2 emp).set (L + 3) (P2 2)) (i + 3) = P2 (i + 3) := fun i hi => by rw [Pt.set_ne (by omega), Pt.set_ne (by omega)]
    have en3 : EnvAt G ((P2.set 2 emp).set (L + 3) (P2 2)) (σ ++ [some x]) (e1 ++ [s]) := by
      refine ⟨by rw [List.length_append, List.length_append, en2.len]; rfl, by rw [z1]; exact en2.cs, fun i sl hi => ?_⟩
      by_cases hlt : i < L
      · rw [List.getElem?_append_left (by rw [← hL]; exact hlt)] at hi
        obtain ⟨v, a, b⟩ := en2.at_ i sl hi
        exact ⟨v, by rw [List.getElem?_append_left (by rw [hσ]; exact hlt)]; exact a, by rw [z0, zi i hlt]; exact b⟩
      · have hi2 : i = L := by
          have := (List.getElem?_eq_some_iff.mp hi).1
          rw [List.length_append] at this
          have e9 : ([s] : En).length = 1 := rfl
          omega
        subst hi2
        rw [List.getElem?_append_right (by omega), ← hL, Nat.sub_self] at hi
        cases hi
        exact ⟨some x, by rw [List.getElem?_append_right (by omega), hσ, Nat.sub_self]; rfl, by rw [z0, Pt.set_same]; exact r2⟩
    have hd : HeldAll G ((P2.set 2 emp).set (L + 3) (P2 2)) (σ ++ [some x]) (x :: xs) (.bor L :: ds.map .pv) := by
      refine .cons (show (σ ++ [some x])[L]? = some (some x) by rw [List.getElem?_append_right (by omega), hσ, Nat.sub_self]; rfl) (heldDs ?_)
      rw [z0]; exact d2
    have post : PostE G (fun c d _ H => W c d σ H) ((P2.set 2 emp).set (L + 3) (P2 2)) (e1 ++ [s]) (σ ++ [some x]) Q (callF n F (.bor L :: ds.map .pv) (e1 ++ [s])) := by
      have back : ∀ {P' e'}, EnvAt G P' (σ ++ [some x]) e' → Fr ((P2.set 2 emp).set (L + 3) (P2 2)) P' (e1 ++ [s]) e' → EnvAt G P' σ (e'.take L) ∧ Fr P1 P' e1 (e'.take L) := fun {P' e'} b c => by
        have hl : e'.length = L + 1 := by rw [b.len, List.length_append, hσ]; rfl
        refine ⟨⟨by rw [List.length_take, hl, hσ]; omega, b.cs, fun i sl hi => ?_⟩, ⟨?_, ?_, fun i hi => ?_⟩⟩
        · obtain ⟨hlt, hi2⟩ := take_get hi
          obtain ⟨v, a1, a2⟩ := b.at_ i sl hi2
          rw [List.getElem?_append_left (by rw [hσ]; exact hlt)] at a1
          exact ⟨v, a1, a2⟩
        · have := c.zero
          rw [z0] at this
          exact fr2.zero.trans this
        · rw [c.one, z1, fr2.one]
        · have hlt : i < L := by
            rw [hL]
            cases q9 : e1[i]? with
            | none => rw [q9] at hi; cases hi
            | some _ => exact (List.getElem?_eq_some_iff.mp q9).1
          have := c.ref i (by rw [List.getElem?_append_left (by rw [← hL]; exact hlt)]; exact hi)
          rw [List.getElem?_take, if_pos hlt]; exact this
      cases q9 : callF n F (.bor L :: ds.map .pv) (e1 ++ [s]) with
      | no => rw [q9] at h1; exact h1.elim
      | ok v e' =>
        rw [q9] at h1
        intro P' H' y a b c d
        obtain ⟨y1, y2⟩ := back b c
        cases v with
        | pv dd => exact h1 P' H' y a y1 y2 d
        | ow ss => exact h1 P' H' y a y1 y2 d
        | bor j => exact h1.elim
      | ex z e' =>
        rw [q9] at h1
        intro P' H' cls d a b c t
        obtain ⟨y1, y2⟩ := back b c
        exact h1 P' H' cls d a y1 y2 t
    have fin : spF G n F (x :: xs) H2 Q (WE (fun c d _ H => W c d σ H) (σ ++ [some x])) := callF_ok w3 en3 hd post
    exact fin
  · exact h1.elim
theorem px_callO {X : Cx} {G : Gx} {W : WX} {n j : Nat} {F : Fx} {x : Str} {e : Expr} {es : List Expr} {p pos : Pos} {tg : TE} {ts : TA} {fg : Fx} {gs : En → Option (List PD)} (C : Cal X.prog X.w X.base G j x n F) (tk : Takes X W) (hr : Room j X.A) (hK : G.K = X.K) (hM : G.mg = X.mg) (hg : Gl X x)
    (he : PEx X G W e tg fg) (hes : PA X es ts) (ka : KA G ts gs)
    (hdb : (x == ("__debug__" : Str)) = false := by decide) (h0 : starEach (e :: es) X.env = (false, eval e X.env) :: starEach es X.env := by rfl)
    (hpl : (backTo pos (starEach es X.env)).any (·.1) = false := by rfl) : PEx X G W (.Call (.Name x p) (e :: es) [] pos) (tCallSD (spF G n F) [] (WE W) (tCons tg ts)) (fCallO n F fg gs) := by
  obtain ⟨f, fd, ps, h1, h2, h3, h4⟩ := C.ex
  rw [hK] at h1 h3 h4
  rw [hM] at h1 h2
  exact ⟨pe_callSD h1 hr hg h2 h3 h4 .nil (fun σ => passAt tk σ) (pa_cons he.pe hes h0) hdb h0 hpl, se_callO he.se ka⟩
end Fw
namespace Fw
open PySem PySem.Spec PyProof.Rows L2

/-! ### a for over a text -/
theorem for_its {x : Str} {g : TG} {tb : TS} {D : Ends} {σ : L2.St} {H : Hp} (Pv : Nat → L2.St → Hp → Prop) (h0 : Pv 0 σ H)
    (hl : ∀ i σ H, Pv i σ H → ∀ c, x.cps[i]? = some c → g (.str ⟨#[c]⟩) σ H fun σ2 H2 => tb { D with nx := Pv (i + 1), ct := Pv (i + 1), bk := D.nx } σ2 H2) (hd : ∀ σ H, Pv x.cps.size σ H → D.nx σ H) :
    ∃ W : Nat → Nat → L2.St → Hp → Prop, (∃ m, W 0 m σ H) ∧ ∀ i m σ H, W i m σ H →
      ((Its x).stop i H ∧ D.nx σ H) ∨ ((Its x).go i H ∧ ∃ N : L2.St → Hp → Prop, (∀ σ' H', N σ' H' → ∃ m', m' < m ∧ W (i + 1) m' σ' H') ∧ ∀ y H', (Its x).yld i H y H' → g y σ H' fun σ2 H2 => tb { D with nx := N, ct := N, bk := D.nx } σ2 H2) := by
  refine ⟨fun i m σ H => m = x.cps.size - i ∧ i ≤ x.cps.size ∧ Pv i σ H, ⟨x.cps.size, by simp, Nat.zero_le _, h0⟩, ?_⟩
  rintro i m σ H ⟨rfl, hi, p⟩
  by_cases hlt : i < x.cps.size
  · refine .inr ⟨hlt, Pv (i + 1), fun σ' H' p' => ⟨x.cps.size - (i + 1), by omega, rfl, hlt, p'⟩, fun y H' yy => ?_⟩
    obtain ⟨e, c, hc, ec⟩ := yy
    subst e ec
    exact hl i σ H' p c hc
  · have e : i = x.cps.size := by omega
    subst e
    exact .inl ⟨Nat.le_refl _, hd σ H p⟩
def chars (x : Str) : List PD := x.cps.toList.map fun c => .str ⟨#[c]⟩
noncomputable def fForS (fi : Fx) (tgt : Tgt) (body : Fs) : Fs := fun e => (fz fi e).bind fun v e1 => match v with
  | .pv (.str x) => loopL (fun _ => True) tgt body (chars x) e1
  | _ => .no
@[simp] theorem u_fForS (fi : Fx) (tgt : Tgt) (body : Fs) (e : En) : fForS fi tgt body e = (fz fi e).bind fun v e1 => match v with
  | .pv (.str x) => loopL (fun _ => True) tgt body (chars x) e1
  | _ => .no := rfl
theorem ss_forS {G : Gx} {W : WX} {ti : TE} {fi : Fx} {g : TG} {ks : List Nat} {tgt : Tgt} {tb : TS} {body : Fs} (si : SE G W ti fi) (sg : SG G g ks tgt) (s : SS G W tb body) : SS G W (tFor (iStr ti) g tb) (fForS fi tgt body) := fun P σ H e w en D h => by
  refine si.bindzS (Q1 := fun y H1 => ∃ x, y = .str x ∧ ∃ W : Nat → Nat → L2.St → Hp → Prop, (∃ m, W 0 m σ H1) ∧ ∀ i m σ H, W i m σ H →
      ((Its x).stop i H ∧ D.nx σ H) ∨ ((Its x).go i H ∧ ∃ N : L2.St → Hp → Prop, (∀ σ' H', N σ' H' → ∃ m', m' < m ∧ W (i + 1) m' σ' H') ∧ ∀ y H', (Its x).yld i H y H' → g y σ H' fun σ2 H2 => tb { D with nx := N, ct := N, bk := D.nx } σ2 H2)) w en h fun v e1 P1 H1 y w1 en1 fr1 r1 h1 => ?_
  split at h1
  · rename_i x
    cases r1
    refine ⟨x, rfl, for_its (fun i σ' H' => ∃ P' e', Wd P' H' ∧ EnvAt G P' σ' e' ∧ FrS P1 P' e1 e' σ σ' ∧ PostS G W P' e' σ' D (loopL (fun _ => True) tgt body ((chars x).drop i) e')) ⟨P1, e1, w1, en1, FrS.refl _ _ _, h1⟩ ?_ ?_⟩
    · rintro i σ' H' ⟨P', e', w', en', fr', h'⟩ c hc
      have hd : (chars x)[i]? = some (.str ⟨#[c]⟩) := by
        unfold chars
        rw [List.getElem?_map, Array.getElem?_toList, hc]; rfl
      have hlt : i < (chars x).length := (List.getElem?_eq_some_iff.mp hd).1
      have ed : (chars x).drop i = .str ⟨#[c]⟩ :: (chars x).drop (i + 1) := by
        rw [List.drop_eq_getElem_cons hlt]
        rw [List.getElem?_eq_getElem hlt] at hd
        rw [Option.some.inj hd]
      rw [ed] at h'
      exact loop_turn sg s w' en' (.str _) h' _ fun P2 H2 σ2 e3 a b c t => ⟨P2, e3, a, b, fr'.trans c, t⟩
    · rintro σ' H' ⟨P', e', w', en', fr', h'⟩
      have hl : (chars x).length = x.cps.size := by unfold chars; rw [List.length_map, Array.length_toList]
      rw [← hl, List.drop_length] at h'
      unfold loopL at h'
      split at h'
      · exact h' P' H' σ' w' en' (FrS.refl _ _ _)
      · exact h'.elim
  · exact h1.elim
theorem psx_forS {X : Cx} {G : Gx} {W : WX} {tg iter : Expr} {body : List Stmt} {te : TE} {fe : Fx} {g : TG} {ks : List Nat} {tgt : Tgt} {t : TS} {f : Fs} {pos : Pos} (hp : PassesOwn (model X.prog X.w) X.A X.env X.xe) (hc : X.calm = true) (hi : PEx X G W iter te fe) (hg : PGx X G tg g ks tgt) (hb : PBx X G W body t f)
    (hs : ∀ x, foldedSetIterable iter X.env x = pure x := by intro _; rfl) : PSx X G W (.For tg iter body [] pos) (tFor (iStr te) g t) (fForS fe tgt f) := ⟨ps_for hp hc (pi_str hi.pe) hg.pg hb.ps hs, ss_forS hi.se hg.sg hb.ss⟩
end Fw
namespace Fw
open PySem PySem.Spec PyProof.Rows L2

/-! ### a dict that is written out, of variables and constants, read at once by a key -/
inductive DV where
  | v (i : Nat)
  | c (d : PD)
def rdDV (e : En) : DV → Option Rv
  | .v i => match e[i]? with
    | some (.pv d) => some (.pv d)
    | some (.ls _ _) => some (.bor i)
    | _ => none
  | .c d => some (.pv d)
def selD (e : En) (n : Str) : List (Str × DV) → Option Rv → Option (Option Rv)
  | [], acc => some acc
  | (k, d) :: r, acc => match rdDV e d with
    | some v => selD e n r (if k = n then some v else acc)
    | none => none
def fDsel (kvs : List (Str × DV)) (j : Nat) : Fx := fun e => match e[j]? with
  | some (.pv (.str n)) => (match selD e n kvs none with
    | some (some v) => .ok v e
    | _ => .no)
  | _ => .no
@[simp] theorem u_fDsel (kvs : List (Str × DV)) (j : Nat) (e : En) : fDsel kvs j e = match e[j]? with
  | some (.pv (.str n)) => (match selD e n kvs none with
    | some (some v) => .ok v e
    | _ => .no)
  | _ => .no := rfl
inductive DVOk : (TE × TE) → (Str × DV) → Prop
  | var (k : Str) (i : Nat) : DVOk (tC (.str k), tVar i) (k, .v i)
  | con (k : Str) {v : V} {d : PD} (h : ∀ J, Dq J v d) : DVOk (tC (.str k), tC v) (k, .c d)
theorem rdDV_at {G : Gx} {P : Pt} {σ : L2.St} {e : En} {H : Hp} {tk tv : TE} {k : Str} {d : DV} {v : Rv} (en : EnvAt G P σ e) (o : DVOk (tk, tv) (k, d)) (h : rdDV e d = some v) :
    tk = tC (.str k) ∧ ∃ x, RvAt G P σ x v ∧ ∀ H (Q : VK), Q x H → tv σ H Q := by
  cases o with
  | var k i =>
    refine ⟨rfl, ?_⟩
    have h : (match e[i]? with
      | some (.pv d) => some (Rv.pv d)
      | some (.ls _ _) => some (.bor i)
      | _ => none) = some v := h
    cases q : e[i]? with
    | none => rw [q] at h; cases h
    | some s =>
      rw [q] at h
      obtain ⟨ov, e1, e2⟩ := en.at_ i s q
      cases s with
      | pv d =>
        cases h
        obtain ⟨x, z1, z2⟩ := e2
        subst z1
        exact ⟨x, z2, fun H Q hq => ⟨x, e1, hq⟩⟩
      | ls r xs =>
        cases h
        obtain ⟨p, vs, z1, z2⟩ := e2
        subst z1
        exact ⟨_, e1, fun H Q hq => ⟨_, e1, hq⟩⟩
      | _ => cases h
  | con k hd =>
    cases h
    exact ⟨rfl, _, hd _, fun H Q hq => hq⟩
theorem tPairs_ok {G : Gx} {P : Pt} {σ : L2.St} {e : En} {n : Str} (en : EnvAt G P σ e) : ∀ {trs : List (TE × TE)} {kvs : List (Str × DV)} {acc : Option Rv} {r : Option Rv} {acck : List (Key × V)}, Paired DVOk trs kvs → selD e n kvs acc = some r →
    (match acc with | none => valV acck (Sum.inr n) = none | some v => ∃ x, valV acck (Sum.inr n) = some x ∧ RvAt G P σ x v) →
    ∃ ks : List (Key × V), ks.length = kvs.length ∧ (match r with | none => valV (mergeK acck ks) (Sum.inr n) = none | some v => ∃ x, valV (mergeK acck ks) (Sum.inr n) = some x ∧ RvAt G P σ x v) ∧
      ∀ H (Q : List (V × V) → Hp → Prop), Q (ks.map fun kv => (kV kv.1, kv.2)) H → tPairs trs σ H Q
  | _, _, acc, r, acck, .nil, h, ha => by
    cases h
    exact ⟨[], rfl, ha, fun H Q hq => hq⟩
  | _, _, acc, r, acck, @Paired.cons _ _ _ ⟨tk, tv⟩ ⟨k, d⟩ trs kvs o t, h, ha => by
    have h' : (match rdDV e d with
      | some v => selD e n kvs (if k = n then some v else acc)
      | none => none) = some r := h
    cases q : rdDV e d with
    | none => rw [q] at h'; cases h'
    | some v =>
      rw [q] at h'
      obtain ⟨e1, x, rx, hx⟩ := rdDV_at (H := fun _ => none) en o q
      have ha2 : (match (if k = n then some v else acc) with | none => valV (putK acck (Sum.inr k) x) (Sum.inr n) = none | some v => ∃ x', valV (putK acck (Sum.inr k) x) (Sum.inr n) = some x' ∧ RvAt G P σ x' v) := by
        by_cases hk : k = n
        · subst hk
          rw [if_pos rfl]
          exact ⟨x, by rw [valV_put, if_pos rfl], rx⟩
        · rw [if_neg hk]
          have hne : ¬ (Sum.inr n : Key) = Sum.inr k := fun z => hk (Sum.inr.inj z).symm
          cases acc with
          | none => show valV _ _ = none; rw [valV_put, if_neg hne]; exact ha
          | some v0 => obtain ⟨x0, z1, z2⟩ := ha; exact ⟨x0, by rw [valV_put, if_neg hne]; exact z1, z2⟩
      obtain ⟨ks, l, r2, hq⟩ := tPairs_ok en t h' ha2
      refine ⟨(Sum.inr k, x) :: ks, by rw [List.length_cons, List.length_cons, l], r2, fun H Q hQ => ?_⟩
      subst e1
      show tv σ H fun y H2 => tPairs trs σ H2 fun ps H3 => Q ((V.str k, y) :: ps) H3
      exact hx _ _ (hq _ _ hQ)
/-- a new dict at p, that stays -/
theorem new_dk0 {G : Gx} {P : Pt} {H : Hp} {σ : L2.St} {e : En} {p : Addr} {o : HO} (w : Wd P H) (en : EnvAt G P σ e) (hp : H p = none) :
    Wd (P.set 0 (upd (P 0) p o)) (upd H p o) ∧ EnvAt G (P.set 0 (upd (P 0) p o)) σ e ∧ Fr P (P.set 0 (upd (P 0) p o)) e e := by
  have z : Same (P 0) ((P.set 0 (upd (P 0) p o)) 0) := by
    rw [Pt.set_same]
    exact fun a u e => by rw [upd_ne (ne_of_none e ((w.sub 0).free hp))]; exact e
  exact ⟨w.alloc hp 0, en.mono z (by rw [Pt.set_ne (by decide)]; exact en.cs) fun i => Pt.set_ne (by omega), ⟨z, Pt.set_ne (by decide), fun _ h => h⟩⟩
theorem se_dsel {G : Gx} {W : WX} {trs : List (TE × TE)} {kvs : List (Str × DV)} {j : Nat} (ok : Paired DVOk trs kvs) (hl : kvs.length ≤ 15) : SE G W (tDGet (tDisp trs) (tVar j)) (fDsel kvs j) := fun P σ H e w en Q h => by
  unfold fDsel at h
  split at h
  · rename_i n hj
    split at h
    · rename_i v hs
      obtain ⟨ks, lk, ⟨x, hx, rx⟩, hq⟩ := tPairs_ok (acck := []) en ok hs rfl
      obtain ⟨y, hy1, hy2⟩ := en.at_ j _ hj
      obtain ⟨yv, z1, z2⟩ := hy2
      subst z1
      cases z2
      intro p hp
      refine hq _ _ ⟨upd_same, ks, rfl, by omega, ?_⟩
      rw [upd_upd]
      refine ⟨.str n, hy1, p, x, rfl, ?_, ?_⟩
      · rw [← hx]
        exact DGet.k (k := Sum.inr n) upd_same
      · obtain ⟨a, b, c⟩ := new_dk0 (G := G) (o := .dK (mergeK [] ks)) w en hp
        refine h _ _ x a b c ?_
        cases v with
        | pv d => exact Dq.mono c.zero _ _ rx
        | bor i => exact rx
        | ow s => exact (by
            exfalso
            have : ∀ (l : List (Str × DV)) (acc : Option Rv), (∀ s, acc ≠ some (.ow s)) → ∀ s, selD e n l acc ≠ some (some (.ow s)) := by
              intro l
              induction l with
              | nil => intro acc ha s hz; exact ha s (Option.some.inj hz)
              | cons z l ih =>
                obtain ⟨k, d⟩ := z
                intro acc ha s hz
                have hz' : (match rdDV e d with
                  | some v => selD e n l (if k = n then some v else acc)
                  | none => none) = some (some (.ow s)) := hz
                cases q : rdDV e d with
                | none => rw [q] at hz'; cases hz'
                | some v =>
                  rw [q] at hz'
                  refine ih _ (fun s' => ?_) s hz'
                  split
                  · intro hv
                    cases hv
                    unfold rdDV at q
                    split at q
                    · split at q <;> cases q
                    · cases q
                  · exact ha s'
            exact this _ none (fun s z => by cases z) s hs)
    · exact h.elim
  · exact h.elim
section
variable {X : Cx} {G : Gx} {W : WX}
/-- the pairs, text and function -/
structure PDV (X : Cx) (pos : Pos) (keys : List (Option Expr)) (values : List Expr) (trs : List (TE × TE)) (kvs : List (Str × DV)) : Prop where
  pp : PPs X pos keys values trs
  ok : Paired DVOk trs kvs
theorem pdv_nil {pos : Pos} : PDV X pos [] [] [] [] := ⟨pps_nil, .nil⟩
theorem pdv_var {pos : Pos} {k v : Expr} {s : Str} {i : Nat} {ks : List (Option Expr)} {vs : List Expr} {trs : List (TE × TE)} {kvs : List (Str × DV)} (hk : PE X k (tC (.str s))) (hv : PE X v (tVar i)) (r : PDV X pos ks vs trs kvs) :
    PDV X pos (some k :: ks) (v :: vs) ((tC (.str s), tVar i) :: trs) ((s, .v i) :: kvs) := ⟨pps_cons hk hv r.pp, .cons (.var s i) r.ok⟩
theorem pdv_con {pos : Pos} {k v : Expr} {s : Str} {x : V} {d : PD} {ks : List (Option Expr)} {vs : List Expr} {trs : List (TE × TE)} {kvs : List (Str × DV)} (hk : PE X k (tC (.str s))) (hv : PE X v (tC x)) (hd : ∀ J, Dq J x d) (r : PDV X pos ks vs trs kvs) :
    PDV X pos (some k :: ks) (v :: vs) ((tC (.str s), tC x) :: trs) ((s, .c d) :: kvs) := ⟨pps_cons hk hv r.pp, .cons (.con s hd) r.ok⟩
theorem px_dsel {pos pos' : Pos} {keys : List (Option Expr)} {values : List Expr} {i : Expr} {trs : List (TE × TE)} {kvs : List (Str × DV)} {j : Nat} (hu : X.A.units + 1 < cLine) (h : PDV X pos keys values trs kvs) (hi : PE X i (tVar j))
    (hall : keys.all (·.isSome) = true) (hlen : keys.length = values.length) (h0 : keys ≠ []) (h15 : keys.length ≤ 15) (k15 : kvs.length ≤ 15) (hs : NoSl i) : PEx X G W (.Subscript (.Dict keys values pos) i pos') (tDGet (tDisp trs) (tVar j)) (fDsel kvs j) :=
  ⟨pe_dget hu (pe_disp h.pp hall hlen h0 h15) hi hs, se_dsel h.ok k15⟩
end
end Fw
namespace Fw
open PySem PySem.Spec PyProof.Rows L2

/-! ### a def that calls itself, to a depth that is said -/
def recF (n : Nat) (f : Fx → Fs) : Nat → Fx
  | 0 => fun _ => .no
  | k + 1 => runF n (f (recF n f k))
theorem recF_succ (n : Nat) (f : Fx → Fs) (k : Nat) : recF n f (k + 1) = runF n (f (recF n f k)) := rfl
section
variable {P : Program} {w : World} {base : Heap} {G : Gx}
theorem cal_no {x : Str} {st : Stmt} {ps : List Str} (k : Nat) (D : Df G x st ps) : Cal P w base G k x ps.length (fun _ => .no) := by
  obtain ⟨f, fd, h1, h2, h3⟩ := D.ex
  exact ⟨f, fd, ps, ⟨fun vs H Q E z => by obtain ⟨C, P, ss, _, _, _, z⟩ := z; exact z.elim, fun A outer s H args us vs Q E hr e0 hb r z => by obtain ⟨C, P, ss, _, _, _, z⟩ := z; exact z.elim⟩, h2, h1.kp, h3⟩
theorem cal_rec {x : Str} {st : Stmt} {N ps : List Str} {k : Nat} {fs : Fx → Fs} (D : Df G x st ps) (S : FnScope N ps (defScope st))
    (hb : ∀ (F : Fx) (j : Nat), k ≤ j → Cal P w base G j x ps.length F → ∀ (f : Addr) (cdv : Value) (A : Around) (outer : List Env) (s : Shared) (H : Hp) (E : XK), Room j (A.deeper (envOfC x (defScope st) s.heap.objs.size f cdv)) → Takes (cxOf (L2.CX P w) P w G.K G.mg base N x (defScope st) f cdv A outer s H E) (WXof E) →
      PassesOwn (model P w) (A.deeper (envOfC x (defScope st) s.heap.objs.size f cdv)) (envOfC x (defScope st) s.heap.objs.size f cdv) (cxOf (L2.CX P w) P w G.K G.mg base N x (defScope st) f cdv A outer s H E).xe →
      ∀ C, ∃ t, PBx (cxOf (L2.CX P w) P w G.K G.mg base N x (defScope st) f cdv A outer s H E) (G.wC C) (WXof E) (defBody st) t (fs F)) :
    ∀ m : Nat, Cal P w base G (k + m) x ps.length (recF N.length fs m)
  | 0 => cal_no _ D
  | m + 1 => cal_of (k := k + m) D S (hb (recF N.length fs m) (k + m) (Nat.le_add_right _ _) (cal_rec D S hb m)) (fun _ _ => .inr rfl)
end
end Fw
namespace Fw
open PySem PySem.Spec PyProof.Rows L2

/-! ### slices of texts -/
def fSlX (fa : Fx) (fl fh : Option Fx) : Fx := fun e => (fz fa e).bind fun v e1 => (fO fl e1).bind fun lo e2 => (fO fh e2).bind fun hi e3 => match v with
  | .pv (.str z) => if z.length ≤ 1000 then .ok (.pv (.str (cutS z lo hi))) e3 else .no
  | _ => .no
theorem se_slX {G : Gx} {W : WX} {ta : TE} {tl th : TO} {fa : Fx} {fl fh : Option Fx} (sa : SE G W ta fa) (sl : SO G W tl fl) (sh : SO G W th fh) : SE G W (tSl rSlS ta tl th) (fSlX fa fl fh) := fun P σ H e w en Q h =>
  sa.bindzG w en (PostE.gen h) fun v e1 P1 H1 x w1 en1 fr1 r1 h1 => sl.bindG w1 en1 h1 fun lo e2 P2 H2 w2 en2 fr2 h2 => sh.bindG w2 en2 h2 fun hi e3 P3 H3 w3 en3 fr3 h3 => by
    split at h3
    · rename_i z
      split at h3
      · rename_i hz
        cases r1
        exact ⟨z, rfl, Nat.le_trans hz (by decide), PostG.toE h3 P3 H3 _ w3 en3 (Fr.refl _ _) (.str _)⟩
      · exact h3.elim
    · exact h3.elim
theorem px_slX {X : Cx} {G : Gx} {W : WX} {e : Expr} {te : TE} {fe : Fx} {pos : Pos} {lo hi : Option Expr} {tl th : TO} {fl fh : Option Fx} {p2 : Pos} (ha : PEx X G W e te fe) (hl : POx X G W lo tl fl) (hh : POx X G W hi th fh) : PEx X G W (.Subscript e (.Slice lo hi none p2) pos) (tSl rSlS te tl th) (fSlX fe fl fh) :=
  ⟨pe_slice sl_str ha.pe hl.po hh.po, se_slX ha.se hl.so hh.so⟩
@[simp] theorem u_fSlX (fa : Fx) (fl fh : Option Fx) (e : En) : fSlX fa fl fh e = (fz fa e).bind fun v e1 => (fO fl e1).bind fun lo e2 => (fO fh e2).bind fun hi e3 => match v with
  | .pv (.str z) => if z.length ≤ 1000 then .ok (.pv (.str (cutS z lo hi))) e3 else .no
  | _ => .no := rfl
end Fw
namespace Fw
open PySem PySem.Spec PyProof.Rows L2

/-! ### is None, of a list at hand too -/
def opIsM (n : Bool) (e : En) (v u : Rv) : Option Ou := match v with
  | .bor i => (match e[i]?, u with
    | some (.ls _ _), .pv .none => some (.val (.bool n))
    | _, _ => none)
  | v => opIsN n e v u
theorem bor_ref {G : Gx} {P : Pt} {σ : L2.St} {e : En} {x : V} {i : Nat} {r : Bool} {xs : List PD} (en : EnvAt G P σ e) (h : σ[i]? = some (some x)) (q : e[i]? = some (.ls r xs)) : ∃ p, x = .ref p := by
  obtain ⟨v, a, b⟩ := en.at_ i _ q
  obtain ⟨p, vs, e1, _⟩ := b
  rw [h] at a
  cases a
  cases e1
  exact ⟨p, rfl⟩
theorem opv_isM {G : Gx} : OpV G rIsA (opIsM false) := by
  intro P H σ e x y v u o wd en h1 h2 h
  unfold opIsM at h
  split at h
  · rename_i i
    split at h
    · rename_i r xs q
      obtain ⟨p, rfl⟩ := bor_ref en h1 q
      cases h; cases h2
      exact ⟨_, .bl _, fun Q k => ⟨rfl, by simpa using k⟩⟩
    · cases h
  · exact opv_is _ _ _ _ _ _ _ _ _ wd en h1 h2 h
theorem opv_isMN {G : Gx} : OpV G rIsNA (opIsM true) := by
  intro P H σ e x y v u o wd en h1 h2 h
  unfold opIsM at h
  split at h
  · rename_i i
    split at h
    · rename_i r xs q
      obtain ⟨p, rfl⟩ := bor_ref en h1 q
      cases h; cases h2
      exact ⟨_, .bl _, fun Q k => ⟨rfl, by simpa using k⟩⟩
    · cases h
  · exact opv_isN _ _ _ _ _ _ _ _ _ wd en h1 h2 h
section
variable {X : Cx} {G : Gx} {W : WX} {a b : Expr} {ta tb : TE} {fa fb : Fx} {pos : Pos}
theorem px_isM (ha : PEx X G W a ta fa) (hb : PEx X G W b tb fb) : PEx X G W (.Compare a [.Is] [b] pos) (tOp rIsA ta tb) (fBin (opIsM false) fa fb) := ⟨pe_cmpR op_isN ha.pe hb.pe (nomark _), se_bin opv_isM ha.se hb.se⟩
theorem px_isMN (ha : PEx X G W a ta fa) (hb : PEx X G W b tb fb) : PEx X G W (.Compare a [.IsNot] [b] pos) (tOp rIsNA ta tb) (fBin (opIsM true) fa fb) := ⟨pe_cmpR op_notN ha.pe hb.pe (nomark _), se_bin opv_isMN ha.se hb.se⟩
theorem ptx_isM (ha : PEx X G W a ta fa) (hb : PEx X G W b tb fb) : PTx X G W (.Compare a [.Is] [b] pos) (tTest (tOp rIsA ta tb)) (fTest (fBin (opIsM false) fa fb)) := ⟨pt_cmpR op_isN ha.pe hb.pe (nomark _), st_testT (se_bin opv_isM ha.se hb.se)⟩
theorem ptx_isMN (ha : PEx X G W a ta fa) (hb : PEx X G W b tb fb) : PTx X G W (.Compare a [.IsNot] [b] pos) (tTest (tOp rIsNA ta tb)) (fTest (fBin (opIsM true) fa fb)) := ⟨pt_cmpR op_notN ha.pe hb.pe (nomark _), st_testT (se_bin opv_isMN ha.se hb.se)⟩
end
@[simp] theorem opIsM_pv (m : Bool) (e : En) (d : PD) : opIsM m e (.pv d) (.pv .none) = some (.val (.bool (if m then !isNon (.pv d) else isNon (.pv d)))) := rfl
@[simp] theorem opIsM_bor (m : Bool) (e : En) (i : Nat) : opIsM m e (.bor i) (.pv .none) = (match e[i]? with
  | some (.ls _ _) => some (.val (.bool m))
  | _ => none) := by
  show (match e[i]?, (Rv.pv PyData.none) with | some (.ls _ _), .pv .none => some (Ou.val (.bool m)) | _, _ => none) = _
  cases e[i]? with
  | none => rfl
  | some s => cases s <;> rfl
end Fw
namespace Fw
open PySem L2
noncomputable def f_Hall_has : Fs := (fRet (fBin (opIn false) (fVar 1) (fMeth true 1 (liftF F_names) (List.replicate 0 .none) 0 fNil)))
noncomputable def R_Hall_has : Fx := runF 2 f_Hall_has
noncomputable def f_Hall_open_place : Fs := (fSeq (fIf (fTest (fAin false .kinds 0 (fVar 1)))
  (fRaise "NameThere")
  fNext)
  (fSeq (fIf (fTest (fBin opGe (fAlen (.d .kinds) 0) (fC (.int 8))))
  (fRaise "TooMany")
  fNext)
  (fSeq (fAput .kinds 0 1 (fVar 2))
  (fAput .rules 0 1 (fVar 3)))))
noncomputable def R_Hall_open_place : Fx := runF 4 f_Hall_open_place
noncomputable def f_Hall_hang : Fs := (fSeq (fIf (fTest (fMeth true 2 (liftF R_Hall_has) (List.replicate 0 .none) 0 (fCons (fVar 1) fNil)))
  (fRaise "NameThere")
  fNext)
  (fSeq (fIf (fTest (fAin true .kinds 0 (fVar 2)))
  (fRaise "NoPlace")
  fNext)
  (fSeq (fIf (fAnd (fTest (fBin (opIsN true) (fVar 4) (fC .none))) (fNot (fTest (fMeth true 2 (liftF R_Hall_has) (List.replicate 0 .none) 0 (fCons (fVar 4) fNil)))))
  (fRaise "NoPiece")
  fNext)
  (fSeq (fIf (fTest (fBin opGe (fAlen .hung 0) (fC (.int 24))))
  (fRaise "TooMany")
  fNext)
  (fHung 0 1 2 3 4)))))
noncomputable def R_Hall_hang : Fx := runF 5 f_Hall_hang
noncomputable def f_Hall_switch : Fs := (fSeq (fLookD 0 1)
  (fSeq (fExpr (fApop 0 1))
  (fIf (fNot (fTest (fVar 2)))
  (fAput .off 0 1 (fC (.bool true)))
  fNext)))
noncomputable def R_Hall_switch : Fx := runF 3 f_Hall_switch
noncomputable def f_l_cell_at : Fs := (fSeq (fIf (fTest (fBin opLt (fVar 1) (fUn opLen (fVar 0))))
  (fRet (fBin opIx (fVar 0) (fVar 1)))
  fNext)
  (fRet (fC (.int 0))))
noncomputable def R_l_cell_at : Fx := runF 2 f_l_cell_at
noncomputable def fe_l_name_1 : Fx := (fBin opIx (fVar 1) (fBin opMod (fBin opAdd (fVar 0) (fBin opMul (fC (.int 5)) (fVar 2))) (fC (.int 26))))
noncomputable def f_l_name : Fs := (fSeq (fAsg 1 (fC (.str "abcdefghijklmnopqrstuvwxyz")))
  (fSeq (fIf (fTest (fBin (opEq false) (fBin opMod (fVar 0) (fC (.int 3))) (fC (.int 1))))
  (fRet (fBin opIx (fVar 1) (fBin opMod (fVar 0) (fC (.int 26)))))
  fNext)
  (fRet (fUn (opJoin "") (fLcR1 (fBin opAdd (fC (.int 2)) (fBin opMod (fVar 0) (fC (.int 11)))) (tgName 2) [2] fYes fe_l_name_1)))))
noncomputable def R_l_name : Fx := runF 3 f_l_name
noncomputable def f_l_deed : Fs := (fSeq (fAsg 1 (fBin opSub (fBin opMod (fBin opDiv (fVar 0) (fC (.int 8))) (fC (.int 2001))) (fC (.int 1000))))
  (fSeq (fIf (fTest (fBin (opEq false) (fBin opMod (fBin opDiv (fVar 0) (fC (.int 8))) (fC (.int 9))) (fC (.int 4))))
  (fAsg 1 (fBin opSub (fBin opMod (fVar 0) (fBin opPow (fC (.int 10)) (fC (.int 25)))) (fBin opPow (fC (.int 10)) (fC (.int 24)))))
  fNext)
  (fSeq (fIf (fTest (fBin (opEq false) (fBin opMod (fVar 0) (fC (.int 8))) (fC (.int 3))))
  (fRet (fSeqD false (fCons (fDz (fC (.str "say"))) (fCons (fDz (fVar 1)) fNil))))
  fNext)
  (fSeq (fIf (fTest (fBin (opEq false) (fBin opMod (fVar 0) (fC (.int 8))) (fC (.int 4))))
  (fRet (fSeqD false (fCons (fDz (fC (.str "none"))) fNil)))
  fNext)
  (fSeq (fIf (fTest (fBin (opEq false) (fBin opMod (fVar 0) (fC (.int 8))) (fC (.int 5))))
  (fRet (fSeqD false (fCons (fDz (fC (.str "fail"))) (fCons (fDz (fVar 1)) fNil))))
  fNext)
  (fRet (fSeqD false (fCons (fDz (fC (.str "add"))) (fCons (fDz (fVar 1)) fNil)))))))))
noncomputable def R_l_deed : Fx := runF 2 f_l_deed
noncomputable def f_l_some : Fs := (fSeq (fIf (fTest (fBin opGt (fBin opMod (fVar 0) (fC (.int 4))) (fC (.int 1))))
  (fRet (fSeqD true fNil))
  fNext)
  (fSeq (fIf (fTest (fBin (opEq false) (fBin opMod (fVar 0) (fC (.int 4))) (fC (.int 1))))
  (fRet (fSeqD true (fCons (fDz (fCall 1 R_l_name [] (fCons (fBin opMod (fBin opDiv (fVar 0) (fC (.int 4))) (fVar 1)) fNil))) (fCons (fDz (fCall 1 R_l_name [] (fCons (fBin opMod (fBin opDiv (fVar 0) (fC (.int 64))) (fVar 1)) fNil))) fNil))))
  fNext)
  (fRet (fSeqD true (fCons (fDz (fCall 1 R_l_name [] (fCons (fBin opMod (fBin opDiv (fVar 0) (fC (.int 4))) (fVar 1)) fNil))) fNil)))))
noncomputable def R_l_some : Fx := runF 2 f_l_some
noncomputable def fb_l_pieces_1 : Fs := (fForget [4, 5, 6, 7, 8, 9]
  (fSeq (fAsg 5 (fCall 2 R_l_cell_at [] (fCons (fVar 0) (fCons (fBin opAdd (fVar 1) (fBin opMul (fC (.int 3)) (fVar 4))) fNil))))
  (fSeq (fAsg 6 (fCall 2 R_l_cell_at [] (fCons (fVar 0) (fCons (fBin opAdd (fBin opAdd (fVar 1) (fBin opMul (fC (.int 3)) (fVar 4))) (fC (.int 1))) fNil))))
  (fSeq (fAsg 7 (fCall 2 R_l_cell_at [] (fCons (fVar 0) (fCons (fBin opAdd (fBin opAdd (fVar 1) (fBin opMul (fC (.int 3)) (fVar 4))) (fC (.int 2))) fNil))))
  (fSeq (fAsg 8 (fBin opIx (fSeqD true (fCons (fDz (fC (.str "hub"))) (fCons (fDz (fC (.str "hub"))) (fCons (fDz (fC (.str "hub"))) (fCons (fDz (fC (.str "side"))) fNil))))) (fBin opMod (fBin opDiv (fVar 5) (fC (.int 4096))) (fC (.int 4)))))
  (fSeq (fAsg 9 (fSeqD true (fCons (fDz (fCall 2 R_l_some [] (fCons (fVar 6) (fCons (fBin opAdd (fVar 2) (fC (.int 1))) fNil)))) (fCons (fDz (fCall 2 R_l_some [] (fCons (fBin opDiv (fVar 6) (fC (.int 7))) (fCons (fBin opAdd (fVar 2) (fC (.int 1))) fNil)))) fNil))))
  (fSeq (fAsg 9 (fBin opAdd (fVar 9) (fSeqD true (fCons (fDz (fCall 2 R_l_some [] (fCons (fVar 7) (fCons (fBin opAdd (fVar 2) (fC (.int 1))) fNil)))) (fCons (fDz (fCall 2 R_l_some [] (fCons (fBin opDiv (fVar 7) (fC (.int 7))) (fCons (fBin opAdd (fVar 2) (fC (.int 1))) fNil)))) fNil)))))
  (fExpr (fMut1 mApp 3 (fSeqD false (fCons (fDz (fCall 1 R_l_name [] (fCons (fVar 4) fNil))) (fCons (fDz (fVar 8)) (fCons (fDz (fCall 1 R_l_deed [] (fCons (fVar 5) fNil))) (fCons (fDz (fVar 9)) (fCons (fDz (fBin (opEq true) (fBin opMod (fBin opDiv (fVar 5) (fC (.int 64))) (fC (.int 6))) (fC (.int 1)))) fNil)))))))))))))))
noncomputable def f_l_pieces : Fs := (fSeq (fAsg 3 (fSeqD true fNil))
  (fSeq (fPre [4, 5, 6, 7, 8, 9] (fForR1 (fVar 2) (tgName 4) fb_l_pieces_1))
  (fRet (fVar 3))))
noncomputable def R_l_pieces : Fx := runF 10 f_l_pieces
noncomputable def fb_l_hall_1 : Fs := (fForget [4]
  (fExpr (fMeth true 5 R_Hall_hang (List.replicate 1 .none) 3 (fCons (fBin opIx (fVar 4) (fC (.int 0))) (fCons (fBin opIx (fVar 4) (fC (.int 1))) (fCons (fBin opIx (fVar 4) (fC (.int 2))) fNil))))))
noncomputable def fb_l_hall_2 : Fs := (fForget [4]
  (fSeq (fExpr (fMeth true 6 F_wish (List.replicate 0 .none) 3 (fCons (fBin opIx (fVar 4) (fC (.int 0))) (fCons (fBin opIx (fBin opIx (fVar 4) (fC (.int 3))) (fC (.int 0))) (fCons (fUn opTuple (fBin opIx (fBin opIx (fVar 4) (fC (.int 3))) (fC (.int 1)))) (fCons (fBin opIx (fBin opIx (fVar 4) (fC (.int 3))) (fC (.int 2))) (fCons (fBin opIx (fBin opIx (fVar 4) (fC (.int 3))) (fC (.int 3))) fNil)))))))
  (fIf (fNot (fTest (fBin opIx (fVar 4) (fC (.int 4)))))
  (fExpr (fMeth true 3 R_Hall_switch (List.replicate 0 .none) 3 (fCons (fBin opIx (fVar 4) (fC (.int 0))) (fCons (fC (.bool false)) fNil))))
  fNext)))
noncomputable def f_l_hall : Fs := (fSeq (fAsg 3 fHall)
  (fSeq (fExpr (fMeth true 4 R_Hall_open_place (List.replicate 0 .none) 3 (fCons (fC (.str "hub")) (fCons (fVar 1) (fCons (fVar 2) fNil)))))
  (fSeq (fExpr (fMeth true 4 R_Hall_open_place (List.replicate 0 .none) 3 (fCons (fC (.str "side")) (fCons (fC (.str "all")) (fCons (fC (.str "hold")) fNil)))))
  (fSeq (fPre [4] (fFor (fVar 0) (tgName 4) fb_l_hall_1))
  (fSeq (fPre [4] (fFor (fVar 0) (tgName 4) fb_l_hall_2))
  (fRet (fVar 3)))))))
noncomputable def R_l_hall : Fx := runF 5 f_l_hall
noncomputable def ft_l_at_hub_1 : Ft := (fAnd (fTest (fBin (opEq false) (fBin opIx (fVar 1) (fC (.int 1))) (fC (.str "hub")))) (fTest (fBin opIx (fVar 1) (fC (.int 4)))))
noncomputable def fe_l_at_hub_1 : Fx := (fBin opIx (fVar 1) (fC (.int 0)))
noncomputable def f_l_at_hub : Fs := (fRet (fLc (fVar 0) (tgName 1) [1] ft_l_at_hub_1 fe_l_at_hub_1))
noncomputable def R_l_at_hub : Fx := runF 2 f_l_at_hub
noncomputable def ft_l_pairs_1 : Ft := (fTest (fBin (opIn false) (fVar 4) (fVar 1)))
noncomputable def fe_l_pairs_1 : Fx := (fSeqD false (fCons (fDz (fBin opIx (fVar 3) (fC (.int 0)))) (fCons (fDz (fVar 4)) fNil)))
noncomputable def ft_l_pairs_2 : Ft := (fTest (fBin (opIn false) (fVar 4) (fVar 1)))
noncomputable def fe_l_pairs_2 : Fx := (fSeqD false (fCons (fDz (fVar 4)) (fCons (fDz (fBin opIx (fVar 3) (fC (.int 0)))) fNil)))
noncomputable def fb_l_pairs_1 : Fs := (fForget [3]
  (fIf (fTest (fBin (opIn false) (fBin opIx (fVar 3) (fC (.int 0))) (fVar 1)))
  (fSeq (fExpr (fExt 2 (fLc (fBin opIx (fBin opIx (fVar 3) (fC (.int 3))) (fC (.int 0))) (tgName 4) [4] ft_l_pairs_1 fe_l_pairs_1)))
  (fExpr (fExt 2 (fLc (fBin opIx (fBin opIx (fVar 3) (fC (.int 3))) (fC (.int 1))) (tgName 4) [4] ft_l_pairs_2 fe_l_pairs_2))))
  fNext))
noncomputable def f_l_pairs : Fs := (fSeq (fAsg 2 (fSeqD true fNil))
  (fSeq (fPre [3] (fFor (fVar 0) (tgName 3) fb_l_pairs_1))
  (fRet (fVar 2))))
noncomputable def R_l_pairs : Fx := runF 5 f_l_pairs
noncomputable def fb_l_free_1 : Fs := (fForget [3]
  (fIf (fAnd (fTest (fBin (opEq false) (fBin opIx (fVar 3) (fC (.int 1))) (fVar 0))) (fTest (fBin (opIn false) (fBin opIx (fVar 3) (fC (.int 0))) (fVar 1))))
  (fRet (fC (.bool false)))
  fNext))
noncomputable def f_l_free : Fs := (fSeq (fPre [3] (fFor (fVar 2) (tgName 3) fb_l_free_1))
  (fRet (fC (.bool true))))
noncomputable def R_l_free : Fx := runF 4 f_l_free
noncomputable def ft_l_order_1 : Ft := (fTest (fCall 3 R_l_free [] (fCons (fVar 5) (fCons (fVar 2) (fCons (fVar 1) fNil)))))
noncomputable def fe_l_order_1 : Fx := (fVar 5)
noncomputable def fb_l_order_1 : Fs := (fForget [4]
  (fSeq (fAsg 4 (fLc (fVar 2) (tgName 5) [5] ft_l_order_1 fe_l_order_1))
  (fSeq (fIf (fTest (fBin (opEq false) (fVar 4) (fSeqD true fNil)))
  (fRet (fC .none))
  fNext)
  (fSeq (fExpr (fMut1 mApp 3 (fBin opIx (fVar 4) (fC (.int 0)))))
  (fExpr (fMut1 mRem 2 (fBin opIx (fVar 4) (fC (.int 0)))))))))
noncomputable def fw_l_order_1 : Ft := (fTest (fBin (opEq true) (fVar 2) (fSeqD true fNil)))
noncomputable def f_l_order : Fs := (fSeq (fAsg 2 (fUn opList (fVar 0)))
  (fSeq (fAsg 3 (fSeqD true fNil))
  (fSeq (fPre [4] (whileN fw_l_order_1 fb_l_order_1 1000))
  (fRet (fVar 3)))))
noncomputable def R_l_order : Fx := runF 6 f_l_order
noncomputable def fb_l_texts_1 : Fs := (fForget [2]
  (fIf (fOr (fNot (fTest (fUn (opIsi "str") (fBin opIx (fVar 0) (fVar 2))))) (fTest (fBin (opEq true) (fBin opIx (fVar 0) (fVar 2)) (fBin opIx (fVar 1) (fVar 2)))))
  (fRet (fC (.bool false)))
  fNext))
noncomputable def f_l_texts : Fs := (fSeq (fIf (fOr (fNot (fTest (fUn (opIsi "list") (fVar 0)))) (fTest (fBin (opEq true) (fUn opLen (fVar 0)) (fUn opLen (fVar 1)))))
  (fRet (fC (.bool false)))
  fNext)
  (fSeq (fPre [2] (fForR1 (fUn opLen (fVar 1)) (tgName 2) fb_l_texts_1))
  (fRet (fC (.bool true)))))
noncomputable def R_l_texts : Fx := runF 3 f_l_texts
end Fw
namespace Fw
open PySem PySem.Spec PyProof.Rows L2

section
variable {α : Type} (a b c d f : α) (xs : List α)
@[simp] theorem atI_0 : atI (a :: xs) 0 = some a := by rw [atI_nn _ _ (by decide)]; rfl
@[simp] theorem atI_1 : atI (a :: b :: xs) 1 = some b := by rw [atI_nn _ _ (by decide)]; rfl
@[simp] theorem atI_2 : atI (a :: b :: c :: xs) 2 = some c := by rw [atI_nn _ _ (by decide)]; rfl
@[simp] theorem atI_3 : atI (a :: b :: c :: d :: xs) 3 = some d := by rw [atI_nn _ _ (by decide)]; rfl
@[simp] theorem atI_4 : atI (a :: b :: c :: d :: f :: xs) 4 = some f := by rw [atI_nn _ _ (by decide)]; rfl
end
@[simp] theorem ofStr_inj (s t : String) : (Str.ofString s = Str.ofString t) = (s = t) := by
  apply propext
  refine ⟨fun h => ?_, fun h => by rw [h]⟩
  rw [Str.ofString_eq_toList, Str.ofString_eq_toList] at h
  have h1 := congrArg Str.cps h
  have h2 : s.toList.map Char.toNat = t.toList.map Char.toNat := by
    have := congrArg Array.toList h1
    simpa using this
  have key : ∀ (a b : List Char), a.map Char.toNat = b.map Char.toNat → a = b := by
    intro a
    induction a with
    | nil => intro b e; cases b with
      | nil => rfl
      | cons _ _ => cases e
    | cons x xs ih => intro b e; cases b with
      | nil => cases e
      | cons y ys =>
        rw [List.map_cons, List.map_cons, List.cons.injEq] at e
        rw [ih ys e.2, Char.ext (UInt32.toNat_inj.mp e.1)]
  have h3 : s.toList = t.toList := key _ _ h2
  exact String.toList_inj.mp h3
@[simp] theorem isTy_str (x : Str) : isTy "str" (.str x) = true := by show (("str" : String) == "str" || ("str" : String) == "bool" && ("str" : String) == "int") = true; decide
@[simp] theorem isTy_list (x : List PD) : isTy "list" (.list x) = true := by show (("list" : String) == "list" || ("list" : String) == "bool" && ("list" : String) == "int") = true; decide
@[simp] theorem isTy_tuple (x : List PD) : isTy "tuple" (.tuple x) = true := by show (("tuple" : String) == "tuple" || ("tuple" : String) == "bool" && ("tuple" : String) == "int") = true; decide
@[simp] theorem isTy_bool (x : Bool) : isTy "bool" (.bool x) = true := by show (("bool" : String) == "bool" || ("bool" : String) == "bool" && ("bool" : String) == "int") = true; decide
@[simp] theorem isTy_int (x : Int) : isTy "int" (.int x) = true := by show (("int" : String) == "int" || ("int" : String) == "bool" && ("int" : String) == "int") = true; decide
@[simp] theorem resMap_fp (vs : List Rv) (c : PieceM) : resMap vs (.ow (.fp c)) = some (.ow (.fp c)) := rfl
@[simp] theorem isXc_fp (c : PieceM) : isXc (.fp c) = false := rfl
theorem atI_last {α : Type} (xs : List α) (a : α) : atI (xs ++ [a]) (-1) = some a := by
  unfold atI ixN
  have e : (-1 + ((xs.length : Int) + 1)).toNat = xs.length := by omega
  have e2 : (1 : Int) ≤ (xs.length : Int) + 1 := by omega
  simp [e, e2]
end Fw
namespace Fw
open PySem L2
theorem runF_def (n : Nat) (f : Fs) (ss : En) : runF n f ss = finR ss (f (ss ++ List.replicate (n - ss.length) .un)) := rfl
theorem flat_map_str (ys : List Str) : (ys.map PyData.str).all flatD = true := by
  induction ys with
  | nil => rfl
  | cons y ys ih => rw [List.map_cons, List.all_cons, ih]; rfl
theorem any_str (ys : List Str) (n : Str) : ((ys.map PyData.str).any fun y => PyData.eqv y (.str n)) = decide (n ∈ ys) := by
  induction ys with
  | nil => rfl
  | cons y ys ih =>
    rw [List.map_cons, List.any_cons, ih]
    by_cases h : y = n
    · subst h; simp [PyData.eqv]
    · have : ¬ n = y := fun z => h z.symm
      simp [PyData.eqv, h, this]
@[simp] theorem opIn_strs (neg : Bool) (e : En) (n : Str) (ys : List Str) (u : Rv) (b : Bool) (h : seqOf e u = some (b, ys.map PyData.str)) : opIn neg e (.pv (.str n)) u = some (.val (.bool (if neg then !decide (n ∈ ys) else decide (n ∈ ys)))) := by
  unfold opIn
  rw [h]
  show (if flatD (.str n) = true ∧ (ys.map PyData.str).all flatD = true then some (Ou.val (.bool (if neg = true then !((ys.map PyData.str).any fun y => PyData.eqv y (.str n)) else (ys.map PyData.str).any fun y => PyData.eqv y (.str n)))) else _) = _
  rw [if_pos ⟨rfl, flat_map_str ys⟩, any_str]
@[simp] theorem opIn_strsL (neg : Bool) (e : En) (n : Str) (ys : List Str) : opIn neg e (.pv (.str n)) (.pv (.list (ys.map PyData.str))) = some (.val (.bool (if neg then !decide (n ∈ ys) else decide (n ∈ ys)))) := opIn_strs neg e n ys _ true rfl
theorem opIn_bor (neg : Bool) (e : En) (n : Str) (ys : List Str) (i : Nat) (r : Bool) (h : e[i]? = some (.ls r (ys.map PyData.str))) : opIn neg e (.pv (.str n)) (.bor i) = some (.val (.bool (if neg then !decide (n ∈ ys) else decide (n ∈ ys)))) := opIn_strs neg e n ys _ true (by simp [h])
/-! ### the hall's methods -/
theorem e_has (h : HallM) (n : Str) (hl : h.pieces.length ≤ 1000) : R_Hall_has [.fh h, .pv (.str n)] = .ok (.pv (.bool (decide (n ∈ h.names)))) [.un, .un] := by
  simp [R_Hall_has, runF_def, f_Hall_has, F_names, hl]
theorem e_hasL (h : HallM) (n : Str) (b : Bool) (hl : h.pieces.length ≤ 1000) : liftF R_Hall_has [.ob b (.hall h), .pv (.str n)] = .ok (.pv (.bool (decide (n ∈ h.names)))) [.ob b (.hall h), .un] := by
  simp [e_has h n hl]
theorem e_namesL (h : HallM) (b : Bool) (hl : h.pieces.length ≤ 1000) : liftF F_names [.ob b (.hall h)] = .ok (.ow (.ls false (h.names.map PyData.str))) [.ob b (.hall h)] := by
  simp [F_names, hl]
theorem e_atL (h : HallM) (b : Bool) (n : Str) (hl : h.pieces.length ≤ 1000) : liftF F_at [.ob b (.hall h), .pv (.str n)] = if n ∈ h.keys then .ok (.ow (.ls false ((h.at n).map PyData.str))) [.ob b (.hall h), .un] else .ex ⟨"NoPlace", []⟩ [.ob b (.hall h), .un] := by
  by_cases hk : n ∈ h.keys <;> simp [F_at, hl, hk]
def retE (r : Except Str HallM) (h : HallM) (rest : En) : R Rv := match r with
  | .ok h' => .ok (.pv .none) (.ob true (.hall h') :: rest)
  | .error x => .ex ⟨x, []⟩ (.ob true (.hall h) :: rest)
def HallM.open_ (h : HallM) (n k r : Str) : Except Str HallM := if n ∈ h.keys then .error "NameThere" else if 8 ≤ h.kinds.length then .error "TooMany" else .ok { h with kinds := putSt n k h.kinds, rules := putSt n r h.rules }
theorem keyIn_kinds (h : HallM) (n : Str) : keyIn n (h.ent .kinds) = decide (n ∈ h.keys) := keyIn_map PyData.str n h.kinds
theorem len_ent_kinds (h : HallM) : (h.ent .kinds).length = h.kinds.length := by unfold HallM.ent; rw [List.length_map]
theorem len_ent_rules (h : HallM) : (h.ent .rules).length = h.rules.length := by unfold HallM.ent; rw [List.length_map]
theorem len_ent_off (h : HallM) : (h.ent .off).length = h.off.length := by unfold HallM.ent; rw [List.length_map]
@[simp] theorem put_kinds (h : HallM) (n s : Str) : h.put .kinds n (.str s) = some { h with kinds := putSt n s h.kinds } := rfl
@[simp] theorem put_rules (h : HallM) (n s : Str) : h.put .rules n (.str s) = some { h with rules := putSt n s h.rules } := rfl
@[simp] theorem put_off (h : HallM) (n : Str) : h.put .off n (.bool true) = some { h with off := if n ∈ h.off then h.off else h.off ++ [n] } := rfl
@[simp] theorem len_kinds (h : HallM) : h.len (.d .kinds) = h.kinds.length := len_ent_kinds h
@[simp] theorem len_hung (h : HallM) : h.len .hung = h.pieces.length := rfl
theorem e_open (h : HallM) (n k r : Str) (hr : h.rules.length ≤ 1000) : R_Hall_open_place [.ob true (.hall h), .pv (.str n), .pv (.str k), .pv (.str r)] = retE (h.open_ n k r) h [.un, .un, .un] := by
  by_cases h1 : n ∈ h.keys
  · simp [R_Hall_open_place, runF_def, f_Hall_open_place, keyIn_kinds, h1, HallM.open_, retE]
  · by_cases h2 : 8 ≤ h.kinds.length
    · have h2' : (8 : Int) ≤ h.kinds.length := by omega
      simp [R_Hall_open_place, runF_def, f_Hall_open_place, keyIn_kinds, h1, HallM.open_, retE, h2, h2']
    · have h2' : ¬ (8 : Int) ≤ h.kinds.length := by omega
      have h3 : h.kinds.length ≤ 1000 := by omega
      simp [R_Hall_open_place, runF_def, f_Hall_open_place, keyIn_kinds, h1, HallM.open_, retE, h2, h2', len_ent_kinds, len_ent_rules, h3, hr]
def byD : Option Str → PD
  | none => .none
  | some s => .str s
@[simp] theorem byOf_byD (b : Option Str) : byOf (byD b) = some b := by cases b <;> rfl
def HallM.hang (h : HallM) (n pl : Str) (d : PD) (by_ : Option Str) : Except Str HallM := if n ∈ h.names then .error "NameThere" else if pl ∉ h.keys then .error "NoPlace" else
  if (match by_ with | some b => decide (b ∉ h.names) | none => false) = true then .error "NoPiece" else if 24 ≤ h.pieces.length then .error "TooMany" else .ok { h with pieces := h.pieces ++ [⟨n, pl, d, by_, [], [], [], []⟩] }
theorem e_hang (h : HallM) (n pl : Str) (d : PD) (by_ : Option Str) (hl : h.pieces.length ≤ 1000) : R_Hall_hang [.ob true (.hall h), .pv (.str n), .pv (.str pl), .pv d, .pv (byD by_)] = retE (h.hang n pl d by_) h [.un, .un, .un, .un] := by
  by_cases h1 : n ∈ h.names
  · simp [R_Hall_hang, runF_def, f_Hall_hang, e_has, hl, h1, HallM.hang, retE]
  · by_cases h2 : pl ∈ h.keys
    · have fin : 24 ≤ h.pieces.length ∨ ¬ 24 ≤ h.pieces.length := Classical.em _
      cases by_ with
      | none =>
        by_cases h4 : 24 ≤ h.pieces.length
        · have h4' : (24 : Int) ≤ h.pieces.length := by omega
          simp [R_Hall_hang, runF_def, f_Hall_hang, e_has, hl, h1, HallM.hang, retE, keyIn_kinds, h2, byD, h4, h4']
        · have h4' : ¬ (24 : Int) ≤ h.pieces.length := by omega
          simp [R_Hall_hang, runF_def, f_Hall_hang, e_has, hl, h1, HallM.hang, retE, keyIn_kinds, h2, byD, byOf, h4, h4']
      | some b =>
        by_cases h3 : b ∈ h.names
        · by_cases h4 : 24 ≤ h.pieces.length
          · have h4' : (24 : Int) ≤ h.pieces.length := by omega
            simp [R_Hall_hang, runF_def, f_Hall_hang, e_has, hl, h1, HallM.hang, retE, keyIn_kinds, h2, byD, h3, h4, h4']
          · have h4' : ¬ (24 : Int) ≤ h.pieces.length := by omega
            simp [R_Hall_hang, runF_def, f_Hall_hang, e_has, hl, h1, HallM.hang, retE, keyIn_kinds, h2, byD, byOf, h3, h4, h4']
        · simp [R_Hall_hang, runF_def, f_Hall_hang, e_has, hl, h1, HallM.hang, retE, keyIn_kinds, h2, byD, h3]
    · simp [R_Hall_hang, runF_def, f_Hall_hang, e_has, hl, h1, HallM.hang, retE, keyIn_kinds, h2]
def HallM.switch (h : HallM) (n : Str) (on : Bool) : Except Str HallM := if n ∈ h.names then .ok { h with off := if on then h.off.filter (fun z => decide (z ≠ n)) else h.off.filter (fun z => decide (z ≠ n)) ++ [n] } else .error "NoPiece"
theorem e_switch (h : HallM) (n : Str) (on : Bool) (ho : h.off.length ≤ 1000) : R_Hall_switch [.ob true (.hall h), .pv (.str n), .pv (.bool on)] = retE (h.switch n on) h [.un, .un] := by
  by_cases h1 : n ∈ h.names
  · have hf : (h.off.filter fun z => decide (z ≠ n)).length ≤ 1000 := Nat.le_trans (List.length_filter_le _ _) ho
    have hn : n ∉ h.off.filter fun z => decide (z ≠ n) := by simp
    cases on with
    | true => simp [R_Hall_switch, runF_def, f_Hall_switch, h1, HallM.switch, retE]
    | false =>
      have hl := len_ent_off { h with off := h.off.filter fun z => decide (z ≠ n) }
      have hl' : (HallM.ent { h with off := h.off.filter fun z => decide (z ≠ n) } .off).length ≤ 1000 := by rw [hl]; exact hf
      simp [R_Hall_switch, runF_def, f_Hall_switch, h1, HallM.switch, retE]
      simp at hl'
      exact hl'
  · simp [R_Hall_switch, runF_def, f_Hall_switch, h1, HallM.switch, retE]
end Fw
namespace Fw
open PySem L2
/-! ### the cells of the script, names -/
def cellAt (ns : List Int) (k : Int) : Int := ns.getD k.toNat 0
theorem e_cell_at (ns : List Int) (k : Int) (hk : 0 ≤ k) : R_l_cell_at [.sc ns, .pv (.int k)] = .ok (.pv (.int (cellAt ns k))) [.sc ns, .un] := by
  by_cases h : k < ns.length
  · have e : ns[k.toNat]? = some (cellAt ns k) := by
      unfold cellAt
      rw [List.getD_eq_getElem?_getD, List.getElem?_eq_getElem (by omega)]; rfl
    simp [R_l_cell_at, runF_def, f_l_cell_at, h, atI_nn _ _ hk, e]
  · have e : cellAt ns k = 0 := by
      unfold cellAt
      rw [List.getD_eq_getElem?_getD, List.getElem?_eq_none (by omega)]; rfl
    simp [R_l_cell_at, runF_def, f_l_cell_at, h, e]
def letter (i : Int) : Str := ⟨#[97 + i.toNat]⟩
theorem letter_at (i : Int) (h0 : 0 ≤ i) (h1 : i < 26) : atI (Str.cps "abcdefghijklmnopqrstuvwxyz").toList i = some (97 + i.toNat) := by
  rw [atI_nn _ _ h0]
  obtain ⟨n, rfl⟩ := Int.eq_ofNat_of_zero_le h0
  have hn : n < 26 := by omega
  have key : ∀ m, m < 26 → (Str.cps "abcdefghijklmnopqrstuvwxyz").toList[m]? = some (97 + m) := by decide +kernel
  exact key n hn
def lawName (k : Int) : Str := if k % 3 = 1 then letter (k % 26) else Txt.join Str.empty ((List.range (2 + k % 11).toNat).map fun j : Nat => letter ((k + 5 * (j : Int)) % 26))
theorem e_name (k : Int) : R_l_name [.pv (.int k)] = .ok (.pv (.str (lawName k))) [.un] := by
  have hz : (Str.length ("abcdefghijklmnopqrstuvwxyz" : Str)) ≤ 100000 := by decide +kernel
  have hl : ∀ i : Int, atI (Str.cps ("abcdefghijklmnopqrstuvwxyz" : Str)).toList (i % 26) = some (97 + (i % 26).toNat) := fun i => letter_at (i % 26) (by omega) (by omega)
  by_cases h : k % 3 = 1
  · simp [R_l_name, runF_def, f_l_name, h, hz, hl, lawName, letter]
  · obtain ⟨L, hL⟩ : ∃ L, L = (List.range (2 + k % 11).toNat).map fun j : Nat => letter ((k + 5 * (j : Int)) % 26) := ⟨_, rfl⟩
    have hc : compR (tgName 2) [2] fYes fe_l_name_1 0 (2 + k % 11) [.pv (.int k), .pv (.str "abcdefghijklmnopqrstuvwxyz"), .un] = .ok (.ow (.ls false (L.map PyData.str))) [.pv (.int k), .pv (.str "abcdefghijklmnopqrstuvwxyz"), .un] := by
      unfold compR
      rw [if_pos ⟨by omega, by omega, by omega, by omega⟩, Int.sub_zero]
      rw [compE_map (fun i : Nat => PyData.int (0 + (i : Nat))) (fun _ => true) (fun j : Nat => PyData.str (letter ((k + 5 * (j : Int)) % 26))) (List.range (2 + k % 11).toNat) _ (by rw [List.length_range]; omega) rfl trivial rfl]
      · rw [List.filter_eq_self.mpr (fun _ _ => rfl), hL, List.map_map]; rfl
      · intro j hj
        refine ⟨_, _, rfl, rfl, .inr ⟨rfl, ?_⟩⟩
        refine ⟨[.pv (.int k), .pv (.str "abcdefghijklmnopqrstuvwxyz"), .pv (.int (0 + (j : Int)))], ?_, rfl⟩
        simp [fe_l_name_1, hz, hl, letter]
    have hs : L.map (·.length) = (List.range (2 + k % 11).toNat).map fun _ => 1 := by
      rw [hL, List.map_map]; rfl
    have hsum : (L.map (·.length)).sum + L.length * (Str.ofString "").length ≤ 1000000 := by
      rw [hs, List.map_const', List.sum_replicate_nat, List.length_range, show (Str.ofString "").length = 0 from rfl]; omega
    have hN : lawName k = Txt.join "" L := by unfold lawName; rw [if_neg h, ← hL]; rfl
    simp [R_l_name, runF_def, f_l_name, h, hc, opJoin, hsum, hN]
/-! ### deeds, wishes, pieces -/
inductive Deed where
  | add (n : Int)
  | say (n : Int)
  | none
  | fail (n : Int)
def Deed.enc : Deed → PD
  | .add n => .tuple [.str "add", .int n]
  | .say n => .tuple [.str "say", .int n]
  | .none => .tuple [.str "none"]
  | .fail n => .tuple [.str "fail", .int n]
def P25 : Int := 10 ^ 25
def P24 : Int := 10 ^ 24
def deedNum (c : Int) : Int := if c / 8 % 9 = 4 then c % P25 - P24 else c / 8 % 2001 - 1000
def lawDeed (c : Int) : Deed := if c % 8 = 3 then .say (deedNum c) else if c % 8 = 4 then .none else if c % 8 = 5 then .fail (deedNum c) else .add (deedNum c)
theorem pow25 (e : En) : opPow e (.pv (.int 10)) (.pv (.int 25)) = some (.val (.int P25)) := by
  show (if (0 ≤ (25 : Int) ∧ (25 : Int) ≤ 1000) ∧ (0 ≤ (10 : Int) ∧ (10 : Int) < 1000) then some (Ou.val (.int ((10 : Int) ^ (25 : Int).toNat))) else none) = _
  rw [if_pos (by decide)]
  rfl
theorem pow24 (e : En) : opPow e (.pv (.int 10)) (.pv (.int 24)) = some (.val (.int P24)) := by
  show (if (0 ≤ (24 : Int) ∧ (24 : Int) ≤ 1000) ∧ (0 ≤ (10 : Int) ∧ (10 : Int) < 1000) then some (Ou.val (.int ((10 : Int) ^ (24 : Int).toNat))) else none) = _
  rw [if_pos (by decide)]
  rfl
theorem pos25 : (0 : Int) < P25 := by unfold P25; decide +kernel
theorem big25 (e : En) : fBin opPow (fC (.int 10)) (fC (.int 25)) e = .ok (.pv (.int P25)) e := by
  show give (opPow e (.pv (.int 10)) (.pv (.int 25))) e = _
  rw [pow25]; rfl
theorem big24 (e : En) : fBin opPow (fC (.int 10)) (fC (.int 24)) e = .ok (.pv (.int P24)) e := by
  show give (opPow e (.pv (.int 10)) (.pv (.int 24))) e = _
  rw [pow24]; rfl
noncomputable def deedG (A B : Fx) : Fs := (fSeq (fAsg 1 (fBin opSub (fBin opMod (fBin opDiv (fVar 0) (fC (.int 8))) (fC (.int 2001))) (fC (.int 1000))))
  (fSeq (fIf (fTest (fBin (opEq false) (fBin opMod (fBin opDiv (fVar 0) (fC (.int 8))) (fC (.int 9))) (fC (.int 4))))
  (fAsg 1 (fBin opSub (fBin opMod (fVar 0) A) B))
  fNext)
  (fSeq (fIf (fTest (fBin (opEq false) (fBin opMod (fVar 0) (fC (.int 8))) (fC (.int 3))))
  (fRet (fSeqD false (fCons (fDz (fC (.str "say"))) (fCons (fDz (fVar 1)) fNil))))
  fNext)
  (fSeq (fIf (fTest (fBin (opEq false) (fBin opMod (fVar 0) (fC (.int 8))) (fC (.int 4))))
  (fRet (fSeqD false (fCons (fDz (fC (.str "none"))) fNil)))
  fNext)
  (fSeq (fIf (fTest (fBin (opEq false) (fBin opMod (fVar 0) (fC (.int 8))) (fC (.int 5))))
  (fRet (fSeqD false (fCons (fDz (fC (.str "fail"))) (fCons (fDz (fVar 1)) fNil))))
  fNext)
  (fRet (fSeqD false (fCons (fDz (fC (.str "add"))) (fCons (fDz (fVar 1)) fNil)))))))))
theorem deedG_eq (A B : Fx) (a b c : Int) (hA : ∀ e, A e = .ok (.pv (.int a)) e) (hB : ∀ e, B e = .ok (.pv (.int b)) e) (p : 0 < a) : runF 2 (deedG A B) [.pv (.int c)] =
    .ok (.pv (Deed.enc (if c % 8 = 3 then .say (if c / 8 % 9 = 4 then c % a - b else c / 8 % 2001 - 1000) else if c % 8 = 4 then .none else if c % 8 = 5 then .fail (if c / 8 % 9 = 4 then c % a - b else c / 8 % 2001 - 1000) else .add (if c / 8 % 9 = 4 then c % a - b else c / 8 % 2001 - 1000)))) [.un] := by
  by_cases h4 : c / 8 % 9 = 4 <;> by_cases h : c % 8 = 3 <;> by_cases h2 : c % 8 = 4 <;> by_cases h3 : c % 8 = 5 <;> first | omega | simp [runF_def, deedG, Deed.enc, h4, h, h2, h3, p, hA, hB]
theorem e_deed (c : Int) : R_l_deed [.pv (.int c)] = .ok (.pv (lawDeed c).enc) [.un] := deedG_eq _ _ P25 P24 c big25 big24 pos25
def lawSome (c many : Int) : List Str := if c % 4 > 1 then [] else if c % 4 = 1 then [lawName (c / 4 % many), lawName (c / 64 % many)] else [lawName (c / 4 % many)]
theorem e_some (c m : Int) (hm : 0 < m) : R_l_some [.pv (.int c), .pv (.int m)] = .ok (.ow (.ls false ((lawSome c m).map PyData.str))) [.un, .un] := by
  by_cases h : c % 4 > 1
  · simp [R_l_some, runF_def, f_l_some, lawSome, h]
  · by_cases h2 : c % 4 = 1
    · simp [R_l_some, runF_def, f_l_some, lawSome, h2, e_name, hm]
    · simp [R_l_some, runF_def, f_l_some, lawSome, h, h2, e_name, hm]
structure LP where
  name : Str
  place : Str
  deed : Deed
  ahead : List Str
  behind : List Str
  needs : List Str
  bars : List Str
  on : Bool
def strsD (xs : List Str) : PD := .list (xs.map PyData.str)
def LP.enc (p : LP) : PD := .tuple [.str p.name, .str p.place, p.deed.enc, .list [strsD p.ahead, strsD p.behind, strsD p.needs, strsD p.bars], .bool p.on]
def lawPiece (ns : List Int) (start many : Int) (k : Nat) : LP :=
  let one := cellAt ns (start + 3 * (k : Int))
  let two := cellAt ns (start + 3 * (k : Int) + 1)
  let three := cellAt ns (start + 3 * (k : Int) + 2)
  { name := lawName k, place := if one / 4096 % 4 = 3 then "side" else "hub", deed := lawDeed one, ahead := lawSome two (many + 1), behind := lawSome (two / 7) (many + 1), needs := lawSome three (many + 1), bars := lawSome (three / 7) (many + 1), on := !decide (one / 64 % 6 = 1) }
def lawPieces (ns : List Int) (start many : Int) : List LP := (List.range many.toNat).map (lawPiece ns start many)
theorem hub_at (x : Int) : atI [PyData.str "hub", .str "hub", .str "hub", .str "side"] (x % 4) = some (.str (if x % 4 = 3 then "side" else "hub")) := by
  rw [atI_nn _ _ (by omega)]
  have h : x % 4 = 0 ∨ x % 4 = 1 ∨ x % 4 = 2 ∨ x % 4 = 3 := by omega
  rcases h with h | h | h | h <;> rw [h] <;> rfl
theorem foldl_snoc {α β : Type} (f : α → β) : ∀ (xs : List α) (acc : List β), xs.foldl (fun a x => a ++ [f x]) acc = acc ++ xs.map f
  | [], acc => by simp
  | x :: xs, acc => by rw [List.foldl_cons, foldl_snoc f xs]; simp
theorem e_pieces (ns : List Int) (s m : Int) (h0 : 0 ≤ s) (h1 : 0 ≤ m) (h2 : m ≤ 100) : R_l_pieces [.sc ns, .pv (.int s), .pv (.int m)] = .ok (.ow (.ls false ((lawPieces ns s m).map LP.enc))) [.sc ns, .un, .un] := by
  have hl := loop_eq (gd := fun _ => True) (tgt := tgName 4) (body := fb_l_pieces_1) (fun i : Nat => PyData.int (i : Nat)) (fun acc : List LP => [.sc ns, .pv (.int s), .pv (.int m), .ls false (acc.map LP.enc), .un, .un, .un, .un, .un, .un]) (fun acc k => acc ++ [lawPiece ns s m k]) (fun i acc => acc.length = i ∧ i ≤ 100) (fun _ => trivial) (List.range m.toNat) [] ⟨rfl, Nat.zero_le _⟩
    (by
      rintro i acc k hk ⟨hl, hi⟩
      have hi2 : i < m.toNat := by have := (List.getElem?_eq_some_iff.mp hk).1; rwa [List.length_range] at this
      refine ⟨_, rfl, ?_, by simp [hl], by omega⟩
      have a1 : (0 : Int) ≤ s + 3 * (k : Int) := by omega
      have a2 : (0 : Int) ≤ s + 3 * (k : Int) + 1 := by omega
      have a3 : (0 : Int) ≤ s + 3 * (k : Int) + 2 := by omega
      have hm1 : (0 : Int) < m + 1 := by omega
      have hk9 : (k : Int) < 18446744073709551616 := by
        have := List.mem_of_getElem? hk
        rw [List.mem_range] at this; omega
      have hacc : acc.length < 100000 := by omega
      simp [fb_l_pieces_1, e_cell_at, a1, a2, a3, e_some, hm1, e_name, e_deed, hub_at, mApp, lawPiece, LP.enc, strsD, hacc])
  have hf := foldl_snoc (lawPiece ns s m) (List.range m.toNat) []
  rw [List.nil_append] at hf
  have hfr := forR_eq (tgt := tgName 4) (body := fb_l_pieces_1) (n := m) (e := [.sc ns, .pv (.int s), .pv (.int m), .ls false [], .un, .un, .un, .un, .un, .un]) (by omega) (by omega)
  have h3 := hl.1
  rw [hf] at h3
  simp only [List.map_nil] at h3
  simp [R_l_pieces, runF_def, f_l_pieces, hfr, h3, lawPieces]
end Fw
namespace Fw
open PySem L2
/-! ### the hall that the law makes of its pieces -/
def LP.pc0 (p : LP) : PieceM := ⟨p.name, p.place, p.deed.enc, none, [], [], [], []⟩
def LP.pc (p : LP) : PieceM := ⟨p.name, p.place, p.deed.enc, none, p.ahead, p.behind, p.needs, p.bars⟩
def offs (ps : List LP) : List Str := (ps.filter fun p => !p.on).map (·.name)
def hallW (kind rule : Str) (pre suf : List LP) : HallM := ⟨[("hub", kind), ("side", "all")], [("hub", rule), ("side", "hold")], pre.map LP.pc ++ suf.map LP.pc0, offs pre⟩
def hallP (kind rule : Str) (ps : List LP) : HallM := hallW kind rule ps []
structure LPok (ps : List LP) : Prop where
  nd : (ps.map (·.name)).Nodup
  len : ps.length ≤ 24
  pl : ∀ p ∈ ps, p.place = "hub" ∨ p.place = "side"
  few : ∀ p ∈ ps, p.ahead.length ≤ 1000 ∧ p.behind.length ≤ 1000 ∧ p.needs.length ≤ 1000 ∧ p.bars.length ≤ 1000
theorem hallW_names (k r : Str) (pre suf : List LP) : (hallW k r pre suf).names = (pre ++ suf).map (·.name) := by
  unfold HallM.names hallW
  simp [List.map_append, Function.comp_def, LP.pc, LP.pc0]
theorem strEmp : strsD [] = .list [] := rfl
theorem e_hang_all {gd : En → Prop} (k r : Str) (X Y Z : Sl) (hg : ∀ h : HallM, gd [X, Y, Z, .ob false (.hall h), .un]) : ∀ (suf pre : List LP), LPok (pre ++ suf) → loopL gd (tgName 4) fb_l_hall_1 (suf.map LP.enc) [X, Y, Z, .ob false (.hall (hallW k r [] pre)), .un] = .ok .nx [X, Y, Z, .ob false (.hall (hallW k r [] (pre ++ suf))), .un]
  | [], pre, ok => by rw [List.append_nil]; exact loopL_nil (hg _)
  | p :: suf, pre, ok => by
    have hn : p.name ∉ (hallW k r [] pre).names := by
      rw [hallW_names, List.nil_append]
      have := ok.nd
      rw [List.map_append, List.map_cons] at this
      exact fun z => (List.nodup_append.mp this).2.2 _ z _ List.mem_cons_self rfl
    have hp : p.place ∈ (hallW k r [] pre).keys := by
      rcases ok.pl p (by simp) with e | e <;> rw [e] <;> simp [hallW, HallM.keys]
    have hl : (hallW k r [] pre).pieces.length = pre.length := by simp [hallW]
    have l24 := ok.len
    rw [List.length_append, List.length_cons] at l24
    have h4 : ¬ 24 ≤ (hallW k r [] pre).pieces.length := by rw [hl]; omega
    have he := e_hang (hallW k r [] pre) p.name p.place p.deed.enc none (by rw [hl]; omega)
    have hh : (hallW k r [] pre).hang p.name p.place p.deed.enc none = .ok (hallW k r [] (pre ++ [p])) := by
      simp [HallM.hang, hn, hp, h4]
      simp [hallW, LP.pc0]
    rw [hh] at he
    simp only [byD, retE] at he
    have ih := e_hang_all k r X Y Z hg suf (pre ++ [p]) (by rw [List.append_assoc]; exact ok)
    rw [List.append_assoc] at ih
    have ht : isRef [X, Y, Z, .ob false (.hall (hallW k r [] pre)), Sl.un][4]? = true → False := by simp [isRef]
    rw [List.map_cons, loopL_cons (e1 := [X, Y, Z, .ob false (.hall (hallW k r [] pre)), .pv p.enc]) (hg _) rfl]
    have hb : fb_l_hall_1 [X, Y, Z, .ob false (.hall (hallW k r [] pre)), .pv p.enc] = .ok .nx [X, Y, Z, .ob false (.hall (hallW k r [] (pre ++ [p]))), .un] := by
      simp [fb_l_hall_1, LP.enc, he]
    rw [hb]
    exact ih
theorem e_wish_all {gd : En → Prop} (k r : Str) (X Y Z : Sl) (hg : ∀ h : HallM, gd [X, Y, Z, .ob false (.hall h), .un]) : ∀ (suf pre : List LP), LPok (pre ++ suf) → loopL gd (tgName 4) fb_l_hall_2 (suf.map LP.enc) [X, Y, Z, .ob false (.hall (hallW k r pre suf)), .un] = .ok .nx [X, Y, Z, .ob false (.hall (hallW k r (pre ++ suf) [])), .un]
  | [], pre, ok => by rw [List.append_nil]; exact loopL_nil (hg _)
  | p :: suf, pre, ok => by
    have hnp : p.name ∉ pre.map (·.name) := by
      have := ok.nd
      rw [List.map_append, List.map_cons] at this
      exact fun z => (List.nodup_append.mp this).2.2 _ z _ List.mem_cons_self rfl
    have hin : p.name ∈ (hallW k r pre (p :: suf)).names := by rw [hallW_names]; simp
    have hof : p.name ∉ offs pre := fun z => by
      obtain ⟨q, hq, e⟩ := List.mem_map.mp z
      exact hnp (List.mem_map.mpr ⟨q, (List.mem_filter.mp hq).1, e⟩)
    have l24 := ok.len
    rw [List.length_append, List.length_cons] at l24
    obtain ⟨f1, f2, f3, f4⟩ := ok.few p (by simp)
    have hfi : (hallW k r pre (p :: suf)).pieces.findIdx? (fun z => decide (z.name = p.name)) = some pre.length := by
      refine findIdx_of (c := p.pc0) ?_ rfl fun d hd => ?_
      · show (pre.map LP.pc ++ (p :: suf).map LP.pc0)[pre.length]? = _
        rw [List.getElem?_append_right (by rw [List.length_map]; omega), List.length_map, Nat.sub_self]; rfl
      · have e : ((hallW k r pre (p :: suf)).pieces.take pre.length) = pre.map LP.pc := by
          show (pre.map LP.pc ++ (p :: suf).map LP.pc0).take pre.length = _
          rw [List.take_append_of_le_length (by rw [List.length_map]; omega), List.take_of_length_le (by rw [List.length_map]; omega)]
        rw [e] at hd
        obtain ⟨q, hq, rfl⟩ := List.mem_map.mp hd
        exact fun z => hnp (List.mem_map.mpr ⟨q, hq, z⟩)
    have hget : (hallW k r pre (p :: suf)).pieces[pre.length]? = some p.pc0 := by
      show (pre.map LP.pc ++ (p :: suf).map LP.pc0)[pre.length]? = _
      rw [List.getElem?_append_right (by rw [List.length_map]; omega), List.length_map, Nat.sub_self]; rfl
    have hw : (hallW k r pre (p :: suf)).wish p.name p.ahead p.behind p.needs p.bars = some { hallW k r (pre ++ [p]) suf with off := offs pre } := by
      unfold HallM.wish
      rw [hfi]
      show (match (hallW k r pre (p :: suf)).pieces[pre.length]? with | some z => _ | none => _) = _
      rw [hget]
      have hset : (hallW k r pre (p :: suf)).pieces.set pre.length ((((p.pc0.more p.ahead .ahead).more p.behind .behind).more p.needs .needs).more p.bars .bars) = (pre ++ [p]).map LP.pc ++ suf.map LP.pc0 := by
        show (pre.map LP.pc ++ (p :: suf).map LP.pc0).set pre.length _ = _
        rw [List.set_append_right _ _ (by rw [List.length_map]; omega), List.length_map, Nat.sub_self, List.map_cons, List.set_cons_zero, List.map_append, List.append_assoc]
        rfl
      dsimp only
      rw [hset]
      rfl
    have hfew : ∀ n, n ≤ 4000 → fewW (hallW k r pre (p :: suf)) n = true := by
      intro n hn
      unfold fewW
      rw [List.all_eq_true]
      intro c hc
      have : c.ahead.length ≤ 1000 ∧ c.behind.length ≤ 1000 ∧ c.needs.length ≤ 1000 ∧ c.bars.length ≤ 1000 := by
        rcases List.mem_append.mp (show c ∈ pre.map LP.pc ++ (p :: suf).map LP.pc0 from hc) with h | h
        · obtain ⟨q, hq, rfl⟩ := List.mem_map.mp h
          exact ok.few q (by simp [hq])
        · obtain ⟨q, hq, rfl⟩ := List.mem_map.mp h
          exact ⟨by simp [LP.pc0], by simp [LP.pc0], by simp [LP.pc0], by simp [LP.pc0]⟩
      simp only [Bool.and_eq_true, decide_eq_true_eq]
      omega
    have hfw : fewW (hallW k r pre (p :: suf)) (p.ahead.length + p.behind.length + p.needs.length + p.bars.length) = true := hfew _ (by omega)
    have hF : F_wish [.ob true (.hall (hallW k r pre (p :: suf))), .pv (.str p.name), .pv (strsD p.ahead), .pv (.tuple (p.behind.map PyData.str)), .pv (strsD p.needs), .pv (strsD p.bars)] =
        .ok (.pv .none) [.ob true (.hall { hallW k r (pre ++ [p]) suf with off := offs pre }), .un, .un, .un, .un, .un] := by
      have w1 : ∀ xs : List Str, wishArg (.pv (.list (xs.map PyData.str))) = some xs := fun xs => by simp [wishArg]
      have w2 : ∀ xs : List Str, wishArg (.pv (.tuple (xs.map PyData.str))) = some xs := fun xs => by simp [wishArg]
      simp [F_wish, strsD, w1, w2, hfw, hw, backS, isRef]
    have ih := e_wish_all k r X Y Z hg suf (pre ++ [p]) (by rw [List.append_assoc]; exact ok)
    rw [List.append_assoc] at ih
    rw [List.map_cons, loopL_cons (e1 := [X, Y, Z, .ob false (.hall (hallW k r pre (p :: suf))), .pv p.enc]) (hg _) rfl]
    have hb : fb_l_hall_2 [X, Y, Z, .ob false (.hall (hallW k r pre (p :: suf))), .pv p.enc] = .ok .nx [X, Y, Z, .ob false (.hall (hallW k r (pre ++ [p]) suf)), .un] := by
      have hF' := hF
      simp only [strsD] at hF'
      cases hon : p.on with
      | true =>
        have e : ({ hallW k r (pre ++ [p]) suf with off := offs pre } : HallM) = hallW k r (pre ++ [p]) suf := by
          simp [hallW, offs, hon]
        rw [e] at hF'
        simp [fb_l_hall_2, LP.enc, strsD, hF', hon]
      | false =>
        have hin2 : p.name ∈ HallM.names { hallW k r (pre ++ [p]) suf with off := offs pre } := by
          show p.name ∈ (hallW k r (pre ++ [p]) suf).names
          rw [hallW_names]; simp
        have hol : (offs pre).length ≤ 1000 := by
          unfold offs; rw [List.length_map]
          have := List.length_filter_le (fun p : LP => !p.on) pre; omega
        have hsw := e_switch { hallW k r (pre ++ [p]) suf with off := offs pre } p.name false hol
        have e : HallM.switch { hallW k r (pre ++ [p]) suf with off := offs pre } p.name false = .ok (hallW k r (pre ++ [p]) suf) := by
          unfold HallM.switch
          rw [if_pos hin2]
          have : (offs pre).filter (fun z => decide (z ≠ p.name)) = offs pre := List.filter_eq_self.mpr fun z hz => by
            have : z ≠ p.name := fun e => hof (e ▸ hz)
            simpa using this
          show Except.ok (HallM.mk _ _ _ (if false = true then _ else (offs pre).filter (fun z => decide (z ≠ p.name)) ++ [p.name])) = _
          rw [if_neg (by simp), this]
          simp [hallW, offs, hon]
        rw [e] at hsw
        simp only [retE] at hsw
        simp [fb_l_hall_2, LP.enc, strsD, hF', hon, hsw]
    rw [hb]
    exact ih
theorem open_hub (k r : Str) : hall0.open_ "hub" k r = .ok ⟨[("hub", k)], [("hub", r)], [], []⟩ := by
  simp [HallM.open_, hall0, HallM.keys, putSt]
theorem open_side (k r : Str) : HallM.open_ ⟨[("hub", k)], [("hub", r)], [], []⟩ "side" "all" "hold" = .ok (hallW k r [] []) := by
  simp [HallM.open_, HallM.keys, putSt, hallW, offs]
def isL (s : Sl) (xs : List PD) : Prop := s = .ls true xs ∨ s = .pv (.list xs)
theorem e_hall (k r : Str) (ps : List LP) (ok : LPok ps) {s : Sl} (hs : isL s (ps.map LP.enc)) : R_l_hall [s, .pv (.str k), .pv (.str r)] = .ok (.ow (.ob false (.hall (hallP k r ps)))) [backS s, .un, .un] := by
  have o1 := e_open hall0 "hub" k r (by decide)
  rw [open_hub] at o1
  have o2 := e_open ⟨[("hub", k)], [("hub", r)], [], []⟩ "side" "all" "hold" (by simp)
  rw [open_side] at o2
  simp only [retE] at o1 o2
  rcases hs with rfl | rfl
  · have h1 := e_hang_all (gd := fun e => e[0]? = some (Sl.ls true (ps.map LP.enc))) k r (.ls true (ps.map LP.enc)) (.pv (.str k)) (.pv (.str r)) (fun _ => rfl) ps [] (by rw [List.nil_append]; exact ok)
    have h2 := e_wish_all (gd := fun e => e[0]? = some (Sl.ls true (ps.map LP.enc))) k r (.ls true (ps.map LP.enc)) (.pv (.str k)) (.pv (.str r)) (fun _ => rfl) ps [] (by rw [List.nil_append]; exact ok)
    rw [List.nil_append] at h1 h2
    simp [R_l_hall, runF_def, f_l_hall, o1, o2, h1, h2, backS, isRef, hallP]
  · have h1 := e_hang_all (gd := fun _ => True) k r (.pv (.list (ps.map LP.enc))) (.pv (.str k)) (.pv (.str r)) (fun _ => trivial) ps [] (by rw [List.nil_append]; exact ok)
    have h2 := e_wish_all (gd := fun _ => True) k r (.pv (.list (ps.map LP.enc))) (.pv (.str k)) (.pv (.str r)) (fun _ => trivial) ps [] (by rw [List.nil_append]; exact ok)
    rw [List.nil_append] at h1 h2
    simp [R_l_hall, runF_def, f_l_hall, o1, o2, h1, h2, backS, isRef, hallP]
theorem some_len (c m : Int) : (lawSome c m).length ≤ 2 := by
  unfold lawSome
  split
  · simp
  · split <;> simp
theorem names24 : ((List.range 24).map fun k : Nat => lawName (k : Int)).Nodup := by decide +kernel
theorem pieces_names (ns : List Int) (s m : Int) : (lawPieces ns s m).map (·.name) = (List.range m.toNat).map fun k : Nat => lawName (k : Int) := by
  unfold lawPieces; rw [List.map_map]; rfl
theorem names_sub {a b : Nat} (h : a ≤ b) : ((List.range a).map fun k : Nat => lawName (k : Int)).Sublist ((List.range b).map fun k : Nat => lawName (k : Int)) := (List.range_sublist.mpr h).map _
theorem pieces_ok (ns : List Int) (s m : Int) (h : m ≤ 24) : LPok (lawPieces ns s m) where
  nd := by rw [pieces_names]; exact names24.sublist (names_sub (by omega))
  len := by unfold lawPieces; rw [List.length_map, List.length_range]; omega
  pl := fun p hp => by
    unfold lawPieces at hp
    obtain ⟨k, _, rfl⟩ := List.mem_map.mp hp
    show (if _ then _ else _) = _ ∨ (if _ then _ else _) = _
    split
    · exact .inr rfl
    · exact .inl rfl
  few := fun p hp => by
    unfold lawPieces at hp
    obtain ⟨k, _, rfl⟩ := List.mem_map.mp hp
    refine ⟨Nat.le_trans (some_len _ _) (by decide), Nat.le_trans (some_len _ _) (by decide), Nat.le_trans (some_len _ _) (by decide), Nat.le_trans (some_len _ _) (by decide)⟩
end Fw
namespace Fw
open PySem L2
/-! ### data that may be compared -/
def Sh (n : Nat) (d : PD) : Prop := PyData.canLay0 d = true ∧ PyData.depth d ≤ n
def okS (x : Str) : Prop := PyData.strOk x = true
theorem sh_str {x : Str} (h : okS x) : Sh 0 (.str x) := ⟨h, Nat.le_refl 0⟩
theorem sh_int (i : Int) : Sh 0 (.int i) := ⟨rfl, Nat.le_refl 0⟩
theorem sh_up {n m : Nat} {d : PD} (h : Sh n d) (l : n ≤ m) : Sh m d := ⟨h.1, Nat.le_trans h.2 l⟩
theorem sh_all {n : Nat} : ∀ {xs : List PD}, (∀ d ∈ xs, Sh n d) → PyData.canLayAll0 xs = true ∧ PyData.depthAll xs ≤ n
  | [], _ => ⟨rfl, Nat.zero_le n⟩
  | x :: xs, h => by
    obtain ⟨a, b⟩ := sh_all (xs := xs) fun d hd => h d (List.mem_cons_of_mem _ hd)
    obtain ⟨c, e⟩ := h x List.mem_cons_self
    refine ⟨?_, ?_⟩
    · show (PyData.canLay0 x && PyData.canLayAll0 xs) = true
      rw [c, a]; rfl
    · show max (PyData.depth x) (PyData.depthAll xs) ≤ n
      omega
theorem sh_list {n : Nat} {xs : List PD} (h : ∀ d ∈ xs, Sh n d) : Sh (n + 1) (.list xs) := by
  obtain ⟨a, b⟩ := sh_all h
  exact ⟨a, by show PyData.depthAll xs + 1 ≤ n + 1; omega⟩
theorem sh_tuple {n : Nat} {xs : List PD} (h : ∀ d ∈ xs, Sh n d) : Sh (n + 1) (.tuple xs) := by
  obtain ⟨a, b⟩ := sh_all h
  exact ⟨a, by show PyData.depthAll xs + 1 ≤ n + 1; omega⟩
theorem shaped_of {n : Nat} {d : PD} (h : Sh n d) (l : n ≤ 64) : SeqAt.shaped d = true := by
  unfold SeqAt.shaped
  rw [h.1, decide_eq_true (Nat.le_trans h.2 l)]; rfl
mutual
theorem eqv_self : ∀ d : PD, PyData.canLay0 d = true → PyData.eqv d d = true
  | .none, _ => by simp [PyData.eqv]
  | .bool b, _ => by simp [PyData.eqv]
  | .int i, _ => by simp [PyData.eqv]
  | .str x, _ => by simp [PyData.eqv]
  | .list xs, h => by
    rw [PyData.eqv]
    exact eqvs_self xs h
  | .tuple xs, h => by
    rw [PyData.eqv]
    exact eqvs_self xs h
  | .dict _, h => by cases h
theorem eqvs_self : ∀ xs : List PD, PyData.canLayAll0 xs = true → PyData.eqvAll xs xs = true
  | [], _ => by simp [PyData.eqvAll]
  | x :: xs, h => by
    have h' : (PyData.canLay0 x && PyData.canLayAll0 xs) = true := h
    rw [Bool.and_eq_true] at h'
    rw [PyData.eqvAll, eqv_self x h'.1, eqvs_self xs h'.2]; rfl
end
theorem eqD_self {n : Nat} {d : PD} (h : Sh n d) (l : n ≤ 64) : eqD d d = some true := by
  have hs := shaped_of h l
  have hv := eqv_self d h.1
  have go : ∀ d : PD, SeqAt.shaped d = true → PyData.eqv d d = true → sEq d d = none → eqD d d = some true := fun d hs hv hq => by
    unfold eqD
    rw [hq]
    show (if SeqAt.shaped d = true ∧ SeqAt.shaped d = true then some (PyData.eqv d d) else none) = _
    rw [if_pos ⟨hs, hs⟩, hv]
  cases d with
  | none => rfl
  | bool b => simp
  | int i => simp
  | str x => simp
  | list xs => exact go _ hs hv rfl
  | tuple xs => exact go _ hs hv rfl
  | dict k => exact go _ hs hv rfl
theorem eqD_nil {n : Nat} {xs : List PD} (h : Sh n (.list xs)) (l : n ≤ 64) : eqD (.list xs) (.list []) = some (decide (xs = [])) := by
  have hs := shaped_of h l
  have h0 : SeqAt.shaped (.list []) = true := by decide +kernel
  show (if SeqAt.shaped (.list xs) = true ∧ SeqAt.shaped (.list []) = true then some (PyData.eqv (.list xs) (.list [])) else none) = _
  rw [if_pos ⟨hs, h0⟩]
  cases xs with
  | nil => decide +kernel
  | cons x xs => simp [PyData.eqv, PyData.eqvAll]
theorem ok_app {x y : Str} (h1 : okS x) (h2 : okS y) : okS (x ++ y) := by
  unfold okS PyData.strOk at *
  show (x.cps ++ y.cps).all _ = true
  rw [Array.all_append, h1, h2]; rfl
theorem ok_join0 : ∀ (xs : List Str), (∀ x ∈ xs, okS x) → okS (Str.join "" xs)
  | [], _ => by unfold okS; decide +kernel
  | [x], h => h x (by simp)
  | x :: y :: r, h => ok_app (ok_app (h x (by simp)) (by unfold okS; decide +kernel)) (ok_join0 (y :: r) fun z hz => h z (List.mem_cons_of_mem _ hz))
theorem ok_join (xs : List Str) (h : ∀ x ∈ xs, okS x) : okS (Txt.join "" xs) := by
  show okS (Builtin.Str.glued "" xs)
  rw [StrLaws.glued_eq_join]
  exact ok_join0 xs h
theorem ok_letter (i : Int) (h : i < 1000) : okS (letter i) := by
  unfold okS PyData.strOk letter
  simp
  omega
theorem ok_name (k : Int) : okS (lawName k) := by
  unfold lawName
  split
  · exact ok_letter _ (by omega)
  · refine ok_join _ fun x hx => ?_
    obtain ⟨j, _, rfl⟩ := List.mem_map.mp hx
    exact ok_letter _ (by omega)
end Fw
namespace Fw
open PySem L2
/-! ### those at the hub, their pairs -/
abbrev T2 := Str × Str
def enc2 (t : T2) : PD := .tuple [.str t.1, .str t.2]
def hubs (ps : List LP) : List LP := ps.filter fun p => decide (p.place = "hub") && p.on
def hubN (ps : List LP) : List Str := (hubs ps).map (·.name)
def pairA (n : Str) (ys names : List Str) : List T2 := (ys.filter fun z => decide (z ∈ names)).map fun z => (n, z)
def pairB (n : Str) (ys names : List Str) : List T2 := (ys.filter fun z => decide (z ∈ names)).map fun z => (z, n)
def pairOf (names : List Str) (p : LP) : List T2 := pairA p.name p.ahead names ++ pairB p.name p.behind names
def pairIf (names : List Str) (p : LP) : List T2 := if p.name ∈ names then pairOf names p else []
def pairsL (ps : List LP) (names : List Str) : List T2 := ps.flatMap (pairIf names)
theorem pair_len (names : List Str) {ps : List LP} (ok : LPok ps) {p : LP} (hp : p ∈ ps) : (pairOf names p).length ≤ 2000 := by
  obtain ⟨h3, h4, _, _⟩ := ok.few p hp
  unfold pairOf pairA pairB
  rw [List.length_append, List.length_map, List.length_map]
  have a := List.length_filter_le (fun z => decide (z ∈ names)) p.ahead
  have b := List.length_filter_le (fun z => decide (z ∈ names)) p.behind
  omega
theorem fold_flat {α β : Type} (f : α → List β) : ∀ (xs : List α) (acc : List β), xs.foldl (fun a x => a ++ f x) acc = acc ++ xs.flatMap f
  | [], acc => by simp
  | x :: xs, acc => by rw [List.foldl_cons, fold_flat f xs]; simp
theorem e_at_hub {ps : List LP} (ok : LPok ps) : R_l_at_hub [.ls true (ps.map LP.enc)] = .ok (.ow (.ls false ((hubN ps).map PyData.str))) [.ls true (ps.map LP.enc)] := by
  have l24 := ok.len
  have hc : compE (fun e => e[0]? = some (Sl.ls true (ps.map LP.enc))) (tgName 1) [1] ft_l_at_hub_1 fe_l_at_hub_1 (ps.map LP.enc) [.ls true (ps.map LP.enc), .un] = .ok (.ow (.ls false ((hubN ps).map PyData.str))) [.ls true (ps.map LP.enc), .un] := by
    rw [compE_map (gd := fun e : En => e[0]? = some (Sl.ls true (ps.map LP.enc))) LP.enc (fun p => decide (p.place = "hub") && p.on) (fun p => PyData.str p.name) ps _ (by omega) rfl rfl rfl]
    · rw [hubN, List.map_map]; rfl
    · intro p hp
      refine ⟨_, [.ls true (ps.map LP.enc), .pv p.enc], rfl, ?_, ?_⟩
      · by_cases c : p.place = "hub"
        · simp [ft_l_at_hub_1, LP.enc, c]
        · simp [ft_l_at_hub_1, LP.enc, c]
      · by_cases c : (decide (p.place = "hub") && p.on) = true
        · refine .inr ⟨c, [.ls true (ps.map LP.enc), .pv p.enc], ?_, rfl⟩
          simp [fe_l_at_hub_1, LP.enc]
        · exact .inl ⟨by simpa using c, rfl⟩
  simp [R_l_at_hub, runF_def, f_l_at_hub, hc]
theorem mem_offs {ps : List LP} (ok : LPok ps) {p : LP} (hp : p ∈ ps) : (p.name ∈ offs ps) ↔ p.on = false := by
  unfold offs
  constructor
  · intro h
    obtain ⟨q, hq, e⟩ := List.mem_map.mp h
    obtain ⟨h1, h2⟩ := List.mem_filter.mp hq
    have : q = p := by
      have nd := ok.nd
      have key : ∀ l : List LP, (l.map (·.name)).Nodup → ∀ a ∈ l, ∀ b ∈ l, a.name = b.name → a = b := by
        intro l
        induction l with
        | nil => intro _ a ha; cases ha
        | cons x xs ih =>
          intro hn a ha b hb hab
          obtain ⟨n1, n2⟩ := List.nodup_cons.mp (show (x.name :: xs.map (·.name)).Nodup from hn)
          rcases List.mem_cons.mp ha with ea | ha <;> rcases List.mem_cons.mp hb with eb | hb
          · rw [ea, eb]
          · rw [ea] at hab; exact absurd (List.mem_map.mpr ⟨b, hb, hab.symm⟩) n1
          · rw [eb] at hab; exact absurd (List.mem_map.mpr ⟨a, ha, hab⟩) n1
          · exact ih n2 a ha b hb hab
      exact key ps nd q h1 p hp e
    rw [this] at h2
    simpa using h2
  · intro h
    exact List.mem_map.mpr ⟨p, List.mem_filter.mpr ⟨hp, by simp [h]⟩, rfl⟩
theorem at_hub (k r : Str) {ps : List LP} (ok : LPok ps) : (hallP k r ps).at "hub" = hubN ps := by
  unfold HallM.at hubN hubs hallP hallW
  simp only [List.map_nil, List.append_nil]
  rw [List.filter_map, List.map_map]
  congr 1
  apply List.filter_congr
  intro p hp
  have h := mem_offs ok hp
  show (decide (p.place = "hub") && !decide (p.name ∈ offs ps)) = (decide (p.place = "hub") && p.on)
  cases hon : p.on with
  | true =>
    have : ¬ p.name ∈ offs ps := fun z => by rw [h.mp z] at hon; cases hon
    simp [this]
  | false => simp [h.mpr hon]
theorem hub_iff {ps : List LP} (ok : LPok ps) {p : LP} (hp : p ∈ ps) : (p.name ∈ hubN ps) ↔ p ∈ hubs ps := by
  constructor
  · intro h
    obtain ⟨q, hq, e⟩ := List.mem_map.mp h
    have hq' := (List.mem_filter.mp hq).1
    have key : ∀ l : List LP, (l.map (·.name)).Nodup → ∀ a ∈ l, ∀ b ∈ l, a.name = b.name → a = b := by
      intro l
      induction l with
      | nil => intro _ a ha; cases ha
      | cons x xs ih =>
        intro hn a ha b hb hab
        obtain ⟨n1, n2⟩ := List.nodup_cons.mp (show (x.name :: xs.map (·.name)).Nodup from hn)
        rcases List.mem_cons.mp ha with ea | ha <;> rcases List.mem_cons.mp hb with eb | hb
        · rw [ea, eb]
        · rw [ea] at hab; exact absurd (List.mem_map.mpr ⟨b, hb, hab.symm⟩) n1
        · rw [eb] at hab; exact absurd (List.mem_map.mpr ⟨a, ha, hab⟩) n1
        · exact ih n2 a ha b hb hab
    rw [← key ps ok.nd q hq' p hp e]; exact hq
  · intro h; exact List.mem_map.mpr ⟨p, h, rfl⟩
theorem flatMap_filter {α β : Type} (q : α → Bool) (f g : α → List β) : ∀ xs : List α, (∀ x ∈ xs, q x = true → g x = f x) → (∀ x ∈ xs, q x = false → g x = []) → (xs.filter q).flatMap f = xs.flatMap g
  | [], _, _ => rfl
  | x :: xs, h1, h2 => by
    have ih := flatMap_filter q f g xs (fun z hz => h1 z (List.mem_cons_of_mem _ hz)) (fun z hz => h2 z (List.mem_cons_of_mem _ hz))
    rw [List.flatMap_cons]
    cases c : q x with
    | true => rw [List.filter_cons_of_pos c, List.flatMap_cons, ih, h1 x List.mem_cons_self c]
    | false => rw [List.filter_cons_of_neg (by simp [c]), ih, h2 x List.mem_cons_self c]; rfl
/-- told by the names, told by the pieces: the same pairs -/
theorem pairs_hubs {ps : List LP} (ok : LPok ps) : (hubs ps).flatMap (pairOf (hubN ps)) = pairsL ps (hubN ps) := by
  refine flatMap_filter _ _ _ ps (fun p hp c => ?_) (fun p hp c => ?_)
  · exact if_pos ((hub_iff ok hp).mpr (List.mem_filter.mpr ⟨hp, c⟩))
  · refine if_neg fun h => ?_
    have := (List.mem_filter.mp ((hub_iff ok hp).mp h)).2
    rw [c] at this; cases this
theorem cA (A B C : Sl) (p : LP) (names ys : List Str) (hB : B = .ls true (names.map PyData.str)) (hl : ys.length ≤ 1000) : compE (fun _ => True) (tgName 4) [4] ft_l_pairs_1 fe_l_pairs_1 (ys.map PyData.str) [A, B, C, .pv p.enc, .un] =
    .ok (.ow (.ls false ((pairA p.name ys names).map enc2))) [A, B, C, .pv p.enc, .un] := by
  subst hB
  rw [compE_map (gd := fun _ => True) PyData.str (fun z => decide (z ∈ names)) (fun z => enc2 (p.name, z)) ys _ (by omega) rfl trivial rfl]
  · rw [pairA, List.map_map]; rfl
  · intro z hz
    refine ⟨_, [A, .ls true (names.map PyData.str), C, .pv p.enc, .pv (.str z)], rfl, by simp [ft_l_pairs_1, opIn_bor _ _ z names], ?_⟩
    by_cases c : z ∈ names
    · refine .inr ⟨by simp [c], [A, .ls true (names.map PyData.str), C, .pv p.enc, .pv (.str z)], ?_, rfl⟩
      simp [fe_l_pairs_1, LP.enc, enc2]
    · exact .inl ⟨by simp [c], rfl⟩
theorem cB (A B C : Sl) (p : LP) (names ys : List Str) (hB : B = .ls true (names.map PyData.str)) (hl : ys.length ≤ 1000) : compE (fun _ => True) (tgName 4) [4] ft_l_pairs_2 fe_l_pairs_2 (ys.map PyData.str) [A, B, C, .pv p.enc, .un] =
    .ok (.ow (.ls false ((pairB p.name ys names).map enc2))) [A, B, C, .pv p.enc, .un] := by
  subst hB
  rw [compE_map (gd := fun _ => True) PyData.str (fun z => decide (z ∈ names)) (fun z => enc2 (z, p.name)) ys _ (by omega) rfl trivial rfl]
  · rw [pairB, List.map_map]; rfl
  · intro z hz
    refine ⟨_, [A, .ls true (names.map PyData.str), C, .pv p.enc, .pv (.str z)], rfl, by simp [ft_l_pairs_2, opIn_bor _ _ z names], ?_⟩
    by_cases c : z ∈ names
    · refine .inr ⟨by simp [c], [A, .ls true (names.map PyData.str), C, .pv p.enc, .pv (.str z)], ?_, rfl⟩
      simp [fe_l_pairs_2, LP.enc, enc2]
    · exact .inl ⟨by simp [c], rfl⟩
theorem e_l_pairs (ps : List LP) (ok : LPok ps) (names : List Str) : R_l_pairs [.ls true (ps.map LP.enc), .ls true (names.map PyData.str)] = .ok (.ow (.ls false ((pairsL ps names).map enc2))) [.ls true (ps.map LP.enc), .ls true (names.map PyData.str)] := by
  have hb := loop_eq (gd := fun e => e[0]? = some (Sl.ls true (ps.map LP.enc))) (tgt := tgName 3) (body := fb_l_pairs_1) LP.enc (fun due : List T2 => [.ls true (ps.map LP.enc), .ls true (names.map PyData.str), .ls false (due.map enc2), .un, .un]) (fun due p => due ++ pairIf names p) (fun i due => due.length ≤ 2000 * i) (fun _ => rfl) ps [] (Nat.zero_le _)
    (by
      intro i due p hp hd
      have hm := List.mem_of_getElem? hp
      have hi : i < ps.length := (List.getElem?_eq_some_iff.mp hp).1
      have l24 := ok.len
      have hlk := pair_len names ok hm
      obtain ⟨h3, h4, _, _⟩ := ok.few p hm
      have n1 := fun A C => cA A _ C p names p.ahead rfl h3
      have n2 := fun A C => cB A _ C p names p.behind rfl h4
      have hx : ∀ e : En, opIx e (.pv p.enc) (.pv (.int 0)) = some (.val (.str p.name)) := fun e => by simp [LP.enc]
      by_cases c : p.name ∈ names
      · have e0 : pairIf names p = pairOf names p := if_pos c
        rw [e0]
        refine ⟨_, rfl, ?_, by rw [List.length_append]; omega⟩
        unfold pairOf at hlk ⊢
        rw [List.length_append] at hlk
        have l1 : due.length + (pairA p.name p.ahead names).length ≤ 100000 := by omega
        have l2 : due.length + ((pairA p.name p.ahead names).length + (pairB p.name p.behind names).length) ≤ 100000 := by omega
        have hx3 : ∀ e : En, opIx e (.pv p.enc) (.pv (.int 3)) = some (.val (.list [strsD p.ahead, strsD p.behind, strsD p.needs, strsD p.bars])) := fun e => by simp [LP.enc]
        have e2 : strsD p.ahead = .list (p.ahead.map PyData.str) := rfl
        have e3 : strsD p.behind = .list (p.behind.map PyData.str) := rfl
        simp [fb_l_pairs_1, hx, hx3, opIn_bor _ _ p.name names, c, e2, e3, n1, n2, l1, l2, Nat.add_assoc]
      · have e0 : pairIf names p = [] := if_neg c
        rw [e0]
        refine ⟨_, rfl, ?_, by rw [List.append_nil]; omega⟩
        simp [fb_l_pairs_1, hx, opIn_bor _ _ p.name names, c])
  have h3 := hb.1
  rw [fold_flat, List.nil_append] at h3
  simp only [List.map_nil] at h3
  simp [R_l_pairs, runF_def, f_l_pairs, h3, pairsL]
end Fw
namespace Fw
open PySem L2
noncomputable def ft_pairs_of_1 : Ft := (fTest (fBin (opIn false) (fVar 5) (fVar 1)))
noncomputable def fe_pairs_of_1 : Fx := (fSeqD false (fCons (fDz (fVar 3)) (fCons (fDz (fVar 5)) fNil)))
noncomputable def ft_pairs_of_2 : Ft := (fTest (fBin (opIn false) (fVar 5) (fVar 1)))
noncomputable def fe_pairs_of_2 : Fx := (fSeqD false (fCons (fDz (fVar 5)) (fCons (fDz (fVar 3)) fNil)))
noncomputable def fb_pairs_of_1 : Fs := (fForget [3, 4]
  (fSeq (fAsg 4 (fMeth true 2 F_look (List.replicate 0 .none) 0 (fCons (fVar 3) fNil)))
  (fSeq (fExpr (fExt 2 (fLc (fPcl .ahead 4) (tgName 5) [5] ft_pairs_of_1 fe_pairs_of_1)))
  (fExpr (fExt 2 (fLc (fPcl .behind 4) (tgName 5) [5] ft_pairs_of_2 fe_pairs_of_2))))))
noncomputable def f_pairs_of : Fs := (fSeq (fAsg 2 (fSeqD true fNil))
  (fSeq (fPre [3, 4] (fFor (fVar 1) (tgName 3) fb_pairs_of_1))
  (fRet (fVar 2))))
noncomputable def R_pairs_of : Fx := runF 6 f_pairs_of
noncomputable def ft_laid_1 : Ft := (fAnd (fTest (fBin (opEq false) (fBin opIx (fVar 6) (fC (.int 1))) (fVar 5))) (fTest (fBin (opIn false) (fBin opIx (fVar 6) (fC (.int 0))) (fVar 3))))
noncomputable def fe_laid_1 : Fx := (fVar 6)
noncomputable def fb_laid_1 : Fs := (fForget []
  (fIf (fTest (fBin (opEq false) (fLc (fVar 1) (tgName 6) [6] ft_laid_1 fe_laid_1) (fSeqD true fNil)))
  (fSeq (fAsg 4 (fC (.bool true)))
  fBk)
  fNext))
noncomputable def fb_laid_2 : Fs := (fForget []
  (fSeq (fAsg 4 (fC (.bool false)))
  (fSeq (fPre [] (fFor (fVar 3) (tgName 5) fb_laid_1))
  (fIf (fTest (fVar 4))
  (fSeq (fExpr (fMut1 mApp 2 (fVar 5)))
  (fSeq (fExpr (fMut1 mRem 3 (fVar 5)))
  (fAsg 4 (fBin (opEq true) (fVar 3) (fSeqD true fNil)))))
  fNext))))
noncomputable def fw_laid_1 : Ft := (fTest (fVar 4))
noncomputable def f_laid : Fs := (fSeq (fAsg 2 (fSeqD true fNil))
  (fSeq (fAsg 3 (fUn opList (fVar 0)))
  (fSeq (fAsg 4 (fC (.bool true)))
  (fSeq (fPre [] (whileN fw_laid_1 fb_laid_2 1000))
  (fRet (fVar 2))))))
noncomputable def R_laid : Fx := runF 7 f_laid
noncomputable def fb_ring_from_1 : Fs := (fForget [6]
  (fIf (fTest (fBin (opIn false) (fSeqD false (fCons (fDz (fBin opIx (fBin opIx (fVar 3) (fVar 5)) (fUn opNeg (fC (.int 1))))) (fCons (fDz (fVar 6)) fNil))) (fVar 1)))
  (fSeq (fIf (fTest (fBin (opEq false) (fVar 6) (fVar 2)))
  (fRet (fBin opIx (fVar 3) (fVar 5)))
  fNext)
  (fIf (fTest (fDin true 4 (fVar 6)))
  (fSeq (fDput 4 (fVar 6) (fC (.bool true)))
  (fExpr (fMut1 mApp 3 (fBin opAdd (fBin opIx (fVar 3) (fVar 5)) (fSeqD true (fCons (fDz (fVar 6)) fNil))))))
  fNext))
  fNext))
noncomputable def fb_ring_from_2 : Fs := (fForget [6]
  (fSeq (fPre [6] (fFor (fVar 0) (tgName 6) fb_ring_from_1))
  (fAsg 5 (fBin opAdd (fVar 5) (fC (.int 1))))))
noncomputable def fw_ring_from_1 : Ft := (fTest (fBin opLt (fVar 5) (fUn opLen (fVar 3))))
noncomputable def f_ring_from : Fs := (fSeq (fAsg 3 (fSeqD true (fCons (fDz (fSeqD true (fCons (fDz (fVar 2)) fNil))) fNil)))
  (fSeq (fAsg 4 fDnew)
  (fSeq (fAsg 5 (fC (.int 0)))
  (fSeq (fPre [6] (whileN fw_ring_from_1 fb_ring_from_2 1000))
  (fRet (fC .none))))))
noncomputable def R_ring_from : Fx := runF 7 f_ring_from
noncomputable def fb_shortest_ring_1 : Fs := (fForget [3, 4]
  (fSeq (fAsg 4 (fCall 3 R_ring_from [] (fCons (fVar 0) (fCons (fVar 1) (fCons (fVar 3) fNil)))))
  (fIf (fAnd (fTest (fBin (opIsN true) (fVar 4) (fC .none))) (fOr (fTest (fBin (opIsN false) (fVar 2) (fC .none))) (fTest (fBin opLt (fUn opLen (fVar 4)) (fUn opLen (fVar 2))))))
  (fAsg 2 (fVar 4))
  fNext)))
noncomputable def f_shortest_ring : Fs := (fSeq (fAsg 2 (fC .none))
  (fSeq (fPre [3, 4] (fFor (fVar 0) (tgName 3) fb_shortest_ring_1))
  (fRet (fVar 2))))
noncomputable def R_shortest_ring : Fx := runF 5 f_shortest_ring
noncomputable def f_order_of : Fs := (fSeq (fAsg 2 (fCall 2 (liftF R_pairs_of) [] (fCons (fVar 0) (fCons (fVar 1) fNil))))
  (fSeq (fAsg 3 (fCall 2 R_laid [] (fCons (fVar 1) (fCons (fVar 2) fNil))))
  (fSeq (fIf (fTest (fBin opLt (fUn opLen (fVar 3)) (fUn opLen (fVar 1))))
  (fRaiseF "Ring" ["ring"] (fCons (fDz (fCall 2 R_shortest_ring [] (fCons (fVar 1) (fCons (fVar 2) fNil)))) fNil))
  fNext)
  (fRet (fVar 3)))))
noncomputable def R_order_of : Fx := runF 4 f_order_of
noncomputable def f_order : Fs := (fRet (fCall 2 (liftF R_order_of) [] (fCons (fVar 0) (fCons (fMeth true 2 (liftF F_at) (List.replicate 0 .none) 0 (fCons (fVar 1) fNil)) fNil))))
noncomputable def R_order : Fx := runF 2 f_order
noncomputable def fe_rows_of_1 : Fx := (fSeqD false (fCons (fDz (fVar 2)) (fCons (fDz (fPat .deed (fMeth true 2 F_look (List.replicate 0 .none) 0 (fCons (fVar 2) fNil)))) fNil)))
noncomputable def f_rows_of : Fs := (fRet (fLc (fVar 1) (tgName 2) [2] fYes fe_rows_of_1))
noncomputable def R_rows_of : Fx := runF 3 f_rows_of
noncomputable def f_Run_over : Fs := (fRet (fOrV (fRget .shut 0) (fBin (opEq false) (fRget .spot 0) (fUn opLen (fRget .rows 0)))))
noncomputable def R_Run_over : Fx := runF 1 f_Run_over
noncomputable def f_said_by : Fs := (fSeq (fIf (fTest (fBin (opEq false) (fBin opIx (fVar 0) (fC (.int 0))) (fC (.str "add"))))
  (fRet (fBin opAdd (fVar 1) (fBin opIx (fVar 0) (fC (.int 1)))))
  fNext)
  (fSeq (fIf (fTest (fBin (opEq false) (fBin opIx (fVar 0) (fC (.int 0))) (fC (.str "say"))))
  (fRet (fBin opIx (fVar 0) (fC (.int 1))))
  fNext)
  (fRet (fC .none))))
noncomputable def R_said_by : Fx := runF 2 f_said_by
noncomputable def f_Run_take : Fs := (fSeq (fAsg 3 (fCall 2 R_said_by [] (fCons (fVar 2) (fCons (fRget .worth 0) fNil))))
  (fIf (fTest (fBin (opEq false) (fRget .kind 0) (fC (.str "all"))))
  (fRapp .told 0 (gTup2 (gVar 1) (gVar 3)))
  (fIf (fAnd (fTest (fBin (opEq false) (fRget .kind 0) (fC (.str "first")))) (fTest (fBin (opIsN true) (fVar 3) (fC .none))))
  (fSeq (fRapp .told 0 (gVar 3))
  (fRput .shut 0 (fC (.bool true))))
  (fIf (fAnd (fTest (fBin (opEq false) (fRget .kind 0) (fC (.str "chain")))) (fTest (fBin (opIsN true) (fVar 3) (fC .none))))
  (fRput .worth 0 (fVar 3))
  (fIf (fAnd (fTest (fBin (opEq false) (fRget .kind 0) (fC (.str "round")))) (fTest (fBin (opIsN true) (fVar 3) (fC .none))))
  (fSeq (fRput .worth 0 (fVar 3))
  (fIf (fTest (fBin (opEq false) (fBin opIx (fVar 2) (fC (.int 0))) (fC (.str "add"))))
  (fRapp .backs 0 (gIx (gVar 2) (gInt 1)))
  (fRput .shut 0 (fC (.bool true)))))
  fNext)))))
noncomputable def R_Run_take : Fx := runF 4 f_Run_take
noncomputable def f_Run_step : Fs := (fSeq (fIf (fTest (fMeth false 1 R_Run_over (List.replicate 0 .none) 0 fNil))
  (fRet (fC .none))
  fNext)
  (fSeq (fAsg 1 (fBin opIx (fRget .rows 0) (fRget .spot 0)))
  (fSeq (fRput .spot 0 (fBin opAdd (fRget .spot 0) (fC (.int 1))))
  (fSeq (fIf (fTest (fBin (opEq true) (fBin opIx (fBin opIx (fVar 1) (fC (.int 1))) (fC (.int 0))) (fC (.str "fail"))))
  (fExpr (fMeth false 3 R_Run_take (List.replicate 0 .none) 0 (fCons (fBin opIx (fVar 1) (fC (.int 0))) (fCons (fBin opIx (fVar 1) (fC (.int 1))) fNil))))
  (fIf (fTest (fBin (opEq false) (fRget .rule 0) (fC (.str "hand"))))
  (fSeq (fRput .shut 0 (fC (.bool true)))
  (fSeq (fRput .torn 0 (fC (.bool true)))
  (fRaiseF "DeedFault" ["piece", "code"] (fCons (fDz (fBin opIx (fVar 1) (fC (.int 0)))) (fCons (fDz (fBin opIx (fBin opIx (fVar 1) (fC (.int 1))) (fC (.int 1)))) fNil)))))
  (fRapp .held 0 (gTup2 (gIx (gVar 1) (gInt 0)) (gIx (gIx (gVar 1) (gInt 1)) (gInt 1))))))
  (fRet (fBin opIx (fVar 1) (fC (.int 0))))))))
noncomputable def R_Run_step : Fx := runF 2 f_Run_step
noncomputable def f_Run_answer : Fs := (fSeq (fIf (fOr (fNot (fTest (fMeth false 1 R_Run_over (List.replicate 0 .none) 0 fNil))) (fTest (fRget .torn 0)))
  (fRaise "NoAnswer")
  fNext)
  (fSeq (fIf (fTest (fBin (opEq false) (fRget .kind 0) (fC (.str "all"))))
  (fRet (fRlist .told 0))
  fNext)
  (fSeq (fIf (fTest (fBin (opEq false) (fRget .kind 0) (fC (.str "first"))))
  (fSeq (fIf (fTest (fRnil .told 0))
  (fRet (fC .none))
  fNext)
  (fRet (fRix .told 0 0)))
  fNext)
  (fSeq (fAsg 1 (fRget .worth 0))
  (fSeq (fPre [2] (fForB 0 1 2))
  (fRet (fVar 1)))))))
noncomputable def R_Run_answer : Fx := runF 3 f_Run_answer
noncomputable def f_Run_faults : Fs := (fRet (fRlist .held 0))
noncomputable def R_Run_faults : Fx := runF 1 f_Run_faults
noncomputable def f_begin : Fs := (fSeq (fAsg 3 (fCall 2 (liftF R_order) [] (fCons (fVar 0) (fCons (fVar 1) fNil))))
  (fRet (fRun (fCons (fDz (fAget .kinds 0 1)) (fCons (fDz (fAget .rules 0 1)) (fCons (fDz (fCall 2 R_rows_of [] (fCons (fVar 0) (fCons (fVar 3) fNil)))) (fCons (fDz (fVar 2)) fNil)))))))
noncomputable def R_begin : Fx := runF 4 f_begin
noncomputable def fb_finished_1 : Fs := (fForget []
  (fExpr (fMeth false 1 R_Run_step (List.replicate 0 .none) 0 fNil)))
noncomputable def fw_finished_1 : Ft := (fNot (fTest (fMeth false 1 R_Run_over (List.replicate 0 .none) 0 fNil)))
noncomputable def f_finished : Fs := (fSeq (fPre [] (whileN fw_finished_1 fb_finished_1 1000))
  (fRet (fSeqD false (fCons (fDz (fMeth false 1 R_Run_answer (List.replicate 0 .none) 0 fNil)) (fCons (fDz (fMeth false 1 R_Run_faults (List.replicate 0 .none) 0 fNil)) fNil)))))
noncomputable def R_finished : Fx := runF 1 f_finished
noncomputable def f_call : Fs := (fRet (fCallO 1 R_finished (fCall 3 (liftF R_begin) [] (fCons (fVar 0) (fCons (fVar 1) (fCons (fVar 2) fNil)))) gNil))
noncomputable def R_call : Fx := runF 3 f_call
noncomputable def f_outcome : Fs := (fSeq (fAsg 4 (fRun (fCons (fDz (fAget .kinds 0 1)) (fCons (fDz (fAget .rules 0 1)) (fCons (fDz (fCall 2 R_rows_of [] (fCons (fVar 0) (fCons (fCall 2 (liftF R_order_of) [] (fCons (fVar 0) (fCons (fVar 2) fNil))) fNil)))) (fCons (fDz (fVar 3)) fNil))))))
  (fSeq (fTry (fAsg 5 (fCall 1 R_finished [] (fCons (fVar 4) fNil))) [("DeedFault", some 6, (fRet (fSeqD false (fCons (fDz (fC (.str "fault"))) (fCons (fDz (fXf 6 "DeedFault" "piece")) (fCons (fDz (fXf 6 "DeedFault" "code")) fNil))))))])
  (fRet (fSeqD false (fCons (fDz (fC (.str "told"))) (fCons (fDz (fBin opIx (fVar 5) (fC (.int 0)))) (fCons (fDz (fBin opIx (fVar 5) (fC (.int 1)))) fNil)))))))
noncomputable def R_outcome : Fx := runF 7 f_outcome
noncomputable def ft_mattering_1 : Ft := (fTest (fBin (opEq true) (fVar 7) (fVar 5)))
noncomputable def fe_mattering_1 : Fx := (fVar 7)
noncomputable def fb_mattering_1 : Fs := (fForget [5, 6]
  (fSeq (fAsg 6 (fLc (fMeth true 2 (liftF F_at) (List.replicate 0 .none) 0 (fCons (fVar 1) fNil)) (tgName 7) [7] ft_mattering_1 fe_mattering_1))
  (fIf (fTest (fBin (opEq true) (fCall 4 R_outcome [] (fCons (fVar 0) (fCons (fVar 1) (fCons (fDz (fVar 6)) (fCons (fVar 2) fNil))))) (fVar 3)))
  (fExpr (fMut1 mApp 4 (fVar 5)))
  fNext)))
noncomputable def f_mattering : Fs := (fSeq (fAsg 3 (fCall 4 R_outcome [] (fCons (fVar 0) (fCons (fVar 1) (fCons (fMeth true 2 (liftF F_at) (List.replicate 0 .none) 0 (fCons (fVar 1) fNil)) (fCons (fVar 2) fNil))))))
  (fSeq (fAsg 4 (fSeqD true fNil))
  (fSeq (fPre [5, 6] (fFor (fCall 2 (liftF R_order) [] (fCons (fVar 0) (fCons (fVar 1) fNil))) (tgName 5) fb_mattering_1))
  (fRet (fVar 4)))))
noncomputable def R_mattering : Fx := runF 8 f_mattering
noncomputable def ft_lacks_1 : Ft := (fTest (fBin (opIn true) (fVar 5) (fVar 1)))
noncomputable def fe_lacks_1 : Fx := (fSeqD false (fCons (fDz (fC (.str "needs"))) (fCons (fDz (fVar 3)) (fCons (fDz (fVar 5)) fNil))))
noncomputable def ft_lacks_2 : Ft := (fTest (fBin (opIn false) (fVar 5) (fVar 1)))
noncomputable def fe_lacks_2 : Fx := (fSeqD false (fCons (fDz (fC (.str "bars"))) (fCons (fDz (fVar 3)) (fCons (fDz (fVar 5)) fNil))))
noncomputable def fb_lacks_1 : Fs := (fForget [3, 4]
  (fIf (fTest (fBin (opIn false) (fVar 3) (fVar 1)))
  (fSeq (fAsg 4 (fMeth true 2 F_look (List.replicate 0 .none) 0 (fCons (fVar 3) fNil)))
  (fSeq (fExpr (fExt 2 (fLc (fPcl .needs 4) (tgName 5) [5] ft_lacks_1 fe_lacks_1)))
  (fExpr (fExt 2 (fLc (fPcl .bars 4) (tgName 5) [5] ft_lacks_2 fe_lacks_2)))))
  fNext))
noncomputable def f_lacks : Fs := (fSeq (fAsg 2 (fSeqD true fNil))
  (fSeq (fPre [3, 4] (fFor (fMeth true 1 (liftF F_names) (List.replicate 0 .none) 0 fNil) (tgName 3) fb_lacks_1))
  (fRet (fVar 2))))
noncomputable def R_lacks : Fx := runF 6 f_lacks
noncomputable def f_fits : Fs := (fRet (fBin (opEq false) (fCall 2 (liftF R_lacks) [] (fCons (fVar 0) (fCons (fVar 1) fNil))) (fSeqD true fNil)))
noncomputable def R_fits : Fx := runF 2 f_fits
noncomputable def fb_with_needs_1 : Fs := (fForget [4]
  (fSeq (fIf (fNot (fTest (fMeth true 2 (liftF R_Hall_has) (List.replicate 0 .none) 0 (fCons (fVar 4) fNil))))
  (fRaise "NoPiece")
  fNext)
  (fIf (fTest (fBin (opIn true) (fVar 4) (fVar 2)))
  (fExpr (fMut1 mApp 2 (fVar 4)))
  fNext)))
noncomputable def fb_with_needs_2 : Fs := (fForget [4]
  (fSeq (fPre [4] (fFor (fPatL .needs (fMeth true 2 F_look (List.replicate 0 .none) 0 (fCons (fBin opIx (fVar 2) (fVar 3)) fNil))) (tgName 4) fb_with_needs_1))
  (fAsg 3 (fBin opAdd (fVar 3) (fC (.int 1))))))
noncomputable def fw_with_needs_1 : Ft := (fTest (fBin opLt (fVar 3) (fUn opLen (fVar 2))))
noncomputable def ft_with_needs_1 : Ft := (fTest (fBin (opIn false) (fVar 7) (fVar 2)))
noncomputable def fe_with_needs_1 : Fx := (fVar 7)
noncomputable def fb_with_needs_3 : Fs := (fForget [6]
  (fRaiseF "Barred" ["one", "other"] (fCons (fDz (fBin opIx (fVar 6) (fC (.int 1)))) (fCons (fDz (fBin opIx (fVar 6) (fC (.int 2)))) fNil))))
noncomputable def f_with_needs : Fs := (fSeq (fAsg 2 (fSeqD true (fCons (fDz (fPat .name (fMeth true 2 F_look (List.replicate 0 .none) 0 (fCons (fVar 1) fNil)))) fNil)))
  (fSeq (fAsg 3 (fC (.int 0)))
  (fSeq (fPre [4] (whileN fw_with_needs_1 fb_with_needs_2 1000))
  (fSeq (fAsg 5 (fLc (fMeth true 1 (liftF F_names) (List.replicate 0 .none) 0 fNil) (tgName 7) [7] ft_with_needs_1 fe_with_needs_1))
  (fSeq (fPre [6] (fFor (fCall 2 (liftF R_lacks) [] (fCons (fVar 0) (fCons (fVar 5) fNil))) (tgName 6) fb_with_needs_3))
  (fRet (fVar 5)))))))
noncomputable def R_with_needs : Fx := runF 8 f_with_needs
end Fw
namespace Fw
open PySem L2
noncomputable def f_l_said : Fs := (fSeq (fIf (fTest (fBin (opEq false) (fBin opIx (fVar 0) (fC (.int 0))) (fC (.str "add"))))
  (fRet (fBin opAdd (fVar 1) (fBin opIx (fVar 0) (fC (.int 1)))))
  fNext)
  (fSeq (fIf (fTest (fBin (opEq false) (fBin opIx (fVar 0) (fC (.int 0))) (fC (.str "say"))))
  (fRet (fBin opIx (fVar 0) (fC (.int 1))))
  fNext)
  (fRet (fC .none))))
noncomputable def R_l_said : Fx := runF 2 f_l_said
noncomputable def f_l_round (Frec : Fx) : Fs := (fSeq (fIf (fTest (fBin (opEq false) (fVar 0) (fSeqD true fNil)))
  (fRet (fVar 1))
  fNext)
  (fSeq (fAsg 3 (fBin opIx (fBin opIx (fVar 0) (fC (.int 0))) (fC (.int 1))))
  (fSeq (fIf (fTest (fBin (opEq false) (fBin opIx (fVar 3) (fC (.int 0))) (fC (.str "say"))))
  (fRet (fBin opIx (fVar 3) (fC (.int 1))))
  fNext)
  (fSeq (fIf (fTest (fBin (opEq false) (fBin opIx (fVar 3) (fC (.int 0))) (fC (.str "add"))))
  (fRet (fBin opAdd (fBin opMul (fC (.int 10)) (fCall 3 Frec [] (fCons (fSl (fVar 0) (some (fC (.int 1))) none) (fCons (fBin opAdd (fVar 1) (fBin opIx (fVar 3) (fC (.int 1)))) (fCons (fVar 2) fNil))))) (fBin opIx (fVar 3) (fC (.int 1)))))
  fNext)
  (fSeq (fIf (fTest (fBin (opEq false) (fBin opIx (fVar 3) (fC (.int 0))) (fC (.str "fail"))))
  (fExpr (fMut1 mApp 2 (fSeqD false (fCons (fDz (fBin opIx (fBin opIx (fVar 0) (fC (.int 0))) (fC (.int 0)))) (fCons (fDz (fBin opIx (fVar 3) (fC (.int 1)))) fNil)))))
  fNext)
  (fRet (fCall 3 Frec [] (fCons (fSl (fVar 0) (some (fC (.int 1))) none) (fCons (fVar 1) (fCons (fVar 2) fNil))))))))))
noncomputable def R_l_round : Fx := recF 4 f_l_round 24
noncomputable def fb_l_answer_1 : Fs := (fForget [5, 6, 7]
  (fSeq (fAsg 7 (fCall 2 R_l_said [] (fCons (fVar 6) (fCons (fVar 2) fNil))))
  (fIf (fTest (fBin (opEq false) (fBin opIx (fVar 6) (fC (.int 0))) (fC (.str "fail"))))
  (fExpr (fMut1 mApp 3 (fSeqD false (fCons (fDz (fVar 5)) (fCons (fDz (fBin opIx (fVar 6) (fC (.int 1)))) fNil)))))
  (fIf (fAnd (fTest (fBin (opEq false) (fVar 0) (fC (.str "first")))) (fTest (fBin (opIsN true) (fVar 7) (fC .none))))
  (fRet (fVar 7))
  (fIf (fTest (fBin (opEq false) (fVar 0) (fC (.str "all"))))
  (fExpr (fMut1 mApp 4 (fSeqD false (fCons (fDz (fVar 5)) (fCons (fDz (fVar 7)) fNil)))))
  (fIf (fAnd (fTest (fBin (opEq false) (fVar 0) (fC (.str "chain")))) (fTest (fBin (opIsN true) (fVar 7) (fC .none))))
  (fAsg 2 (fVar 7))
  fNext))))))
noncomputable def f_l_answer : Fs := (fSeq (fIf (fTest (fBin (opEq false) (fVar 0) (fC (.str "round"))))
  (fRet (fCall 3 R_l_round [] (fCons (fVar 1) (fCons (fVar 2) (fCons (fVar 3) fNil)))))
  fNext)
  (fSeq (fAsg 4 (fSeqD true fNil))
  (fSeq (fPre [5, 6, 7] (fFor (fVar 1) (tgPair 5 6) fb_l_answer_1))
  (fRet (fDsel [("all", .v 4), ("first", .c .none), ("chain", .v 2)] 0)))))
noncomputable def R_l_answer : Fx := runF 8 f_l_answer
noncomputable def f_l_outcome : Fs := (fSeq (fAsg 4 (fSeqD true fNil))
  (fSeq (fAsg 5 (fCall 4 R_l_answer [] (fCons (fVar 0) (fCons (fVar 2) (fCons (fVar 3) (fCons (fVar 4) fNil))))))
  (fSeq (fIf (fAnd (fTest (fBin (opEq false) (fVar 1) (fC (.str "hand")))) (fTest (fBin (opEq true) (fVar 4) (fSeqD true fNil))))
  (fRet (fSeqD false (fCons (fDz (fC (.str "fault"))) (fCons (fDz (fBin opIx (fVar 4) (fC (.int 0)))) fNil))))
  fNext)
  (fRet (fSeqD false (fCons (fDz (fC (.str "told"))) (fCons (fDz (fSeqD false (fCons (fDz (fVar 5)) (fCons (fDz (fVar 4)) fNil)))) fNil)))))))
noncomputable def R_l_outcome : Fx := runF 6 f_l_outcome
noncomputable def f_l_whole : Fs := (fRet (fAndV (fUn (opIsi "int") (fVar 0)) (fNotV (fUn (opIsi "bool") (fVar 0)))))
noncomputable def R_l_whole : Fx := runF 1 f_l_whole
noncomputable def f_l_value : Fs := (fSeq (fIf (fTest (fBin (opIsN false) (fVar 1) (fC .none)))
  (fRet (fBin (opIsN false) (fVar 0) (fC .none)))
  fNext)
  (fRet (fAndV (fCall 1 R_l_whole [] (fCons (fVar 0) fNil)) (fBin (opEq false) (fVar 0) (fVar 1)))))
noncomputable def R_l_value : Fx := runF 2 f_l_value
noncomputable def fb_l_pairs_alike_1 : Fs := (fForget [2, 3]
  (fSeq (fAsg 3 (fBin opIx (fVar 0) (fVar 2)))
  (fIf (fOr (fNot (fTest (fUn (opIsi "tuple") (fVar 3)))) (fOr (fTest (fBin (opEq true) (fUn opLen (fVar 3)) (fC (.int 2)))) (fOr (fTest (fBin (opEq true) (fBin opIx (fVar 3) (fC (.int 0))) (fBin opIx (fBin opIx (fVar 1) (fVar 2)) (fC (.int 0))))) (fNot (fTest (fCall 2 R_l_value [] (fCons (fBin opIx (fVar 3) (fC (.int 1))) (fCons (fBin opIx (fBin opIx (fVar 1) (fVar 2)) (fC (.int 1))) fNil))))))))
  (fRet (fC (.bool false)))
  fNext)))
noncomputable def f_l_pairs_alike : Fs := (fSeq (fIf (fOr (fNot (fTest (fUn (opIsi "list") (fVar 0)))) (fTest (fBin (opEq true) (fUn opLen (fVar 0)) (fUn opLen (fVar 1)))))
  (fRet (fC (.bool false)))
  fNext)
  (fSeq (fPre [2, 3] (fForR1 (fUn opLen (fVar 1)) (tgName 2) fb_l_pairs_alike_1))
  (fRet (fC (.bool true)))))
noncomputable def R_l_pairs_alike : Fx := runF 4 f_l_pairs_alike
noncomputable def f_l_answer_right : Fs := (fSeq (fIf (fTest (fUn (opIsi "list") (fVar 1)))
  (fRet (fCall 2 R_l_pairs_alike [] (fCons (fVar 0) (fCons (fVar 1) fNil))))
  fNext)
  (fRet (fCall 2 R_l_value [] (fCons (fVar 0) (fCons (fVar 1) fNil)))))
noncomputable def R_l_answer_right : Fx := runF 2 f_l_answer_right
noncomputable def fe_l_set_1 : Fx := (fSeqD false (fCons (fDz (fBin opIx (fVar 2) (fC (.int 0)))) (fCons (fDz (fBin opIx (fVar 2) (fC (.int 1)))) (fCons (fDz (fBin opIx (fVar 2) (fC (.int 2)))) (fCons (fDz (fSeqD true (fCons (fDz (fSeqD true fNil)) (fCons (fDz (fSeqD true fNil)) (fCons (fDz (fBin opIx (fBin opIx (fVar 2) (fC (.int 3))) (fC (.int 2)))) (fCons (fDz (fBin opIx (fBin opIx (fVar 2) (fC (.int 3))) (fC (.int 3)))) fNil)))))) (fCons (fDz (fBin opIx (fVar 2) (fC (.int 4)))) fNil))))))
noncomputable def f_l_set : Fs := (fSeq (fAsg 1 (fCall 3 R_l_pieces [] (fCons (fVar 0) (fCons (fC (.int 3)) (fCons (fBin opMod (fCall 2 R_l_cell_at [] (fCons (fVar 0) (fCons (fC (.int 0)) fNil))) (fC (.int 11))) fNil)))))
  (fSeq (fIf (fTest (fBin opGt (fBin opMod (fBin opDiv (fCall 2 R_l_cell_at [] (fCons (fVar 0) (fCons (fC (.int 1)) fNil))) (fC (.int 8))) (fC (.int 3))) (fC (.int 0))))
  (fAsg 1 (fLc (fVar 1) (tgName 2) [2] fYes fe_l_set_1))
  fNext)
  (fRet (fVar 1))))
noncomputable def R_l_set : Fx := runF 3 f_l_set
end Fw
namespace Fw
open PySem L2
/-! ### the program's pairs -/
theorem dA (A C D : Sl) (n : Str) (N : Sl) (names ys : List Str) (hN : N = .pv (.list (names.map PyData.str))) (hl : ys.length ≤ 1000) : compE (fun _ => True) (tgName 5) [5] ft_pairs_of_1 fe_pairs_of_1 (ys.map PyData.str) [A, N, C, .pv (.str n), D, .un] =
    .ok (.ow (.ls false ((pairA n ys names).map enc2))) [A, N, C, .pv (.str n), D, .un] := by
  subst hN
  rw [compE_map (gd := fun _ => True) PyData.str (fun z => decide (z ∈ names)) (fun z => enc2 (n, z)) ys _ (by omega) rfl trivial rfl]
  · rw [pairA, List.map_map]; rfl
  · intro z hz
    refine ⟨_, [A, .pv (.list (names.map PyData.str)), C, .pv (.str n), D, .pv (.str z)], rfl, by simp [ft_pairs_of_1], ?_⟩
    by_cases c : z ∈ names
    · refine .inr ⟨by simp [c], [A, .pv (.list (names.map PyData.str)), C, .pv (.str n), D, .pv (.str z)], ?_, rfl⟩
      simp [fe_pairs_of_1, enc2]
    · exact .inl ⟨by simp [c], rfl⟩
theorem dB (A C D : Sl) (n : Str) (N : Sl) (names ys : List Str) (hN : N = .pv (.list (names.map PyData.str))) (hl : ys.length ≤ 1000) : compE (fun _ => True) (tgName 5) [5] ft_pairs_of_2 fe_pairs_of_2 (ys.map PyData.str) [A, N, C, .pv (.str n), D, .un] =
    .ok (.ow (.ls false ((pairB n ys names).map enc2))) [A, N, C, .pv (.str n), D, .un] := by
  subst hN
  rw [compE_map (gd := fun _ => True) PyData.str (fun z => decide (z ∈ names)) (fun z => enc2 (z, n)) ys _ (by omega) rfl trivial rfl]
  · rw [pairB, List.map_map]; rfl
  · intro z hz
    refine ⟨_, [A, .pv (.list (names.map PyData.str)), C, .pv (.str n), D, .pv (.str z)], rfl, by simp [ft_pairs_of_2], ?_⟩
    by_cases c : z ∈ names
    · refine .inr ⟨by simp [c], [A, .pv (.list (names.map PyData.str)), C, .pv (.str n), D, .pv (.str z)], ?_, rfl⟩
      simp [fe_pairs_of_2, enc2]
    · exact .inl ⟨by simp [c], rfl⟩
theorem find_pc (k r : Str) {ps : List LP} (ok : LPok ps) {p : LP} (hp : p ∈ ps) : (hallP k r ps).find p.name = some p.pc := by
  obtain ⟨i, hi, h⟩ := List.mem_iff_getElem.mp hp
  have h' : ps[i]? = some p := by rw [List.getElem?_eq_getElem hi, h]
  unfold HallM.find
  have e : (hallP k r ps).pieces = ps.map LP.pc := by unfold hallP hallW; simp
  rw [e]
  refine find_at (i := i) (by rw [List.getElem?_map, h']; rfl) rfl fun d hd => ?_
  rw [← List.map_take] at hd
  obtain ⟨q, hq, rfl⟩ := List.mem_map.mp hd
  intro e2
  have hsp : ps = ps.take i ++ p :: ps.drop (i + 1) := by
    rw [← h]; simp
  have nd := ok.nd
  rw [hsp, List.map_append, List.map_cons] at nd
  exact (List.nodup_append.mp nd).2.2 _ (List.mem_map.mpr ⟨q, hq, rfl⟩) _ List.mem_cons_self e2
theorem hubs_len (ps : List LP) : (hubs ps).length ≤ ps.length := List.length_filter_le _ _
theorem e_pairs_of (k r : Str) (ps : List LP) (ok : LPok ps) : R_pairs_of [.fh (hallP k r ps), .pv (.list ((hubN ps).map PyData.str))] = .ok (.ow (.ls false ((pairsL ps (hubN ps)).map enc2))) [.un, .un] := by
  have hb := loop_eq (gd := fun _ => True) (tgt := tgName 3) (body := fb_pairs_of_1) (fun p : LP => PyData.str p.name) (fun due : List T2 => [.fh (hallP k r ps), .pv (.list ((hubN ps).map PyData.str)), .ls false (due.map enc2), .un, .un, .un]) (fun due p => due ++ pairOf (hubN ps) p) (fun i due => due.length ≤ 2000 * i) (fun _ => trivial) (hubs ps) [] (Nat.zero_le _)
    (by
      intro i due p hp hd
      have hm := (List.mem_filter.mp (List.mem_of_getElem? hp)).1
      have hi : i < (hubs ps).length := (List.getElem?_eq_some_iff.mp hp).1
      have l24 := ok.len
      have l25 := hubs_len ps
      have hlk := pair_len (hubN ps) ok hm
      obtain ⟨h3, h4, _, _⟩ := ok.few p hm
      have hf := find_pc k r ok hm
      have n1 := fun A C D => dA A C D p.name _ (hubN ps) p.ahead rfl h3
      have n2 := fun A C D => dB A C D p.name _ (hubN ps) p.behind rfl h4
      refine ⟨_, rfl, ?_, by rw [List.length_append]; omega⟩
      unfold pairOf at hlk ⊢
      rw [List.length_append] at hlk
      have l1 : due.length + (pairA p.name p.ahead (hubN ps)).length ≤ 100000 := by omega
      have l2 : due.length + ((pairA p.name p.ahead (hubN ps)).length + (pairB p.name p.behind (hubN ps)).length) ≤ 100000 := by omega
      have p1 : p.pc.get .ahead = p.ahead := rfl
      have p2 : p.pc.get .behind = p.behind := rfl
      simp [fb_pairs_of_1, F_look, hf, p1, p2, n1, n2, l1, l2, Nat.add_assoc])
  have h3 := hb.1
  rw [fold_flat, List.nil_append, pairs_hubs ok] at h3
  have hn : (hubs ps).map (fun p : LP => PyData.str p.name) = (hubN ps).map PyData.str := by unfold hubN; rw [List.map_map]; rfl
  rw [hn] at h3
  simp only [List.map_nil] at h3
  simp [R_pairs_of, runF_def, f_pairs_of, h3]
/-! ### laid out, one behind the other -/
def freeIn (P : List T2) (left : List Str) (n : Str) : Bool := !(P.any fun p => decide (p.2 = n) && decide (p.1 ∈ left))
def lay (P : List T2) : Nat → List Str → List Str
  | 0, _ => []
  | k + 1, left => match left.find? (freeIn P left) with
    | none => []
    | some n => n :: lay P k (left.erase n)
def laidL (P : List T2) (N : List Str) : List Str := lay P N.length N
def ok2 (t : T2) : Prop := okS t.1 ∧ okS t.2
theorem sh_enc2 {t : T2} (h : ok2 t) : Sh 1 (enc2 t) := sh_tuple fun d hd => by
  simp only [List.mem_cons, List.not_mem_nil, or_false] at hd
  rcases hd with rfl | rfl
  · exact sh_str h.1
  · exact sh_str h.2
theorem sh_pairs {ds : List T2} (h : ∀ t ∈ ds, ok2 t) : Sh 2 (.list (ds.map enc2)) := sh_list fun d hd => by
  obtain ⟨t, ht, rfl⟩ := List.mem_map.mp hd
  exact sh_enc2 (h t ht)
theorem sh_strs {L : List Str} (h : ∀ x ∈ L, okS x) : Sh 1 (.list (L.map PyData.str)) := sh_list fun d hd => by
  obtain ⟨x, hx, rfl⟩ := List.mem_map.mp hd
  exact sh_str (h x hx)
theorem laid_comp (A F : Sl) (fr : Sl) (P : List T2) (left : List Str) (n : Str) (hl : P.length ≤ 100000) : compE (fun e => e[1]? = some (Sl.ls true (P.map enc2))) (tgName 6) [6] ft_laid_1 fe_laid_1 (P.map enc2) [A, .ls true (P.map enc2), F, .ls true (left.map PyData.str), fr, .pv (.str n), .un] =
    .ok (.ow (.ls false ((P.filter fun p => decide (p.2 = n) && decide (p.1 ∈ left)).map enc2))) [A, .ls true (P.map enc2), F, .ls true (left.map PyData.str), fr, .pv (.str n), .un] := by
  rw [compE_map (gd := fun e : En => e[1]? = some (Sl.ls true (P.map enc2))) enc2 (fun p => decide (p.2 = n) && decide (p.1 ∈ left)) enc2 P _ hl rfl rfl rfl]
  intro p hp
  refine ⟨_, [A, .ls true (P.map enc2), F, .ls true (left.map PyData.str), fr, .pv (.str n), .pv (enc2 p)], rfl, ?_, ?_⟩
  · by_cases c : p.2 = n
    · simp [ft_laid_1, enc2, c, opIn_bor _ _ p.1 left]
    · simp [ft_laid_1, enc2, c]
  · by_cases c : (decide (p.2 = n) && decide (p.1 ∈ left)) = true
    · refine .inr ⟨c, [A, .ls true (P.map enc2), F, .ls true (left.map PyData.str), fr, .pv (.str n), .pv (enc2 p)], ?_, rfl⟩
      simp [fe_laid_1]
    · exact .inl ⟨by simpa using c, rfl⟩
def s5 : Option Str → Sl
  | none => .un
  | some x => .pv (.str x)
theorem s5_ref (o : Option Str) : isRef (some (s5 o)) = false := by cases o <;> rfl
theorem filter_nil_free (P : List T2) (left : List Str) (n : Str) : decide ((P.filter fun p => decide (p.2 = n) && decide (p.1 ∈ left)).map enc2 = []) = freeIn P left n := by
  unfold freeIn
  cases q : (P.any fun p => decide (p.2 = n) && decide (p.1 ∈ left)) with
  | true =>
    obtain ⟨p, hp, hq⟩ := List.any_eq_true.mp q
    have : p ∈ P.filter fun p => decide (p.2 = n) && decide (p.1 ∈ left) := List.mem_filter.mpr ⟨hp, hq⟩
    rw [decide_eq_false]
    · rfl
    · intro e
      rw [List.map_eq_nil_iff] at e
      rw [e] at this; cases this
  | false =>
    rw [decide_eq_true]
    · rfl
    · rw [List.map_eq_nil_iff, List.filter_eq_nil_iff]
      intro p hp
      have := List.any_eq_false.mp q p hp
      exact this
theorem laid_for (A F : Sl) (P : List T2) (hP : ∀ t ∈ P, ok2 t) (hl : P.length ≤ 100000) (left : List Str) : ∀ (suf : List Str) (o : Option Str), ∃ o', loopL (fun e => e[3]? = some (Sl.ls true (left.map PyData.str))) (tgName 5) fb_laid_1 (suf.map PyData.str) [A, .ls true (P.map enc2), F, .ls true (left.map PyData.str), .pv (.bool false), s5 o, .un] =
    (match suf.find? (freeIn P left) with
    | some n => .ok .nx [A, .ls true (P.map enc2), F, .ls true (left.map PyData.str), .pv (.bool true), .pv (.str n), .un]
    | none => .ok .nx [A, .ls true (P.map enc2), F, .ls true (left.map PyData.str), .pv (.bool false), s5 o', .un])
  | [], o => ⟨o, loopL_nil rfl⟩
  | x :: suf, o => by
    have ht : tgName 5 (.str x) [A, .ls true (P.map enc2), F, .ls true (left.map PyData.str), .pv (.bool false), s5 o, .un] = some [A, .ls true (P.map enc2), F, .ls true (left.map PyData.str), .pv (.bool false), .pv (.str x), .un] := by
      cases o <;> rfl
    have hc := fun A F fr => laid_comp A F fr P left x hl
    have hq := eqD_nil (xs := (P.filter fun p => decide (p.2 = x) && decide (p.1 ∈ left)).map enc2) (sh_pairs fun t h => hP t (List.mem_filter.mp h).1) (by decide)
    rw [filter_nil_free] at hq
    rw [List.map_cons, loopL_cons (gd := fun e : En => e[3]? = some (Sl.ls true (left.map PyData.str))) (e1 := [A, .ls true (P.map enc2), F, .ls true (left.map PyData.str), .pv (.bool false), .pv (.str x), .un]) rfl ht]
    generalize (P.filter fun p => decide (p.2 = x) && decide (p.1 ∈ left)).map enc2 = Z at hc hq
    cases c : freeIn P left x with
    | true =>
      rw [c] at hq
      rw [List.find?_cons_of_pos c]
      refine ⟨o, ?_⟩
      simp [fb_laid_1, hc, hq]
    | false =>
      rw [c] at hq
      rw [List.find?_cons_of_neg (by simp [c])]
      obtain ⟨o', h⟩ := laid_for A F P hP hl left suf (some x)
      refine ⟨o', ?_⟩
      have hb : fb_laid_1 [A, .ls true (P.map enc2), F, .ls true (left.map PyData.str), .pv (.bool false), .pv (.str x), .un] = .ok .nx [A, .ls true (P.map enc2), F, .ls true (left.map PyData.str), .pv (.bool false), .pv (.str x), .un] := by
        simp [fb_laid_1, hc, hq]
      rw [hb]
      exact h
end Fw
namespace Fw
open PySem L2
theorem mRem_str {n : Str} {l : List Str} (h : n ∈ l) : mRem (l.map PyData.str) (.str n) = some ((l.erase n).map PyData.str, .none) := by
  unfold mRem
  rw [strsOf_map]
  show (if n ∈ l then some ((l.erase n).map PyData.str, PyData.none) else none) = _
  rw [if_pos h]
def laidE (N : List Str) (P : List T2) (l f : List Str) (fr : Bool) (o : Option Str) : En :=
  [.pv (.list (N.map PyData.str)), .ls true (P.map enc2), .ls false (f.map PyData.str), .ls false (l.map PyData.str), .pv (.bool fr), s5 o, .un]
theorem while_no {c : Ft} {b : Fs} {e : En} (n : Nat) (h : c e = .ok false e) : whileN c b (n + 1) e = .ok .nx e := by
  show (c e).bind _ = _
  rw [h]; rfl
theorem while_yes {c : Ft} {b : Fs} {e e2 : En} (n : Nat) (h : c e = .ok true e) (h2 : b e = .ok .nx e2) : whileN c b (n + 1) e = whileN c b n e2 := by
  show (c e).bind _ = _
  rw [h]
  show ((b e).bind _) = _
  rw [h2]; rfl
theorem laid_off (N : List Str) (P : List T2) (l f : List Str) (o : Option Str) (n : Nat) : whileN fw_laid_1 fb_laid_2 (n + 1) (laidE N P l f false o) = .ok .nx (laidE N P l f false o) :=
  while_no n (by simp [fw_laid_1, laidE])
theorem lay_none {P : List T2} {l : List Str} (h : l.find? (freeIn P l) = none) : lay P l.length l = [] := by
  cases l with
  | nil => rfl
  | cons a l => show (match (a :: l).find? (freeIn P (a :: l)) with | none => [] | some n => _) = _; rw [h]
theorem lay_some {P : List T2} {l : List Str} {n : Str} (h : l.find? (freeIn P l) = some n) : lay P l.length l = n :: lay P (l.erase n).length (l.erase n) := by
  have hm := List.mem_of_find?_eq_some h
  have hl := List.length_erase_of_mem hm
  cases l with
  | nil => cases hm
  | cons a l =>
    show (match (a :: l).find? (freeIn P (a :: l)) with | none => [] | some n => n :: lay P l.length ((a :: l).erase n)) = _
    rw [h, hl]
    rfl
theorem laid_while (N : List Str) (P : List T2) (hP : ∀ t ∈ P, ok2 t) (hl : P.length ≤ 100000) : ∀ (m : Nat) (l f : List Str) (o : Option Str), l.length + 1 < m → (∀ x ∈ l, okS x) → f.length + l.length ≤ 1000 →
    ∃ l' o', whileN fw_laid_1 fb_laid_2 m (laidE N P l f true o) = .ok .nx (laidE N P l' (f ++ lay P l.length l) false o')
  | 0, l, f, o, h, _, _ => by omega
  | m + 1, l, f, o, h, hs, hf => by
    have hc : fw_laid_1 (laidE N P l f true o) = .ok true (laidE N P l f true o) := by simp [fw_laid_1, laidE]
    obtain ⟨o', hfor⟩ := laid_for (.pv (.list (N.map PyData.str))) (.ls false (f.map PyData.str)) P hP hl l l o
    cases q : l.find? (freeIn P l) with
    | none =>
      rw [q] at hfor
      have hb : fb_laid_2 (laidE N P l f true o) = .ok .nx (laidE N P l f false o') := by
        dsimp only at hfor
        simp [fb_laid_2, laidE, hfor]
      obtain ⟨m', rfl⟩ : ∃ m', m = m' + 1 := ⟨m - 1, by omega⟩
      refine ⟨l, o', ?_⟩
      rw [while_yes _ hc hb, laid_off, lay_none q, List.append_nil]
    | some n =>
      rw [q] at hfor
      have hm := List.mem_of_find?_eq_some q
      have hlen := List.length_erase_of_mem hm
      have hpos : 0 < l.length := List.length_pos_of_mem hm
      have hs' : ∀ x ∈ l.erase n, okS x := fun x hx => hs x (List.mem_of_mem_erase hx)
      have hfr := eqD_nil (xs := (l.erase n).map PyData.str) (sh_strs hs') (by decide)
      have hrem := mRem_str hm
      have hfl : f.length < 100000 := by omega
      have hb : fb_laid_2 (laidE N P l f true o) = .ok .nx (laidE N P (l.erase n) (f ++ [n]) (!decide ((l.erase n).map PyData.str = [])) (some n)) := by
        dsimp only at hfor
        have hs5 : s5 (some n) = .pv (.str n) := rfl
        simp only [laidE, hs5]
        generalize (l.erase n).map PyData.str = Z at hrem hfr
        simp [fb_laid_2, hfor, mApp, hfl, hrem, hfr]
      rw [while_yes _ hc hb, lay_some q]
      by_cases hz : l.erase n = []
      · obtain ⟨m', rfl⟩ : ∃ m', m = m' + 1 := ⟨m - 1, by omega⟩
        have e : (!decide ((l.erase n).map PyData.str = [])) = false := by rw [hz]; rfl
        refine ⟨l.erase n, some n, ?_⟩
        rw [e, laid_off, hz]
        rfl
      · have e : (!decide ((l.erase n).map PyData.str = [])) = true := by
          rw [decide_eq_false]
          · rfl
          · intro z; exact hz (List.map_eq_nil_iff.mp z)
        rw [e]
        obtain ⟨l', o2, ih⟩ := laid_while N P hP hl m (l.erase n) (f ++ [n]) (some n) (by omega) hs' (by rw [List.length_append]; simp; omega)
        refine ⟨l', o2, ?_⟩
        rw [ih, List.append_assoc]
        rfl
theorem e_laid (N : List Str) (P : List T2) (hP : ∀ t ∈ P, ok2 t) (hl : P.length ≤ 100000) (hN : ∀ x ∈ N, okS x) (hn : N.length ≤ 500) : R_laid [.pv (.list (N.map PyData.str)), .ls true (P.map enc2)] = .ok (.ow (.ls false ((laidL P N).map PyData.str))) [.un, .ls true (P.map enc2)] := by
  obtain ⟨l', o', h⟩ := laid_while N P hP hl 1000 N [] none (by omega) hN (by simp; omega)
  simp only [laidE, s5, List.nil_append, List.map_nil] at h
  have h2 : lay P N.length N = laidL P N := rfl
  rw [h2] at h
  simp [R_laid, runF_def, f_laid, h]
/-! ### the law's own order -/
theorem free_for {gd : En → Prop} {PS : Sl} (n : Str) (left : List Str) (L : Sl) (hL : L = .ls true (left.map PyData.str) ∨ L = .pv (.list (left.map PyData.str))) (hg : ∀ z, gd [.pv (.str n), L, PS, z]) : ∀ (suf : List T2), loopL gd (tgName 3) fb_l_free_1 (suf.map enc2) [.pv (.str n), L, PS, .un] =
    if (suf.any fun p => decide (p.2 = n) && decide (p.1 ∈ left)) = true then .ok (.rt (.pv (.bool false))) [.pv (.str n), L, PS, .un] else .ok .nx [.pv (.str n), L, PS, .un]
  | [] => loopL_nil (hg _)
  | p :: suf => by
    rw [List.map_cons, loopL_cons (gd := gd) (e1 := [.pv (.str n), L, PS, .pv (enc2 p)]) (hg _) rfl]
    rw [List.any_cons]
    by_cases c : p.2 = n
    · by_cases c2 : p.1 ∈ left
      · rcases hL with rfl | rfl <;> simp [fb_l_free_1, enc2, c, c2, opIn_bor _ _ p.1 left]
      · have ih := free_for n left L hL hg suf
        have hb : fb_l_free_1 [.pv (.str n), L, PS, .pv (enc2 p)] = .ok .nx [.pv (.str n), L, PS, .un] := by
          rcases hL with rfl | rfl <;> simp [fb_l_free_1, enc2, c, c2, opIn_bor _ _ p.1 left]
        have e0 : (decide (p.2 = n) && decide (p.1 ∈ left)) = false := by rw [decide_eq_false c2, Bool.and_false]
        rw [hb, e0, Bool.false_or]
        exact ih
    · have ih := free_for n left L hL hg suf
      have hb : fb_l_free_1 [.pv (.str n), L, PS, .pv (enc2 p)] = .ok .nx [.pv (.str n), L, PS, .un] := by
        simp [fb_l_free_1, enc2, c]
      have e0 : (decide (p.2 = n) && decide (p.1 ∈ left)) = false := by rw [decide_eq_false c, Bool.false_and]
      rw [hb, e0, Bool.false_or]
      exact ih
theorem e_free (n : Str) (left : List Str) (P : List T2) {PS : Sl} (hP : isL PS (P.map enc2)) (L : Sl) (hL : L = .ls true (left.map PyData.str) ∨ L = .pv (.list (left.map PyData.str))) : R_l_free [.pv (.str n), L, PS] = .ok (.pv (.bool (freeIn P left n))) [.un, backS L, backS PS] := by
  unfold freeIn
  rcases hP with rfl | rfl
  · have h := free_for (gd := fun e => e[2]? = some (Sl.ls true (P.map enc2))) (PS := .ls true (P.map enc2)) n left L hL (fun _ => rfl) P
    cases q : (P.any fun p => decide (p.2 = n) && decide (p.1 ∈ left)) with
    | true =>
      rw [q, if_pos rfl] at h
      rcases hL with rfl | rfl <;> simp [R_l_free, runF_def, f_l_free, h, backS, isRef]
    | false =>
      rw [q, if_neg (by simp)] at h
      rcases hL with rfl | rfl <;> simp [R_l_free, runF_def, f_l_free, h, backS, isRef]
  · have h := free_for (gd := fun _ => True) (PS := .pv (.list (P.map enc2))) n left L hL (fun _ => trivial) P
    cases q : (P.any fun p => decide (p.2 = n) && decide (p.1 ∈ left)) with
    | true =>
      rw [q, if_pos rfl] at h
      rcases hL with rfl | rfl <;> simp [R_l_free, runF_def, f_l_free, h, backS, isRef]
    | false =>
      rw [q, if_neg (by simp)] at h
      rcases hL with rfl | rfl <;> simp [R_l_free, runF_def, f_l_free, h, backS, isRef]
end Fw
namespace Fw
open PySem L2
theorem ord_comp {PS : Sl} (A F G : Sl) (P : List T2) (hP : isL PS (P.map enc2)) (left : List Str) (hl : left.length ≤ 100000) : compE (fun e => e[2]? = some (Sl.ls true (left.map PyData.str))) (tgName 5) [5] ft_l_order_1 fe_l_order_1 (left.map PyData.str) [A, PS, .ls true (left.map PyData.str), F, G, .un] =
    .ok (.ow (.ls false ((left.filter (freeIn P left)).map PyData.str))) [A, PS, .ls true (left.map PyData.str), F, G, .un] := by
  rw [compE_map (gd := fun e : En => e[2]? = some (Sl.ls true (left.map PyData.str))) PyData.str (freeIn P left) PyData.str left _ hl rfl rfl rfl]
  intro n hn
  have hf := e_free n left P hP _ (.inl rfl)
  refine ⟨_, [A, PS, .ls true (left.map PyData.str), F, G, .pv (.str n)], rfl, by rcases hP with rfl | rfl <;> simp [ft_l_order_1, hf, backS, isRef], ?_⟩
  cases c : freeIn P left n with
  | true => exact .inr ⟨rfl, [A, PS, .ls true (left.map PyData.str), F, G, .pv (.str n)], by simp [fe_l_order_1], rfl⟩
  | false => exact .inl ⟨rfl, rfl⟩
def ordE (N : List Str) (PS : Sl) (l f : List Str) : En := [.ls true (N.map PyData.str), PS, .ls false (l.map PyData.str), .ls false (f.map PyData.str), .un, .un]
theorem filter_find {α : Type} (q : α → Bool) : ∀ l : List α, (match l.filter q with | [] => none | a :: _ => some a) = l.find? q
  | [] => rfl
  | a :: l => by
    cases c : q a with
    | true => rw [List.filter_cons_of_pos c, List.find?_cons_of_pos c]
    | false => rw [List.filter_cons_of_neg (by simp [c]), List.find?_cons_of_neg (by simp [c])]; exact filter_find q l
theorem ord_test (N : List Str) (PS : Sl) (l f : List Str) (hs : ∀ x ∈ l, okS x) : fw_l_order_1 (ordE N PS l f) = .ok (!decide (l.map PyData.str = [])) (ordE N PS l f) := by
  have h := eqD_nil (xs := l.map PyData.str) (sh_strs hs) (by decide)
  simp only [ordE]
  generalize l.map PyData.str = Z at h
  simp [fw_l_order_1, h]
theorem while_ret {c : Ft} {b : Fs} {e e2 : En} {v : Rv} (n : Nat) (h : c e = .ok true e) (h2 : b e = .ok (.rt v) e2) : whileN c b (n + 1) e = .ok (.rt v) e2 := by
  show (c e).bind _ = _
  rw [h]
  show ((b e).bind _) = _
  rw [h2]; rfl
theorem ord_while {PS : Sl} (N : List Str) (P : List T2) (hP : isL PS (P.map enc2)) : ∀ (m : Nat) (l f : List Str), l.length < m → (∀ x ∈ l, okS x) → f.length + l.length ≤ 1000 →
    ((lay P l.length l).length = l.length ∧ whileN fw_l_order_1 fb_l_order_1 m (ordE N PS l f) = .ok .nx (ordE N PS [] (f ++ lay P l.length l))) ∨
    ((lay P l.length l).length ≠ l.length ∧ ∃ l' f', whileN fw_l_order_1 fb_l_order_1 m (ordE N PS l f) = .ok (.rt (.pv .none)) (ordE N PS l' f'))
  | 0, l, f, h, _, _ => by omega
  | m + 1, l, f, h, hs, hf => by
    have hc := ord_test N PS l f hs
    by_cases hz : l = []
    · subst hz
      left
      refine ⟨rfl, ?_⟩
      rw [while_no m (by rw [hc]; rfl)]
      show _ = R.ok Fl.nx (ordE N PS [] (f ++ []))
      rw [List.append_nil]
    · have e : (!decide (l.map PyData.str = [])) = true := by
        rw [decide_eq_false]
        · rfl
        · intro z; exact hz (List.map_eq_nil_iff.mp z)
      rw [e] at hc
      have hcomp := fun A F G => ord_comp A F G P hP l (by omega)
      have hff := filter_find (freeIn P l) l
      have hsh := eqD_nil (xs := (l.filter (freeIn P l)).map PyData.str) (sh_strs fun x hx => hs x (List.mem_filter.mp hx).1) (by decide)
      cases q : l.filter (freeIn P l) with
      | nil =>
        rw [q] at hff hcomp
        right
        have hl0 := lay_none hff.symm
        refine ⟨by rw [hl0]; intro z; exact hz (List.eq_nil_of_length_eq_zero z.symm), l, f, ?_⟩
        have hnil : eqD (.list []) (.list []) = some true := by decide +kernel
        have hb : fb_l_order_1 (ordE N PS l f) = .ok (.rt (.pv .none)) (ordE N PS l f) := by
          simp only [List.map_nil] at hcomp
          simp [fb_l_order_1, ordE, hcomp, hnil]
        exact while_ret m hc hb
      | cons n r =>
        rw [q] at hff hcomp hsh
        have hfi : l.find? (freeIn P l) = some n := hff.symm
        have hm := List.mem_of_find?_eq_some hfi
        have hlen := List.length_erase_of_mem hm
        have hpos : 0 < l.length := List.length_pos_of_mem hm
        have hrem := mRem_str hm
        have hfl : f.length < 100000 := by omega
        have hb : fb_l_order_1 (ordE N PS l f) = .ok .nx (ordE N PS (l.erase n) (f ++ [n])) := by
          simp only [List.map_cons] at hcomp hsh
          simp only [ordE]
          generalize (l.erase n).map PyData.str = Z at hrem
          simp [fb_l_order_1, hcomp, hsh, mApp, hfl, hrem]
        have ih := ord_while N P hP m (l.erase n) (f ++ [n]) (by omega) (fun x hx => hs x (List.mem_of_mem_erase hx)) (by rw [List.length_append]; simp; omega)
        rw [while_yes m hc hb, lay_some hfi]
        rcases ih with ⟨i1, i2⟩ | ⟨i1, l', f', i2⟩
        · left
          refine ⟨by rw [List.length_cons, i1, hlen]; omega, ?_⟩
          rw [i2, List.append_assoc]; rfl
        · right
          refine ⟨fun z => i1 ?_, l', f', i2⟩
          rw [List.length_cons] at z
          omega
theorem e_l_order {PS : Sl} (N : List Str) (P : List T2) (hP : isL PS (P.map enc2)) (hN : ∀ x ∈ N, okS x) (hn : N.length ≤ 500) : R_l_order [.ls true (N.map PyData.str), PS] = .ok (if (laidL P N).length = N.length then .ow (.ls false ((laidL P N).map PyData.str)) else .pv .none) [.ls true (N.map PyData.str), backS PS] := by
  rcases ord_while N P hP 1000 N [] (by omega) hN (by simp; omega) with ⟨h1, h2⟩ | ⟨h1, l', f', h2⟩
  · have e : (laidL P N).length = N.length := h1
    rw [if_pos e]
    have h3 : lay P N.length N = laidL P N := rfl
    rw [h3] at h2
    simp only [ordE, List.nil_append, List.map_nil] at h2
    rcases hP with rfl | rfl <;> simp [R_l_order, runF_def, f_l_order, h2, backS, isRef]
  · have e : ¬ (laidL P N).length = N.length := h1
    rw [if_neg e]
    simp only [ordE, List.map_nil] at h2
    rcases hP with rfl | rfl <;> simp [R_l_order, runF_def, f_l_order, h2, backS, isRef]
end Fw
namespace Fw
open PySem L2
/-! ### the ring that is told: it is some data -/
/-- a loop, by what stands all along -/
theorem loop_any {gd : En → Prop} {tgt : Tgt} {body : Fs} (I : En → Prop) (J : Rv → En → Prop) (hg : ∀ e, I e → gd e) : ∀ (xs : List PD), (∀ x ∈ xs, ∀ e, I e → ∃ e1, tgt x e = some e1 ∧ ((∃ e2, body e1 = .ok .nx e2 ∧ I e2) ∨ ∃ v e2, body e1 = .ok (.rt v) e2 ∧ J v e2)) → ∀ e, I e →
    (∃ e2, loopL gd tgt body xs e = .ok .nx e2 ∧ I e2) ∨ ∃ v e2, loopL gd tgt body xs e = .ok (.rt v) e2 ∧ J v e2
  | [], _, e, hi => .inl ⟨e, loopL_nil (hg e hi), hi⟩
  | x :: xs, h, e, hi => by
    obtain ⟨e1, h1, h2⟩ := h x List.mem_cons_self e hi
    rw [loopL_cons (hg e hi) h1]
    rcases h2 with ⟨e2, b1, b2⟩ | ⟨v, e2, b1, b2⟩
    · rw [b1]
      exact loop_any I J hg xs (fun y hy => h y (List.mem_cons_of_mem _ hy)) e2 b2
    · right
      refine ⟨v, e2, ?_, b2⟩
      rw [b1]; rfl
structure RingI (N : List Str) (rows : List (List Str)) (kvs : List (Str × PD)) (here : Nat) : Prop where
  ne : ∀ r ∈ rows, r ≠ []
  okr : ∀ r ∈ rows, ∀ x ∈ r, okS x
  rl : ∀ r ∈ rows, r.length ≤ rows.length
  few : rows.length + (N.filter fun n => !(getD n kvs).isSome).length ≤ N.length + 1
  kl : kvs.length < rows.length
  hl : here ≤ rows.length
def ringE (N : List Str) (P : List T2) (s : Str) (rows : List (List Str)) (kvs : List (Str × PD)) (here : Nat) : En :=
  [.pv (.list (N.map PyData.str)), .ls true (P.map enc2), .pv (.str s), .ls false (rows.map strsD), .dk false kvs, .pv (.int (here : Nat)), .un]
theorem getD_put (n m : Str) (d : PD) {kvs : List (Str × PD)} (h : getD n kvs = none) : (getD m (putD n d kvs)).isSome = ((getD m kvs).isSome || decide (n = m)) := by
  have hk : keyIn n kvs = false := by
    cases q : keyIn n kvs with
    | false => rfl
    | true =>
      unfold getD at h
      have q' : n ∈ kvs.map (·.1) := of_decide_eq_true q
      obtain ⟨z, hz, he⟩ := List.mem_map.mp q'
      rw [Option.map_eq_none_iff, List.find?_eq_none] at h
      have := h z hz
      simp at this
      exact absurd he this
  unfold putD
  rw [hk, if_neg (by simp)]
  unfold getD
  rw [List.find?_append]
  cases q : kvs.find? fun z => decide (z.1 = m) with
  | some z => simp
  | none => by_cases c : n = m <;> simp [c]
theorem put_len (n : Str) (d : PD) {kvs : List (Str × PD)} : (putD n d kvs).length ≤ kvs.length + 1 := by
  unfold putD
  split
  · rw [List.length_map]; omega
  · rw [List.length_append]; simp
theorem filter_less {α : Type} (q r : α → Bool) (h : ∀ x, r x = true → q x = true) : ∀ (xs : List α) (a : α), a ∈ xs → q a = true → r a = false → (xs.filter r).length + 1 ≤ (xs.filter q).length
  | [], a, ha, _, _ => by cases ha
  | x :: xs, a, ha, h1, h2 => by
    have hle : ∀ ys : List α, (ys.filter r).length ≤ (ys.filter q).length := by
      intro ys
      induction ys with
      | nil => exact Nat.le_refl _
      | cons y ys ih =>
        rw [List.filter_cons, List.filter_cons]
        cases c : r y with
        | true => rw [h y c]; simpa using ih
        | false =>
          cases c2 : q y with
          | true => simp; omega
          | false => simpa using ih
    rcases List.mem_cons.mp ha with rfl | ha
    · rw [List.filter_cons, List.filter_cons, h1, h2]
      have := hle xs
      simp; omega
    · have ih := filter_less q r h xs a ha h1 h2
      rw [List.filter_cons, List.filter_cons]
      cases c : r x with
      | true => rw [h x c]; simp; omega
      | false =>
        cases c2 : q x with
        | true => simp; omega
        | false => simpa using ih
def ringJ (N : List Str) (P : List T2) (s : Str) : Rv → En → Prop := fun v e => (∃ r : List Str, v = .pv (strsD r)) ∧ ∃ rows kvs here, e = ringE N P s rows kvs here
theorem opIn_deep (e : En) (t : T2) (P : List T2) (i : Nat) (r : Bool) (h : e[i]? = some (.ls r (P.map enc2))) (ht : ok2 t) (hP : ∀ t ∈ P, ok2 t) : ∃ b, opIn false e (.pv (enc2 t)) (.bor i) = some (.val (.bool b)) := by
  have hs : seqOf e (.bor i) = some (true, P.map enc2) := by simp [h]
  unfold opIn
  rw [hs]
  have n1 : ¬ (flatD (enc2 t) = true ∧ (P.map enc2).all flatD = true) := fun z => by cases z.1
  have s1 := shaped_of (sh_enc2 ht) (by decide)
  have s2 := shaped_of (sh_pairs hP) (by decide)
  refine ⟨(P.map enc2).any fun y => PyData.eqv y (enc2 t), ?_⟩
  show (if flatD (enc2 t) = true ∧ (P.map enc2).all flatD = true then _ else if true = true ∧ SeqAt.shaped (enc2 t) = true ∧ SeqAt.shaped (.list (P.map enc2)) = true then _ else none) = _
  rw [if_neg n1, if_pos ⟨rfl, s1, s2⟩]
  rfl
theorem ring_for (N : List Str) (P : List T2) (s : Str) (here : Nat) (hN : ∀ x ∈ N, okS x) (hn : N.length ≤ 500) (hP : ∀ t ∈ P, ok2 t) : ∀ e, (∃ rows kvs, e = ringE N P s rows kvs here ∧ RingI N rows kvs here ∧ here < rows.length) →
    (∃ e2, loopL (fun _ => True) (tgName 6) fb_ring_from_1 (N.map PyData.str) e = .ok .nx e2 ∧ ∃ rows kvs, e2 = ringE N P s rows kvs here ∧ RingI N rows kvs here ∧ here < rows.length) ∨
    ∃ v e2, loopL (fun _ => True) (tgName 6) fb_ring_from_1 (N.map PyData.str) e = .ok (.rt v) e2 ∧ ringJ N P s v e2 := by
  refine loop_any _ _ (fun _ _ => trivial) (N.map PyData.str) ?_
  rintro x hx e ⟨rows, kvs, rfl, I, hh⟩
  obtain ⟨n, hnN, rfl⟩ := List.mem_map.mp hx
  obtain ⟨row, hrow⟩ : ∃ row, rows[here]? = some row := ⟨_, List.getElem?_eq_getElem hh⟩
  have hmem := List.mem_of_getElem? hrow
  have hne := I.ne row hmem
  obtain ⟨ini, lst, hil⟩ : ∃ ini lst, row = ini ++ [lst] := by
    rcases List.eq_nil_or_concat row with e | ⟨a, b, e⟩
    · exact absurd e hne
    · exact ⟨a, b, by rw [e, List.concat_eq_append]⟩
  have hat : atI (rows.map strsD) (here : Int) = some (strsD row) := by
    rw [atI_nn _ _ (by omega), Int.toNat_natCast, List.getElem?_map, hrow]; rfl
  have hlast : atI (row.map PyData.str) (-1) = some (.str lst) := by
    rw [hil, List.map_append]; exact atI_last _ _
  have hlx : ∀ e : En, opIx e (.pv (strsD row)) (.pv (.int (-1))) = some (.val (.str lst)) := fun e => by simp [strsD, hlast]
  have hokl : okS lst := I.okr row hmem lst (by rw [hil]; simp)
  obtain ⟨b, hb⟩ := opIn_deep [.pv (.list (N.map PyData.str)), .ls true (P.map enc2), .pv (.str s), .ls false (rows.map strsD), .dk false kvs, .pv (.int (here : Nat)), .pv (.str n)] (lst, n) P 1 true rfl ⟨hokl, hN n hnN⟩ hP
  have hb' : opIn false [.pv (.list (N.map PyData.str)), .ls true (P.map enc2), .pv (.str s), .ls false (rows.map strsD), .dk false kvs, .pv (.int (here : Nat)), .pv (.str n)] (.pv (.tuple [.str lst, .str n])) (.bor 1) = some (.val (.bool b)) := hb
  refine ⟨_, rfl, ?_⟩
  cases b with
  | false =>
    left
    refine ⟨ringE N P s rows kvs here, ?_, rows, kvs, rfl, I, hh⟩
    simp [fb_ring_from_1, ringE, hat, hlx, hb']
  | true =>
    by_cases c : n = s
    · right
      subst c
      refine ⟨.pv (strsD row), ringE N P n rows kvs here, ?_, ⟨row, rfl⟩, _, _, _, rfl⟩
      simp [fb_ring_from_1, ringE, hat, hlx, hb']
    · left
      cases g : getD n kvs with
      | some d =>
        refine ⟨ringE N P s rows kvs here, ?_, rows, kvs, rfl, I, hh⟩
        simp [fb_ring_from_1, ringE, hat, hlx, hb', c, g]
      | none =>
        have few := I.few
        have kl := I.kl
        have hk : kvs.length ≤ 100000 := by omega
        have hrl := I.rl row hmem
        have hrows : rows.length < 100000 := by omega
        have hradd : row.length + 1 ≤ 100000 := by omega
        have hadd : ∀ e : En, opAdd e (.pv (strsD row)) (.pv (.list [.str n])) = some (.new ((row ++ [n]).map PyData.str)) := fun e => by
          simp [strsD, hradd]
        refine ⟨ringE N P s (rows ++ [row ++ [n]]) (putD n (.bool true) kvs) here, ?_, _, _, rfl, ?_, by rw [List.length_append]; omega⟩
        · have e1 : (rows ++ [row ++ [n]]).map strsD = rows.map strsD ++ [.list ((row ++ [n]).map PyData.str)] := by rw [List.map_append]; rfl
          simp only [ringE, e1]
          generalize (row ++ [n]).map PyData.str = Z at hadd
          simp [fb_ring_from_1, hat, hlx, hb', c, g, hk, hadd, mApp, hrows]
        · refine ⟨?_, ?_, ?_, ?_, ?_, ?_⟩
          · intro r hr
            rcases List.mem_append.mp hr with hr | hr
            · exact I.ne r hr
            · simp at hr; subst hr; simp
          · intro r hr x hx
            rcases List.mem_append.mp hr with hr | hr
            · exact I.okr r hr x hx
            · simp at hr; subst hr
              rcases List.mem_append.mp hx with hx | hx
              · exact I.okr row hmem x hx
              · simp at hx; subst hx; exact hN x hnN
          · intro r hr
            rw [List.length_append]
            rcases List.mem_append.mp hr with hr | hr
            · have := I.rl r hr; omega
            · simp at hr; subst hr; simp; omega
          · rw [List.length_append]
            have hlt := filter_less (fun m => !(getD m kvs).isSome) (fun m => !(getD m (putD n (.bool true) kvs)).isSome) (fun m hm => by
              rw [getD_put n m _ g] at hm
              simp at hm ⊢
              exact hm.1) N n hnN (by rw [g]; rfl) (by rw [getD_put n n _ g]; simp)
            simp only [List.length_cons, List.length_nil]
            omega
          · rw [List.length_append]
            have := put_len n (.bool true) (kvs := kvs)
            simp only [List.length_cons, List.length_nil]
            omega
          · rw [List.length_append]; omega
theorem ring_while (N : List Str) (P : List T2) (s : Str) (hN : ∀ x ∈ N, okS x) (hn : N.length ≤ 500) (hP : ∀ t ∈ P, ok2 t) : ∀ (m : Nat) (rows : List (List Str)) (kvs : List (Str × PD)) (here : Nat), RingI N rows kvs here → N.length + 1 - here < m →
    (∃ rows' kvs' here', whileN fw_ring_from_1 fb_ring_from_2 m (ringE N P s rows kvs here) = .ok .nx (ringE N P s rows' kvs' here')) ∨
    ∃ v e2, whileN fw_ring_from_1 fb_ring_from_2 m (ringE N P s rows kvs here) = .ok (.rt v) e2 ∧ ringJ N P s v e2
  | 0, _, _, _, _, h => by omega
  | m + 1, rows, kvs, here, I, hm => by
    have few := I.few
    have hle := I.hl
    by_cases hh : here < rows.length
    · have hc : fw_ring_from_1 (ringE N P s rows kvs here) = .ok true (ringE N P s rows kvs here) := by
        simp [fw_ring_from_1, ringE, hh]
      rcases ring_for N P s here hN hn hP _ ⟨rows, kvs, rfl, I, hh⟩ with ⟨e2, h1, rows', kvs', rfl, I', hh'⟩ | ⟨v, e2, h1, h2⟩
      · have hb : fb_ring_from_2 (ringE N P s rows kvs here) = .ok .nx (ringE N P s rows' kvs' (here + 1)) := by
          simp only [ringE] at h1 ⊢
          simp [fb_ring_from_2, h1]
        rw [while_yes m hc hb]
        refine ring_while N P s hN hn hP m rows' kvs' (here + 1) ⟨I'.ne, I'.okr, I'.rl, I'.few, I'.kl, hh'⟩ ?_
        have := I'.few
        omega
      · right
        obtain ⟨⟨r, rfl⟩, rows', kvs', here', rfl⟩ := h2
        have hb : fb_ring_from_2 (ringE N P s rows kvs here) = .ok (.rt (.pv (strsD r))) (ringE N P s rows' kvs' here') := by
          simp only [ringE] at h1 ⊢
          simp [fb_ring_from_2, h1]
        exact ⟨_, _, while_ret m hc hb, ⟨r, rfl⟩, _, _, _, rfl⟩
    · have hc : fw_ring_from_1 (ringE N P s rows kvs here) = .ok false (ringE N P s rows kvs here) := by
        have : ¬ (here : Int) < rows.length := by omega
        simp [fw_ring_from_1, ringE, hh]
      left
      exact ⟨_, _, _, while_no m hc⟩
/-- a ring, or none -/
def ringD (d : PD) : Prop := d = .none ∨ ∃ r : List Str, d = strsD r
theorem e_ring_from (N : List Str) (P : List T2) (s : Str) (hN : ∀ x ∈ N, okS x) (hn : N.length ≤ 500) (hP : ∀ t ∈ P, ok2 t) (hs : okS s) : ∃ d, ringD d ∧ R_ring_from [.pv (.list (N.map PyData.str)), .ls true (P.map enc2), .pv (.str s)] = .ok (.pv d) [.un, .ls true (P.map enc2), .un] := by
  have I : RingI N [[s]] [] 0 := by
    refine ⟨by simp, fun r hr x hx => ?_, by simp, ?_, by simp, by simp⟩
    · simp at hr; subst hr; simp at hx; subst hx; exact hs
    · have := List.length_filter_le (fun n => !(getD n ([] : List (Str × PD))).isSome) N
      simp only [List.length_cons, List.length_nil]; omega
  rcases ring_while N P s hN hn hP 1000 [[s]] [] 0 I (by omega) with ⟨rows, kvs, here, h⟩ | ⟨v, e2, h, ⟨r, rfl⟩, rows, kvs, here, rfl⟩
  · refine ⟨.none, .inl rfl, ?_⟩
    simp only [ringE, strsD, List.map_cons, List.map_nil, Int.natCast_zero] at h
    simp [R_ring_from, runF_def, f_ring_from, h]
  · refine ⟨strsD r, .inr ⟨r, rfl⟩, ?_⟩
    simp only [ringE, strsD, List.map_cons, List.map_nil, Int.natCast_zero] at h
    simp [R_ring_from, runF_def, f_ring_from, h, strsD]
theorem e_shortest (N : List Str) (P : List T2) (hN : ∀ x ∈ N, okS x) (hn : N.length ≤ 500) (hP : ∀ t ∈ P, ok2 t) : ∃ d, R_shortest_ring [.pv (.list (N.map PyData.str)), .ls true (P.map enc2)] = .ok (.pv d) [.un, .ls true (P.map enc2)] := by
  have key := loop_any (gd := fun _ => True) (tgt := tgName 3) (body := fb_shortest_ring_1) (fun e => ∃ d, ringD d ∧ e = [.pv (.list (N.map PyData.str)), .ls true (P.map enc2), .pv d, .un, .un]) (fun _ _ => False) (fun _ _ => trivial) (N.map PyData.str)
    (by
      rintro x hx e ⟨d, hd, rfl⟩
      obtain ⟨n, hnN, rfl⟩ := List.mem_map.mp hx
      obtain ⟨r, hr, er⟩ := e_ring_from N P n hN hn hP (hN n hnN)
      refine ⟨_, rfl, .inl ?_⟩
      rcases hr with rfl | ⟨rr, rfl⟩
      · refine ⟨_, ?_, d, hd, rfl⟩
        simp [fb_shortest_ring_1, er]
      · rcases hd with rfl | ⟨b, rfl⟩
        · refine ⟨_, ?_, strsD rr, .inr ⟨rr, rfl⟩, rfl⟩
          simp [fb_shortest_ring_1, er, strsD]
        · by_cases c : rr.length < b.length
          · refine ⟨_, ?_, strsD rr, .inr ⟨rr, rfl⟩, rfl⟩
            simp [fb_shortest_ring_1, er, strsD, c]
          · refine ⟨_, ?_, strsD b, .inr ⟨b, rfl⟩, rfl⟩
            simp [fb_shortest_ring_1, er, strsD, c])
  rcases key [.pv (.list (N.map PyData.str)), .ls true (P.map enc2), .pv .none, .un, .un] ⟨.none, .inl rfl, rfl⟩ with ⟨e2, h, d, _, rfl⟩ | ⟨v, e2, _, z⟩
  · exact ⟨d, by simp [R_shortest_ring, runF_def, f_shortest_ring, h]⟩
  · cases z
end Fw
namespace Fw
open PySem L2
/-! ### the order laid out: what it keeps -/
theorem lay_len (P : List T2) : ∀ (k : Nat) (l : List Str), (lay P k l).length ≤ k
  | 0, _ => Nat.le_refl 0
  | k + 1, l => by
    show (match l.find? (freeIn P l) with | none => [] | some n => n :: lay P k (l.erase n)).length ≤ _
    cases l.find? (freeIn P l) with
    | none => exact Nat.zero_le _
    | some n => exact Nat.succ_le_succ (lay_len P k _)
/-- a list that is laid out whole -/
def Whole (P : List T2) (l : List Str) : Prop := (lay P l.length l).length = l.length
theorem whole_next {P : List T2} {l : List Str} {n : Str} (h : Whole P l) (q : l.find? (freeIn P l) = some n) : Whole P (l.erase n) := by
  unfold Whole at h ⊢
  rw [lay_some q, List.length_cons] at h
  have := List.length_erase_of_mem (List.mem_of_find?_eq_some q)
  omega
theorem whole_some {P : List T2} {l : List Str} (h : Whole P l) (hl : l ≠ []) : ∃ n, l.find? (freeIn P l) = some n := by
  cases q : l.find? (freeIn P l) with
  | some n => exact ⟨n, rfl⟩
  | none =>
    unfold Whole at h
    rw [lay_none q] at h
    exact absurd (List.eq_nil_of_length_eq_zero h.symm) hl
theorem lay_perm {P : List T2} : ∀ (k : Nat) (l : List Str), l.length = k → Whole P l → (lay P l.length l).Perm l
  | 0, l, hk, _ => by
    rw [List.eq_nil_of_length_eq_zero hk]; exact List.Perm.refl _
  | k + 1, l, hk, h => by
    obtain ⟨n, q⟩ := whole_some h (fun z => by rw [z] at hk; cases hk)
    have hm := List.mem_of_find?_eq_some q
    have hl := List.length_erase_of_mem hm
    rw [lay_some q]
    exact ((lay_perm k (l.erase n) (by omega) (whole_next h q)).cons n).trans (List.perm_cons_erase hm).symm
theorem free_pair {P : List T2} {l : List Str} {n : Str} (h : freeIn P l n = true) {a : Str} (hp : (a, n) ∈ P) : a ∉ l := by
  unfold freeIn at h
  rw [Bool.not_eq_true'] at h
  intro ha
  have := List.any_eq_false.mp h (a, n) hp
  simp [ha] at this
theorem idx_ne {a b : Str} {l : List Str} (h : b ≠ a) : (b :: l).idxOf a = l.idxOf a + 1 := by
  rw [List.idxOf_cons, beq_eq_false_iff_ne.mpr h]; rfl
theorem any_same {α : Type} {q r : α → Bool} : ∀ {xs : List α}, (∀ x ∈ xs, q x = r x) → xs.any q = xs.any r
  | [], _ => rfl
  | x :: xs, h => by rw [List.any_cons, List.any_cons, h x List.mem_cons_self, any_same fun y hy => h y (List.mem_cons_of_mem _ hy)]
theorem not_before (x : Str) : ∀ N : List Str, x ∉ N.take (N.idxOf x)
  | [] => by simp
  | y :: N => by
    by_cases c : y = x
    · subst c; rw [List.idxOf_cons_self]; simp
    · rw [idx_ne c, List.take_succ_cons]
      intro h
      rcases List.mem_cons.mp h with e | h
      · exact c e.symm
      · exact not_before x N h
theorem lay_pair {P : List T2} : ∀ (k : Nat) (l : List Str), l.length = k → Whole P l → ∀ a b, (a, b) ∈ P → a ∈ l → b ∈ l → (lay P l.length l).idxOf a < (lay P l.length l).idxOf b
  | 0, l, hk, _, a, b, _, ha, _ => by rw [List.eq_nil_of_length_eq_zero hk] at ha; cases ha
  | k + 1, l, hk, h, a, b, hp, ha, hb => by
    obtain ⟨n, q⟩ := whole_some h (fun z => by rw [z] at hk; cases hk)
    have hm := List.mem_of_find?_eq_some q
    have hl := List.length_erase_of_mem hm
    have hf := List.find?_some q
    have hbn : b ≠ n := fun z => by subst z; exact free_pair hf hp ha
    rw [lay_some q]
    by_cases han : a = n
    · subst han
      rw [List.idxOf_cons_self, idx_ne (Ne.symm hbn)]
      exact Nat.succ_pos _
    · rw [idx_ne (Ne.symm hbn), idx_ne (Ne.symm han)]
      exact Nat.succ_lt_succ (lay_pair k (l.erase n) (by omega) (whole_next h q) a b hp ((List.mem_erase_of_ne han).mpr ha) ((List.mem_erase_of_ne hbn).mpr hb))
/-- behind k of them: what is left is laid out whole, too -/
theorem lay_drop {P : List T2} : ∀ (k : Nat) (l : List Str), Whole P l → k ≤ l.length → ∃ m, m.Sublist l ∧ Whole P m ∧ (lay P l.length l).drop k = lay P m.length m
  | 0, l, h, _ => ⟨l, List.Sublist.refl _, h, rfl⟩
  | k + 1, l, h, hk => by
    obtain ⟨n, q⟩ := whole_some h (fun z => by rw [z] at hk; cases hk)
    have hm := List.mem_of_find?_eq_some q
    have hl := List.length_erase_of_mem hm
    obtain ⟨m, m1, m2, m3⟩ := lay_drop k (l.erase n) (whole_next h q) (by omega)
    refine ⟨m, m1.trans List.erase_sublist, m2, ?_⟩
    rw [lay_some q, List.drop_succ_cons]
    exact m3
theorem pair_sub {N : List Str} (nd : N.Nodup) {n x : Str} (h : [n, x].Sublist N) (hx : x ∈ N.take (N.idxOf n)) : False := by
  have hn : n ∈ N := h.subset (by simp)
  obtain ⟨A, B, e, hA⟩ : ∃ A B, N = A ++ n :: B ∧ A = N.take (N.idxOf n) := by
    have hi := List.idxOf_lt_length_of_mem hn
    refine ⟨N.take (N.idxOf n), N.drop (N.idxOf n + 1), ?_, rfl⟩
    have := List.getElem_idxOf hi
    conv => lhs; rw [← List.take_append_drop (N.idxOf n) N, List.drop_eq_getElem_cons hi, this]
  rw [← hA] at hx
  rw [e] at nd h
  obtain ⟨n1, n2, n3⟩ := List.nodup_append.mp nd
  have hnA : n ∉ A := fun z => n3 n z n List.mem_cons_self rfl
  have h2 : [n, x].Sublist (n :: B) := by
    have key : ∀ C : List Str, n ∉ C → [n, x].Sublist (C ++ n :: B) → [n, x].Sublist (n :: B) := by
      intro C
      induction C with
      | nil => intro _ h; exact h
      | cons c C ih =>
        intro hc h
        rw [List.cons_append] at h
        cases h with
        | cons _ h => exact ih (fun z => hc (List.mem_cons_of_mem _ z)) h
        | cons_cons _ h => exact absurd List.mem_cons_self hc
    exact key A hnA h
  have hxB : x ∈ B := by
    cases h2 with
    | cons _ h =>
      have : n ∈ B := h.subset (by simp)
      exact absurd this (List.nodup_cons.mp n2).1
    | cons_cons _ h => exact h.subset (by simp)
  exact n3 x hx x (List.mem_cons_of_mem _ hxB) rfl
theorem lay_first {P : List T2} {N : List Str} (nd : N.Nodup) (h : Whole P N) {k : Nat} {n x : Str} (hk : (lay P N.length N)[k]? = some n) (hx : x ∈ N.take (N.idxOf n)) (hd : x ∈ (lay P N.length N).drop k) : freeIn P ((lay P N.length N).drop k) x = false := by
  have hkl : k < N.length := by
    have := (List.getElem?_eq_some_iff.mp hk).1
    have h2 := lay_len P N.length N
    omega
  obtain ⟨m, m1, m2, m3⟩ := lay_drop k N h (by omega)
  have hperm := lay_perm m.length m rfl m2
  have hmem : ∀ y, y ∈ (lay P N.length N).drop k ↔ y ∈ m := fun y => by rw [m3]; exact hperm.mem_iff
  have hfree : freeIn P ((lay P N.length N).drop k) x = freeIn P m x := by
    unfold freeIn
    congr 1
    refine any_same fun p hp => ?_
    by_cases c : p.1 ∈ m
    · rw [decide_eq_true c, decide_eq_true ((hmem _).mpr c)]
    · rw [decide_eq_false c, decide_eq_false (fun z => c ((hmem _).mp z))]
  rw [hfree]
  have hne : m ≠ [] := fun z => by
    have := (hmem x).mp hd
    rw [z] at this; cases this
  obtain ⟨n', q⟩ := whole_some m2 hne
  have hnn : n' = n := by
    have e1 : ((lay P N.length N).drop k)[0]? = some n := by simpa using hk
    rw [m3, lay_some q] at e1
    simpa using e1
  subst hnn
  obtain ⟨hq1, A, B, hm, hA⟩ := List.find?_eq_some_iff_append.mp q
  have hxm := (hmem x).mp hd
  rw [hm] at hxm
  rcases List.mem_append.mp hxm with hxA | hxB
  · have := hA x hxA
    simpa using this
  · exfalso
    have hnN : n' ∈ N := m1.subset (List.mem_of_find?_eq_some q)
    rcases List.mem_cons.mp hxB with rfl | hxB
    · exact not_before _ _ hx
    · refine pair_sub nd (n := n') (x := x) ?_ hx
      refine List.Sublist.trans ?_ m1
      rw [hm]
      exact List.Sublist.trans (List.Sublist.cons_cons n' (List.singleton_sublist.mpr hxB)) (List.sublist_append_right A (n' :: B))
end Fw
namespace Fw
open PySem L2
/-! ### the order at any hall, of any names that hang -/
def pairH (h : HallM) (N : List Str) (n : Str) : List T2 := match h.find n with
  | some c => pairA n c.ahead N ++ pairB n c.behind N
  | none => []
def pairsH (h : HallM) (N : List Str) : List T2 := N.flatMap (pairH h N)
structure HOk (h : HallM) (N : List Str) : Prop where
  fd : ∀ n ∈ N, ∃ c, h.find n = some c
  few : ∀ n ∈ N, ∀ c, h.find n = some c → c.ahead.length ≤ 1000 ∧ c.behind.length ≤ 1000
  len : N.length ≤ 40
  ok : ∀ x ∈ N, okS x
theorem pairH_len {h : HallM} {N : List Str} (ok : HOk h N) {n : Str} (hn : n ∈ N) : (pairH h N n).length ≤ 2000 := by
  obtain ⟨c, hc⟩ := ok.fd n hn
  obtain ⟨a, b⟩ := ok.few n hn c hc
  unfold pairH
  rw [hc]
  unfold pairA pairB
  rw [List.length_append, List.length_map, List.length_map]
  have a := List.length_filter_le (fun z => decide (z ∈ N)) c.ahead
  have b := List.length_filter_le (fun z => decide (z ∈ N)) c.behind
  omega
theorem pairH_in {h : HallM} {N : List Str} {n : Str} (hn : n ∈ N) {a b : Str} (q : (a, b) ∈ pairH h N n) : a ∈ N ∧ b ∈ N := by
  unfold pairH at q
  cases hc : h.find n with
  | none => rw [hc] at q; cases q
  | some c =>
    rw [hc] at q
    unfold pairA pairB at q
    rcases List.mem_append.mp q with hq | hq
    · obtain ⟨z, hz, e⟩ := List.mem_map.mp hq
      cases e
      exact ⟨hn, of_decide_eq_true (List.mem_filter.mp hz).2⟩
    · obtain ⟨z, hz, e⟩ := List.mem_map.mp hq
      cases e
      exact ⟨of_decide_eq_true (List.mem_filter.mp hz).2, hn⟩
theorem pairsH_in {h : HallM} {N : List Str} {a b : Str} (q : (a, b) ∈ pairsH h N) : a ∈ N ∧ b ∈ N := by
  obtain ⟨n, hn, hq⟩ := List.mem_flatMap.mp q
  exact pairH_in hn hq
theorem pairsH_len {h : HallM} {N : List Str} (ok : HOk h N) : (pairsH h N).length ≤ 100000 := by
  have key : ∀ M : List Str, (∀ n ∈ M, n ∈ N) → (M.flatMap (pairH h N)).length ≤ 2000 * M.length := by
    intro M
    induction M with
    | nil => intro _; exact Nat.le_refl 0
    | cons q M ih =>
      intro hh
      have a := ih fun p hp => hh p (List.mem_cons_of_mem _ hp)
      have b := pairH_len ok (hh q List.mem_cons_self)
      rw [List.flatMap_cons, List.length_append, List.length_cons]
      omega
  have := key N fun _ h => h
  have := ok.len
  unfold pairsH
  omega
theorem e_pairs_gen (h : HallM) (N : List Str) (ok : HOk h N) : R_pairs_of [.fh h, .pv (.list (N.map PyData.str))] = .ok (.ow (.ls false ((pairsH h N).map enc2))) [.un, .un] := by
  have hb := loop_eq (gd := fun _ => True) (tgt := tgName 3) (body := fb_pairs_of_1) (fun n : Str => PyData.str n) (fun due : List T2 => [.fh h, .pv (.list (N.map PyData.str)), .ls false (due.map enc2), .un, .un, .un]) (fun due n => due ++ pairH h N n) (fun i due => due.length ≤ 2000 * i) (fun _ => trivial) N [] (Nat.zero_le _)
    (by
      intro i due n hp hd
      have hm := List.mem_of_getElem? hp
      have hi : i < N.length := (List.getElem?_eq_some_iff.mp hp).1
      have l24 := ok.len
      have hlk := pairH_len ok hm
      obtain ⟨c, hf⟩ := ok.fd n hm
      obtain ⟨h3, h4⟩ := ok.few n hm c hf
      have n1 := fun A C D => dA A C D n _ N c.ahead rfl h3
      have n2 := fun A C D => dB A C D n _ N c.behind rfl h4
      refine ⟨_, rfl, ?_, by rw [List.length_append]; omega⟩
      have e0 : pairH h N n = pairA n c.ahead N ++ pairB n c.behind N := by unfold pairH; rw [hf]
      rw [e0] at hlk ⊢
      rw [List.length_append] at hlk
      have l1 : due.length + (pairA n c.ahead N).length ≤ 100000 := by omega
      have l2 : due.length + ((pairA n c.ahead N).length + (pairB n c.behind N).length) ≤ 100000 := by omega
      have p1 : c.get .ahead = c.ahead := rfl
      have p2 : c.get .behind = c.behind := rfl
      simp [fb_pairs_of_1, F_look, hf, p1, p2, n1, n2, l1, l2, Nat.add_assoc])
  have h3 := hb.1
  rw [fold_flat, List.nil_append] at h3
  simp only [List.map_nil] at h3
  simp [R_pairs_of, runF_def, f_pairs_of, h3, pairsH]
theorem e_order_gen (h : HallM) (N : List Str) (ok : HOk h N) : ∃ d, R_order_of [.fh h, .pv (.list (N.map PyData.str))] =
    if (laidL (pairsH h N) N).length < N.length then .ex ⟨"Ring", [("ring", d)]⟩ [.un, .un] else .ok (.ow (.ls false ((laidL (pairsH h N) N).map PyData.str))) [.un, .un] := by
  have hP : ∀ t ∈ pairsH h N, ok2 t := fun t ht => by
    obtain ⟨a, b⟩ := t
    obtain ⟨h1, h2⟩ := pairsH_in ht
    exact ⟨ok.ok a h1, ok.ok b h2⟩
  have hn : N.length ≤ 500 := by have := ok.len; omega
  have h1 := e_pairs_gen h N ok
  have h2 := e_laid N _ hP (pairsH_len ok) ok.ok hn
  obtain ⟨d, h3⟩ := e_shortest N _ ok.ok hn hP
  refine ⟨d, ?_⟩
  generalize laidL (pairsH h N) N = F at h2
  by_cases c : F.length < N.length
  · simp [R_order_of, runF_def, f_order_of, h1, h2, h3, c]
  · simp [R_order_of, runF_def, f_order_of, h1, h2, h3, c]
theorem e_order_hub (h : HallM) (ok : HOk h (h.at "hub")) (hk : ("hub" : Str) ∈ h.keys) (hl : h.pieces.length ≤ 1000) : ∃ d, R_order [.fh h, .pv (.str "hub")] =
    if (laidL (pairsH h (h.at "hub")) (h.at "hub")).length < (h.at "hub").length then .ex ⟨"Ring", [("ring", d)]⟩ [.un, .un] else .ok (.ow (.ls false ((laidL (pairsH h (h.at "hub")) (h.at "hub")).map PyData.str))) [.un, .un] := by
  obtain ⟨d, h1⟩ := e_order_gen h _ ok
  refine ⟨d, ?_⟩
  generalize laidL (pairsH h (h.at "hub")) (h.at "hub") = F at h1
  by_cases c : F.length < (h.at "hub").length
  · rw [if_pos c] at h1 ⊢
    simp [R_order, runF_def, f_order, F_at, hl, hk, h1]
  · rw [if_neg c] at h1 ⊢
    simp [R_order, runF_def, f_order, F_at, hl, hk, h1]
/-- only which pairs there are counts -/
theorem freeIn_congr {P Q : List T2} (e : ∀ t, t ∈ P ↔ t ∈ Q) (l : List Str) (n : Str) : freeIn P l n = freeIn Q l n := by
  unfold freeIn
  congr 1
  rw [Bool.eq_iff_iff, List.any_eq_true, List.any_eq_true]
  constructor
  · rintro ⟨t, h1, h2⟩; exact ⟨t, (e t).mp h1, h2⟩
  · rintro ⟨t, h1, h2⟩; exact ⟨t, (e t).mpr h1, h2⟩
theorem lay_congr {P Q : List T2} (e : ∀ t, t ∈ P ↔ t ∈ Q) : ∀ (k : Nat) (l : List Str), lay P k l = lay Q k l := by
  have hf : ∀ l, freeIn P l = freeIn Q l := fun l => funext fun n => freeIn_congr e l n
  intro k
  induction k with
  | zero => intro l; rfl
  | succ k ih =>
    intro l
    unfold lay
    rw [hf l]
    cases l.find? (freeIn Q l) with
    | none => rfl
    | some n => simp only [ih]
theorem laidL_congr {P Q : List T2} (e : ∀ t, t ∈ P ↔ t ∈ Q) (N : List Str) : laidL P N = laidL Q N := lay_congr e _ _
/-- the pairs as the law tells them -/
theorem pairs_same {h : HallM} {ps : List LP} {N : List Str} (hf : ∀ p ∈ ps, p.name ∈ N → h.find p.name = some p.pc) (hN : ∀ n ∈ N, ∃ p ∈ ps, p.name = n) : ∀ t, t ∈ pairsH h N ↔ t ∈ pairsL ps N := by
  intro t
  constructor
  · intro ht
    obtain ⟨n, hn, hq⟩ := List.mem_flatMap.mp ht
    obtain ⟨p, hp, rfl⟩ := hN n hn
    refine List.mem_flatMap.mpr ⟨p, hp, ?_⟩
    unfold pairIf
    rw [if_pos hn]
    unfold pairH at hq
    rw [hf p hp hn] at hq
    exact hq
  · intro ht
    obtain ⟨p, hp, hq⟩ := List.mem_flatMap.mp ht
    unfold pairIf at hq
    split at hq
    · rename_i hn
      refine List.mem_flatMap.mpr ⟨p.name, hn, ?_⟩
      unfold pairH
      rw [hf p hp hn]
      exact hq
    · cases hq
end Fw
namespace Fw
open PySem L2
/-! ### a run, step by step -/
abbrev Row := Str × Deed
def encR (z : Row) : Str × PD := (z.1, z.2.enc)
def optD : Option Int → PD
  | some i => .int i
  | none => .none
def saidD : Deed → Int → Option Int
  | .add k, w => some (w + k)
  | .say k, _ => some k
  | _, _ => none
def overR (r : RunM) : Bool := r.shut || decide (r.spot = r.rows.length)
def takeR (r : RunM) (n : Str) (d : Deed) : RunM :=
  if r.kind = "all" then { r with told := r.told ++ [.tuple [.str n, optD (saidD d r.worth)]] }
  else match saidD d r.worth with
    | none => r
    | some s => if r.kind = "first" then { r with told := r.told ++ [.int s], shut := true }
      else if r.kind = "chain" then { r with worth := s }
      else if r.kind = "round" then (match d with
        | .add k => { r with worth := s, backs := r.backs ++ [k] }
        | _ => { r with worth := s, shut := true })
      else r
theorem e_over (r : RunM) : R_Run_over [.ob true (.run r)] = .ok (.pv (.bool (overR r))) [.ob true (.run r)] := by
  have hi : ((r.spot : Int) = (r.rows.length : Int)) ↔ r.spot = r.rows.length := by omega
  cases h : r.shut with
  | true => simp [R_Run_over, runF_def, f_Run_over, RunM.get, overR, h]
  | false => simp [R_Run_over, runF_def, f_Run_over, RunM.get, overR, h, hi]
theorem e_said (d : Deed) (w : Int) : R_said_by [.pv d.enc, .pv (.int w)] = .ok (.pv (optD (saidD d w))) [.un, .un] := by
  cases d <;> simp [R_said_by, runF_def, f_said_by, Deed.enc, saidD, optD]
theorem e_take (r : RunM) (n : Str) (d : Deed) (h1 : r.told.length ≤ 1000) (h2 : r.backs.length ≤ 1000) : R_Run_take [.ob true (.run r), .pv (.str n), .pv d.enc] = .ok (.pv .none) [.ob true (.run (takeR r n d)), .un, .un] := by
  have hs := e_said d r.worth
  have l1 : r.told.length ≤ 100000 := by omega
  have l2 : r.backs.length ≤ 100000 := by omega
  by_cases k1 : r.kind = "all"
  · simp [R_Run_take, runF_def, f_Run_take, RunM.get, hs, k1, takeR, l1, RunM.app, RunM.lst, gTup2, gVar]
  · cases hsd : saidD d r.worth with
    | none =>
      rw [hsd] at hs
      simp [R_Run_take, runF_def, f_Run_take, RunM.get, hs, k1, takeR, hsd, optD]
    | some s =>
      rw [hsd] at hs
      by_cases k2 : r.kind = "first"
      · simp [R_Run_take, runF_def, f_Run_take, RunM.get, hs, k1, k2, takeR, hsd, optD, l1, RunM.app, RunM.lst, gVar, RunM.put]
      · by_cases k3 : r.kind = "chain"
        · simp [R_Run_take, runF_def, f_Run_take, RunM.get, hs, k1, k2, k3, takeR, hsd, optD, RunM.put]
        · by_cases k4 : r.kind = "round"
          · simp only [Deed.enc] at hs
            cases d with
            | add k => simp [R_Run_take, runF_def, f_Run_take, RunM.get, hs, k1, k2, k3, k4, takeR, hsd, optD, RunM.put, Deed.enc, l2, RunM.app, RunM.lst, gVar, gIx, gInt]
            | say k => simp [R_Run_take, runF_def, f_Run_take, RunM.get, hs, k1, k2, k3, k4, takeR, hsd, optD, RunM.put, Deed.enc]
            | none => cases hsd
            | fail k => cases hsd
          · simp [R_Run_take, runF_def, f_Run_take, RunM.get, hs, k1, k2, k3, k4, takeR, hsd, optD]
/-! ### one step -/
theorem e_step_over (r : RunM) (h : overR r = true) : R_Run_step [.ob true (.run r)] = .ok (.pv .none) [.ob true (.run r)] := by
  have ho := e_over r
  rw [h] at ho
  simp [R_Run_step, runF_def, f_Run_step, ho]
def isFail : Deed → Bool
  | .fail _ => true
  | _ => false
theorem e_step_do (r : RunM) (n : Str) (d : Deed) (h : overR r = false) (hr : r.rows[r.spot]? = some (n, d.enc)) (hd : isFail d = false) (h1 : r.told.length ≤ 1000) (h2 : r.backs.length ≤ 1000) :
    R_Run_step [.ob true (.run r)] = .ok (.pv (.str n)) [.ob true (.run (takeR { r with spot := r.spot + 1 } n d))] := by
  have ho := e_over r
  rw [h] at ho
  have ht := e_take { r with spot := r.spot + 1 } n d h1 h2
  have hx : atI (r.rows.map rowD) (r.spot : Nat) = some (.tuple [.str n, d.enc]) := by
    rw [atI_nn _ _ (by omega), Int.toNat_natCast, List.getElem?_map, hr]; rfl
  have hn : ((r.spot : Int) + 1).toNat = r.spot + 1 := by omega
  have hp : (0 : Int) ≤ (r.spot : Int) + 1 := by omega
  cases d with
  | fail k => cases hd
  | add k => 
    simp only [Deed.enc] at ht hx
    simp [R_Run_step, runF_def, f_Run_step, ho, RunM.get, RunM.put, hx, hn, hp, ht]
  | say k => 
    simp only [Deed.enc] at ht hx
    simp [R_Run_step, runF_def, f_Run_step, ho, RunM.get, RunM.put, hx, hn, hp, ht]
  | none => 
    simp only [Deed.enc] at ht hx
    simp [R_Run_step, runF_def, f_Run_step, ho, RunM.get, RunM.put, hx, hn, hp, ht]
theorem e_step_hand (r : RunM) (n : Str) (k : Int) (h : overR r = false) (hr : r.rows[r.spot]? = some (n, (Deed.fail k).enc)) (hh : r.rule = "hand") :
    R_Run_step [.ob true (.run r)] = .ex ⟨"DeedFault", [("code", .int k), ("piece", .str n)]⟩ [.ob true (.run { r with spot := r.spot + 1, shut := true, torn := true })] := by
  have ho := e_over r
  rw [h] at ho
  have hx : atI (r.rows.map rowD) (r.spot : Nat) = some (.tuple [.str n, (Deed.fail k).enc]) := by
    rw [atI_nn _ _ (by omega), Int.toNat_natCast, List.getElem?_map, hr]; rfl
  have hn : ((r.spot : Int) + 1).toNat = r.spot + 1 := by omega
  have hp : (0 : Int) ≤ (r.spot : Int) + 1 := by omega
  simp only [Deed.enc] at hx
  simp [R_Run_step, runF_def, f_Run_step, ho, RunM.get, RunM.put, hx, hn, hp, hh]
theorem e_step_hold (r : RunM) (n : Str) (k : Int) (h : overR r = false) (hr : r.rows[r.spot]? = some (n, (Deed.fail k).enc)) (hh : r.rule ≠ "hand") (h1 : r.held.length ≤ 1000) :
    R_Run_step [.ob true (.run r)] = .ok (.pv (.str n)) [.ob true (.run { r with spot := r.spot + 1, held := r.held ++ [.tuple [.str n, .int k]] })] := by
  have ho := e_over r
  rw [h] at ho
  have hx : atI (r.rows.map rowD) (r.spot : Nat) = some (.tuple [.str n, (Deed.fail k).enc]) := by
    rw [atI_nn _ _ (by omega), Int.toNat_natCast, List.getElem?_map, hr]; rfl
  have hn : ((r.spot : Int) + 1).toNat = r.spot + 1 := by omega
  have hp : (0 : Int) ≤ (r.spot : Int) + 1 := by omega
  have l1 : r.held.length ≤ 100000 := by omega
  simp only [Deed.enc] at hx
  simp [R_Run_step, runF_def, f_Run_step, ho, RunM.get, RunM.put, hx, hn, hp, hh, l1, RunM.app, RunM.lst, gTup2, gIx, gVar, gInt]
end Fw
namespace Fw
open PySem L2
/-! ### a run to its end -/
def pairD (n : Str) (k : Int) : PD := .tuple [.str n, .int k]
/-- the rest of the rows: the fault that is handed on, or the run at its end -/
def goR : List Row → RunM → Sum (Str × Int × RunM) RunM
  | [], r => .inr r
  | (n, d) :: rest, r => if r.shut = true then .inr r else match d with
    | .fail k => if r.rule = "hand" then .inl (n, k, { r with spot := r.spot + 1, shut := true, torn := true }) else goR rest { r with spot := r.spot + 1, held := r.held ++ [pairD n k] }
    | d => goR rest (takeR { r with spot := r.spot + 1 } n d)
theorem goR_shut (z : Row) (rest : List Row) (r : RunM) (h : r.shut = true) : goR (z :: rest) r = .inr r := by
  obtain ⟨n, d⟩ := z
  unfold goR; rw [if_pos h]
theorem goR_hand (n : Str) (k : Int) (rest : List Row) (r : RunM) (h : ¬ r.shut = true) (hh : r.rule = "hand") : goR ((n, .fail k) :: rest) r = .inl (n, k, { r with spot := r.spot + 1, shut := true, torn := true }) := by
  conv => lhs; unfold goR
  rw [if_neg h]
  exact if_pos hh
theorem goR_hold (n : Str) (k : Int) (rest : List Row) (r : RunM) (h : ¬ r.shut = true) (hh : r.rule ≠ "hand") : goR ((n, .fail k) :: rest) r = goR rest { r with spot := r.spot + 1, held := r.held ++ [pairD n k] } := by
  conv => lhs; unfold goR
  rw [if_neg h]
  exact if_neg hh
theorem goR_do (n : Str) (d : Deed) (rest : List Row) (r : RunM) (h : ¬ r.shut = true) (hd : isFail d = false) : goR ((n, d) :: rest) r = goR rest (takeR { r with spot := r.spot + 1 } n d) := by
  conv => lhs; unfold goR
  rw [if_neg h]
  cases d with
  | fail k => cases hd
  | _ => rfl
structure RInv (rest : List Row) (r : RunM) : Prop where
  at_ : r.rows.drop r.spot = rest.map encR
  le : r.spot ≤ r.rows.length
  l1 : r.told.length ≤ r.spot
  l2 : r.backs.length ≤ r.spot
  l3 : r.held.length ≤ r.spot
  l4 : r.rows.length ≤ 900
theorem take_same (r : RunM) (n : Str) (d : Deed) : (takeR r n d).rows = r.rows ∧ (takeR r n d).spot = r.spot ∧ (takeR r n d).held = r.held ∧ (takeR r n d).rule = r.rule ∧ (takeR r n d).kind = r.kind ∧ (takeR r n d).torn = r.torn ∧
    (takeR r n d).told.length ≤ r.told.length + 1 ∧ (takeR r n d).backs.length ≤ r.backs.length + 1 := by
  unfold takeR
  split
  · refine ⟨rfl, rfl, rfl, rfl, rfl, rfl, ?_, by simp⟩
    simp
  · split
    · exact ⟨rfl, rfl, rfl, rfl, rfl, rfl, by simp, by simp⟩
    · split
      · refine ⟨rfl, rfl, rfl, rfl, rfl, rfl, by simp, by simp⟩
      · split
        · exact ⟨rfl, rfl, rfl, rfl, rfl, rfl, by simp, by simp⟩
        · split
          · cases d <;> exact ⟨rfl, rfl, rfl, rfl, rfl, rfl, by simp, by simp⟩
          · exact ⟨rfl, rfl, rfl, rfl, rfl, rfl, by simp, by simp⟩
theorem drop_next {α : Type} {xs : List α} {k : Nat} {a : α} {t : List α} (h : xs.drop k = a :: t) : xs[k]? = some a ∧ xs.drop (k + 1) = t ∧ k < xs.length := by
  have h1 : (xs.drop k)[0]? = some a := by rw [h]; rfl
  rw [List.getElem?_drop] at h1
  refine ⟨by simpa using h1, ?_, ?_⟩
  · have := congrArg (List.drop 1) h
    rw [List.drop_drop] at this
    simpa [Nat.add_comm] using this
  · have := (List.getElem?_eq_some_iff.mp h1).1
    simpa using this
theorem RInv.next {n : Str} {d : Deed} {rest : List Row} {r : RunM} (I : RInv ((n, d) :: rest) r) : r.rows[r.spot]? = some (n, d.enc) ∧ r.spot < r.rows.length ∧ RInv rest (takeR { r with spot := r.spot + 1 } n d) ∧ ∀ k, RInv rest { r with spot := r.spot + 1, held := r.held ++ [pairD n k] } := by
  obtain ⟨a, b, c⟩ := drop_next (show r.rows.drop r.spot = (n, d.enc) :: rest.map encR from I.at_)
  have := I.l1; have := I.l2; have := I.l3; have := I.l4
  obtain ⟨t1, t2, t3, t4, t5, t6, t7, t8⟩ := take_same { r with spot := r.spot + 1 } n d
  refine ⟨a, c, ⟨by rw [t1, t2]; exact b, by rw [t1, t2]; exact c, ?_, ?_, by rw [t2, t3]; show r.held.length ≤ r.spot + 1; omega, by rw [t1]; exact I.l4⟩, fun k => ⟨b, c, ?_, ?_, ?_, I.l4⟩⟩
  · rw [t2]
    have : (takeR { r with spot := r.spot + 1 } n d).told.length ≤ r.told.length + 1 := t7
    show _ ≤ r.spot + 1
    omega
  · rw [t2]
    have : (takeR { r with spot := r.spot + 1 } n d).backs.length ≤ r.backs.length + 1 := t8
    show _ ≤ r.spot + 1
    omega
  · show r.told.length ≤ r.spot + 1; omega
  · show r.backs.length ≤ r.spot + 1; omega
  · show (r.held ++ [pairD n k]).length ≤ r.spot + 1
    rw [List.length_append]; simp; omega
theorem over_nil {r : RunM} (I : RInv [] r) : overR r = true := by
  have h := I.at_
  have hl := congrArg List.length h
  rw [List.length_drop] at hl
  have := I.le
  have e : r.spot = r.rows.length := by simp at hl; omega
  unfold overR
  rw [e]; simp
theorem over_cons {z : Row} {rest : List Row} {r : RunM} (I : RInv (z :: rest) r) : overR r = r.shut := by
  obtain ⟨n, d⟩ := z
  have := I.next.2.1
  unfold overR
  rw [decide_eq_false (by omega)]; simp
def finE (b : Bool) (r : RunM) : En := [.ob b (.run r)]
theorem e_go : ∀ (m : Nat) (rest : List Row) (r : RunM), RInv rest r → rest.length < m → match goR rest r with
    | .inl (n, k, r') => whileN fw_finished_1 fb_finished_1 m (finE true r) = .ex ⟨"DeedFault", [("code", .int k), ("piece", .str n)]⟩ (finE true r')
    | .inr r' => whileN fw_finished_1 fb_finished_1 m (finE true r) = .ok .nx (finE true r') ∧ overR r' = true
  | 0, rest, r, I, h => by omega
  | m + 1, [], r, I, h => by
    have ho := over_nil I
    have e := e_over r
    rw [ho] at e
    refine ⟨while_no m (by simp [fw_finished_1, finE, e]), ho⟩
  | m + 1, (n, d) :: rest, r, I, h => by
    have hc := over_cons I
    have e := e_over r
    by_cases hs : r.shut = true
    · rw [hs] at hc
      rw [hc] at e
      rw [goR_shut _ _ _ hs]
      exact ⟨while_no m (by simp [fw_finished_1, finE, e]), hc⟩
    · rw [eq_false_of_ne_true hs] at hc
      rw [hc] at e
      obtain ⟨hr, hlt, I1, I2⟩ := I.next
      have i1 := I.l1; have i2 := I.l2; have i3 := I.l3; have i4 := I.l4
      have ht : fw_finished_1 (finE true r) = .ok true (finE true r) := by simp [fw_finished_1, finE, e]
      have step : ∀ r' : RunM, R_Run_step [.ob true (.run r)] = .ok (.pv (.str n)) [.ob true (.run r')] → fb_finished_1 (finE true r) = .ok .nx (finE true r') := fun r' hq => by
        simp [fb_finished_1, finE, hq]
      have hlen : rest.length < m := by simp at h; omega
      by_cases hd : isFail d = false
      · rw [goR_do _ _ _ _ hs hd, while_yes m ht (step _ (e_step_do r n _ hc hr hd (by omega) (by omega)))]
        exact e_go m rest _ I1 hlen
      · cases d with
        | fail k =>
          by_cases hh : r.rule = "hand"
          · rw [goR_hand _ _ _ _ hs hh]
            have hq := e_step_hand r n k hc hr hh
            have hb : fb_finished_1 (finE true r) = .ex ⟨"DeedFault", [("code", .int k), ("piece", .str n)]⟩ (finE true { r with spot := r.spot + 1, shut := true, torn := true }) := by
              simp [fb_finished_1, finE, hq]
            show (fw_finished_1 (finE true r)).bind _ = _
            rw [ht]
            show ((fb_finished_1 (finE true r)).bind _) = _
            rw [hb]; rfl
          · rw [goR_hold _ _ _ _ hs hh, while_yes m ht (step _ (e_step_hold r n k hc hr hh (by omega)))]
            exact e_go m rest _ (I2 k) hlen
        | add k => exact absurd rfl hd
        | say k => exact absurd rfl hd
        | none => exact absurd rfl hd
/-- what an ended run answers -/
def ansR (r : RunM) : PD := if r.kind = "all" then .list r.told else if r.kind = "first" then r.told.headD .none else .int (backN r.backs r.worth)
theorem e_answer (r : RunM) (ho : overR r = true) (ht : r.torn = false) (hk : r.kind = "first" → SeqAt.shaped (.list r.told) = true) : R_Run_answer [.ob true (.run r)] = .ok (if r.kind = "all" then .ow (.ls false r.told) else .pv (ansR r)) [.ob true (.run r)] := by
  have e := e_over r
  rw [ho] at e
  by_cases k1 : r.kind = "all"
  · simp [R_Run_answer, runF_def, f_Run_answer, RunM.get, e, ht, k1, fRlist, RunM.lst]
  · by_cases k2 : r.kind = "first"
    · have hs := hk k2
      cases htd : r.told with
      | nil =>
        rw [htd] at hs
        have hv : PyData.eqv (.list []) (.list []) = true := by decide +kernel
        simp [R_Run_answer, runF_def, f_Run_answer, RunM.get, e, ht, k1, k2, fRnil, RunM.lst, htd, hs, hv, ansR]
      | cons x xs =>
        rw [htd] at hs
        have hv : PyData.eqv (.list (x :: xs)) (.list []) = false := by rfl
        simp [R_Run_answer, runF_def, f_Run_answer, RunM.get, e, ht, k1, k2, fRnil, fRix, RunM.lst, htd, hs, hv, ansR]
    · simp [R_Run_answer, runF_def, f_Run_answer, RunM.get, e, ht, k1, k2, ansR]
theorem e_answer_no (r : RunM) (ho : overR r = false ∨ r.torn = true) : R_Run_answer [.ob true (.run r)] = .ex ⟨"NoAnswer", []⟩ [.ob true (.run r)] := by
  have e := e_over r
  cases h : overR r with
  | false =>
    rw [h] at e
    simp [R_Run_answer, runF_def, f_Run_answer, RunM.get, e]
  | true =>
    rw [h] at e ho
    have ht : r.torn = true := by rcases ho with z | z; cases z; exact z
    simp [R_Run_answer, runF_def, f_Run_answer, RunM.get, e, ht]
theorem e_faults (r : RunM) : R_Run_faults [.ob true (.run r)] = .ok (.ow (.ls false r.held)) [.ob true (.run r)] := by
  simp [R_Run_faults, runF_def, f_Run_faults, fRlist, RunM.lst]
end Fw
namespace Fw
open PySem L2
/-! ### the plain walk -/
def wAns (kind : Str) : List Row → Int → List PD → List PD → PD × List PD
  | [], w, told, held => (if kind = "all" then .list told else if kind = "first" then .none else .int w, held)
  | (n, .fail k) :: r, w, told, held => wAns kind r w told (held ++ [pairD n k])
  | (n, d) :: r, w, told, held => if kind = "all" then wAns kind r w (told ++ [.tuple [.str n, optD (saidD d w)]]) held
    else match saidD d w with
      | none => wAns kind r w told held
      | some s => if kind = "first" then (.int s, held) else wAns kind r s told held
theorem wAns_do {kind n : Str} {d : Deed} (hd : isFail d = false) (r : List Row) (w : Int) (told held : List PD) : wAns kind ((n, d) :: r) w told held = if kind = "all" then wAns kind r w (told ++ [.tuple [.str n, optD (saidD d w)]]) held
    else match saidD d w with
      | none => wAns kind r w told held
      | some s => if kind = "first" then (.int s, held) else wAns kind r s told held := by
  cases d with
  | fail k => cases hd
  | _ => rfl
def wRound : List Row → Int → List PD → Int × List PD
  | [], w, h => (w, h)
  | (_, .add k) :: r, w, h => (10 * (wRound r (w + k) h).1 + k, (wRound r (w + k) h).2)
  | (_, .say k) :: _, _, h => (k, h)
  | (n, .fail k) :: r, w, h => wRound r w (h ++ [pairD n k])
  | (_, .none) :: r, w, h => wRound r w h
theorem wAns_more (kind : Str) : ∀ (rows : List Row) (w : Int) (told held : List PD), ∃ t, (wAns kind rows w told held).2 = held ++ t
  | [], w, told, held => ⟨[], by simp [wAns]⟩
  | (n, d) :: rows, w, told, held => by
    by_cases hd : isFail d = false
    · rw [wAns_do hd]
      split
      · exact wAns_more kind rows _ _ _
      · split
        · exact wAns_more kind rows _ _ _
        · split
          · exact ⟨[], by simp⟩
          · exact wAns_more kind rows _ _ _
    · cases d with
      | fail k =>
        obtain ⟨t, ht⟩ := wAns_more kind rows w told (held ++ [pairD n k])
        exact ⟨pairD n k :: t, by show (wAns kind rows w told (held ++ [pairD n k])).2 = _; rw [ht, List.append_assoc]; rfl⟩
      | add k => exact absurd rfl hd
      | say k => exact absurd rfl hd
      | none => exact absurd rfl hd
theorem wRound_more : ∀ (rows : List Row) (w : Int) (held : List PD), ∃ t, (wRound rows w held).2 = held ++ t
  | [], w, held => ⟨[], by simp [wRound]⟩
  | (n, d) :: rows, w, held => by
    cases d with
    | fail k =>
      obtain ⟨t, ht⟩ := wRound_more rows w (held ++ [pairD n k])
      exact ⟨pairD n k :: t, by show (wRound rows w (held ++ [pairD n k])).2 = _; rw [ht, List.append_assoc]; rfl⟩
    | add k => exact wRound_more rows _ _
    | say k => exact ⟨[], by simp [wRound]⟩
    | none => exact wRound_more rows _ _
/-- an ended run and the plain walk -/
def GoEnd (r : RunM) (w : PD × List PD) : Sum (Str × Int × RunM) RunM → Prop
  | .inl (n, k, _) => r.rule = "hand" ∧ ∃ t, w.2 = r.held ++ pairD n k :: t
  | .inr r' => ansR r' = w.1 ∧ r'.held = w.2 ∧ r'.torn = false ∧ (r.rule = "hand" → w.2 = r.held) ∧ r'.kind = r.kind ∧ r'.rows = r.rows ∧ (r.kind = "first" → ∀ d ∈ r'.told, ∃ i, d = .int i)
theorem GoEnd.imp {r r1 : RunM} {w w1 : PD × List PD} {s : Sum (Str × Int × RunM) RunM} (h : GoEnd r1 w1 s) (e1 : w1 = w) (e2 : r1.rule = r.rule) (e3 : r1.held = r.held) (e4 : r1.kind = r.kind) (e5 : r1.rows = r.rows) : GoEnd r w s := by
  subst e1
  cases s with
  | inl z => obtain ⟨n, k, r'⟩ := z; obtain ⟨a, b⟩ := h; exact ⟨by rw [← e2]; exact a, by rw [← e3]; exact b⟩
  | inr r' => obtain ⟨a, b, c, d, f, g, k⟩ := h; exact ⟨a, b, c, by rw [← e2, ← e3]; exact d, by rw [← e4]; exact f, by rw [← e5]; exact g, by rw [← e4]; exact k⟩
theorem go_spec : ∀ (rest : List Row) (r : RunM), RInv rest r → ¬ r.shut = true → r.torn = false → (r.kind = "all" ∨ r.kind = "chain" ∨ (r.kind = "first" ∧ r.told = [])) → r.kind ≠ "round" → (r.kind = "chain" → r.backs = []) →
    GoEnd r (wAns r.kind rest r.worth r.told r.held) (goR rest r)
  | [], r, I, hs, ht, hk, hr, hb => by
    unfold goR wAns
    refine ⟨?_, rfl, ht, fun _ => rfl, rfl, rfl, fun hf d hd => ?_⟩
    · unfold ansR
      rcases hk with hk | hk | ⟨hk, h2⟩
      · rw [if_pos hk, if_pos hk]
      · have h1 : ¬ r.kind = "all" := by rw [hk]; decide
        have h2 : ¬ r.kind = "first" := by rw [hk]; decide
        rw [if_neg h1, if_neg h2, if_neg h1, if_neg h2, hb hk]; rfl
      · have h1 : ¬ r.kind = "all" := by rw [hk]; decide
        rw [if_neg h1, if_pos hk, if_neg h1, if_pos hk, h2]; rfl
    · rcases hk with hk | hk | ⟨hk, h2⟩
      · rw [hk] at hf; exact absurd hf (by decide)
      · rw [hk] at hf; exact absurd hf (by decide)
      · rw [h2] at hd; cases hd
  | (n, d) :: rest, r, I, hs, ht, hk, hr, hb => by
    obtain ⟨_, _, I1, I2⟩ := I.next
    by_cases hd : isFail d = false
    · obtain ⟨t1, t2, t3, t4, t5, t6, _, _⟩ := take_same { r with spot := r.spot + 1 } n d
      rw [goR_do _ _ _ _ hs hd, wAns_do hd]
      rcases hk with hk | hk | ⟨hk, h2⟩
      · have e : takeR { r with spot := r.spot + 1 } n d = { r with spot := r.spot + 1, told := r.told ++ [.tuple [.str n, optD (saidD d r.worth)]] } := by unfold takeR; rw [if_pos hk]
        rw [if_pos hk]
        rw [e] at I1 ⊢
        exact (go_spec rest _ I1 hs ht (.inl hk) hr hb).imp rfl rfl rfl rfl rfl
      · have h1 : ¬ r.kind = "all" := by rw [hk]; decide
        have h2 : ¬ r.kind = "first" := by rw [hk]; decide
        rw [if_neg h1]
        cases hsd : saidD d r.worth with
        | none =>
          have e : takeR { r with spot := r.spot + 1 } n d = { r with spot := r.spot + 1 } := by unfold takeR; rw [if_neg h1]; simp only [hsd]
          rw [e] at I1 ⊢
          exact (go_spec rest _ I1 hs ht (.inr (.inl hk)) hr hb).imp rfl rfl rfl rfl rfl
        | some s =>
          have e : takeR { r with spot := r.spot + 1 } n d = { r with spot := r.spot + 1, worth := s } := by unfold takeR; rw [if_neg h1]; simp only [hsd]; rw [if_neg h2, if_pos hk]
          rw [e] at I1 ⊢
          simp only [if_neg h2]
          exact (go_spec rest _ I1 hs ht (.inr (.inl hk)) hr hb).imp rfl rfl rfl rfl rfl
      · have h1 : ¬ r.kind = "all" := by rw [hk]; decide
        rw [if_neg h1]
        cases hsd : saidD d r.worth with
        | none =>
          have e : takeR { r with spot := r.spot + 1 } n d = { r with spot := r.spot + 1 } := by unfold takeR; rw [if_neg h1]; simp only [hsd]
          rw [e] at I1 ⊢
          exact (go_spec rest _ I1 hs ht (.inr (.inr ⟨hk, h2⟩)) hr hb).imp rfl rfl rfl rfl rfl
        | some s =>
          have e : takeR { r with spot := r.spot + 1 } n d = { r with spot := r.spot + 1, told := r.told ++ [.int s], shut := true } := by unfold takeR; rw [if_neg h1]; simp only [hsd]; rw [if_pos hk]
          rw [e]
          simp only [if_pos hk]
          have eg : goR rest { r with spot := r.spot + 1, told := r.told ++ [.int s], shut := true } = .inr { r with spot := r.spot + 1, told := r.told ++ [.int s], shut := true } := by
            cases rest with
            | nil => rfl
            | cons z rest => exact goR_shut _ _ _ rfl
          rw [eg]
          refine ⟨?_, rfl, ht, fun _ => rfl, rfl, rfl, fun hf d hd => ?_⟩
          · unfold ansR
            simp only
            rw [if_neg h1, if_pos hk, h2]; rfl
          · simp only [h2, List.nil_append, List.mem_singleton] at hd
            exact ⟨s, hd⟩
    · cases d with
      | fail k =>
        by_cases hh : r.rule = "hand"
        · rw [goR_hand _ _ _ _ hs hh]
          obtain ⟨t, hw⟩ := wAns_more r.kind rest r.worth r.told (r.held ++ [pairD n k])
          exact ⟨hh, t, by show (wAns r.kind rest r.worth r.told (r.held ++ [pairD n k])).2 = _; rw [hw, List.append_assoc]; rfl⟩
        · rw [goR_hold _ _ _ _ hs hh]
          have g := go_spec rest _ (I2 k) hs ht hk hr hb
          show GoEnd r (wAns r.kind rest r.worth r.told (r.held ++ [pairD n k])) _
          cases q : goR rest { r with spot := r.spot + 1, held := r.held ++ [pairD n k] } with
          | inl z => rw [q] at g; obtain ⟨n', k', r'⟩ := z; exact absurd g.1 hh
          | inr r' => rw [q] at g; obtain ⟨a, b, c, d, f, g1, k1⟩ := g; exact ⟨a, b, c, fun z => absurd z hh, f, g1, k1⟩
      | add k => exact absurd rfl hd
      | say k => exact absurd rfl hd
      | none => exact absurd rfl hd
theorem backN_snoc (bs : List Int) (k b : Int) : backN (bs ++ [k]) b = backN bs (10 * b + k) := by
  unfold backN
  rw [List.reverse_append]; rfl
theorem go_round : ∀ (rest : List Row) (r : RunM), RInv rest r → ¬ r.shut = true → r.torn = false → r.kind = "round" →
    GoEnd r (.int (backN r.backs (wRound rest r.worth r.held).1), (wRound rest r.worth r.held).2) (goR rest r)
  | [], r, I, hs, ht, hk => by
    have h1 : ¬ r.kind = "all" := by rw [hk]; decide
    have h2 : ¬ r.kind = "first" := by rw [hk]; decide
    unfold goR wRound
    refine ⟨by unfold ansR; rw [if_neg h1, if_neg h2], rfl, ht, fun _ => rfl, rfl, rfl, fun hf => absurd hf h2⟩
  | (n, d) :: rest, r, I, hs, ht, hk => by
    have h1 : ¬ r.kind = "all" := by rw [hk]; decide
    have h2 : ¬ r.kind = "first" := by rw [hk]; decide
    have h3 : ¬ r.kind = "chain" := by rw [hk]; decide
    obtain ⟨_, _, I1, I2⟩ := I.next
    cases d with
    | fail k =>
      by_cases hh : r.rule = "hand"
      · rw [goR_hand _ _ _ _ hs hh]
        obtain ⟨t, hw⟩ := wRound_more rest r.worth (r.held ++ [pairD n k])
        exact ⟨hh, t, by show (wRound rest r.worth (r.held ++ [pairD n k])).2 = _; rw [hw, List.append_assoc]; rfl⟩
      · rw [goR_hold _ _ _ _ hs hh]
        have g := go_round rest _ (I2 k) hs ht hk
        show GoEnd r (.int (backN r.backs (wRound rest r.worth (r.held ++ [pairD n k])).1), (wRound rest r.worth (r.held ++ [pairD n k])).2) _
        cases q : goR rest { r with spot := r.spot + 1, held := r.held ++ [pairD n k] } with
        | inl z => rw [q] at g; obtain ⟨n', k', r'⟩ := z; exact absurd g.1 hh
        | inr r' => rw [q] at g; obtain ⟨a, b, c, d, f, g1, k1⟩ := g; exact ⟨a, b, c, fun z => absurd z hh, f, g1, k1⟩
    | add k =>
      rw [goR_do _ _ _ _ hs rfl]
      have e : takeR { r with spot := r.spot + 1 } n (.add k) = { r with spot := r.spot + 1, worth := r.worth + k, backs := r.backs ++ [k] } := by unfold takeR; rw [if_neg h1]; simp only [saidD]; rw [if_neg h2, if_neg h3, if_pos hk]
      rw [e] at I1 ⊢
      refine (go_round rest _ I1 hs ht hk).imp ?_ rfl rfl rfl rfl
      simp only [backN_snoc]; rfl
    | say k =>
      rw [goR_do _ _ _ _ hs rfl]
      have e : takeR { r with spot := r.spot + 1 } n (.say k) = { r with spot := r.spot + 1, worth := k, shut := true } := by unfold takeR; rw [if_neg h1]; simp only [saidD]; rw [if_neg h2, if_neg h3, if_pos hk]
      rw [e]
      have eg : goR rest { r with spot := r.spot + 1, worth := k, shut := true } = .inr { r with spot := r.spot + 1, worth := k, shut := true } := by
        cases rest with
        | nil => rfl
        | cons z rest => exact goR_shut _ _ _ rfl
      rw [eg]
      refine ⟨?_, rfl, ht, fun _ => rfl, rfl, rfl, fun hf => absurd hf h2⟩
      unfold ansR
      simp only
      rw [if_neg h1, if_neg h2]; rfl
    | none =>
      rw [goR_do _ _ _ _ hs rfl]
      have e : takeR { r with spot := r.spot + 1 } n .none = { r with spot := r.spot + 1 } := by unfold takeR; rw [if_neg h1]; simp only [saidD]
      rw [e] at I1 ⊢
      exact (go_round rest _ I1 hs ht hk).imp rfl rfl rfl rfl rfl
end Fw
namespace Fw
open PySem L2
/-! ### the law's walk -/
def encD (z : Row) : PD := rowD (encR z)
theorem encD_eq (n : Str) (d : Deed) : encD (n, d) = .tuple [.str n, d.enc] := rfl
theorem e_l_said (d : Deed) (w : Int) : R_l_said [.pv d.enc, .pv (.int w)] = .ok (.pv (optD (saidD d w))) [.un, .un] := by
  cases d <;> simp [R_l_said, runF_def, f_l_said, Deed.enc, saidD, optD]
theorem sh_deed (d : Deed) : Sh 1 d.enc := by
  have h1 : okS "add" := by unfold okS; decide +kernel
  have h2 : okS "say" := by unfold okS; decide +kernel
  have h3 : okS "none" := by unfold okS; decide +kernel
  have h4 : okS "fail" := by unfold okS; decide +kernel
  have two : ∀ {x : Str} (n : Int), okS x → Sh 1 (.tuple [.str x, .int n]) := fun n hx => sh_tuple fun d hd => by
    simp only [List.mem_cons, List.not_mem_nil, or_false] at hd
    rcases hd with rfl | rfl
    · exact sh_str hx
    · exact sh_int n
  cases d with
  | add n => exact two n h1
  | say n => exact two n h2
  | fail n => exact two n h4
  | none =>
    refine sh_tuple fun d hd => ?_
    simp only [List.mem_cons, List.not_mem_nil, or_false] at hd
    subst hd
    exact sh_str h3
def okR (rows : List Row) : Prop := ∀ z ∈ rows, okS z.1
theorem sh_row {z : Row} (h : okS z.1) : Sh 2 (encD z) := sh_tuple fun d hd => by
  simp only [List.mem_cons, List.not_mem_nil, or_false] at hd
  rcases hd with rfl | rfl
  · exact sh_up (sh_str h) (by decide)
  · exact sh_deed _
theorem sh_rows {rows : List Row} (h : okR rows) : Sh 3 (.list (rows.map encD)) := sh_list fun d hd => by
  obtain ⟨z, hz, rfl⟩ := List.mem_map.mp hd
  exact sh_row (h z hz)
theorem cut_1 (x : PD) (xs : List PD) : cutD (x :: xs) (some 1) none = xs := by
  unfold cutD
  have h1 : HT.sIx (x :: xs).length 0 (some 1) = 1 := by
    unfold HT.sIx
    simp
  have h2 : HT.sIx (x :: xs).length (x :: xs).length none = (x :: xs).length := by
    unfold HT.sIx
    simp
  rw [h1, h2]
  simp
theorem e_l_round_go : ∀ (m : Nat) (rows : List Row) (w : Int) (held : List PD) (s : Sl), rows.length < m → okR rows → held.length + rows.length ≤ 1000 → isL s (rows.map encD) →
    recF 4 f_l_round m [s, .pv (.int w), .ls true held] = .ok (.pv (.int (wRound rows w held).1)) [backS s, .un, .ls true (wRound rows w held).2]
  | 0, rows, w, held, s, h, _, _, _ => by omega
  | m + 1, [], w, held, s, h, ok, hl, hs => by
    have hnil : eqD (.list []) (.list []) = some true := by decide +kernel
    rw [recF_succ]
    rcases hs with rfl | rfl <;> simp [runF_def, f_l_round, hnil, wRound, backS, isRef]
  | m + 1, (n, d) :: rows, w, held, s, h, ok, hl, hs => by
    have he := eqD_nil (xs := ((n, d) :: rows).map encD) (sh_rows ok) (by decide)
    have hlen : rows.length < m := by simp at h; omega
    have ok2 : okR rows := fun z hz => ok z (List.mem_cons_of_mem _ hz)
    have hl2 : held.length + rows.length ≤ 1000 := by simp at hl; omega
    have hl3 : ∀ k, (held ++ [pairD n k]).length + rows.length ≤ 1000 := fun k => by simp at hl ⊢; omega
    have hhl : held.length < 100000 := by omega
    have ih := fun w' held' hh => e_l_round_go m rows w' held' (.pv (.list (rows.map encD))) hlen ok2 hh (.inr rfl)
    have hb : ∀ xs, backS (.pv (.list xs)) = .un := fun _ => rfl
    rw [recF_succ]
    cases d with
    | fail k =>
      have i1 := ih w (held ++ [pairD n k]) (hl3 k)
      simp only [pairD] at i1
      rcases hs with rfl | rfl <;> simp [List.map_cons, encD_eq, Deed.enc] at he ⊢ <;> simp [runF_def, f_l_round, he, mApp, hhl, cut_1, i1, hb, wRound, pairD, backS, isRef]
    | add k =>
      have i1 := ih (w + k) held hl2
      rcases hs with rfl | rfl <;> simp [List.map_cons, encD_eq, Deed.enc] at he ⊢ <;> simp [runF_def, f_l_round, he, mApp, hhl, cut_1, i1, hb, wRound, pairD, backS, isRef]
    | say k =>
      rcases hs with rfl | rfl <;> simp [List.map_cons, encD_eq, Deed.enc] at he ⊢ <;> simp [runF_def, f_l_round, he, mApp, hhl, cut_1, hb, wRound, pairD, backS, isRef]
    | none =>
      have i1 := ih w held hl2
      rcases hs with rfl | rfl <;> simp [List.map_cons, encD_eq, Deed.enc] at he ⊢ <;> simp [runF_def, f_l_round, he, mApp, hhl, cut_1, i1, hb, wRound, pairD, backS, isRef]
end Fw
namespace Fw
open PySem L2
def ansE (s : Sl) (kind : Str) (w : Int) (held told : List PD) : En := [.pv (.str kind), s, .pv (.int w), .ls true held, .ls false told, .un, .un, .un]
def selA (kind : Str) (w : Int) (told : List PD) : PD := if kind = "all" then .list told else if kind = "first" then .none else .int w
theorem ans_loop {gd : En → Prop} (s : Sl) (kind : Str) (hk : kind = "all" ∨ kind = "first" ∨ kind = "chain") (hg : ∀ w held told, gd (ansE s kind w held told)) : ∀ (rows : List Row) (w : Int) (held told : List PD), held.length + rows.length ≤ 1000 → told.length + rows.length ≤ 1000 →
    (∃ w' told', loopL gd (tgPair 5 6) fb_l_answer_1 (rows.map encD) (ansE s kind w held told) = .ok .nx (ansE s kind w' (wAns kind rows w told held).2 told') ∧ (wAns kind rows w told held).1 = selA kind w' told') ∨
    (kind = "first" ∧ ∃ i w' told', (wAns kind rows w told held).1 = .int i ∧ loopL gd (tgPair 5 6) fb_l_answer_1 (rows.map encD) (ansE s kind w held told) = .ok (.rt (.pv (.int i))) (ansE s kind w' (wAns kind rows w told held).2 told'))
  | [], w, held, told, h1, h2 => .inl ⟨w, told, loopL_nil (hg _ _ _), rfl⟩
  | (n, d) :: rows, w, held, told, h1, h2 => by
    have hs := e_l_said d w
    have hh : held.length < 100000 := by omega
    have ht : told.length < 100000 := by omega
    have h1' : held.length + rows.length ≤ 1000 := by simp at h1; omega
    have h2' : told.length + rows.length ≤ 1000 := by simp at h2; omega
    have go : ∀ (w2 : Int) (held2 told2 : List PD), fb_l_answer_1 [.pv (.str kind), s, .pv (.int w), .ls true held, .ls false told, .pv (.str n), .pv d.enc, .un] = .ok .nx (ansE s kind w2 held2 told2) →
        loopL gd (tgPair 5 6) fb_l_answer_1 (((n, d) :: rows).map encD) (ansE s kind w held told) = loopL gd (tgPair 5 6) fb_l_answer_1 (rows.map encD) (ansE s kind w2 held2 told2) := fun w2 held2 told2 hb => by
      rw [List.map_cons, loopL_cons (gd := gd) (e1 := [.pv (.str kind), s, .pv (.int w), .ls true held, .ls false told, .pv (.str n), .pv d.enc, .un]) (hg _ _ _) rfl, hb]; rfl
    by_cases hd : isFail d = false
    · rw [wAns_do hd]
      have hf : ∀ k, d ≠ .fail k := fun k z => by subst z; cases hd
      rcases hk with rfl | rfl | rfl
      · have hb : fb_l_answer_1 [.pv (.str "all"), s, .pv (.int w), .ls true held, .ls false told, .pv (.str n), .pv d.enc, .un] = .ok .nx (ansE s "all" w held (told ++ [.tuple [.str n, optD (saidD d w)]])) := by
          cases d with
          | fail k => exact absurd rfl (hf k)
          | _ =>
            simp only [Deed.enc] at hs
            simp [fb_l_answer_1, ansE, hs, Deed.enc, mApp, ht, saidD, optD]
        rw [go _ _ _ hb, if_pos rfl]
        exact ans_loop s _ (.inl rfl) hg rows _ _ _ h1' (by simp at h2 ⊢; omega)
      · rw [if_neg (by decide)]
        cases hsd : saidD d w with
        | none =>
          rw [hsd] at hs
          have hb : fb_l_answer_1 [.pv (.str "first"), s, .pv (.int w), .ls true held, .ls false told, .pv (.str n), .pv d.enc, .un] = .ok .nx (ansE s "first" w held told) := by
            cases d with
            | fail k => exact absurd rfl (hf k)
            | none =>
              simp only [Deed.enc] at hs
              simp [fb_l_answer_1, ansE, hs, Deed.enc, optD]
            | add k => cases hsd
            | say k => cases hsd
          rw [go _ _ _ hb]
          exact ans_loop s _ (.inr (.inl rfl)) hg rows _ _ _ h1' h2'
        | some i =>
          rw [hsd] at hs
          right
          refine ⟨rfl, i, w, told, by simp, ?_⟩
          have hb : fb_l_answer_1 [.pv (.str "first"), s, .pv (.int w), .ls true held, .ls false told, .pv (.str n), .pv d.enc, .un] = .ok (.rt (.pv (.int i))) (ansE s "first" w held told) := by
            cases d with
            | fail k => exact absurd rfl (hf k)
            | none => cases hsd
            | add k =>
              simp only [Deed.enc] at hs
              simp [fb_l_answer_1, ansE, hs, Deed.enc, optD]
            | say k =>
              simp only [Deed.enc] at hs
              simp [fb_l_answer_1, ansE, hs, Deed.enc, optD]
          rw [List.map_cons, loopL_cons (gd := gd) (e1 := [.pv (.str "first"), s, .pv (.int w), .ls true held, .ls false told, .pv (.str n), .pv d.enc, .un]) (hg _ _ _) rfl, hb]
          simp
      · rw [if_neg (by decide)]
        cases hsd : saidD d w with
        | none =>
          rw [hsd] at hs
          have hb : fb_l_answer_1 [.pv (.str "chain"), s, .pv (.int w), .ls true held, .ls false told, .pv (.str n), .pv d.enc, .un] = .ok .nx (ansE s "chain" w held told) := by
            cases d with
            | fail k => exact absurd rfl (hf k)
            | none =>
              simp only [Deed.enc] at hs
              simp [fb_l_answer_1, ansE, hs, Deed.enc, optD]
            | add k => cases hsd
            | say k => cases hsd
          rw [go _ _ _ hb]
          exact ans_loop s _ (.inr (.inr rfl)) hg rows _ _ _ h1' h2'
        | some i =>
          rw [hsd] at hs
          have hb : fb_l_answer_1 [.pv (.str "chain"), s, .pv (.int w), .ls true held, .ls false told, .pv (.str n), .pv d.enc, .un] = .ok .nx (ansE s "chain" i held told) := by
            cases d with
            | fail k => exact absurd rfl (hf k)
            | none => cases hsd
            | add k =>
              simp only [Deed.enc] at hs
              simp [fb_l_answer_1, ansE, hs, Deed.enc, optD]
            | say k =>
              simp only [Deed.enc] at hs
              simp [fb_l_answer_1, ansE, hs, Deed.enc, optD]
          rw [go _ _ _ hb]
          simp only [if_neg (show ¬ ("chain" : Str) = "first" by decide)]
          exact ans_loop s _ (.inr (.inr rfl)) hg rows _ _ _ h1' h2'
    · cases d with
      | fail k =>
        have hb : fb_l_answer_1 [.pv (.str kind), s, .pv (.int w), .ls true held, .ls false told, .pv (.str n), .pv (Deed.fail k).enc, .un] = .ok .nx (ansE s kind w (held ++ [pairD n k]) told) := by
          simp only [Deed.enc] at hs
          simp [fb_l_answer_1, ansE, hs, Deed.enc, mApp, hh, pairD, saidD, optD]
        rw [go _ _ _ hb]
        exact ans_loop s _ hk hg rows w _ told (by simp at h1 ⊢; omega) h2'
      | add k => exact absurd rfl hd
      | say k => exact absurd rfl hd
      | none => exact absurd rfl hd
/-- all four kinds -/
def wFull (kind : Str) (rows : List Row) (w : Int) : PD × List PD := if kind = "round" then (.int (wRound rows w []).1, (wRound rows w []).2) else wAns kind rows w [] []
def okK (kind : Str) : Prop := kind = "all" ∨ kind = "first" ∨ kind = "chain" ∨ kind = "round"
def retV : PD → Rv
  | .list xs => .ow (.ls false xs)
  | d => .pv d
theorem e_l_answer (kind : Str) (hk : okK kind) (rows : List Row) (w : Int) (ok : okR rows) (hl : rows.length ≤ 23) {s : Sl} (hs : isL s (rows.map encD)) :
    R_l_answer [.pv (.str kind), s, .pv (.int w), .ls true []] = .ok (retV (wFull kind rows w).1) [.un, backS s, .un, .ls true (wFull kind rows w).2] := by
  by_cases hr : kind = "round"
  · subst hr
    have h := e_l_round_go 24 rows w [] s (by omega) ok (by simp; omega) hs
    have h' : R_l_round [s, .pv (.int w), .ls true []] = .ok (.pv (.int (wRound rows w []).1)) [backS s, .un, .ls true (wRound rows w []).2] := h
    have e : wFull "round" rows w = (.int (wRound rows w []).1, (wRound rows w []).2) := if_pos rfl
    rw [e]
    rcases hs with rfl | rfl
    · simp only [backS_ref (s := .ls true (rows.map encD)) rfl] at h' ⊢
      simp [R_l_answer, runF_def, f_l_answer, h', retV]
    · have hb : ∀ xs, backS (.pv (.list xs)) = .un := fun _ => rfl
      simp only [hb] at h' ⊢
      simp [R_l_answer, runF_def, f_l_answer, h', retV]
  · have e : wFull kind rows w = wAns kind rows w [] [] := if_neg hr
    rw [e]
    have hk3 : kind = "all" ∨ kind = "first" ∨ kind = "chain" := by
      rcases hk with h | h | h | h
      · exact .inl h
      · exact .inr (.inl h)
      · exact .inr (.inr h)
      · exact absurd h hr
    rcases hs with rfl | rfl
    · have h := ans_loop (gd := fun e => e[1]? = some (.ls true (rows.map encD))) (.ls true (rows.map encD)) kind hk3 (fun _ _ _ => rfl) rows w [] [] (by simp; omega) (by simp; omega)
      simp only [backS_ref (s := .ls true (rows.map encD)) rfl]
      rcases h with ⟨w', told', h1, h2⟩ | ⟨rfl, i, w', told', h1, h2⟩
      · rw [h2]
        simp only [ansE] at h1
        rcases hk3 with rfl | rfl | rfl <;> simp [R_l_answer, runF_def, f_l_answer, h1, selA, retV, selD, rdDV]
      · rw [h1]
        simp only [ansE] at h2
        simp [R_l_answer, runF_def, f_l_answer, h2, retV]
    · have h := ans_loop (gd := fun _ => True) (.pv (.list (rows.map encD))) kind hk3 (fun _ _ _ => trivial) rows w [] [] (by simp; omega) (by simp; omega)
      have hb : ∀ xs, backS (.pv (.list xs)) = .un := fun _ => rfl
      simp only [hb]
      rcases h with ⟨w', told', h1, h2⟩ | ⟨rfl, i, w', told', h1, h2⟩
      · rw [h2]
        simp only [ansE] at h1
        rcases hk3 with rfl | rfl | rfl <;> simp [R_l_answer, runF_def, f_l_answer, h1, selA, retV, selD, rdDV]
      · rw [h1]
        simp only [ansE] at h2
        simp [R_l_answer, runF_def, f_l_answer, h2, retV]
end Fw
namespace Fw
open PySem L2
/-! ### what a call comes to, as the law tells -/
def heldP (d : PD) : Prop := ∃ n k, okS n ∧ d = pairD n k
theorem sh_pair {n : Str} (k : Int) (h : okS n) : Sh 1 (pairD n k) := sh_tuple fun d hd => by
  simp only [List.mem_cons, List.not_mem_nil, or_false] at hd
  rcases hd with rfl | rfl
  · exact sh_str h
  · exact sh_int k
theorem sh_held {xs : List PD} (h : ∀ d ∈ xs, heldP d) : Sh 2 (.list xs) := sh_list fun d hd => by
  obtain ⟨n, k, hn, rfl⟩ := h d hd
  exact sh_pair k hn
theorem wRound_held : ∀ (rows : List Row) (w : Int) (held : List PD), okR rows → (∀ d ∈ held, heldP d) → ∀ d ∈ (wRound rows w held).2, heldP d
  | [], w, held, _, h => h
  | (n, d) :: rows, w, held, ok, h => by
    have ok2 : okR rows := fun z hz => ok z (List.mem_cons_of_mem _ hz)
    cases d with
    | fail k =>
      refine wRound_held rows w _ ok2 fun d hd => ?_
      rcases List.mem_append.mp hd with q | q
      · exact h d q
      · rw [List.mem_singleton] at q; subst q; exact ⟨n, k, ok _ List.mem_cons_self, rfl⟩
    | add k => exact wRound_held rows _ _ ok2 h
    | say k => exact h
    | none => exact wRound_held rows _ _ ok2 h
theorem wAns_held (kind : Str) : ∀ (rows : List Row) (w : Int) (told held : List PD), okR rows → (∀ d ∈ held, heldP d) → ∀ d ∈ (wAns kind rows w told held).2, heldP d
  | [], w, told, held, _, h => h
  | (n, d) :: rows, w, told, held, ok, h => by
    have ok2 : okR rows := fun z hz => ok z (List.mem_cons_of_mem _ hz)
    by_cases hd : isFail d = false
    · rw [wAns_do hd]
      split
      · exact wAns_held kind rows _ _ _ ok2 h
      · split
        · exact wAns_held kind rows _ _ _ ok2 h
        · split
          · exact h
          · exact wAns_held kind rows _ _ _ ok2 h
    · cases d with
      | fail k =>
        refine wAns_held kind rows w told _ ok2 fun d hd => ?_
        rcases List.mem_append.mp hd with q | q
        · exact h d q
        · rw [List.mem_singleton] at q; subst q; exact ⟨n, k, ok _ List.mem_cons_self, rfl⟩
      | add k => exact absurd rfl hd
      | say k => exact absurd rfl hd
      | none => exact absurd rfl hd
theorem wFull_held (kind : Str) (rows : List Row) (w : Int) (ok : okR rows) : ∀ d ∈ (wFull kind rows w).2, heldP d := by
  unfold wFull
  split
  · exact wRound_held rows w [] ok (fun d hd => by cases hd)
  · exact wAns_held kind rows w [] [] ok (fun d hd => by cases hd)
/-- an answer: a number, None, or a list of pairs of a name and a number or None -/
def ansP (d : PD) : Prop := d = .none ∨ (∃ i, d = .int i) ∨ ∃ xs : List (Str × Option Int), d = .list (xs.map fun z => .tuple [.str z.1, optD z.2]) ∧ (∀ z ∈ xs, okS z.1) ∧ xs.length ≤ 900
theorem wAns_ans (kind : Str) : ∀ (rows : List Row) (w : Int) (told : List (Str × Option Int)) (held : List PD), okR rows → (∀ z ∈ told, okS z.1) → told.length + rows.length ≤ 900 → ansP (wAns kind rows w (told.map fun z => .tuple [.str z.1, optD z.2]) held).1
  | [], w, told, held, _, h, hl => by
    show ansP (if kind = "all" then _ else _)
    split
    · exact .inr (.inr ⟨told, rfl, h, by omega⟩)
    · split
      · exact .inl rfl
      · exact .inr (.inl ⟨_, rfl⟩)
  | (n, d) :: rows, w, told, held, ok, h, hl => by
    have ok2 : okR rows := fun z hz => ok z (List.mem_cons_of_mem _ hz)
    have hl2 : told.length + rows.length ≤ 900 := by simp at hl; omega
    by_cases hd : isFail d = false
    · rw [wAns_do hd]
      split
      · have := wAns_ans kind rows w (told ++ [(n, saidD d w)]) held ok2 (fun z hz => by
          rcases List.mem_append.mp hz with q | q
          · exact h z q
          · rw [List.mem_singleton] at q; subst q; exact ok (n, d) List.mem_cons_self) (by simp at hl ⊢; omega)
        rw [List.map_append] at this
        exact this
      · split
        · exact wAns_ans kind rows _ _ _ ok2 h hl2
        · split
          · exact .inr (.inl ⟨_, rfl⟩)
          · exact wAns_ans kind rows _ _ _ ok2 h hl2
    · cases d with
      | fail k => exact wAns_ans kind rows w told _ ok2 h hl2
      | add k => exact absurd rfl hd
      | say k => exact absurd rfl hd
      | none => exact absurd rfl hd
theorem wFull_ans (kind : Str) (rows : List Row) (w : Int) (ok : okR rows) (hl : rows.length ≤ 900) : ansP (wFull kind rows w).1 := by
  unfold wFull
  split
  · exact .inr (.inl ⟨_, rfl⟩)
  · exact wAns_ans kind rows w [] [] ok (fun z hz => by cases hz) (by simp; omega)
def outD (kind rule : Str) (rows : List Row) (w : Int) : PD :=
  if rule = "hand" ∧ (wFull kind rows w).2 ≠ [] then .tuple [.str "fault", (wFull kind rows w).2.headD .none] else .tuple [.str "told", .tuple [(wFull kind rows w).1, .list (wFull kind rows w).2]]
theorem e_l_outcome (kind rule : Str) (hk : okK kind) (rows : List Row) (w : Int) (ok : okR rows) (hl : rows.length ≤ 23) {s : Sl} (hs : isL s (rows.map encD)) :
    R_l_outcome [.pv (.str kind), .pv (.str rule), s, .pv (.int w)] = .ok (.pv (outD kind rule rows w)) [.un, .un, backS s, .un] := by
  have h := e_l_answer kind hk rows w ok hl hs
  have hh := wFull_held kind rows w ok
  have he := eqD_nil (sh_held hh) (by decide)
  have ha := wFull_ans kind rows w ok (by omega)
  unfold outD
  generalize wFull kind rows w = z at h hh he ha
  obtain ⟨a, hd⟩ := z
  simp only at h hh he ha ⊢
  have hb : ∀ xs, backS (.pv (.list xs)) = .un := fun _ => rfl
  by_cases c : rule = "hand"
  · cases hd with
    | nil =>
      rw [if_neg (fun z => z.2 rfl)]
      rcases hs with rfl | rfl
      · simp only [backS_ref (s := .ls true (rows.map encD)) rfl] at h ⊢
        rcases ha with rfl | ⟨i, rfl⟩ | ⟨xs, rfl, _, _⟩ <;> simp only [retV] at h <;> simp [R_l_outcome, runF_def, f_l_outcome, h, he, c]
      · simp only [hb] at h ⊢
        rcases ha with rfl | ⟨i, rfl⟩ | ⟨xs, rfl, _, _⟩ <;> simp only [retV] at h <;> simp [R_l_outcome, runF_def, f_l_outcome, h, he, c]
    | cons x xs =>
      rw [if_pos ⟨c, by simp⟩]
      rcases hs with rfl | rfl
      · simp only [backS_ref (s := .ls true (rows.map encD)) rfl] at h ⊢
        rcases ha with rfl | ⟨i, rfl⟩ | ⟨xs, rfl, _, _⟩ <;> simp only [retV] at h <;> simp [R_l_outcome, runF_def, f_l_outcome, h, he, c]
      · simp only [hb] at h ⊢
        rcases ha with rfl | ⟨i, rfl⟩ | ⟨xs, rfl, _, _⟩ <;> simp only [retV] at h <;> simp [R_l_outcome, runF_def, f_l_outcome, h, he, c]
  · rw [if_neg (fun z => c z.1)]
    rcases hs with rfl | rfl
    · simp only [backS_ref (s := .ls true (rows.map encD)) rfl] at h ⊢
      rcases ha with rfl | ⟨i, rfl⟩ | ⟨xs, rfl, _, _⟩ <;> simp only [retV] at h <;> simp [R_l_outcome, runF_def, f_l_outcome, h, he, c]
    · simp only [hb] at h ⊢
      rcases ha with rfl | ⟨i, rfl⟩ | ⟨xs, rfl, _, _⟩ <;> simp only [retV] at h <;> simp [R_l_outcome, runF_def, f_l_outcome, h, he, c]
end Fw
namespace Fw
open PySem L2
/-! ### rows, begin, finished, call -/
theorem rows_comp {gd : En → Prop} (h : HallM) (F : List Str) (g : Str → PD) (hf : ∀ n ∈ F, ∃ c, h.find n = some c ∧ c.deed = g n) (hl : F.length ≤ 1000) (s : Sl) (hg : gd [.fh h, s, .un]) :
    compE gd (tgName 2) [2] fYes fe_rows_of_1 (F.map PyData.str) [.fh h, s, .un] = .ok (.ow (.ls false (F.map fun n => PyData.tuple [.str n, g n]))) [.fh h, s, .un] := by
  have key := compE_map (gd := gd) (tgt := tgName 2) (own := [2]) (ft := fYes) (fe := fe_rows_of_1) PyData.str (fun _ => true) (fun n => PyData.tuple [.str n, g n]) F [.fh h, s, .un] (by omega) rfl hg rfl
    (by
      intro n hn
      obtain ⟨c, h1, h2⟩ := hf n hn
      refine ⟨_, [.fh h, s, .pv (.str n)], rfl, rfl, .inr ⟨rfl, [.fh h, s, .pv (.str n)], ?_, rfl⟩⟩
      have hc : c.at1 .deed = g n := h2
      simp [fe_rows_of_1, F_look, h1, hc])
  rw [key, List.filter_eq_self.mpr (fun _ _ => rfl)]
theorem e_rows_of (h : HallM) (F : List Str) (g : Str → PD) (hf : ∀ n ∈ F, ∃ c, h.find n = some c ∧ c.deed = g n) (hl : F.length ≤ 1000) {s : Sl} (hs : isL s (F.map PyData.str)) :
    R_rows_of [.fh h, s] = .ok (.ow (.ls false (F.map fun n => PyData.tuple [.str n, g n]))) [.un, backS s] := by
  rcases hs with rfl | rfl
  · have k := rows_comp (gd := fun e => e[1]? = some (.ls true (F.map PyData.str))) h F g hf hl (.ls true (F.map PyData.str)) rfl
    simp [R_rows_of, runF_def, f_rows_of, k, backS, isRef]
  · have k := rows_comp (gd := fun _ => True) h F g hf hl (.pv (.list (F.map PyData.str))) trivial
    simp [R_rows_of, runF_def, f_rows_of, k, backS, isRef]
theorem e_begin (h : HallM) (k u : Str) (w : Int) (F : List Str) (rows : List (Str × PD)) (hk : getD "hub" (h.ent .kinds) = some (.str k)) (hr : getD "hub" (h.ent .rules) = some (.str u))
    (ho : R_order [.fh h, .pv (.str "hub")] = .ok (.ow (.ls false (F.map PyData.str))) [.un, .un]) (hrows : R_rows_of [.fh h, .ls true (F.map PyData.str)] = .ok (.ow (.ls false (rows.map rowD))) [.un, .ls true (F.map PyData.str)]) :
    R_begin [.fh h, .pv (.str "hub"), .pv (.int w)] = .ok (.ow (.ob false (.run (run0 k u rows w)))) [.un, .un, .un] := by
  have hm := rowsOf_map rows
  simp [R_begin, runF_def, f_begin, ho, hrows, hk, hr, runOf, hm]
theorem e_begin_ex (h : HallM) (w : Int) (x : Xc) (ho : R_order [.fh h, .pv (.str "hub")] = .ex x [.un, .un]) :
    R_begin [.fh h, .pv (.str "hub"), .pv (.int w)] = .ex x [.un, .un, .un] := by
  simp [R_begin, runF_def, f_begin, ho]
theorem run0_inv (kind rule : Str) (rows : List Row) (w : Int) (hl : rows.length ≤ 900) : RInv rows (run0 kind rule (rows.map encR) w) := ⟨rfl, Nat.zero_le _, Nat.le_refl 0, Nat.le_refl 0, Nat.le_refl 0, by show (rows.map encR).length ≤ 900; rw [List.length_map]; exact hl⟩
theorem run0_end (kind rule : Str) (hk : okK kind) (rows : List Row) (w : Int) (hl : rows.length ≤ 900) : GoEnd (run0 kind rule (rows.map encR) w) (wFull kind rows w) (goR rows (run0 kind rule (rows.map encR) w)) := by
  have I := run0_inv kind rule rows w hl
  unfold wFull
  by_cases hr : kind = "round"
  · rw [if_pos hr]
    exact go_round rows _ I (fun z => by cases z) rfl hr
  · rw [if_neg hr]
    refine go_spec rows _ I (fun z => by cases z) rfl ?_ hr (fun _ => rfl)
    rcases hk with z | z | z | z
    · exact .inl z
    · exact .inr (.inr ⟨z, rfl⟩)
    · exact .inr (.inl z)
    · exact absurd z hr
theorem shaped_ints {xs : List PD} (h : ∀ d ∈ xs, ∃ i, d = .int i) : SeqAt.shaped (.list xs) = true := shaped_of (sh_list (n := 0) fun d hd => by obtain ⟨i, rfl⟩ := h d hd; exact sh_int i) (by decide)
theorem e_finished (kind rule : Str) (hk : okK kind) (rows : List Row) (w : Int) (hl : rows.length ≤ 900) : ∃ r' : RunM,
    (rule = "hand" ∧ ∃ n k t, (wFull kind rows w).2 = pairD n k :: t ∧ R_finished [.ob true (.run (run0 kind rule (rows.map encR) w))] = .ex ⟨"DeedFault", [("code", .int k), ("piece", .str n)]⟩ [.ob true (.run r')]) ∨
    ((rule = "hand" → (wFull kind rows w).2 = []) ∧ R_finished [.ob true (.run (run0 kind rule (rows.map encR) w))] = .ok (.pv (.tuple [(wFull kind rows w).1, .list (wFull kind rows w).2])) [.ob true (.run r')]) := by
  have I := run0_inv kind rule rows w hl
  have g := run0_end kind rule hk rows w hl
  have e := e_go 1000 rows _ I (by omega)
  generalize wFull kind rows w = z at g
  cases q : goR rows (run0 kind rule (rows.map encR) w) with
  | inl y =>
    obtain ⟨n, k, r'⟩ := y
    rw [q] at g e
    obtain ⟨g1, t, g2⟩ := g
    refine ⟨r', .inl ⟨g1, n, k, t, g2, ?_⟩⟩
    simp only [finE] at e
    simp [R_finished, runF_def, f_finished, e]
  | inr r' =>
    rw [q] at g e
    obtain ⟨g1, g2, g3, g4, g5, _, g6⟩ := g
    obtain ⟨e1, e2⟩ := e
    refine ⟨r', .inr ⟨g4, ?_⟩⟩
    simp only [finE] at e1
    have ea := e_answer r' e2 g3 (fun z => shaped_ints (g6 (by rw [← g5]; exact z)))
    have ef := e_faults r'
    rw [← g1, ← g2]
    by_cases ka : r'.kind = "all"
    · rw [if_pos ka] at ea
      have eA : ansR r' = .list r'.told := if_pos ka
      rw [eA]
      simp [R_finished, runF_def, f_finished, e1, ea, ef]
    · rw [if_neg ka] at ea
      simp [R_finished, runF_def, f_finished, e1, ea, ef]
theorem e_call_ok (h : HallM) (w : Int) (r r' : RunM) (d : PD) (hb : R_begin [.fh h, .pv (.str "hub"), .pv (.int w)] = .ok (.ow (.ob false (.run r))) [.un, .un, .un]) (hf : R_finished [.ob true (.run r)] = .ok (.pv d) [.ob true (.run r')]) :
    R_call [.fh h, .pv (.str "hub"), .pv (.int w)] = .ok (.pv d) [.un, .un, .un] := by
  simp [R_call, runF_def, f_call, hb, hf, gNil, cutR]
theorem e_call_ex (h : HallM) (w : Int) (r r' : RunM) (x : Xc) (hb : R_begin [.fh h, .pv (.str "hub"), .pv (.int w)] = .ok (.ow (.ob false (.run r))) [.un, .un, .un]) (hf : R_finished [.ob true (.run r)] = .ex x [.ob true (.run r')]) :
    R_call [.fh h, .pv (.str "hub"), .pv (.int w)] = .ex x [.un, .un, .un] := by
  simp [R_call, runF_def, f_call, hb, hf, gNil, cutR]
theorem e_call_ring (h : HallM) (w : Int) (x : Xc) (hb : R_begin [.fh h, .pv (.str "hub"), .pv (.int w)] = .ex x [.un, .un, .un]) :
    R_call [.fh h, .pv (.str "hub"), .pv (.int w)] = .ex x [.un, .un, .un] := by
  simp [R_call, runF_def, f_call, hb, gNil, cutR]
end Fw
namespace Fw
open PySem L2
/-! ### what is told, set beside what is due -/
@[simp] theorem isTyb_int (x : Int) : isTy "bool" (.int x) = false := by show (("int" : String) == "bool" || ("int" : String) == "bool" && ("bool" : String) == "int") = false; decide
@[simp] theorem isTyl_int (x : Int) : isTy "list" (.int x) = false := by show (("int" : String) == "list" || ("int" : String) == "bool" && ("list" : String) == "int") = false; decide
@[simp] theorem isTyl_none : isTy "list" .none = false := by show (("NoneType" : String) == "list" || ("NoneType" : String) == "bool" && ("list" : String) == "int") = false; decide
theorem e_value (o : Option Int) : R_l_value [.pv (optD o), .pv (optD o)] = .ok (.pv (.bool true)) [.un, .un] := by
  cases o <;> simp [R_l_value, runF_def, f_l_value, optD, R_l_whole, f_l_whole]
def encP2 (z : Str × Option Int) : PD := .tuple [.str z.1, optD z.2]
theorem e_pairs_alike {s1 s2 : Sl} (xs : List (Str × Option Int)) (hl : xs.length ≤ 1000) (hk : ∀ z ∈ xs, okS z.1) (h1 : isL s1 (xs.map encP2)) (h2 : isL s2 (xs.map encP2)) : R_l_pairs_alike [s1, s2] = .ok (.pv (.bool true)) [backS s1, backS s2] := by
  have hb := loop_eq (gd := fun _ => True) (tgt := tgName 2) (body := fb_l_pairs_alike_1) (fun i : Nat => PyData.int (i : Nat)) (fun _ : Unit => [s1, s2, .un, .un]) (fun _ _ => ()) (fun _ _ => True) (fun _ => trivial) (List.range xs.length) () trivial
    (by
      rintro i ⟨⟩ k hk' -
      have hk2 : k < xs.length := by have := List.mem_of_getElem? hk'; rwa [List.mem_range] at this
      refine ⟨_, rfl, ?_, trivial⟩
      have e1 : atI (xs.map encP2) (k : Int) = some (encP2 xs[k]) := by
        rw [atI_nn _ _ (by omega), Int.toNat_natCast, List.getElem?_map, List.getElem?_eq_getElem hk2]; rfl
      have hv := e_value xs[k].2
      have hs := eqD_self (sh_str (hk xs[k] (List.getElem_mem hk2))) (by decide)
      generalize xs[k] = z at e1 hv hs
      obtain ⟨n, o⟩ := z
      have e3 : isTy "tuple" (encP2 (n, o)) = true := isTy_tuple _
      simp only [encP2] at e1 e3 hs hv
      rcases h1 with rfl | rfl <;> rcases h2 with rfl | rfl <;> simp [fb_l_pairs_alike_1, e1, hs, hv, e3])
  have hf := forR_eq (tgt := tgName 2) (body := fb_l_pairs_alike_1) (n := xs.length) (e := [s1, s2, .un, .un]) (by omega) (by omega)
  rw [Int.toNat_natCast] at hf
  have h3 := hb.1
  rcases h1 with rfl | rfl <;> rcases h2 with rfl | rfl <;> simp [R_l_pairs_alike, runF_def, f_l_pairs_alike, hf, h3, backS]
def isV (s : Sl) (d : PD) : Prop := s = .pv d ∨ ∃ xs, d = .list xs ∧ s = .ls true xs
theorem isV_list {s : Sl} {xs : List PD} (h : isV s (.list xs)) : isL s xs := by
  rcases h with rfl | ⟨ys, e, rfl⟩
  · exact .inr rfl
  · cases e; exact .inl rfl
theorem isV_opt {s : Sl} {o : Option Int} (h : isV s (optD o)) : s = .pv (optD o) := by
  rcases h with rfl | ⟨ys, e, rfl⟩
  · rfl
  · cases o <;> cases e
theorem backS_pv (d : PD) : backS (.pv d) = .un := rfl
theorem e_answer_right {d : PD} (h : ansP d) {s1 s2 : Sl} (h1 : isV s1 d) (h2 : isV s2 d) : R_l_answer_right [s1, s2] = .ok (.pv (.bool true)) [backS s1, backS s2] := by
  have key : ∀ o : Option Int, isV s1 (optD o) → isV s2 (optD o) → R_l_answer_right [s1, s2] = .ok (.pv (.bool true)) [backS s1, backS s2] := by
    intro o g1 g2
    have hv := e_value o
    rw [isV_opt g1, isV_opt g2]
    cases o with
    | none =>
      simp only [optD] at hv
      simp [R_l_answer_right, runF_def, f_l_answer_right, optD, hv, backS_pv]
    | some i =>
      simp only [optD] at hv
      simp [R_l_answer_right, runF_def, f_l_answer_right, optD, hv, backS_pv]
  rcases h with rfl | ⟨i, rfl⟩ | ⟨xs, rfl, hk, hl⟩
  · exact key none h1 h2
  · exact key (some i) h1 h2
  · have g1 := isV_list h1
    have g2 := isV_list h2
    have hp := e_pairs_alike xs (by omega) hk g1 g2
    have i1 : isTy "list" (.list (xs.map encP2)) = true := isTy_list _
    rcases g1 with rfl | rfl <;> rcases g2 with rfl | rfl <;> simp [R_l_answer_right, runF_def, f_l_answer_right, hp, i1, backS]
theorem held_pairs {hs : List PD} (h : ∀ d ∈ hs, heldP d) : ∃ xs : List (Str × Option Int), hs = xs.map encP2 ∧ ∀ z ∈ xs, okS z.1 := by
  induction hs with
  | nil => exact ⟨[], rfl, fun z hz => by cases hz⟩
  | cons d hs ih =>
    obtain ⟨n, k, hn, rfl⟩ := h d List.mem_cons_self
    obtain ⟨xs, rfl, hx⟩ := ih fun d hd => h d (List.mem_cons_of_mem _ hd)
    refine ⟨(n, some k) :: xs, rfl, fun z hz => ?_⟩
    rcases List.mem_cons.mp hz with rfl | hz
    · exact hn
    · exact hx z hz
end Fw
namespace Fw
open PySem L2
/-! ### calls at the law's halls -/
theorem hub_nd {ps : List LP} (ok : LPok ps) : (hubN ps).Nodup := ok.nd.sublist (List.filter_sublist.map _)
theorem hub_len {ps : List LP} : (hubN ps).length ≤ ps.length := by
  unfold hubN
  rw [List.length_map]
  exact hubs_len ps
theorem pair_in {ps : List LP} {names : List Str} {a b : Str} (h : (a, b) ∈ pairsL ps names) : a ∈ names ∧ b ∈ names := by
  obtain ⟨p, hp, hq⟩ := List.mem_flatMap.mp h
  unfold pairIf at hq
  split at hq
  · rename_i hn
    unfold pairOf pairA pairB at hq
    rcases List.mem_append.mp hq with hq | hq
    · obtain ⟨z, hz, e⟩ := List.mem_map.mp hq
      cases e
      exact ⟨hn, of_decide_eq_true (List.mem_filter.mp hz).2⟩
    · obtain ⟨z, hz, e⟩ := List.mem_map.mp hq
      cases e
      exact ⟨of_decide_eq_true (List.mem_filter.mp hz).2, hn⟩
  · cases hq
theorem pairs_len {ps : List LP} (ok : LPok ps) (names : List Str) : (pairsL ps names).length ≤ 100000 := by
  have key : ∀ qs : List LP, (∀ p ∈ qs, p ∈ ps) → (pairsL qs names).length ≤ 2000 * qs.length := by
    intro qs
    induction qs with
    | nil => intro _; exact Nat.le_refl 0
    | cons q qs ih =>
      intro h
      have a := ih fun p hp => h p (List.mem_cons_of_mem _ hp)
      have b : (pairIf names q).length ≤ 2000 := by
        unfold pairIf
        split
        · exact pair_len names ok (h q List.mem_cons_self)
        · exact Nat.zero_le _
      show ((q :: qs).flatMap (pairIf names)).length ≤ _
      rw [List.flatMap_cons, List.length_append, List.length_cons]
      have : (qs.flatMap (pairIf names)).length = (pairsL qs names).length := rfl
      omega
  have := key ps fun _ h => h
  have := ok.len
  omega
def okNs (ps : List LP) : Prop := ∀ p ∈ ps, okS p.name
theorem pieces_okS (ns : List Int) (s m : Int) : okNs (lawPieces ns s m) := by
  intro p hp
  obtain ⟨k, _, rfl⟩ := List.mem_map.mp hp
  exact ok_name _
theorem hubN_in {ps : List LP} {n : Str} (h : n ∈ hubN ps) : ∃ p ∈ ps, p.name = n := by
  obtain ⟨p, hp, rfl⟩ := List.mem_map.mp h
  exact ⟨p, (List.mem_filter.mp hp).1, rfl⟩
theorem hub_okS {ps : List LP} (h : okNs ps) : ∀ x ∈ hubN ps, okS x := by
  intro x hx
  obtain ⟨p, hp, rfl⟩ := hubN_in hx
  exact h p hp
theorem find_nd : ∀ {ps : List LP}, (ps.map (·.name)).Nodup → ∀ p ∈ ps, ps.find? (fun q => decide (q.name = p.name)) = some p
  | [], _, p, hp => by cases hp
  | q :: ps, nd, p, hp => by
    rw [List.map_cons, List.nodup_cons] at nd
    by_cases e : q.name = p.name
    · rw [List.find?_cons_of_pos (by simpa using e)]
      rcases List.mem_cons.mp hp with h | h
      · rw [h]
      · exact absurd (List.mem_map.mpr ⟨p, h, e.symm⟩) nd.1
    · rw [List.find?_cons_of_neg (by simpa using e)]
      rcases List.mem_cons.mp hp with h | h
      · exact absurd (by rw [h]) e
      · exact find_nd nd.2 p h
def deedOf (ps : List LP) (n : Str) : Deed := match ps.find? (fun q => decide (q.name = n)) with
  | some p => p.deed
  | none => .none
theorem deedOf_mem {ps : List LP} (ok : LPok ps) {p : LP} (hp : p ∈ ps) : deedOf ps p.name = p.deed := by
  unfold deedOf
  rw [find_nd ok.nd p hp]
def rowsL (ps : List LP) (F : List Str) : List Row := F.map fun n => (n, deedOf ps n)
theorem rowsL_len (ps : List LP) (F : List Str) : (rowsL ps F).length = F.length := List.length_map _
theorem rowsL_ok {ps : List LP} {F : List Str} (h : ∀ n ∈ F, okS n) : okR (rowsL ps F) := by
  intro z hz
  obtain ⟨n, hn, rfl⟩ := List.mem_map.mp hz
  exact h n hn
theorem rowsL_enc (ps : List LP) (F : List Str) : (rowsL ps F).map encD = F.map fun n => PyData.tuple [.str n, (deedOf ps n).enc] := by
  unfold rowsL
  rw [List.map_map]; rfl
theorem lay_sub (P : List T2) : ∀ (k : Nat) (l : List Str), ∀ x ∈ lay P k l, x ∈ l := by
  intro k
  induction k with
  | zero => intro l x hx; cases hx
  | succ k ih =>
    intro l x hx
    unfold lay at hx
    cases q : l.find? (freeIn P l) with
    | none => rw [q] at hx; cases hx
    | some n =>
      rw [q] at hx
      rcases List.mem_cons.mp hx with h | h
      · rw [h]; exact List.mem_of_find?_eq_some q
      · exact List.mem_of_mem_erase (ih _ x h)
theorem hallP_plen (k r : Str) (ps : List LP) : (hallP k r ps).pieces.length = ps.length := by unfold hallP hallW; simp
theorem hallP_hok (k r : Str) {ps : List LP} (ok : LPok ps) (hn : okNs ps) {N : List Str} (hN : ∀ n ∈ N, ∃ p ∈ ps, p.name = n) (hl : N.length ≤ 40) : HOk (hallP k r ps) N where
  fd := fun n h => by
    obtain ⟨p, hp, rfl⟩ := hN n h
    exact ⟨p.pc, find_pc k r ok hp⟩
  few := fun n h c hc => by
    obtain ⟨p, hp, rfl⟩ := hN n h
    rw [find_pc k r ok hp] at hc
    cases hc
    obtain ⟨a, b, _, _⟩ := ok.few p hp
    exact ⟨a, b⟩
  len := hl
  ok := fun x h => by
    obtain ⟨p, hp, rfl⟩ := hN x h
    exact hn p hp
/-- the order of the law's pieces -/
def rowF (ps : List LP) (N : List Str) : List Str := laidL (pairsL ps N) N
theorem pairsH_hallP (k r : Str) {ps : List LP} (ok : LPok ps) {N : List Str} (hN : ∀ n ∈ N, ∃ p ∈ ps, p.name = n) : laidL (pairsH (hallP k r ps) N) N = rowF ps N :=
  laidL_congr (pairs_same (fun p hp _ => find_pc k r ok hp) hN) N
theorem rowF_sub {ps : List LP} {N : List Str} : ∀ x ∈ rowF ps N, x ∈ N := lay_sub _ _ _
theorem rowF_len (ps : List LP) (N : List Str) : (rowF ps N).length ≤ N.length := lay_len _ _ _
theorem e_order_of_hub (k r : Str) {ps : List LP} (ok : LPok ps) (hn : okNs ps) {N : List Str} (hN : ∀ n ∈ N, ∃ p ∈ ps, p.name = n) (hl : N.length ≤ 40) : ∃ d, R_order_of [.fh (hallP k r ps), .pv (.list (N.map PyData.str))] =
    if (rowF ps N).length < N.length then .ex ⟨"Ring", [("ring", d)]⟩ [.un, .un] else .ok (.ow (.ls false ((rowF ps N).map PyData.str))) [.un, .un] := by
  obtain ⟨d, h⟩ := e_order_gen (hallP k r ps) N (hallP_hok k r ok hn hN hl)
  rw [pairsH_hallP k r ok hN] at h
  exact ⟨d, h⟩
theorem hallP_key (k r : Str) (ps : List LP) : ("hub" : Str) ∈ (hallP k r ps).keys := by simp [hallP, hallW, HallM.keys]
theorem e_order_hallP (k r : Str) {ps : List LP} (ok : LPok ps) (hn : okNs ps) : ∃ d, R_order [.fh (hallP k r ps), .pv (.str "hub")] =
    if (rowF ps (hubN ps)).length < (hubN ps).length then .ex ⟨"Ring", [("ring", d)]⟩ [.un, .un] else .ok (.ow (.ls false ((rowF ps (hubN ps)).map PyData.str))) [.un, .un] := by
  have l24 := ok.len
  have hl : (hubN ps).length ≤ 40 := by have := hub_len (ps := ps); omega
  have hk := hallP_hok k r ok hn (N := hubN ps) (fun n h => hubN_in h) hl
  have hat := at_hub k r ok
  obtain ⟨d, h⟩ := e_order_hub (hallP k r ps) (by rw [hat]; exact hk) (hallP_key k r ps) (by rw [hallP_plen]; omega)
  rw [hat, pairsH_hallP k r ok (fun n h => hubN_in h)] at h
  exact ⟨d, h⟩
theorem e_rows_hallP (k r : Str) {ps : List LP} (ok : LPok ps) {F : List Str} (hF : ∀ n ∈ F, ∃ p ∈ ps, p.name = n) (hl : F.length ≤ 1000) {s : Sl} (hs : isL s (F.map PyData.str)) :
    R_rows_of [.fh (hallP k r ps), s] = .ok (.ow (.ls false ((rowsL ps F).map encD))) [.un, backS s] := by
  rw [rowsL_enc]
  refine e_rows_of (hallP k r ps) F (fun n => (deedOf ps n).enc) (fun n h => ?_) hl hs
  obtain ⟨p, hp, rfl⟩ := hF n h
  exact ⟨p.pc, find_pc k r ok hp, by rw [deedOf_mem ok hp]; rfl⟩
theorem encR_rowD (rows : List Row) : (rows.map encR).map rowD = rows.map encD := by rw [List.map_map]; rfl
theorem ent_kind (k r : Str) (ps : List LP) : getD "hub" ((hallP k r ps).ent .kinds) = some (.str k) := by simp [hallP, hallW, HallM.ent, getD]
theorem ent_rule (k r : Str) (ps : List LP) : getD "hub" ((hallP k r ps).ent .rules) = some (.str r) := by simp [hallP, hallW, HallM.ent, getD]
theorem e_begin_hallP (k r : Str) {ps : List LP} (ok : LPok ps) (hn : okNs ps) (w : Int) :
    (∃ d, (rowF ps (hubN ps)).length < (hubN ps).length ∧ R_begin [.fh (hallP k r ps), .pv (.str "hub"), .pv (.int w)] = .ex ⟨"Ring", [("ring", d)]⟩ [.un, .un, .un]) ∨
    ((rowF ps (hubN ps)).length = (hubN ps).length ∧ R_begin [.fh (hallP k r ps), .pv (.str "hub"), .pv (.int w)] = .ok (.ow (.ob false (.run (run0 k r ((rowsL ps (rowF ps (hubN ps))).map encR) w)))) [.un, .un, .un]) := by
  obtain ⟨d, h⟩ := e_order_hallP k r ok hn
  have l24 := ok.len
  have hl := hub_len (ps := ps)
  have h2 := rowF_len ps (hubN ps)
  by_cases c : (rowF ps (hubN ps)).length < (hubN ps).length
  · rw [if_pos c] at h
    exact .inl ⟨d, c, e_begin_ex _ w _ h⟩
  · rw [if_neg c] at h
    have hr := e_rows_hallP k r ok (F := rowF ps (hubN ps)) (fun n h => hubN_in (rowF_sub n h)) (by omega) (s := .ls true ((rowF ps (hubN ps)).map PyData.str)) (.inl rfl)
    rw [← encR_rowD] at hr
    exact .inr ⟨by omega, e_begin _ k r w _ _ (ent_kind k r ps) (ent_rule k r ps) h hr⟩
/-- what a call at the hub comes to -/
theorem e_call_hallP (k r : Str) (hk : okK k) {ps : List LP} (ok : LPok ps) (hn : okNs ps) (w : Int) :
    (∃ d, (rowF ps (hubN ps)).length < (hubN ps).length ∧ R_call [.fh (hallP k r ps), .pv (.str "hub"), .pv (.int w)] = .ex ⟨"Ring", [("ring", d)]⟩ [.un, .un, .un]) ∨
    ((rowF ps (hubN ps)).length = (hubN ps).length ∧
      ((r = "hand" ∧ ∃ n c t, (wFull k (rowsL ps (rowF ps (hubN ps))) w).2 = pairD n c :: t ∧ R_call [.fh (hallP k r ps), .pv (.str "hub"), .pv (.int w)] = .ex ⟨"DeedFault", [("code", .int c), ("piece", .str n)]⟩ [.un, .un, .un]) ∨
       ((r = "hand" → (wFull k (rowsL ps (rowF ps (hubN ps))) w).2 = []) ∧ R_call [.fh (hallP k r ps), .pv (.str "hub"), .pv (.int w)] = .ok (.pv (.tuple [(wFull k (rowsL ps (rowF ps (hubN ps))) w).1, .list (wFull k (rowsL ps (rowF ps (hubN ps))) w).2])) [.un, .un, .un]))) := by
  have l24 := ok.len
  have hl := hub_len (ps := ps)
  have h2 := rowF_len ps (hubN ps)
  rcases e_begin_hallP k r ok hn w with ⟨d, c, hb⟩ | ⟨c, hb⟩
  · exact .inl ⟨d, c, e_call_ring _ w _ hb⟩
  · refine .inr ⟨c, ?_⟩
    obtain ⟨r', h⟩ := e_finished k r hk (rowsL ps (rowF ps (hubN ps))) w (by rw [rowsL_len]; omega)
    rcases h with ⟨h1, n, c, t, h3, h4⟩ | ⟨h1, h4⟩
    · exact .inl ⟨h1, n, c, t, h3, e_call_ex _ w _ _ _ hb h4⟩
    · exact .inr ⟨h1, e_call_ok _ w _ _ _ hb h4⟩
/-! ### how many faults, which kinds -/
theorem wRound_hlen : ∀ (rows : List Row) (w : Int) (held : List PD), (wRound rows w held).2.length ≤ held.length + rows.length
  | [], w, held => Nat.le_refl _
  | (n, d) :: rows, w, held => by
    rw [List.length_cons]
    cases d with
    | fail k =>
      have := wRound_hlen rows w (held ++ [pairD n k])
      rw [List.length_append] at this
      exact Nat.le_trans this (by simp; omega)
    | add k => exact Nat.le_trans (wRound_hlen rows (w + k) held) (by omega)
    | say k => exact Nat.le_add_right _ _
    | none => exact Nat.le_trans (wRound_hlen rows w held) (by omega)
theorem wAns_hlen (kind : Str) : ∀ (rows : List Row) (w : Int) (told held : List PD), (wAns kind rows w told held).2.length ≤ held.length + rows.length
  | [], w, told, held => Nat.le_refl _
  | (n, d) :: rows, w, told, held => by
    rw [List.length_cons]
    by_cases hd : isFail d = false
    · rw [wAns_do hd]
      split
      · exact Nat.le_trans (wAns_hlen kind rows _ _ _) (by omega)
      · split
        · exact Nat.le_trans (wAns_hlen kind rows _ _ _) (by omega)
        · split
          · exact Nat.le_add_right _ _
          · exact Nat.le_trans (wAns_hlen kind rows _ _ _) (by omega)
    · cases d with
      | fail k =>
        have := wAns_hlen kind rows w told (held ++ [pairD n k])
        rw [List.length_append] at this
        exact Nat.le_trans this (by simp; omega)
      | add k => exact absurd rfl hd
      | say k => exact absurd rfl hd
      | none => exact absurd rfl hd
theorem wFull_hlen (kind : Str) (rows : List Row) (w : Int) : (wFull kind rows w).2.length ≤ rows.length := by
  unfold wFull
  split
  · have := wRound_hlen rows w []
    simpa using this
  · have := wAns_hlen kind rows w [] []
    simpa using this
theorem kind_ok (x : Int) : ∃ s : Str, okK s ∧ atI [PyData.str "all", .str "first", .str "chain", .str "round"] (x % 4) = some (.str s) := by
  have h : x % 4 = 0 ∨ x % 4 = 1 ∨ x % 4 = 2 ∨ x % 4 = 3 := by omega
  rcases h with h | h | h | h <;> rw [h]
  · exact ⟨"all", .inl rfl, rfl⟩
  · exact ⟨"first", .inr (.inl rfl), rfl⟩
  · exact ⟨"chain", .inr (.inr (.inl rfl)), rfl⟩
  · exact ⟨"round", .inr (.inr (.inr rfl)), rfl⟩
theorem rule_ok (x : Int) : ∃ s : Str, atI [PyData.str "hold", .str "hand"] (x % 2) = some (.str s) := by
  have h : x % 2 = 0 ∨ x % 2 = 1 := by omega
  rcases h with h | h <;> rw [h]
  · exact ⟨"hold", rfl⟩
  · exact ⟨"hand", rfl⟩
theorem lawPieces_len (ns : List Int) (s m : Int) : (lawPieces ns s m).length = m.toNat := by unfold lawPieces; rw [List.length_map, List.length_range]
end Fw
namespace Fw
open PySem L2
/-! ### statement by statement -/
theorem seq_nx {f g : Fs} {e e1 : En} {r : R Fl} (h : f e = .ok .nx e1) (h2 : g e1 = r) : fSeq f g e = r := by
  show (f e).bind (thenF g) = r
  rw [h]; exact h2
theorem seq_rt {f g : Fs} {e e1 : En} {v : Rv} (h : f e = .ok (.rt v) e1) : fSeq f g e = .ok (.rt v) e1 := by
  show (f e).bind (thenF g) = _
  rw [h]; rfl
theorem seq_ex {f g : Fs} {e e1 : En} {x : Xc} (h : f e = .ex x e1) : fSeq f g e = .ex x e1 := by
  show (f e).bind (thenF g) = _
  rw [h]; rfl
end Fw
namespace Fw
open PySem L2
noncomputable def f_l_told : Fs := (fSeq (fAsg 2 (fC .none))
  (fSeq (fTry (fAsg 2 (fSeqD false (fCons (fDz (fC (.str "told"))) (fCons (fDz (fCall 3 (liftF R_call) [] (fCons (fVar 0) (fCons (fC (.str "hub")) (fCons (fVar 1) fNil))))) fNil)))) [("DeedFault", some 3, (fAsg 2 (fSeqD false (fCons (fDz (fC (.str "fault"))) (fCons (fDz (fSeqD false (fCons (fDz (fXf 3 "DeedFault" "piece")) (fCons (fDz (fXf 3 "DeedFault" "code")) fNil)))) fNil))))), ("Ring", none, (fAsg 2 (fSeqD false (fCons (fDz (fC (.str "ring"))) fNil))))])
  (fRet (fVar 2))))
noncomputable def R_l_told : Fx := runF 4 f_l_told
noncomputable def f_l_right : Fs := (fSeq (fIf (fTest (fBin (opEq true) (fBin opIx (fVar 0) (fC (.int 0))) (fBin opIx (fVar 1) (fC (.int 0)))))
  (fRet (fC (.bool false)))
  fNext)
  (fSeq (fIf (fTest (fBin (opEq false) (fBin opIx (fVar 1) (fC (.int 0))) (fC (.str "fault"))))
  (fRet (fAndV (fBin (opEq false) (fBin opIx (fBin opIx (fVar 0) (fC (.int 1))) (fC (.int 0))) (fBin opIx (fBin opIx (fVar 1) (fC (.int 1))) (fC (.int 0)))) (fCall 2 R_l_value [] (fCons (fBin opIx (fBin opIx (fVar 0) (fC (.int 1))) (fC (.int 1))) (fCons (fBin opIx (fBin opIx (fVar 1) (fC (.int 1))) (fC (.int 1))) fNil)))))
  fNext)
  (fSeq (fIf (fOr (fNot (fTest (fUn (opIsi "tuple") (fBin opIx (fVar 0) (fC (.int 1)))))) (fTest (fBin (opEq true) (fUn opLen (fBin opIx (fVar 0) (fC (.int 1)))) (fC (.int 2)))))
  (fRet (fC (.bool false)))
  fNext)
  (fRet (fAndV (fCall 2 R_l_answer_right [] (fCons (fBin opIx (fBin opIx (fVar 0) (fC (.int 1))) (fC (.int 0))) (fCons (fBin opIx (fBin opIx (fVar 1) (fC (.int 1))) (fC (.int 0))) fNil))) (fCall 2 R_l_pairs_alike [] (fCons (fBin opIx (fBin opIx (fVar 0) (fC (.int 1))) (fC (.int 1))) (fCons (fBin opIx (fBin opIx (fVar 1) (fC (.int 1))) (fC (.int 1))) fNil))))))))
noncomputable def R_l_right : Fx := runF 2 f_l_right
noncomputable def fb_law_1 : Fs := (fForget [10]
  (fDput 9 (fBin opIx (fVar 10) (fC (.int 0))) (fBin opIx (fVar 10) (fC (.int 2)))))
noncomputable def fe_law_1 : Fx := (fSeqD false (fCons (fDz (fVar 11)) (fCons (fDz (fDget 9 (fVar 11))) fNil)))
noncomputable def f_law : Fs := (fSeq (fAsg 1 (fCall 3 R_l_pieces [] (fCons (fVar 0) (fCons (fC (.int 3)) (fCons (fBin opMod (fCall 2 R_l_cell_at [] (fCons (fVar 0) (fCons (fC (.int 0)) fNil))) (fC (.int 11))) fNil)))))
  (fSeq (fAsg 2 (fBin opIx (fSeqD true (fCons (fDz (fC (.str "all"))) (fCons (fDz (fC (.str "first"))) (fCons (fDz (fC (.str "chain"))) (fCons (fDz (fC (.str "round"))) fNil))))) (fBin opMod (fCall 2 R_l_cell_at [] (fCons (fVar 0) (fCons (fC (.int 1)) fNil))) (fC (.int 4)))))
  (fSeq (fAsg 3 (fBin opIx (fSeqD true (fCons (fDz (fC (.str "hold"))) (fCons (fDz (fC (.str "hand"))) fNil))) (fBin opMod (fBin opDiv (fCall 2 R_l_cell_at [] (fCons (fVar 0) (fCons (fC (.int 1)) fNil))) (fC (.int 4))) (fC (.int 2)))))
  (fSeq (fAsg 4 (fBin opSub (fBin opMod (fCall 2 R_l_cell_at [] (fCons (fVar 0) (fCons (fC (.int 2)) fNil))) (fC (.int 2001))) (fC (.int 1000))))
  (fSeq (fAsg 5 (fCall 3 R_l_hall [] (fCons (fVar 1) (fCons (fVar 2) (fCons (fVar 3) fNil)))))
  (fSeq (fAsg 6 (fCall 1 R_l_at_hub [] (fCons (fVar 1) fNil)))
  (fSeq (fAsg 7 (fCall 2 R_l_told [] (fCons (fVar 5) (fCons (fVar 4) fNil))))
  (fSeq (fAsg 8 (fCall 2 R_l_order [] (fCons (fVar 6) (fCons (fCall 2 R_l_pairs [] (fCons (fVar 1) (fCons (fVar 6) fNil))) fNil))))
  (fSeq (fIf (fTest (fBin (opIsM false) (fVar 8) (fC .none)))
  (fRet (fBin (opEq false) (fVar 7) (fSeqD false (fCons (fDz (fC (.str "ring"))) fNil))))
  fNext)
  (fSeq (fAsg 9 fDnew)
  (fSeq (fPre [10] (fFor (fVar 1) (tgName 10) fb_law_1))
  (fRet (fCall 2 R_l_right [] (fCons (fVar 7) (fCons (fCall 4 R_l_outcome [] (fCons (fVar 2) (fCons (fVar 3) (fCons (fLc (fVar 8) (tgName 11) [11] fYes fe_law_1) (fCons (fVar 4) fNil))))) fNil)))))))))))))))
noncomputable def R_law : Fx := runF 12 f_law
end Fw
namespace Fw
open PySem L2
/-! ### a whole call, told and right -/
theorem e_l_told (k r : Str) (hk : okK k) {ps : List LP} (ok : LPok ps) (hn : okNs ps) (w : Int) :
    R_l_told [.ob true (.hall (hallP k r ps)), .pv (.int w)] = .ok (.pv (if (rowF ps (hubN ps)).length < (hubN ps).length then .tuple [.str "ring"] else outD k r (rowsL ps (rowF ps (hubN ps))) w)) [.ob true (.hall (hallP k r ps)), .un] := by
  have x1 : ("Ring" : Str) ∈ leafs := by decide +kernel
  have x2 : ("DeedFault" : Str) ∈ leafs := by decide +kernel
  have x3 : isSub "Ring" "DeedFault" = false := by decide +kernel
  have x4 : isSub "DeedFault" "DeedFault" = true := by decide +kernel
  have x5 : isSub "Ring" "Ring" = true := by decide +kernel
  have lk1 : ∀ (n : Str) (q : Int), List.lookup ("piece" : Str) [(("code" : Str), PyData.int q), (("piece" : Str), PyData.str n)] = some (.str n) := fun _ _ => rfl
  have lk2 : ∀ (n : Str) (q : Int), List.lookup ("code" : Str) [(("code" : Str), PyData.int q), (("piece" : Str), PyData.str n)] = some (.int q) := fun _ _ => rfl
  rcases e_call_hallP k r hk ok hn w with ⟨d, c, h⟩ | ⟨c, ⟨h1, n, q, t, h2, h⟩ | ⟨h1, h⟩⟩
  · rw [if_pos c]
    simp [R_l_told, runF_def, f_l_told, h, x1, x2, x3, x5]
  · rw [if_neg (by omega)]
    have e : outD k r (rowsL ps (rowF ps (hubN ps))) w = .tuple [.str "fault", .tuple [.str n, .int q]] := by
      unfold outD
      rw [if_pos ⟨h1, by rw [h2]; simp⟩, h2]; rfl
    rw [e]
    simp [R_l_told, runF_def, f_l_told, h, x1, x2, x4, lk1, lk2]
  · rw [if_neg (by omega)]
    have e : outD k r (rowsL ps (rowF ps (hubN ps))) w = .tuple [.str "told", .tuple [(wFull k (rowsL ps (rowF ps (hubN ps))) w).1, .list (wFull k (rowsL ps (rowF ps (hubN ps))) w).2]] := by
      unfold outD
      rw [if_neg (fun z => z.2 (h1 z.1))]
    rw [e]
    simp [R_l_told, runF_def, f_l_told, h]
theorem e_l_right (k r : Str) (rows : List Row) (w : Int) (ok : okR rows) (hl : rows.length ≤ 23) : R_l_right [.pv (outD k r rows w), .pv (outD k r rows w)] = .ok (.pv (.bool true)) [.un, .un] := by
  have hh := wFull_held k rows w ok
  have ha := wFull_ans k rows w ok (by omega)
  have hlen : (wFull k rows w).2.length ≤ 1000 := Nat.le_trans (wFull_hlen k rows w) (by omega)
  unfold outD
  generalize wFull k rows w = z at hh ha hlen
  obtain ⟨a, hs⟩ := z
  obtain ⟨xs, rfl, hx⟩ := held_pairs hh
  simp only at ha hlen ⊢
  have e1 := e_answer_right ha (s1 := .pv a) (s2 := .pv a) (.inl rfl) (.inl rfl)
  have e2 := e_pairs_alike (s1 := .pv (.list (xs.map encP2))) (s2 := .pv (.list (xs.map encP2))) xs (by simpa using hlen) hx (.inr rfl) (.inr rfl)
  simp only [backS_pv] at e1 e2
  have t1 : eqD (.str "told") (.str "told") = some true := by decide +kernel
  have t2 : eqD (.str "fault") (.str "fault") = some true := by decide +kernel
  have t3 : eqD (.str "told") (.str "fault") = some false := by decide +kernel
  have ty : isTy "tuple" (.tuple [a, .list (xs.map encP2)]) = true := isTy_tuple _
  by_cases c : r = "hand" ∧ xs.map encP2 ≠ []
  · rw [if_pos c]
    cases xs with
    | nil => exact absurd rfl c.2
    | cons z xs =>
      obtain ⟨n, o⟩ := z
      have hv := e_value o
      have hs := eqD_self (sh_str (hx (n, o) List.mem_cons_self)) (by decide)
      simp only [List.map_cons, List.headD_cons, encP2]
      simp only at hs
      simp [R_l_right, runF_def, f_l_right, t2, hv, hs]
  · rw [if_neg c]
    simp [R_l_right, runF_def, f_l_right, t1, t3, ty, e1, e2]
end Fw
namespace Fw
open PySem L2
/-! ### the law -/
def deedKv (ps : List LP) : List (Str × PD) := ps.map fun p => (p.name, p.deed.enc)
theorem put_fresh {n : Str} {d : PD} {kvs : List (Str × PD)} (h : n ∉ kvs.map (·.1)) : putD n d kvs = kvs ++ [(n, d)] := by
  unfold putD keyIn
  rw [if_neg (by simpa using h)]
theorem get_kv {ps : List LP} (ok : LPok ps) {p : LP} (hp : p ∈ ps) : getD p.name (deedKv ps) = some p.deed.enc := by
  unfold getD deedKv
  rw [List.find?_map]
  have h := find_nd ok.nd p hp
  have e : ((fun z : Str × PD => decide (z.1 = p.name)) ∘ fun p : LP => (p.name, p.deed.enc)) = fun q : LP => decide (q.name = p.name) := rfl
  rw [e, h]; rfl
theorem deeds_loop {gd : En → Prop} (A B C D E F G H I : Sl) (hg : ∀ kvs, gd [A, B, C, D, E, F, G, H, I, .dk false kvs, .un, .un]) : ∀ (suf pre : List LP), ((pre ++ suf).map (·.name)).Nodup → (pre ++ suf).length ≤ 1000 →
    loopL gd (tgName 10) fb_law_1 (suf.map LP.enc) [A, B, C, D, E, F, G, H, I, .dk false (deedKv pre), .un, .un] = .ok .nx [A, B, C, D, E, F, G, H, I, .dk false (deedKv (pre ++ suf)), .un, .un]
  | [], pre, nd, hl => by rw [List.append_nil]; exact loopL_nil (hg _)
  | p :: suf, pre, nd, hl => by
    have hn : p.name ∉ (deedKv pre).map (·.1) := by
      intro z
      have e : (deedKv pre).map (·.1) = pre.map (·.name) := by unfold deedKv; rw [List.map_map]; rfl
      rw [e] at z
      rw [List.map_append, List.map_cons] at nd
      exact (List.nodup_append.mp nd).2.2 _ z _ List.mem_cons_self rfl
    have ih := deeds_loop A B C D E F G H I hg suf (pre ++ [p]) (by rw [List.append_assoc]; exact nd) (by rw [List.append_assoc]; exact hl)
    rw [List.append_assoc] at ih
    have hlen : (deedKv pre).length ≤ 100000 := by
      unfold deedKv; rw [List.length_map]; rw [List.length_append] at hl; omega
    have hp : putD p.name p.deed.enc (deedKv pre) = deedKv (pre ++ [p]) := by
      rw [put_fresh hn]; unfold deedKv; rw [List.map_append]; rfl
    rw [List.map_cons, loopL_cons (e1 := [A, B, C, D, E, F, G, H, I, .dk false (deedKv pre), .pv p.enc, .un]) (hg _) rfl]
    have hb : fb_law_1 [A, B, C, D, E, F, G, H, I, .dk false (deedKv pre), .pv p.enc, .un] = .ok .nx [A, B, C, D, E, F, G, H, I, .dk false (deedKv (pre ++ [p])), .un, .un] := by
      simp [fb_law_1, LP.enc, hlen, hp]
    rw [hb]
    exact ih
theorem e_pre (ns : List Int) (HH : HallM) (NN : List Str) (QQ : List PD) (O : PD) (m0 w : Int) (k r : Str) (g : Fs) (z : R Fl) (h0 : R_l_cell_at [.sc ns, .pv (.int 0)] = .ok (.pv (.int (cellAt ns 0))) [.sc ns, .un])
    (h1 : R_l_cell_at [.sc ns, .pv (.int 1)] = .ok (.pv (.int (cellAt ns 1))) [.sc ns, .un]) (h2 : R_l_cell_at [.sc ns, .pv (.int 2)] = .ok (.pv (.int (cellAt ns 2))) [.sc ns, .un])
    (hka : atI [PyData.str "all", .str "first", .str "chain", .str "round"] (cellAt ns 1 % 4) = some (.str k))
    (hra : atI [PyData.str "hold", .str "hand"] (cellAt ns 1 / 4 % 2) = some (.str r)) (hw : cellAt ns 2 % 2001 - 1000 = w) (hm : cellAt ns 0 % 11 = m0)
    (hp : R_l_pieces [.sc ns, .pv (.int 3), .pv (.int m0)] = .ok (.ow (.ls false QQ)) [.sc ns, .un, .un])
    (hh : R_l_hall [.ls true QQ, .pv (.str k), .pv (.str r)] = .ok (.ow (.ob false (.hall HH))) [.ls true QQ, .un, .un])
    (hhub : R_l_at_hub [.ls true QQ] = .ok (.ow (.ls false (NN.map PyData.str))) [.ls true QQ])
    (ht : R_l_told [.ob true (.hall HH), .pv (.int w)] = .ok (.pv O) [.ob true (.hall HH), .un])
    (h : g [.sc ns, .ls false QQ, .pv (.str k), .pv (.str r), .pv (.int w), .ob false (.hall HH), .ls false (NN.map PyData.str), .pv O, .un, .un, .un, .un] = z) : ((fSeq (fAsg 1 (fCall 3 R_l_pieces [] (fCons (fVar 0) (fCons (fC (.int 3)) (fCons (fBin opMod (fCall 2 R_l_cell_at [] (fCons (fVar 0) (fCons (fC (.int 0)) fNil))) (fC (.int 11))) fNil)))))
  (fSeq (fAsg 2 (fBin opIx (fSeqD true (fCons (fDz (fC (.str "all"))) (fCons (fDz (fC (.str "first"))) (fCons (fDz (fC (.str "chain"))) (fCons (fDz (fC (.str "round"))) fNil))))) (fBin opMod (fCall 2 R_l_cell_at [] (fCons (fVar 0) (fCons (fC (.int 1)) fNil))) (fC (.int 4)))))
  (fSeq (fAsg 3 (fBin opIx (fSeqD true (fCons (fDz (fC (.str "hold"))) (fCons (fDz (fC (.str "hand"))) fNil))) (fBin opMod (fBin opDiv (fCall 2 R_l_cell_at [] (fCons (fVar 0) (fCons (fC (.int 1)) fNil))) (fC (.int 4))) (fC (.int 2)))))
  (fSeq (fAsg 4 (fBin opSub (fBin opMod (fCall 2 R_l_cell_at [] (fCons (fVar 0) (fCons (fC (.int 2)) fNil))) (fC (.int 2001))) (fC (.int 1000))))
  (fSeq (fAsg 5 (fCall 3 R_l_hall [] (fCons (fVar 1) (fCons (fVar 2) (fCons (fVar 3) fNil)))))
  (fSeq (fAsg 6 (fCall 1 R_l_at_hub [] (fCons (fVar 1) fNil)))
  (fSeq (fAsg 7 (fCall 2 R_l_told [] (fCons (fVar 5) (fCons (fVar 4) fNil))))
  g)))))))) [.sc ns, .un, .un, .un, .un, .un, .un, .un, .un, .un, .un, .un] = z := by
  refine seq_nx (e1 := [.sc ns, .ls false QQ, .un, .un, .un, .un, .un, .un, .un, .un, .un, .un]) (by simp [h0, hm, hp]) ?_
  refine seq_nx (e1 := [.sc ns, .ls false QQ, .pv (.str k), .un, .un, .un, .un, .un, .un, .un, .un, .un]) (by simp [h1, hka]) ?_
  refine seq_nx (e1 := [.sc ns, .ls false QQ, .pv (.str k), .pv (.str r), .un, .un, .un, .un, .un, .un, .un, .un]) (by simp [h1, hra]) ?_
  refine seq_nx (e1 := [.sc ns, .ls false QQ, .pv (.str k), .pv (.str r), .pv (.int w), .un, .un, .un, .un, .un, .un, .un]) (by simp [h2, hw]) ?_
  refine seq_nx (e1 := [.sc ns, .ls false QQ, .pv (.str k), .pv (.str r), .pv (.int w), .ob false (.hall HH), .un, .un, .un, .un, .un, .un]) (by simp [hh]) ?_
  refine seq_nx (e1 := [.sc ns, .ls false QQ, .pv (.str k), .pv (.str r), .pv (.int w), .ob false (.hall HH), .ls false (NN.map PyData.str), .un, .un, .un, .un, .un]) (by simp [hhub]) ?_
  refine seq_nx (e1 := [.sc ns, .ls false QQ, .pv (.str k), .pv (.str r), .pv (.int w), .ob false (.hall HH), .ls false (NN.map PyData.str), .pv O, .un, .un, .un, .un]) (by simp [ht]) ?_
  exact h
theorem e_law (ns : List Int) (hns : ns.length ≤ 63) : ∃ e, R_law [.sc ns] = .ok (.pv (.bool true)) e := by
  have h0 := e_cell_at ns 0 (by omega)
  have h1 := e_cell_at ns 1 (by omega)
  have h2 := e_cell_at ns 2 (by omega)
  have hm0 : 0 ≤ cellAt ns 0 % 11 := by omega
  have hm1 : cellAt ns 0 % 11 ≤ 24 := by omega
  have hlen := lawPieces_len ns 3 (cellAt ns 0 % 11)
  have hp := e_pieces ns 3 (cellAt ns 0 % 11) (by omega) hm0 (by omega)
  have ok := pieces_ok ns 3 (cellAt ns 0 % 11) hm1
  have hn := pieces_okS ns 3 (cellAt ns 0 % 11)
  have hl10 : (lawPieces ns 3 (cellAt ns 0 % 11)).length ≤ 10 := by rw [hlen]; omega
  generalize lawPieces ns 3 (cellAt ns 0 % 11) = ps at hp ok hn hl10
  obtain ⟨k, hk, hka⟩ := kind_ok (cellAt ns 1)
  obtain ⟨r, hra⟩ := rule_ok (cellAt ns 1 / 4)
  generalize hw : cellAt ns 2 % 2001 - 1000 = w
  have hh := e_hall k r ps ok (s := .ls true (ps.map LP.enc)) (.inl rfl)
  have hhub := e_at_hub ok
  have hpl := e_l_pairs ps ok (hubN ps)
  have hub10 := hub_len (ps := ps)
  have hN := hub_okS hn
  have ht := e_l_told k r hk ok hn w
  have ho := e_l_order (hubN ps) (pairsL ps (hubN ps)) (PS := .pv (.list ((pairsL ps (hubN ps)).map enc2))) (.inr rfl) hN (by omega)
  have hle : (rowF ps (hubN ps)).length ≤ (hubN ps).length := rowF_len _ _
  refine ⟨[.sc ns], ?_⟩
  by_cases c : (rowF ps (hubN ps)).length = (hubN ps).length
  · have c' : (laidL (pairsL ps (hubN ps)) (hubN ps)).length = (hubN ps).length := c
    rw [if_pos c'] at ho
    rw [if_neg (by omega)] at ht
    rw [show laidL (pairsL ps (hubN ps)) (hubN ps) = rowF ps (hubN ps) from rfl] at ho
    have hsub : ∀ n ∈ rowF ps (hubN ps), ∃ p ∈ ps, p.name = n := fun n h => hubN_in (rowF_sub n h)
    have hl23 : (rowF ps (hubN ps)).length ≤ 23 := by omega
    have hokF : ∀ n ∈ rowF ps (hubN ps), okS n := fun n h => hN n (rowF_sub n h)
    generalize rowF ps (hubN ps) = F at *
    have hO := e_l_outcome k r hk (rowsL ps F) w (rowsL_ok hokF) (by rw [rowsL_len]; exact hl23) (s := .pv (.list ((rowsL ps F).map encD))) (.inr rfl)
    have hR := e_l_right k r (rowsL ps F) w (rowsL_ok hokF) (by rw [rowsL_len]; exact hl23)
    have hD := deeds_loop (gd := fun e => e[1]? = some (.ls true (ps.map LP.enc))) (.sc ns) (.ls true (ps.map LP.enc)) (.pv (.str k)) (.pv (.str r)) (.pv (.int w)) (.ob false (.hall (hallP k r ps))) (.ls false ((hubN ps).map PyData.str)) (.pv (outD k r (rowsL ps F) w)) (.ls false (F.map PyData.str)) (fun _ => rfl) ps [] (by simpa using ok.nd) (by simp; omega)
    have hC := compE_map (gd := fun e => e[8]? = some (.ls true (F.map PyData.str))) (tgt := tgName 11) (own := [11]) (ft := fYes) (fe := fe_law_1) PyData.str (fun _ => true) (fun n => PyData.tuple [.str n, (deedOf ps n).enc]) F
      [.sc ns, .ls false (ps.map LP.enc), .pv (.str k), .pv (.str r), .pv (.int w), .ob false (.hall (hallP k r ps)), .ls false ((hubN ps).map PyData.str), .pv (outD k r (rowsL ps F) w), .ls true (F.map PyData.str), .dk false (deedKv ps), .un, .un] (by omega) rfl rfl rfl
      (by
        intro n h
        obtain ⟨p, hp, rfl⟩ := hsub n h
        have hg := get_kv ok hp
        refine ⟨_, _, rfl, rfl, .inr ⟨rfl, ?_⟩⟩
        rw [deedOf_mem ok hp]
        exact ⟨[.sc ns, .ls false (ps.map LP.enc), .pv (.str k), .pv (.str r), .pv (.int w), .ob false (.hall (hallP k r ps)), .ls false ((hubN ps).map PyData.str), .pv (outD k r (rowsL ps F) w), .ls true (F.map PyData.str), .dk false (deedKv ps), .un, .pv (.str p.name)], by simp [fe_law_1, hg], rfl⟩)
    rw [List.filter_eq_self.mpr (fun _ _ => rfl), ← rowsL_enc] at hC
    simp only [backS_pv, List.nil_append] at hO hD ho
    have dk0 : deedKv [] = [] := rfl
    rw [dk0] at hD
    have hh' : R_l_hall [.ls true (ps.map LP.enc), .pv (.str k), .pv (.str r)] = .ok (.ow (.ob false (.hall (hallP k r ps)))) [.ls true (ps.map LP.enc), .un, .un] := hh
    generalize outD k r (rowsL ps F) w = O at *
    generalize rowsL ps F = RR at *
    have q : f_law [.sc ns, .un, .un, .un, .un, .un, .un, .un, .un, .un, .un, .un] = .ok (.rt (.pv (.bool true))) [.sc ns, .ls false (ps.map LP.enc), .pv (.str k), .pv (.str r), .pv (.int w), .ob false (.hall (hallP k r ps)), .ls false ((hubN ps).map PyData.str), .pv O, .ls false (F.map PyData.str), .dk false (deedKv ps), .un, .un] := by
      unfold f_law
      refine e_pre ns _ _ _ O _ w k r _ _ h0 h1 h2 hka hra hw rfl hp hh' hhub ht ?_
      refine seq_nx (e1 := [.sc ns, .ls false (ps.map LP.enc), .pv (.str k), .pv (.str r), .pv (.int w), .ob false (.hall (hallP k r ps)), .ls false ((hubN ps).map PyData.str), .pv O, .ls false (F.map PyData.str), .un, .un, .un]) (by simp [hpl, ho]) ?_
      refine seq_nx (e1 := [.sc ns, .ls false (ps.map LP.enc), .pv (.str k), .pv (.str r), .pv (.int w), .ob false (.hall (hallP k r ps)), .ls false ((hubN ps).map PyData.str), .pv O, .ls false (F.map PyData.str), .un, .un, .un]) (by simp) ?_
      refine seq_nx (e1 := [.sc ns, .ls false (ps.map LP.enc), .pv (.str k), .pv (.str r), .pv (.int w), .ob false (.hall (hallP k r ps)), .ls false ((hubN ps).map PyData.str), .pv O, .ls false (F.map PyData.str), .dk false [], .un, .un]) (by simp) ?_
      refine seq_nx (e1 := [.sc ns, .ls false (ps.map LP.enc), .pv (.str k), .pv (.str r), .pv (.int w), .ob false (.hall (hallP k r ps)), .ls false ((hubN ps).map PyData.str), .pv O, .ls false (F.map PyData.str), .dk false (deedKv ps), .un, .un]) (by simp [hD]) ?_
      simp [hC, hO, hR]
    simp [R_law, runF_def, q]
  · have c' : ¬ (laidL (pairsL ps (hubN ps)) (hubN ps)).length = (hubN ps).length := c
    rw [if_neg c'] at ho
    rw [if_pos (by omega)] at ht
    simp only [backS_pv] at ho
    have hr : eqD (.tuple [.str "ring"]) (.tuple [.str "ring"]) = some true := by decide +kernel
    have hh' : R_l_hall [.ls true (ps.map LP.enc), .pv (.str k), .pv (.str r)] = .ok (.ow (.ob false (.hall (hallP k r ps)))) [.ls true (ps.map LP.enc), .un, .un] := hh
    have q : f_law [.sc ns, .un, .un, .un, .un, .un, .un, .un, .un, .un, .un, .un] = .ok (.rt (.pv (.bool true))) [.sc ns, .ls false (ps.map LP.enc), .pv (.str k), .pv (.str r), .pv (.int w), .ob false (.hall (hallP k r ps)), .ls false ((hubN ps).map PyData.str), .pv (.tuple [.str "ring"]), .pv .none, .un, .un, .un] := by
      unfold f_law
      refine e_pre ns _ _ _ _ _ w k r _ _ h0 h1 h2 hka hra hw rfl hp hh' hhub ht ?_
      refine seq_nx (e1 := [.sc ns, .ls false (ps.map LP.enc), .pv (.str k), .pv (.str r), .pv (.int w), .ob false (.hall (hallP k r ps)), .ls false ((hubN ps).map PyData.str), .pv (.tuple [.str "ring"]), .pv .none, .un, .un, .un]) (by simp [hpl, ho]) ?_
      exact seq_rt (by simp [hr])
    simp [R_law, runF_def, q]
end Fw
namespace Fw
open PySem L2
def topS (i : Nat) : Stmt := PySem.Challenge.pw_hookhall_k05_whole_calls.main.body.getD i (.Pass ⟨0, 0, 0, 0⟩)
abbrev s_l_cell_at : Stmt := topS 31
theorem sc_l_cell_at : FnScope ["script", "k"] ["script", "k"] (defScope s_l_cell_at) := ⟨rfl, rfl, rfl, by decide +kernel, rfl, by decide +kernel, by decide +kernel⟩
abbrev s_l_name : Stmt := topS 32
theorem sc_l_name : FnScope ["k", "letters", "j"] ["k"] (defScope s_l_name) := ⟨rfl, rfl, rfl, by decide +kernel, rfl, by decide +kernel, by decide +kernel⟩
abbrev s_l_some : Stmt := topS 34
theorem sc_l_some : FnScope ["cell", "many"] ["cell", "many"] (defScope s_l_some) := ⟨rfl, rfl, rfl, by decide +kernel, rfl, by decide +kernel, by decide +kernel⟩
abbrev s_l_deed : Stmt := topS 33
theorem sc_l_deed : FnScope ["cell", "number"] ["cell"] (defScope s_l_deed) := ⟨rfl, rfl, rfl, by decide +kernel, rfl, by decide +kernel, by decide +kernel⟩
abbrev s_l_pieces : Stmt := topS 35
theorem sc_l_pieces : FnScope ["script", "start", "many", "pieces", "k", "one", "two", "three", "place", "wishes"] ["script", "start", "many"] (defScope s_l_pieces) := ⟨rfl, rfl, rfl, by decide +kernel, rfl, by decide +kernel, by decide +kernel⟩
abbrev s_Hall_init : Stmt := inClass (topS 28) 0
theorem sc_Hall_init : FnScope ["self"] ["self"] (defScope s_Hall_init) := ⟨rfl, rfl, rfl, by decide +kernel, rfl, by decide +kernel, by decide +kernel⟩
abbrev s_Hall_open_place : Stmt := inClass (topS 28) 1
theorem sc_Hall_open_place : FnScope ["self", "name", "kind", "rule"] ["self", "name", "kind", "rule"] (defScope s_Hall_open_place) := ⟨rfl, rfl, rfl, by decide +kernel, rfl, by decide +kernel, by decide +kernel⟩
abbrev s_Hall_names : Stmt := inClass (topS 28) 5
theorem sc_Hall_names : FnScope ["self", "piece"] ["self"] (defScope s_Hall_names) := ⟨rfl, rfl, rfl, by decide +kernel, rfl, by decide +kernel, by decide +kernel⟩
abbrev s_Hall_has : Stmt := inClass (topS 28) 4
theorem sc_Hall_has : FnScope ["self", "name"] ["self", "name"] (defScope s_Hall_has) := ⟨rfl, rfl, rfl, by decide +kernel, rfl, by decide +kernel, by decide +kernel⟩
abbrev s_Piece_init : Stmt := inClass (topS 27) 0
theorem sc_Piece_init : FnScope ["self", "name", "place", "deed", "by"] ["self", "name", "place", "deed", "by"] (defScope s_Piece_init) := ⟨rfl, rfl, rfl, by decide +kernel, rfl, by decide +kernel, by decide +kernel⟩
abbrev s_Hall_hang : Stmt := inClass (topS 28) 2
theorem sc_Hall_hang : FnScope ["self", "name", "place", "deed", "by"] ["self", "name", "place", "deed", "by"] (defScope s_Hall_hang) := ⟨rfl, rfl, rfl, by decide +kernel, rfl, by decide +kernel, by decide +kernel⟩
abbrev s_Hall_look_up : Stmt := inClass (topS 28) 6
theorem sc_Hall_look_up : FnScope ["self", "name", "piece"] ["self", "name"] (defScope s_Hall_look_up) := ⟨rfl, rfl, rfl, by decide +kernel, rfl, by decide +kernel, by decide +kernel⟩
abbrev s_wished : Stmt := topS 29
theorem sc_wished : FnScope ["names"] ["names"] (defScope s_wished) := ⟨rfl, rfl, rfl, by decide +kernel, rfl, by decide +kernel, by decide +kernel⟩
abbrev s_Hall_wish : Stmt := inClass (topS 28) 3
theorem sc_Hall_wish : FnScope ["self", "name", "ahead", "behind", "needs", "bars", "piece"] ["self", "name", "ahead", "behind", "needs", "bars"] (defScope s_Hall_wish) := ⟨rfl, rfl, rfl, by decide +kernel, rfl, by decide +kernel, by decide +kernel⟩
abbrev s_Hall_switch : Stmt := inClass (topS 28) 8
theorem sc_Hall_switch : FnScope ["self", "name", "on"] ["self", "name", "on"] (defScope s_Hall_switch) := ⟨rfl, rfl, rfl, by decide +kernel, rfl, by decide +kernel, by decide +kernel⟩
abbrev s_l_hall : Stmt := topS 36
theorem sc_l_hall : FnScope ["pieces", "kind", "rule", "hall", "piece"] ["pieces", "kind", "rule"] (defScope s_l_hall) := ⟨rfl, rfl, rfl, by decide +kernel, rfl, by decide +kernel, by decide +kernel⟩
abbrev s_l_at_hub : Stmt := topS 37
theorem sc_l_at_hub : FnScope ["pieces", "piece"] ["pieces"] (defScope s_l_at_hub) := ⟨rfl, rfl, rfl, by decide +kernel, rfl, by decide +kernel, by decide +kernel⟩
abbrev s_Run_over : Stmt := inClass (topS 18) 1
theorem sc_Run_over : FnScope ["self"] ["self"] (defScope s_Run_over) := ⟨rfl, rfl, rfl, by decide +kernel, rfl, by decide +kernel, by decide +kernel⟩
abbrev s_said_by : Stmt := topS 19
theorem sc_said_by : FnScope ["deed", "worth"] ["deed", "worth"] (defScope s_said_by) := ⟨rfl, rfl, rfl, by decide +kernel, rfl, by decide +kernel, by decide +kernel⟩
abbrev s_Run_take : Stmt := inClass (topS 18) 3
theorem sc_Run_take : FnScope ["self", "name", "deed", "said"] ["self", "name", "deed"] (defScope s_Run_take) := ⟨rfl, rfl, rfl, by decide +kernel, rfl, by decide +kernel, by decide +kernel⟩
abbrev s_DeedFault_init : Stmt := inClass (topS 9) 0
theorem sc_DeedFault_init : FnScope ["self", "piece", "code"] ["self", "piece", "code"] (defScope s_DeedFault_init) := ⟨rfl, rfl, rfl, by decide +kernel, rfl, by decide +kernel, by decide +kernel⟩
abbrev s_Run_step : Stmt := inClass (topS 18) 2
theorem sc_Run_step : FnScope ["self", "row"] ["self"] (defScope s_Run_step) := ⟨rfl, rfl, rfl, by decide +kernel, rfl, by decide +kernel, by decide +kernel⟩
abbrev s_Run_answer : Stmt := inClass (topS 18) 4
theorem sc_Run_answer : FnScope ["self", "back", "number"] ["self"] (defScope s_Run_answer) := ⟨rfl, rfl, rfl, by decide +kernel, rfl, by decide +kernel, by decide +kernel⟩
abbrev s_Run_faults : Stmt := inClass (topS 18) 5
theorem sc_Run_faults : FnScope ["self"] ["self"] (defScope s_Run_faults) := ⟨rfl, rfl, rfl, by decide +kernel, rfl, by decide +kernel, by decide +kernel⟩
abbrev s_finished : Stmt := topS 22
theorem sc_finished : FnScope ["run"] ["run"] (defScope s_finished) := ⟨rfl, rfl, rfl, by decide +kernel, rfl, by decide +kernel, by decide +kernel⟩
abbrev s_pairs_of : Stmt := topS 11
theorem sc_pairs_of : FnScope ["hall", "names", "pairs", "name", "piece", "other"] ["hall", "names"] (defScope s_pairs_of) := ⟨rfl, rfl, rfl, by decide +kernel, rfl, by decide +kernel, by decide +kernel⟩
abbrev s_laid : Stmt := topS 12
theorem sc_laid : FnScope ["names", "pairs", "found", "left", "free", "name", "pair"] ["names", "pairs"] (defScope s_laid) := ⟨rfl, rfl, rfl, by decide +kernel, rfl, by decide +kernel, by decide +kernel⟩
abbrev s_Ring_init : Stmt := inClass (topS 8) 0
theorem sc_Ring_init : FnScope ["self", "ring"] ["self", "ring"] (defScope s_Ring_init) := ⟨rfl, rfl, rfl, by decide +kernel, rfl, by decide +kernel, by decide +kernel⟩
abbrev s_ring_from : Stmt := topS 13
theorem sc_ring_from : FnScope ["names", "pairs", "start", "rows", "seen", "here", "name"] ["names", "pairs", "start"] (defScope s_ring_from) := ⟨rfl, rfl, rfl, by decide +kernel, rfl, by decide +kernel, by decide +kernel⟩
abbrev s_shortest_ring : Stmt := topS 14
theorem sc_shortest_ring : FnScope ["names", "pairs", "best", "start", "ring"] ["names", "pairs"] (defScope s_shortest_ring) := ⟨rfl, rfl, rfl, by decide +kernel, rfl, by decide +kernel, by decide +kernel⟩
abbrev s_order_of : Stmt := topS 15
theorem sc_order_of : FnScope ["hall", "names", "pairs", "found"] ["hall", "names"] (defScope s_order_of) := ⟨rfl, rfl, rfl, by decide +kernel, rfl, by decide +kernel, by decide +kernel⟩
abbrev s_Hall_at : Stmt := inClass (topS 28) 9
theorem sc_Hall_at : FnScope ["self", "place", "piece"] ["self", "place"] (defScope s_Hall_at) := ⟨rfl, rfl, rfl, by decide +kernel, rfl, by decide +kernel, by decide +kernel⟩
abbrev s_order : Stmt := topS 16
theorem sc_order : FnScope ["hall", "place"] ["hall", "place"] (defScope s_order) := ⟨rfl, rfl, rfl, by decide +kernel, rfl, by decide +kernel, by decide +kernel⟩
abbrev s_Run_init : Stmt := inClass (topS 18) 0
theorem sc_Run_init : FnScope ["self", "kind", "rule", "rows", "worth"] ["self", "kind", "rule", "rows", "worth"] (defScope s_Run_init) := ⟨rfl, rfl, rfl, by decide +kernel, rfl, by decide +kernel, by decide +kernel⟩
abbrev s_rows_of : Stmt := topS 20
theorem sc_rows_of : FnScope ["hall", "names", "name"] ["hall", "names"] (defScope s_rows_of) := ⟨rfl, rfl, rfl, by decide +kernel, rfl, by decide +kernel, by decide +kernel⟩
abbrev s_begin : Stmt := topS 21
theorem sc_begin : FnScope ["hall", "place", "number", "names"] ["hall", "place", "number"] (defScope s_begin) := ⟨rfl, rfl, rfl, by decide +kernel, rfl, by decide +kernel, by decide +kernel⟩
abbrev s_call : Stmt := topS 23
theorem sc_call : FnScope ["hall", "place", "number"] ["hall", "place", "number"] (defScope s_call) := ⟨rfl, rfl, rfl, by decide +kernel, rfl, by decide +kernel, by decide +kernel⟩
abbrev s_l_told : Stmt := topS 49
theorem sc_l_told : FnScope ["hall", "number", "found", "e"] ["hall", "number"] (defScope s_l_told) := ⟨rfl, rfl, rfl, by decide +kernel, rfl, by decide +kernel, by decide +kernel⟩
abbrev s_l_free : Stmt := topS 39
theorem sc_l_free : FnScope ["name", "left", "pairs", "pair"] ["name", "left", "pairs"] (defScope s_l_free) := ⟨rfl, rfl, rfl, by decide +kernel, rfl, by decide +kernel, by decide +kernel⟩
abbrev s_l_order : Stmt := topS 40
theorem sc_l_order : FnScope ["names", "pairs", "left", "found", "free", "name"] ["names", "pairs"] (defScope s_l_order) := ⟨rfl, rfl, rfl, by decide +kernel, rfl, by decide +kernel, by decide +kernel⟩
abbrev s_l_whole : Stmt := topS 45
theorem sc_l_whole : FnScope ["found"] ["found"] (defScope s_l_whole) := ⟨rfl, rfl, rfl, by decide +kernel, rfl, by decide +kernel, by decide +kernel⟩
abbrev s_l_value : Stmt := topS 46
theorem sc_l_value : FnScope ["found", "due"] ["found", "due"] (defScope s_l_value) := ⟨rfl, rfl, rfl, by decide +kernel, rfl, by decide +kernel, by decide +kernel⟩
abbrev s_l_pairs_alike : Stmt := topS 47
theorem sc_l_pairs_alike : FnScope ["found", "due", "k", "one"] ["found", "due"] (defScope s_l_pairs_alike) := ⟨rfl, rfl, rfl, by decide +kernel, rfl, by decide +kernel, by decide +kernel⟩
abbrev s_l_answer_right : Stmt := topS 48
theorem sc_l_answer_right : FnScope ["found", "due"] ["found", "due"] (defScope s_l_answer_right) := ⟨rfl, rfl, rfl, by decide +kernel, rfl, by decide +kernel, by decide +kernel⟩
abbrev s_l_right : Stmt := topS 50
theorem sc_l_right : FnScope ["found", "due"] ["found", "due"] (defScope s_l_right) := ⟨rfl, rfl, rfl, by decide +kernel, rfl, by decide +kernel, by decide +kernel⟩
abbrev s_l_pairs : Stmt := topS 38
theorem sc_l_pairs : FnScope ["pieces", "names", "pairs", "piece", "other"] ["pieces", "names"] (defScope s_l_pairs) := ⟨rfl, rfl, rfl, by decide +kernel, rfl, by decide +kernel, by decide +kernel⟩
abbrev s_l_round : Stmt := topS 42
theorem sc_l_round : FnScope ["rows", "number", "held", "deed"] ["rows", "number", "held"] (defScope s_l_round) := ⟨rfl, rfl, rfl, by decide +kernel, rfl, by decide +kernel, by decide +kernel⟩
abbrev s_l_said : Stmt := topS 41
theorem sc_l_said : FnScope ["deed", "number"] ["deed", "number"] (defScope s_l_said) := ⟨rfl, rfl, rfl, by decide +kernel, rfl, by decide +kernel, by decide +kernel⟩
abbrev s_l_answer : Stmt := topS 43
theorem sc_l_answer : FnScope ["kind", "rows", "number", "held", "told", "name", "deed", "said"] ["kind", "rows", "number", "held"] (defScope s_l_answer) := ⟨rfl, rfl, rfl, by decide +kernel, rfl, by decide +kernel, by decide +kernel⟩
abbrev s_l_outcome : Stmt := topS 44
theorem sc_l_outcome : FnScope ["kind", "rule", "rows", "number", "held", "answer"] ["kind", "rule", "rows", "number"] (defScope s_l_outcome) := ⟨rfl, rfl, rfl, by decide +kernel, rfl, by decide +kernel, by decide +kernel⟩
abbrev s_law : Stmt := topS 51
theorem sc_law : FnScope ["script", "pieces", "kind", "rule", "number", "hall", "names", "found", "row", "deeds", "piece", "name"] ["script"] (defScope s_law) := ⟨rfl, rfl, rfl, by decide +kernel, rfl, by decide +kernel, by decide +kernel⟩
end Fw
namespace Fw
open PySem L2
section
variable {P : Program} {w : World} {base : Heap} {G : Gx}
theorem p_c_l_cell_at (D : Df G "_law_cell_at" s_l_cell_at ["script", "k"]) (B : Blt G) : Cal P w base G 1 "_law_cell_at" 2 R_l_cell_at := by
  exact cal_of (fs := f_l_cell_at) D sc_l_cell_at (fun f cdv A outer s H E hr tk hp C => by exact ⟨_, (pbx_cons (psx_if (ptx_lt (px_var 1) (px_len (by rfl) (by rfl) B.len_ (px_var 0)))
  (pbx_one (psx_ret (px_ix (by rfl) (px_var 0) (px_var 1) (fun _ _ => (by rfl)))))
  pbx_nil)
  (pbx_one (psx_ret px_int)))⟩) (fun _ _ => .inr rfl)
theorem p_c_l_name (D : Df G "_law_name" s_l_name ["k"]) (B : Blt G) : Cal P w base G 1 "_law_name" 1 R_l_name := by
  exact cal_of (fs := f_l_name) D sc_l_name (fun f cdv A outer s H E hr tk hp C => by exact ⟨_, (pbx_cons (psx_asg 1 sc_l_name.nd px_str)
  (pbx_cons (psx_if (ptx_eq hr.units (by rfl) (px_mod (px_var 0) px_int) px_int)
  (pbx_one (psx_ret (px_ix (by rfl) (px_var 1) (px_mod (px_var 0) px_int) (fun _ _ => (by rfl)))))
  pbx_nil)
  (pbx_one (psx_ret (px_join (by rfl) (px_lcR (own := [("j", 2)]) (by rfl) sc_l_name.nd (blkOk_by (own := [("j", 2)]) (N := ["k", "letters", "j"]) (sc := defScope s_l_name) (by decide +kernel)) (by rfl) B.range_ (px_add px_int (px_mod (px_var 0) px_int)) (fun _ _ _ _ _ => by exact (pgx_name 2 sc_l_name.nd)) (fun _ _ _ _ _ => by exact ptsx_nil) (fun _ _ _ _ _ => by exact (px_ix (by rfl) (px_var 1) (px_mod (px_add (px_var 0) (px_mul px_int (px_var 2))) px_int) (fun _ _ => (by rfl)))) (by decide)))))))⟩) (fun _ _ => .inr rfl)
theorem p_c_l_some (D : Df G "_law_some" s_l_some ["cell", "many"]) (c_l_name : Cal P w base G 1 "_law_name" 1 R_l_name) : Cal P w base G 2 "_law_some" 2 R_l_some := by
  exact cal_of (fs := f_l_some) D sc_l_some (fun f cdv A outer s H E hr tk hp C => by exact ⟨_, (pbx_cons (psx_if (ptx_gt (px_mod (px_var 0) px_int) px_int)
  (pbx_one (psx_ret (px_lst pax_nil)))
  pbx_nil)
  (pbx_cons (psx_if (ptx_eq hr.units (by rfl) (px_mod (px_var 0) px_int) px_int)
  (pbx_one (psx_ret (px_lst (pax_dat (px_cal (c_l_name.wC C) tk (hr.mono (by decide)) (by rfl) (by rfl) (by rfl) (pax_cons (px_mod (px_div (px_var 0) px_int) (px_var 1)) pax_nil)) (pax_dat (px_cal (c_l_name.wC C) tk (hr.mono (by decide)) (by rfl) (by rfl) (by rfl) (pax_cons (px_mod (px_div (px_var 0) px_int) (px_var 1)) pax_nil)) pax_nil)))))
  pbx_nil)
  (pbx_one (psx_ret (px_lst (pax_dat (px_cal (c_l_name.wC C) tk (hr.mono (by decide)) (by rfl) (by rfl) (by rfl) (pax_cons (px_mod (px_div (px_var 0) px_int) (px_var 1)) pax_nil)) pax_nil))))))⟩) (fun _ _ => .inr rfl)
theorem p_c_l_deed (D : Df G "_law_deed" s_l_deed ["cell"])  : Cal P w base G 1 "_law_deed" 1 R_l_deed := by
  exact cal_of (fs := f_l_deed) D sc_l_deed (fun f cdv A outer s H E hr tk hp C => by exact ⟨_, (pbx_cons (psx_asg 1 sc_l_deed.nd (px_sub (px_mod (px_div (px_var 0) px_int) px_int) px_int))
  (pbx_cons (psx_if (ptx_eq hr.units (by rfl) (px_mod (px_div (px_var 0) px_int) px_int) px_int)
  (pbx_one (psx_asg 1 sc_l_deed.nd (px_sub (px_mod (px_var 0) (px_pow px_int px_int)) (px_pow px_int px_int))))
  pbx_nil)
  (pbx_cons (psx_if (ptx_eq hr.units (by rfl) (px_mod (px_var 0) px_int) px_int)
  (pbx_one (psx_ret (px_tup (pax_dat px_str (pax_dat (px_var 1) pax_nil)))))
  pbx_nil)
  (pbx_cons (psx_if (ptx_eq hr.units (by rfl) (px_mod (px_var 0) px_int) px_int)
  (pbx_one (psx_ret (px_tup (pax_dat px_str pax_nil))))
  pbx_nil)
  (pbx_cons (psx_if (ptx_eq hr.units (by rfl) (px_mod (px_var 0) px_int) px_int)
  (pbx_one (psx_ret (px_tup (pax_dat px_str (pax_dat (px_var 1) pax_nil)))))
  pbx_nil)
  (pbx_one (psx_ret (px_tup (pax_dat px_str (pax_dat (px_var 1) pax_nil))))))))))⟩) (fun _ _ => .inr rfl)
theorem p_c_l_pieces (D : Df G "_law_pieces" s_l_pieces ["script", "start", "many"]) (c_l_cell_at : Cal P w base G 1 "_law_cell_at" 2 R_l_cell_at) (c_l_some : Cal P w base G 2 "_law_some" 2 R_l_some) (c_l_deed : Cal P w base G 1 "_law_deed" 1 R_l_deed) (c_l_name : Cal P w base G 1 "_law_name" 1 R_l_name) (B : Blt G) : Cal P w base G 3 "_law_pieces" 3 R_l_pieces := by
  exact cal_of (fs := f_l_pieces) D sc_l_pieces (fun f cdv A outer s H E hr tk hp C => by exact ⟨_, (pbx_cons (psx_asg 3 sc_l_pieces.nd (px_lst pax_nil))
  (pbx_cons (psx_pre [4, 5, 6, 7, 8, 9] (psx_forR1 hp (by rfl) (by rfl) B.range_ (px_var 2) (pgx_name 4 sc_l_pieces.nd)
  (pbx_forget [4, 5, 6, 7, 8, 9] (pbx_cons (psx_asg 5 sc_l_pieces.nd (px_cal (c_l_cell_at.wC C) tk (hr.mono (by decide)) (by rfl) (by rfl) (by rfl) (pax_cons (px_var 0) (pax_cons (px_add (px_var 1) (px_mul px_int (px_var 4))) pax_nil))))
  (pbx_cons (psx_asg 6 sc_l_pieces.nd (px_cal (c_l_cell_at.wC C) tk (hr.mono (by decide)) (by rfl) (by rfl) (by rfl) (pax_cons (px_var 0) (pax_cons (px_add (px_add (px_var 1) (px_mul px_int (px_var 4))) px_int) pax_nil))))
  (pbx_cons (psx_asg 7 sc_l_pieces.nd (px_cal (c_l_cell_at.wC C) tk (hr.mono (by decide)) (by rfl) (by rfl) (by rfl) (pax_cons (px_var 0) (pax_cons (px_add (px_add (px_var 1) (px_mul px_int (px_var 4))) px_int) pax_nil))))
  (pbx_cons (psx_asg 8 sc_l_pieces.nd (px_ix (by rfl) (px_lst (pax_dat px_str (pax_dat px_str (pax_dat px_str (pax_dat px_str pax_nil))))) (px_mod (px_div (px_var 5) px_int) px_int) (fun _ _ => (by rfl))))
  (pbx_cons (psx_asg 9 sc_l_pieces.nd (px_lst (pax_dat (px_cal (c_l_some.wC C) tk (hr.mono (by decide)) (by rfl) (by rfl) (by rfl) (pax_cons (px_var 6) (pax_cons (px_add (px_var 2) px_int) pax_nil))) (pax_dat (px_cal (c_l_some.wC C) tk (hr.mono (by decide)) (by rfl) (by rfl) (by rfl) (pax_cons (px_div (px_var 6) px_int) (pax_cons (px_add (px_var 2) px_int) pax_nil))) pax_nil))))
  (pbx_cons (psx_asg 9 sc_l_pieces.nd (px_add (px_var 9) (px_lst (pax_dat (px_cal (c_l_some.wC C) tk (hr.mono (by decide)) (by rfl) (by rfl) (by rfl) (pax_cons (px_var 7) (pax_cons (px_add (px_var 2) px_int) pax_nil))) (pax_dat (px_cal (c_l_some.wC C) tk (hr.mono (by decide)) (by rfl) (by rfl) (by rfl) (pax_cons (px_div (px_var 7) px_int) (pax_cons (px_add (px_var 2) px_int) pax_nil))) pax_nil)))))
  (pbx_one (psx_expr (px_app (by rfl) (pv 3) (px_tup (pax_dat (px_cal (c_l_name.wC C) tk (hr.mono (by decide)) (by rfl) (by rfl) (by rfl) (pax_cons (px_var 4) pax_nil)) (pax_dat (px_var 8) (pax_dat (px_cal (c_l_deed.wC C) tk (hr.mono (by decide)) (by rfl) (by rfl) (by rfl) (pax_cons (px_var 5) pax_nil)) (pax_dat (px_var 9) (pax_dat (px_ne hr.units (by rfl) (px_mod (px_div (px_var 5) px_int) px_int) px_int) pax_nil))))))))))))))))))
  (pbx_one (psx_ret (px_var 3)))))⟩) (fun _ _ => .inr rfl)
theorem p_mkH (D : IDf G G.CH "Hall.__init__" s_Hall_init ["self"]) (T : HallTxt G) : HMk P w base G 1 := by
  exact mkh_h (t := fun _ => t_hall G.K) D sc_Hall_init (fun f cdv A outer s H E hr tk => pss_cons (ps_fld (pv 0) pe_dnewK rfl) (pss_cons (ps_fld (pv 0) pe_dnewK rfl) (pss_cons (ps_fld (pv 0) (pe_lst pa_nil) rfl) (pss_one (ps_fld (pv 0) pe_dnewK rfl))))) (fun _ _ _ _ h => pure_hall T h)
theorem p_m_open_place {tok_PLACES : Tok} (D : MDf G true "open_place" "Hall.open_place" s_Hall_open_place ["self", "name", "kind", "rule"] 0) (T : HallTxt G) (B : Blt G) (exA_NameThere : ExA G "NameThere") (k_PLACES : G.mg "PLACES" = some (.int 8 tok_PLACES)) (exA_TooMany : ExA G "TooMany") : MCal P w base G 1 true "open_place" 4 0 R_Hall_open_place := by
  exact mcal_of (nd := 0) (fs := f_Hall_open_place) D sc_Hall_open_place (fun C f cdv A outer s H E hr tk hp => by exact ⟨_, (pbx_cons (psx_if (ptx_ain .kinds (T.wC C) (hu1 hr) (by rfl) (pv 0) (px_var 1))
  (pbx_one (psx_raise (exA_NameThere.wC C) tk (by rfl) (by rfl) (by rfl) (by rfl)))
  pbx_nil)
  (pbx_cons (psx_if (ptx_ge (px_alen (.d .kinds) (T.wC C) (by rfl) (by rfl) B.len_ (pv 0)) (px_gint (by rfl) (by rfl) k_PLACES))
  (pbx_one (psx_raise (exA_TooMany.wC C) tk (by rfl) (by rfl) (by rfl) (by rfl)))
  pbx_nil)
  (pbx_cons (psx_aput .kinds (T.wC C) (hu1 hr) (by rfl) (pv 0) (pv 1) (px_var 2))
  (pbx_one (psx_aput .rules (T.wC C) (hu1 hr) (by rfl) (pv 0) (pv 1) (px_var 3))))))⟩)
theorem p_m_names (D : MDf G true "names" "Hall.names" s_Hall_names ["self"] 0) (T : HallTxt G) : MCal P w base G 1 true "names" 1 0 (liftF F_names) := by
  exact (mcal_h (F := F_names) (t := fun _ => t_names G.K) D sc_Hall_names rfl (fun f cdv A outer s H E hr tk hp => pss_one (ps_ret (pe_lc (own := [("piece", 1)]) (g := gName 1) (tt := tYes) rfl sc_Hall_names.nd (pi_list (pe_fld (pv 0) rfl)) (blkOk_by (own := [("piece", 1)]) (N := ["self", "piece"]) (sc := defScope s_Hall_names) (by decide +kernel)) (fun _ _ _ _ _ => pg_name (i := 1) sc_Hall_names.nd rfl (Or.inl rfl)) (fun _ _ _ _ _ => pts_nil) (fun _ _ _ _ _ => pe_fld (pv 1) rfl)))) (fun _ _ _ _ h => pure_names T h)).lift
theorem p_m_has (D : MDf G true "has" "Hall.has" s_Hall_has ["self", "name"] 0) (m_names : MCal P w base G 1 true "names" 1 0 (liftF F_names)) : MCal P w base G 2 true "has" 2 0 (liftF R_Hall_has) := by
  refine MCal.lift (F := R_Hall_has) ?_
  exact mcal_of (nd := 0) (fs := f_Hall_has) D sc_Hall_has (fun C f cdv A outer s H E hr tk hp => by exact ⟨_, (pbx_one (psx_ret (px_in (r65 hr) (by rfl) (px_var 1) (px_mth0 (m_names.wC C) tk (hr.mono (by decide)) (by rfl) (by rfl) (pv 0)))))⟩)
end
end Fw
namespace Fw
open PySem L2
section
variable {P : Program} {w : World} {base : Heap} {G : Gx}
theorem p_mkP (D : IDf G G.CP "Piece.__init__" s_Piece_init ["self", "name", "place", "deed", "by"]) (T : HallTxt G) : PMkr P w base G 1 := by
  exact mkp_h (t := fun _ => t_piece G.K) D sc_Piece_init (fun f cdv A outer s H E hr tk => (pss_cons (ps_fld (pv 0) (pv 1) rfl) (pss_cons (ps_fld (pv 0) (pv 2) rfl) (pss_cons (ps_fld (pv 0) (pv 3) rfl) (pss_cons (ps_fld (pv 0) (pv 4) rfl) (pss_cons (ps_fld (pv 0) (pe_lst pa_nil) rfl) (pss_cons (ps_fld (pv 0) (pe_lst pa_nil) rfl) (pss_cons (ps_fld (pv 0) (pe_lst pa_nil) rfl) (pss_one (ps_fld (pv 0) (pe_lst pa_nil) rfl)))))))))) (fun _ _ _ _ h => pure_piece T h)
theorem p_m_hang1 {tok_PIECES : Tok} (D : MDf G true "hang" "Hall.hang" s_Hall_hang ["self", "name", "place", "deed", "by"] 1) (m_has : MCal P w base G 2 true "has" 2 0 (liftF R_Hall_has)) (mkP : PMkr P w base G 1) (T : HallTxt G) (B : Blt G) (exA_NameThere : ExA G "NameThere") (exA_NoPlace : ExA G "NoPlace") (exA_NoPiece : ExA G "NoPiece") (k_PIECES : G.mg "PIECES" = some (.int 24 tok_PIECES)) (exA_TooMany : ExA G "TooMany") : MCal P w base G 3 true "hang" 5 1 R_Hall_hang := by
  exact mcal_of (nd := 1) (fs := f_Hall_hang) D sc_Hall_hang (fun C f cdv A outer s H E hr tk hp => by exact ⟨_, (pbx_cons (psx_if (pt_of (px_mth (m_has.wC C) tk (hr.mono (by decide)) (by rfl) (by rfl) (pv 0) (pax_cons (px_var 1) pax_nil)))
  (pbx_one (psx_raise (exA_NameThere.wC C) tk (by rfl) (by rfl) (by rfl) (by rfl)))
  pbx_nil)
  (pbx_cons (psx_if (ptx_anotin .kinds (T.wC C) (hu1 hr) (by rfl) (pv 0) (px_var 2))
  (pbx_one (psx_raise (exA_NoPlace.wC C) tk (by rfl) (by rfl) (by rfl) (by rfl)))
  pbx_nil)
  (pbx_cons (psx_if (PWx.pt (pwx_and (ptx_isN (px_var 4) px_non) (pwx_and1 (ptx_not (pt_of (px_mth (m_has.wC C) tk (hr.mono (by decide)) (by rfl) (by rfl) (pv 0) (pax_cons (px_var 4) pax_nil)))))))
  (pbx_one (psx_raise (exA_NoPiece.wC C) tk (by rfl) (by rfl) (by rfl) (by rfl)))
  pbx_nil)
  (pbx_cons (psx_if (ptx_ge (px_alen .hung (T.wC C) (by rfl) (by rfl) B.len_ (pv 0)) (px_gint (by rfl) (by rfl) k_PIECES))
  (pbx_one (psx_raise (exA_TooMany.wC C) tk (by rfl) (by rfl) (by rfl) (by rfl)))
  pbx_nil)
  (pbx_one (psx_hung (mkP.wC C) (T.wC C) (hr.mono (by decide)) (by rfl) (by rfl) (by rfl) (pv 0) (pa_cons (pv 1) (pa_cons (pv 2) (pa_cons (pv 3) (pa_cons (pv 4) pa_nil))))))))))⟩)
theorem p_m_look (D : MDf G true "look_up" "Hall.look_up" s_Hall_look_up ["self", "name"] 0) (T : HallTxt G) (exA_NoPiece : ExA G "NoPiece") : LkCal P w base G 1 := by
  exact lk_h (t := fun E => t_look G (WXof E)) D sc_Hall_look_up rfl (fun f cdv A outer s H E hr tk hp => pss_cons (ps_for hp rfl (pi_list (pe_fld (pv 0) rfl)) (pg_name (i := 2) sc_Hall_look_up.nd rfl (Or.inl rfl)) (pss_one (ps_if (pt_cmpR op_eq (pe_fld (pv 2) rfl) (pv 1) (nomark _)) (pss_one (ps_ret (pv 2))) pss_nil))) (pss_one (psx_raise exA_NoPiece tk rfl rfl rfl rfl).ps)) (fun _ _ _ _ h => pure_lookX T h)
theorem p_c_wished (D : Df G "wished" s_wished ["names"])  : HCal P w base G 1 "wished" spWd := by
  exact hcal_h (sp := spWd) (t := fun _ => t_wished) D sc_wished (fun vs H Q E h => by obtain ⟨v, rfl, _⟩ := h; rfl) (fun f cdv A outer s H E hr tk => pss_cons (ps_if (pt_cmpR op_isN (pv 0) pe_non (nomark _)) (pss_one (ps_ret (pe_lst pa_nil))) pss_nil) (pss_one (ps_ret (pv 0)))) (fun _ _ _ _ h => pure_wished h)
theorem p_m_wish0 (D : MDf G true "wish" "Hall.wish" s_Hall_wish ["self", "name", "ahead", "behind", "needs", "bars"] 0) (T : HallTxt G) (m_look : LkCal P w base G 1) (c_wished : HCal P w base G 1 "wished" spWd) : MCal P w base G 2 true "wish" 6 0 F_wish := by
  exact mcal_h (F := F_wish) (t := fun E => t_wish G (WXof E)) D sc_Hall_wish rfl (fun f cdv A outer s H E hr tk hp => (pss_cons (ps_set (i := 6) sc_Hall_wish.nd rfl (Or.inl rfl) (pe_lk m_look tk (hr.mono (by decide)) rfl rfl (pv 0) (pv 1))) (pss_cons (ps_expr (pe_bm PySem.F.plainAttrs_list PySem.F.slot_list_extend PySem.F.type_list_extend mt_extA (pe_fld (pv 6) rfl) (pa_cons (pe_hcal c_wished tk (hr.mono (by decide)) rfl rfl rfl (pa_cons (pv 2) pa_nil)) pa_nil))) (pss_cons (ps_expr (pe_bm PySem.F.plainAttrs_list PySem.F.slot_list_extend PySem.F.type_list_extend mt_extA (pe_fld (pv 6) rfl) (pa_cons (pe_hcal c_wished tk (hr.mono (by decide)) rfl rfl rfl (pa_cons (pv 3) pa_nil)) pa_nil))) (pss_cons (ps_expr (pe_bm PySem.F.plainAttrs_list PySem.F.slot_list_extend PySem.F.type_list_extend mt_extA (pe_fld (pv 6) rfl) (pa_cons (pe_hcal c_wished tk (hr.mono (by decide)) rfl rfl rfl (pa_cons (pv 4) pa_nil)) pa_nil))) (pss_one (ps_expr (pe_bm PySem.F.plainAttrs_list PySem.F.slot_list_extend PySem.F.type_list_extend mt_extA (pe_fld (pv 6) rfl) (pa_cons (pe_hcal c_wished tk (hr.mono (by decide)) rfl rfl rfl (pa_cons (pv 5) pa_nil)) pa_nil))))))))) (fun _ _ _ _ h => pure_wish T h)
theorem p_m_switch (D : MDf G true "switch" "Hall.switch" s_Hall_switch ["self", "name", "on"] 0) (m_look : LkCal P w base G 1) (T : HallTxt G) : MCal P w base G 2 true "switch" 3 0 R_Hall_switch := by
  exact mcal_of (nd := 0) (fs := f_Hall_switch) D sc_Hall_switch (fun C f cdv A outer s H E hr tk hp => by exact ⟨_, (pbx_cons (psx_look (m_look.wC C) tk (hr.mono (by decide)) (by rfl) (by rfl) (pv 0) (pv 1))
  (pbx_cons (psx_apop (jj := none) (T.wC C) (by rfl) (pv 0) (pv 1) pe_non ⟨(by rfl), (by rfl), (by rfl), (by rfl)⟩)
  (pbx_one (psx_if (ptx_not (pt_of (px_var 2)))
  (pbx_one (psx_aput .off (T.wC C) (hu1 hr) (by rfl) (pv 0) (pv 1) px_bl))
  pbx_nil))))⟩)
theorem p_c_l_hall (D : Df G "_law_hall" s_l_hall ["pieces", "kind", "rule"]) (mkH : HMk P w base G 1) (m_open_place : MCal P w base G 1 true "open_place" 4 0 R_Hall_open_place) (m_hang1 : MCal P w base G 3 true "hang" 5 1 R_Hall_hang) (m_wish0 : MCal P w base G 2 true "wish" 6 0 F_wish) (m_switch : MCal P w base G 2 true "switch" 3 0 R_Hall_switch) (T : HallTxt G) (B : Blt G) : Cal P w base G 4 "_law_hall" 3 R_l_hall := by
  exact cal_of (fs := f_l_hall) D sc_l_hall (fun f cdv A outer s H E hr tk hp C => by exact ⟨_, (pbx_cons (psx_asg 3 sc_l_hall.nd (px_hall (mkH.wC C) (T.wC C) (hr.mono (by decide)) (by rfl) (by rfl) (by rfl)))
  (pbx_cons (psx_expr (px_mth (m_open_place.wC C) tk (hr.mono (by decide)) (by rfl) (by rfl) (pv 3) (pax_cons px_str (pax_cons (px_var 1) (pax_cons (px_var 2) pax_nil)))))
  (pbx_cons (psx_expr (px_mth (m_open_place.wC C) tk (hr.mono (by decide)) (by rfl) (by rfl) (pv 3) (pax_cons px_str (pax_cons px_str (pax_cons px_str pax_nil)))))
  (pbx_cons (psx_pre [4] (psx_for (by rfl) hp (by rfl) (px_var 0) (pgx_name 4 sc_l_hall.nd)
  (pbx_forget [4] (pbx_one (psx_expr (px_mth (m_hang1.wC C) tk (hr.mono (by decide)) (by rfl) (by rfl) (pv 3) (pax_cons (px_ix (by rfl) (px_var 4) px_int (fun _ _ => (by rfl))) (pax_cons (px_ix (by rfl) (px_var 4) px_int (fun _ _ => (by rfl))) (pax_cons (px_ix (by rfl) (px_var 4) px_int (fun _ _ => (by rfl))) pax_nil)))))))))
  (pbx_cons (psx_pre [4] (psx_for (by rfl) hp (by rfl) (px_var 0) (pgx_name 4 sc_l_hall.nd)
  (pbx_forget [4] (pbx_cons (psx_expr (px_mth (m_wish0.wC C) tk (hr.mono (by decide)) (by rfl) (by rfl) (pv 3) (pax_cons (px_ix (by rfl) (px_var 4) px_int (fun _ _ => (by rfl))) (pax_cons (px_ix (by rfl) (px_ix (by rfl) (px_var 4) px_int (fun _ _ => (by rfl))) px_int (fun _ _ => (by rfl))) (pax_cons (px_tuple (by rfl) (by rfl) B.tuple_ (px_ix (by rfl) (px_ix (by rfl) (px_var 4) px_int (fun _ _ => (by rfl))) px_int (fun _ _ => (by rfl)))) (pax_cons (px_ix (by rfl) (px_ix (by rfl) (px_var 4) px_int (fun _ _ => (by rfl))) px_int (fun _ _ => (by rfl))) (pax_cons (px_ix (by rfl) (px_ix (by rfl) (px_var 4) px_int (fun _ _ => (by rfl))) px_int (fun _ _ => (by rfl))) pax_nil)))))))
  (pbx_one (psx_if (ptx_not (pt_of (px_ix (by rfl) (px_var 4) px_int (fun _ _ => (by rfl)))))
  (pbx_one (psx_expr (px_mth (m_switch.wC C) tk (hr.mono (by decide)) (by rfl) (by rfl) (pv 3) (pax_cons (px_ix (by rfl) (px_var 4) px_int (fun _ _ => (by rfl))) (pax_cons px_bl pax_nil)))))
  pbx_nil))))))
  (pbx_one (psx_ret (px_var 3))))))))⟩) (fun _ _ => .inr rfl)
theorem p_c_l_at_hub (D : Df G "_law_at_hub" s_l_at_hub ["pieces"])  : Cal P w base G 1 "_law_at_hub" 1 R_l_at_hub := by
  exact cal_of (fs := f_l_at_hub) D sc_l_at_hub (fun f cdv A outer s H E hr tk hp C => by exact ⟨_, (pbx_one (psx_ret (px_lc (own := [("piece", 1)]) (by rfl) (by rfl) sc_l_at_hub.nd (blkOk_by (own := [("piece", 1)]) (N := ["pieces", "piece"]) (sc := defScope s_l_at_hub) (by decide +kernel)) (px_var 0) (fun _ _ _ _ _ => by exact (pgx_name 1 sc_l_at_hub.nd)) (fun _ _ _ _ _ => by exact (ptsx_one (PWx.pt (pwx_and (ptx_eq hr.units (by rfl) (px_ix (by rfl) (px_var 1) px_int (fun _ _ => (by rfl))) px_str) (pwx_and1 (pt_of (px_ix (by rfl) (px_var 1) px_int (fun _ _ => (by rfl))))))))) (fun _ _ _ _ _ => by exact (px_ix (by rfl) (px_var 1) px_int (fun _ _ => (by rfl)))) (by decide))))⟩) (fun _ _ => .inr rfl)
theorem p_m_over (D : MDf G false "over" "Run.over" s_Run_over ["self"] 0) (TR : RunTxt G) (B : Blt G) : MCal P w base G 1 false "over" 1 0 R_Run_over := by
  exact mcal_of (nd := 0) (fs := f_Run_over) D sc_Run_over (fun C f cdv A outer s H E hr tk hp => by exact ⟨_, (pbx_one (psx_ret (px_orV (px_rget .shut (TR.wC C) (by rfl) (pv 0)) (px_one (px_eq hr.units (by rfl) (px_rget .spot (TR.wC C) (by rfl) (pv 0)) (px_len (by rfl) (by rfl) B.len_ (px_rget .rows (TR.wC C) (by rfl) (pv 0))))))))⟩)
end
end Fw
namespace Fw
open PySem L2
section
variable {P : Program} {w : World} {base : Heap} {G : Gx}
theorem p_c_said_by (D : Df G "said_by" s_said_by ["deed", "worth"])  : Cal P w base G 1 "said_by" 2 R_said_by := by
  exact cal_of (fs := f_said_by) D sc_said_by (fun f cdv A outer s H E hr tk hp C => by exact ⟨_, (pbx_cons (psx_if (ptx_eq hr.units (by rfl) (px_ix (by rfl) (px_var 0) px_int (fun _ _ => (by rfl))) px_str)
  (pbx_one (psx_ret (px_add (px_var 1) (px_ix (by rfl) (px_var 0) px_int (fun _ _ => (by rfl))))))
  pbx_nil)
  (pbx_cons (psx_if (ptx_eq hr.units (by rfl) (px_ix (by rfl) (px_var 0) px_int (fun _ _ => (by rfl))) px_str)
  (pbx_one (psx_ret (px_ix (by rfl) (px_var 0) px_int (fun _ _ => (by rfl)))))
  pbx_nil)
  (pbx_one (psx_ret px_non))))⟩) (fun _ _ => .inr rfl)
theorem p_m_take (D : MDf G false "take" "Run.take" s_Run_take ["self", "name", "deed"] 0) (c_said_by : Cal P w base G 1 "said_by" 2 R_said_by) (TR : RunTxt G) : MCal P w base G 2 false "take" 3 0 R_Run_take := by
  exact mcal_of (nd := 0) (fs := f_Run_take) D sc_Run_take (fun C f cdv A outer s H E hr tk hp => by exact ⟨_, (pbx_cons (psx_asg 3 sc_Run_take.nd (px_cal (c_said_by.wC C) tk (hr.mono (by decide)) (by rfl) (by rfl) (by rfl) (pax_cons (px_var 2) (pax_cons (px_rget .worth (TR.wC C) (by rfl) (pv 0)) pax_nil))))
  (pbx_one (psx_if (ptx_eq hr.units (by rfl) (px_rget .kind (TR.wC C) (by rfl) (pv 0)) px_str)
  (pbx_one (psx_rapp .told (TR.wC C) (by rfl) (pv 0) (pe_tup (pa_cons (pv 1) (pa_cons (pv 3) pa_nil))) (ke_tup2 (ke_var 1) (ke_var 3))))
  (pbx_one (psx_if (PWx.pt (pwx_and (ptx_eq hr.units (by rfl) (px_rget .kind (TR.wC C) (by rfl) (pv 0)) px_str) (pwx_and1 (ptx_isN (px_var 3) px_non))))
  (pbx_cons (psx_rapp .told (TR.wC C) (by rfl) (pv 0) (pv 3) (ke_var 3))
  (pbx_one (psx_rput .shut (TR.wC C) (by rfl) (pv 0) px_bl)))
  (pbx_one (psx_if (PWx.pt (pwx_and (ptx_eq hr.units (by rfl) (px_rget .kind (TR.wC C) (by rfl) (pv 0)) px_str) (pwx_and1 (ptx_isN (px_var 3) px_non))))
  (pbx_one (psx_rput .worth (TR.wC C) (by rfl) (pv 0) (px_var 3)))
  (pbx_one (psx_if (PWx.pt (pwx_and (ptx_eq hr.units (by rfl) (px_rget .kind (TR.wC C) (by rfl) (pv 0)) px_str) (pwx_and1 (ptx_isN (px_var 3) px_non))))
  (pbx_cons (psx_rput .worth (TR.wC C) (by rfl) (pv 0) (px_var 3))
  (pbx_one (psx_if (ptx_eq hr.units (by rfl) (px_ix (by rfl) (px_var 2) px_int (fun _ _ => (by rfl))) px_str)
  (pbx_one (psx_rapp .backs (TR.wC C) (by rfl) (pv 0) (pe_ix ix_seq (pv 2) pe_int (fun _ _ => (by rfl))) (ke_ix (ke_var 2) (ke_int 1))))
  (pbx_one (psx_rput .shut (TR.wC C) (by rfl) (pv 0) px_bl)))))
  pbx_nil)))))))))⟩)
theorem p_exF_DeedFault {Cx fI : Addr} {fd : FuncData} (g : G.mg "DeedFault" = some (.ref Cx)) (X : OexC G.K Cx) (iC : PySem.W.findIn G.K (.ref Cx) "__init__" = some (some (.ref fI))) (tI : PySem.W.typeIn G.K (.ref fI) = some (.type "function")) (F : Fun G.K "__init__" "DeedFault.__init__" s_DeedFault_init fI fd) (b : Binds G.K fd ["self", "piece", "code"] []) (n0 : PySem.W.findIn G.K (.ref Cx) "piece" = some none) (n1 : PySem.W.findIn G.K (.ref Cx) "code" = some none)  : ExF P w base G 1 "DeedFault" ["piece", "code"] := by
  exact exF_h (t := fun _ => t_x2 G.K "piece" "code") g X iC tI F b sc_DeedFault_init (fun f cdv A outer s H E hr tk => pss_cons (ps_ost (pv 0) (pv 1)) (pss_one (ps_ost (pv 0) (pv 2)))) (fun _ _ _ _ h => pure_x2 X n0 n1 h)
theorem p_m_step (D : MDf G false "step" "Run.step" s_Run_step ["self"] 0) (m_over : MCal P w base G 1 false "over" 1 0 R_Run_over) (m_take : MCal P w base G 2 false "take" 3 0 R_Run_take) (TR : RunTxt G) (exF_DeedFault : ExF P w base G 1 "DeedFault" ["piece", "code"]) : MCal P w base G 3 false "step" 1 0 R_Run_step := by
  exact mcal_of (nd := 0) (fs := f_Run_step) D sc_Run_step (fun C f cdv A outer s H E hr tk hp => by exact ⟨_, (pbx_cons (psx_if (pt_of (px_mth0 (m_over.wC C) tk (hr.mono (by decide)) (by rfl) (by rfl) (pv 0)))
  (pbx_one (psx_ret px_non))
  pbx_nil)
  (pbx_cons (psx_asg 1 sc_Run_step.nd (px_ix (by rfl) (px_rget .rows (TR.wC C) (by rfl) (pv 0)) (px_rget .spot (TR.wC C) (by rfl) (pv 0)) (fun _ _ => (by rfl))))
  (pbx_cons (psx_rput .spot (TR.wC C) (by rfl) (pv 0) (px_add (px_rget .spot (TR.wC C) (by rfl) (pv 0)) px_int))
  (pbx_cons (psx_if (ptx_ne hr.units (by rfl) (px_ix (by rfl) (px_ix (by rfl) (px_var 1) px_int (fun _ _ => (by rfl))) px_int (fun _ _ => (by rfl))) px_str)
  (pbx_one (psx_expr (px_mth (m_take.wC C) tk (hr.mono (by decide)) (by rfl) (by rfl) (pv 0) (pax_cons (px_ix (by rfl) (px_var 1) px_int (fun _ _ => (by rfl))) (pax_cons (px_ix (by rfl) (px_var 1) px_int (fun _ _ => (by rfl))) pax_nil)))))
  (pbx_one (psx_if (ptx_eq hr.units (by rfl) (px_rget .rule (TR.wC C) (by rfl) (pv 0)) px_str)
  (pbx_cons (psx_rput .shut (TR.wC C) (by rfl) (pv 0) px_bl)
  (pbx_cons (psx_rput .torn (TR.wC C) (by rfl) (pv 0) px_bl)
  (pbx_one (psx_raiseF (exF_DeedFault.wC C) tk (hr.mono (by decide)) (by rfl) (by rfl) (by rfl) (by rfl) (pax_dat (px_ix (by rfl) (px_var 1) px_int (fun _ _ => (by rfl))) (pax_dat (px_ix (by rfl) (px_ix (by rfl) (px_var 1) px_int (fun _ _ => (by rfl))) px_int (fun _ _ => (by rfl))) pax_nil))))))
  (pbx_one (psx_rapp .held (TR.wC C) (by rfl) (pv 0) (pe_tup (pa_cons (pe_ix ix_seq (pv 1) pe_int (fun _ _ => (by rfl))) (pa_cons (pe_ix ix_seq (pe_ix ix_seq (pv 1) pe_int (fun _ _ => (by rfl))) pe_int (fun _ _ => (by rfl))) pa_nil))) (ke_tup2 (ke_ix (ke_var 1) (ke_int 0)) (ke_ix (ke_ix (ke_var 1) (ke_int 1)) (ke_int 1))))))))
  (pbx_one (psx_ret (px_ix (by rfl) (px_var 1) px_int (fun _ _ => (by rfl)))))))))⟩)
theorem p_m_answer (D : MDf G false "answer" "Run.answer" s_Run_answer ["self"] 0) (m_over : MCal P w base G 1 false "over" 1 0 R_Run_over) (TR : RunTxt G) (B : Blt G) (exA_NoAnswer : ExA G "NoAnswer") : MCal P w base G 2 false "answer" 1 0 R_Run_answer := by
  exact mcal_of (nd := 0) (fs := f_Run_answer) D sc_Run_answer (fun C f cdv A outer s H E hr tk hp => by exact ⟨_, (pbx_cons (psx_if (PWx.pt (pwx_or (ptx_not (pt_of (px_mth0 (m_over.wC C) tk (hr.mono (by decide)) (by rfl) (by rfl) (pv 0)))) (pwx_or1 (pt_of (px_rget .torn (TR.wC C) (by rfl) (pv 0))))))
  (pbx_one (psx_raise (exA_NoAnswer.wC C) tk (by rfl) (by rfl) (by rfl) (by rfl)))
  pbx_nil)
  (pbx_cons (psx_if (ptx_eq hr.units (by rfl) (px_rget .kind (TR.wC C) (by rfl) (pv 0)) px_str)
  (pbx_one (psx_ret (px_rlist .told (TR.wC C) (by rfl) (by rfl) B.list_ (pv 0))))
  pbx_nil)
  (pbx_cons (psx_if (ptx_eq hr.units (by rfl) (px_rget .kind (TR.wC C) (by rfl) (pv 0)) px_str)
  (pbx_cons (psx_if (ptx_rnil .told (TR.wC C) hr.units (by rfl) (pv 0))
  (pbx_one (psx_ret px_non))
  pbx_nil)
  (pbx_one (psx_ret (px_rix .told (TR.wC C) (by rfl) (pv 0) (by rfl) (fun _ _ => (by rfl))))))
  pbx_nil)
  (pbx_cons (psx_asg 1 sc_Run_answer.nd (px_rget .worth (TR.wC C) (by rfl) (pv 0)))
  (pbx_cons (psx_pre [2] (psx_forB (TR.wC C) (by rfl) hp (by rfl) (by rfl) B.reversed_ (pv 0) (pgx_name 2 sc_Run_answer.nd) (PBx.ps (G := G) (W := WXof E) (pbx_one (psx_asg 1 sc_Run_answer.nd (px_add (px_mul px_int (px_var 1)) (px_var 2)))))))
  (pbx_one (psx_ret (px_var 1))))))))⟩)
theorem p_m_faults (D : MDf G false "faults" "Run.faults" s_Run_faults ["self"] 0) (TR : RunTxt G) (B : Blt G) : MCal P w base G 1 false "faults" 1 0 R_Run_faults := by
  exact mcal_of (nd := 0) (fs := f_Run_faults) D sc_Run_faults (fun C f cdv A outer s H E hr tk hp => by exact ⟨_, (pbx_one (psx_ret (px_rlist .held (TR.wC C) (by rfl) (by rfl) B.list_ (pv 0))))⟩)
theorem p_c_finished (D : Df G "finished" s_finished ["run"]) (m_over : MCal P w base G 1 false "over" 1 0 R_Run_over) (m_step : MCal P w base G 3 false "step" 1 0 R_Run_step) (m_faults : MCal P w base G 1 false "faults" 1 0 R_Run_faults) (m_answer : MCal P w base G 2 false "answer" 1 0 R_Run_answer) : Cal P w base G 4 "finished" 1 R_finished := by
  exact cal_of (fs := f_finished) D sc_finished (fun f cdv A outer s H E hr tk hp C => by exact ⟨_, (pbx_cons (psx_pre [] (psx_while 1000 hp (ptx_not (pt_of (px_mth0 (m_over.wC C) tk (hr.mono (by decide)) (by rfl) (by rfl) (pv 0)))) (pbx_forget [] (pbx_one (psx_expr (px_mth0 (m_step.wC C) tk (hr.mono (by decide)) (by rfl) (by rfl) (pv 0)))))))
  (pbx_one (psx_ret (px_tup (pax_dat (px_mth0 (m_answer.wC C) tk (hr.mono (by decide)) (by rfl) (by rfl) (pv 0)) (pax_dat (px_mth0 (m_faults.wC C) tk (hr.mono (by decide)) (by rfl) (by rfl) (pv 0)) pax_nil))))))⟩) (fun _ _ => .inr rfl)
theorem p_c_pairs_of (D : Df G "pairs_of" s_pairs_of ["hall", "names"]) (m_look : LkCal P w base G 1) (T : HallTxt G) : Cal P w base G 2 "pairs_of" 2 (liftF R_pairs_of) := by
  refine Cal.lift (F := R_pairs_of) ?_
  exact cal_of (fs := f_pairs_of) D sc_pairs_of (fun f cdv A outer s H E hr tk hp C => by exact ⟨_, (pbx_cons (psx_asg 2 sc_pairs_of.nd (px_lst pax_nil))
  (pbx_cons (psx_pre [3, 4] (psx_for (by rfl) hp (by rfl) (px_var 1) (pgx_name 3 sc_pairs_of.nd)
  (pbx_forget [3, 4] (pbx_cons (psx_asg 4 sc_pairs_of.nd (px_mth (m_look.wC C).m tk (hr.mono (by decide)) (by rfl) (by rfl) (pv 0) (pax_cons (px_var 3) pax_nil)))
  (pbx_cons (psx_expr (px_ext (by rfl) (pv 2) (px_lc (own := [("other", 5)]) (by rfl) (by rfl) sc_pairs_of.nd (blkOk_by (own := [("other", 5)]) (N := ["hall", "names", "pairs", "name", "piece", "other"]) (sc := defScope s_pairs_of) (by decide +kernel)) (px_pcl .ahead (T.wC C) (by rfl) (pv 4)) (fun _ _ _ _ _ => by exact (pgx_name 5 sc_pairs_of.nd)) (fun _ _ _ _ _ => by exact (ptsx_one (ptx_in (r65 hr) (by rfl) (px_var 5) (px_var 1)))) (fun _ _ _ _ _ => by exact (px_tup (pax_dat (px_var 3) (pax_dat (px_var 5) pax_nil)))) (by decide))))
  (pbx_one (psx_expr (px_ext (by rfl) (pv 2) (px_lc (own := [("other", 5)]) (by rfl) (by rfl) sc_pairs_of.nd (blkOk_by (own := [("other", 5)]) (N := ["hall", "names", "pairs", "name", "piece", "other"]) (sc := defScope s_pairs_of) (by decide +kernel)) (px_pcl .behind (T.wC C) (by rfl) (pv 4)) (fun _ _ _ _ _ => by exact (pgx_name 5 sc_pairs_of.nd)) (fun _ _ _ _ _ => by exact (ptsx_one (ptx_in (r65 hr) (by rfl) (px_var 5) (px_var 1)))) (fun _ _ _ _ _ => by exact (px_tup (pax_dat (px_var 5) (pax_dat (px_var 3) pax_nil)))) (by decide))))))))))
  (pbx_one (psx_ret (px_var 2)))))⟩) (fun _ _ => .inr rfl)
theorem p_c_laid (D : Df G "laid" s_laid ["names", "pairs"]) (B : Blt G) : Cal P w base G 1 "laid" 2 R_laid := by
  exact cal_of (fs := f_laid) D sc_laid (fun f cdv A outer s H E hr tk hp C => by exact ⟨_, (pbx_cons (psx_asg 2 sc_laid.nd (px_lst pax_nil))
  (pbx_cons (psx_asg 3 sc_laid.nd (px_list (by rfl) (by rfl) B.list_ (px_var 0)))
  (pbx_cons (psx_asg 4 sc_laid.nd px_bl)
  (pbx_cons (psx_pre [] (psx_while 1000 hp (pt_of (px_var 4)) (pbx_forget [] (pbx_cons (psx_asg 4 sc_laid.nd px_bl)
  (pbx_cons (psx_pre [] (psx_for (by rfl) hp (by rfl) (px_var 3) (pgx_name 5 sc_laid.nd)
  (pbx_forget [] (pbx_one (psx_if (ptx_eq hr.units (by rfl) (px_lc (own := [("pair", 6)]) (by rfl) (by rfl) sc_laid.nd (blkOk_by (own := [("pair", 6)]) (N := ["names", "pairs", "found", "left", "free", "name", "pair"]) (sc := defScope s_laid) (by decide +kernel)) (px_var 1) (fun _ _ _ _ _ => by exact (pgx_name 6 sc_laid.nd)) (fun _ _ _ _ _ => by exact (ptsx_one (PWx.pt (pwx_and (ptx_eq hr.units (by rfl) (px_ix (by rfl) (px_var 6) px_int (fun _ _ => (by rfl))) (px_var 5)) (pwx_and1 (ptx_in (r65 hr) (by rfl) (px_ix (by rfl) (px_var 6) px_int (fun _ _ => (by rfl))) (px_var 3))))))) (fun _ _ _ _ _ => by exact (px_var 6)) (by decide)) (px_lst pax_nil))
  (pbx_cons (psx_asg 4 sc_laid.nd px_bl)
  (pbx_one psx_bk))
  pbx_nil)))))
  (pbx_one (psx_if (pt_of (px_var 4))
  (pbx_cons (psx_expr (px_app (by rfl) (pv 2) (px_var 5)))
  (pbx_cons (psx_expr (px_rem (by rfl) (pv 3) (px_var 5)))
  (pbx_one (psx_asg 4 sc_laid.nd (px_ne hr.units (by rfl) (px_var 3) (px_lst pax_nil))))))
  pbx_nil)))))))
  (pbx_one (psx_ret (px_var 2)))))))⟩) (fun _ _ => .inr rfl)
end
end Fw
namespace Fw
open PySem L2
section
variable {P : Program} {w : World} {base : Heap} {G : Gx}
theorem p_exF_Ring {Cx fI : Addr} {fd : FuncData} (g : G.mg "Ring" = some (.ref Cx)) (X : OexC G.K Cx) (iC : PySem.W.findIn G.K (.ref Cx) "__init__" = some (some (.ref fI))) (tI : PySem.W.typeIn G.K (.ref fI) = some (.type "function")) (F : Fun G.K "__init__" "Ring.__init__" s_Ring_init fI fd) (b : Binds G.K fd ["self", "ring"] []) (n0 : PySem.W.findIn G.K (.ref Cx) "ring" = some none)  : ExF P w base G 1 "Ring" ["ring"] := by
  exact exF_h (t := fun _ => t_x1 G.K "ring") g X iC tI F b sc_Ring_init (fun f cdv A outer s H E hr tk => pss_one (ps_ost (pv 0) (pv 1))) (fun _ _ _ _ h => pure_x1 X n0 h)
theorem p_c_ring_from (D : Df G "ring_from" s_ring_from ["names", "pairs", "start"]) (B : Blt G) : Cal P w base G 1 "ring_from" 3 R_ring_from := by
  exact cal_of (fs := f_ring_from) D sc_ring_from (fun f cdv A outer s H E hr tk hp C => by exact ⟨_, (pbx_cons (psx_asg 3 sc_ring_from.nd (px_lst (pax_dat (px_lst (pax_dat (px_var 2) pax_nil)) pax_nil)))
  (pbx_cons (psx_asg 4 sc_ring_from.nd px_dnew)
  (pbx_cons (psx_asg 5 sc_ring_from.nd px_int)
  (pbx_cons (psx_pre [6] (psx_while 1000 hp (ptx_lt (px_var 5) (px_len (by rfl) (by rfl) B.len_ (px_var 3))) (pbx_forget [6] (pbx_cons (psx_pre [6] (psx_for (by rfl) hp (by rfl) (px_var 0) (pgx_name 6 sc_ring_from.nd)
  (pbx_forget [6] (pbx_one (psx_if (ptx_in (r65 hr) (by rfl) (px_tup (pax_dat (px_ix (by rfl) (px_ix (by rfl) (px_var 3) (px_var 5) (fun _ _ => (by rfl))) (px_neg px_int) (fun _ _ => (by rfl))) (pax_dat (px_var 6) pax_nil))) (px_var 1))
  (pbx_cons (psx_if (ptx_eq hr.units (by rfl) (px_var 6) (px_var 2))
  (pbx_one (psx_ret (px_ix (by rfl) (px_var 3) (px_var 5) (fun _ _ => (by rfl)))))
  pbx_nil)
  (pbx_one (psx_if (ptx_dnotin (hu1 hr) (pv 4) (px_var 6))
  (pbx_cons (psx_dput (hu1 hr) (pv 4) (px_var 6) px_bl)
  (pbx_one (psx_expr (px_app (by rfl) (pv 3) (px_add (px_ix (by rfl) (px_var 3) (px_var 5) (fun _ _ => (by rfl))) (px_lst (pax_dat (px_var 6) pax_nil)))))))
  pbx_nil)))
  pbx_nil)))))
  (pbx_one (psx_asg 5 sc_ring_from.nd (px_add (px_var 5) px_int)))))))
  (pbx_one (psx_ret px_non))))))⟩) (fun _ _ => .inr rfl)
theorem p_c_shortest_ring (D : Df G "shortest_ring" s_shortest_ring ["names", "pairs"]) (c_ring_from : Cal P w base G 1 "ring_from" 3 R_ring_from) (B : Blt G) : Cal P w base G 2 "shortest_ring" 2 R_shortest_ring := by
  exact cal_of (fs := f_shortest_ring) D sc_shortest_ring (fun f cdv A outer s H E hr tk hp C => by exact ⟨_, (pbx_cons (psx_asg 2 sc_shortest_ring.nd px_non)
  (pbx_cons (psx_pre [3, 4] (psx_for (by rfl) hp (by rfl) (px_var 0) (pgx_name 3 sc_shortest_ring.nd)
  (pbx_forget [3, 4] (pbx_cons (psx_asg 4 sc_shortest_ring.nd (px_cal (c_ring_from.wC C) tk (hr.mono (by decide)) (by rfl) (by rfl) (by rfl) (pax_cons (px_var 0) (pax_cons (px_var 1) (pax_cons (px_var 3) pax_nil)))))
  (pbx_one (psx_if (PWx.pt (pwx_and (ptx_isN (px_var 4) px_non) (pwx_and1 (PWx.pt (pwx_or (ptx_is (px_var 2) px_non) (pwx_or1 (ptx_lt (px_len (by rfl) (by rfl) B.len_ (px_var 4)) (px_len (by rfl) (by rfl) B.len_ (px_var 2)))))))))
  (pbx_one (psx_asg 2 sc_shortest_ring.nd (px_var 4)))
  pbx_nil))))))
  (pbx_one (psx_ret (px_var 2)))))⟩) (fun _ _ => .inr rfl)
theorem p_c_order_of (D : Df G "order_of" s_order_of ["hall", "names"]) (c_pairs_of : Cal P w base G 2 "pairs_of" 2 (liftF R_pairs_of)) (c_laid : Cal P w base G 1 "laid" 2 R_laid) (c_shortest_ring : Cal P w base G 2 "shortest_ring" 2 R_shortest_ring) (B : Blt G) (exF_Ring : ExF P w base G 1 "Ring" ["ring"]) : Cal P w base G 3 "order_of" 2 (liftF R_order_of) := by
  refine Cal.lift (F := R_order_of) ?_
  exact cal_of (fs := f_order_of) D sc_order_of (fun f cdv A outer s H E hr tk hp C => by exact ⟨_, (pbx_cons (psx_asg 2 sc_order_of.nd (px_cal (c_pairs_of.wC C) tk (hr.mono (by decide)) (by rfl) (by rfl) (by rfl) (pax_cons (px_var 0) (pax_cons (px_var 1) pax_nil))))
  (pbx_cons (psx_asg 3 sc_order_of.nd (px_cal (c_laid.wC C) tk (hr.mono (by decide)) (by rfl) (by rfl) (by rfl) (pax_cons (px_var 1) (pax_cons (px_var 2) pax_nil))))
  (pbx_cons (psx_if (ptx_lt (px_len (by rfl) (by rfl) B.len_ (px_var 3)) (px_len (by rfl) (by rfl) B.len_ (px_var 1)))
  (pbx_one (psx_raiseF (exF_Ring.wC C) tk (hr.mono (by decide)) (by rfl) (by rfl) (by rfl) (by rfl) (pax_dat (px_cal (c_shortest_ring.wC C) tk (hr.mono (by decide)) (by rfl) (by rfl) (by rfl) (pax_cons (px_var 1) (pax_cons (px_var 2) pax_nil))) pax_nil)))
  pbx_nil)
  (pbx_one (psx_ret (px_var 3))))))⟩) (fun _ _ => .inr rfl)
theorem p_m_at (D : MDf G true "at" "Hall.at" s_Hall_at ["self", "place"] 0) (T : HallTxt G) (exA_NoPlace : ExA G "NoPlace") : MCal P w base G 1 true "at" 2 0 (liftF F_at) := by
  exact (mcal_h (F := F_at) (t := fun E => t_at G (WXof E)) D sc_Hall_at rfl (fun f cdv A outer s H E hr tk hp => pss_cons (ps_if (pt_cmp (pc_dnotin (hu1 hr) (pv 1) (pe_fld (pv 0) rfl))) (pss_one (psx_raise exA_NoPlace tk rfl rfl rfl rfl).ps) pss_nil) (pss_one (ps_ret (pe_lc (own := [("piece", 2)]) (g := gName 2) (tt := (tAnd (tTest (tOp rEq (tFld G.K (tVar 2) "place") (tVar 1))) (tB (tDNotIn (tFld G.K (tVar 2) "name") (tFld G.K (tVar 0) "off"))))) rfl sc_Hall_at.nd (pi_list (pe_fld (pv 0) rfl)) (blkOk_by (own := [("piece", 2)]) (N := ["self", "place", "piece"]) (sc := defScope s_Hall_at) (by decide +kernel)) (fun _ _ _ _ _ => pg_name (i := 2) sc_Hall_at.nd rfl (Or.inl rfl)) (fun _ _ _ _ _ => pts_one (PW.pt (pw_and (pt_cmpR op_eq (pe_fld (pv 2) rfl) (pv 1) (nomark _)) (pw_and1 (pt_cmp (pc_dnotin (hu1 hr) (pe_fld (pv 2) rfl) (pe_fld (pv 0) rfl))))))) (fun _ _ _ _ _ => pe_fld (pv 2) rfl))))) (fun _ _ _ _ h => pure_at T h)).lift
theorem p_c_order (D : Df G "order" s_order ["hall", "place"]) (m_at : MCal P w base G 1 true "at" 2 0 (liftF F_at)) (c_order_of : Cal P w base G 3 "order_of" 2 (liftF R_order_of)) : Cal P w base G 4 "order" 2 (liftF R_order) := by
  refine Cal.lift (F := R_order) ?_
  exact cal_of (fs := f_order) D sc_order (fun f cdv A outer s H E hr tk hp C => by exact ⟨_, (pbx_one (psx_ret (px_cal (c_order_of.wC C) tk (hr.mono (by decide)) (by rfl) (by rfl) (by rfl) (pax_cons (px_var 0) (pax_cons (px_mth (m_at.wC C) tk (hr.mono (by decide)) (by rfl) (by rfl) (pv 0) (pax_cons (px_var 1) pax_nil)) pax_nil)))))⟩) (fun _ _ => .inr rfl)
theorem p_mkR (D : IDf G G.CR "Run.__init__" s_Run_init ["self", "kind", "rule", "rows", "worth"]) (TR : RunTxt G) : RMk P w base G 1 := by
  exact mkr_h (t := fun _ => t_run G.K) D sc_Run_init (fun f cdv A outer s H E hr tk => (pss_cons (ps_fld (pv 0) (pv 1) rfl) (pss_cons (ps_fld (pv 0) (pv 2) rfl) (pss_cons (ps_fld (pv 0) (pv 3) rfl) (pss_cons (ps_fld (pv 0) (pv 4) rfl) (pss_cons (ps_fld (pv 0) pe_int rfl) (pss_cons (ps_fld (pv 0) pe_bl rfl) (pss_cons (ps_fld (pv 0) pe_bl rfl) (pss_cons (ps_fld (pv 0) (pe_lst pa_nil) rfl) (pss_cons (ps_fld (pv 0) (pe_lst pa_nil) rfl) (pss_one (ps_fld (pv 0) (pe_lst pa_nil) rfl)))))))))))) (fun _ _ _ _ h => pure_run TR h)
theorem p_c_rows_of (D : Df G "rows_of" s_rows_of ["hall", "names"]) (m_look : LkCal P w base G 1) (T : HallTxt G) : Cal P w base G 2 "rows_of" 2 R_rows_of := by
  exact cal_of (fs := f_rows_of) D sc_rows_of (fun f cdv A outer s H E hr tk hp C => by exact ⟨_, (pbx_one (psx_ret (px_lc (own := [("name", 2)]) (by rfl) (by rfl) sc_rows_of.nd (blkOk_by (own := [("name", 2)]) (N := ["hall", "names", "name"]) (sc := defScope s_rows_of) (by decide +kernel)) (px_var 1) (fun _ _ _ _ _ => by exact (pgx_name 2 sc_rows_of.nd)) (fun _ _ _ _ _ => by exact ptsx_nil) (fun _ _ _ _ _ => by exact (px_tup (pax_dat (px_var 2) (pax_dat (px_pat .deed (T.wC C) (by rfl) (px_mth (m_look.wC C).m takes0 (hr.mono (by decide)) (by rfl) (by rfl) (pv 0) (pax_cons (px_var 2) pax_nil))) pax_nil)))) (by decide))))⟩) (fun _ _ => .inr rfl)
theorem p_c_begin (D : Df G "begin" s_begin ["hall", "place", "number"]) (c_order : Cal P w base G 4 "order" 2 (liftF R_order)) (mkR : RMk P w base G 1) (c_rows_of : Cal P w base G 2 "rows_of" 2 R_rows_of) (TR : RunTxt G) (T : HallTxt G) : Cal P w base G 5 "begin" 3 (liftF R_begin) := by
  refine Cal.lift (F := R_begin) ?_
  exact cal_of (fs := f_begin) D sc_begin (fun f cdv A outer s H E hr tk hp C => by exact ⟨_, (pbx_cons (psx_asg 3 sc_begin.nd (px_cal (c_order.wC C) tk (hr.mono (by decide)) (by rfl) (by rfl) (by rfl) (pax_cons (px_var 0) (pax_cons (px_var 1) pax_nil))))
  (pbx_one (psx_ret (px_run (mkR.wC C) (TR.wC C) (hr.mono (by decide)) (by rfl) (by rfl) (by rfl) (pax_dat (px_aget .kinds (T.wC C) (hu1 hr) (by rfl) (pv 0) (pv 1)) (pax_dat (px_aget .rules (T.wC C) (hu1 hr) (by rfl) (pv 0) (pv 1)) (pax_dat (px_cal (c_rows_of.wC C) tk (hr.mono (by decide)) (by rfl) (by rfl) (by rfl) (pax_cons (px_var 0) (pax_cons (px_var 3) pax_nil))) (pax_dat (px_var 2) pax_nil))))))))⟩) (fun _ _ => .inr rfl)
end
end Fw
namespace Fw
open PySem L2
section
variable {P : Program} {w : World} {base : Heap} {G : Gx}
theorem p_c_call (D : Df G "call" s_call ["hall", "place", "number"]) (c_begin : Cal P w base G 5 "begin" 3 (liftF R_begin)) (c_finished : Cal P w base G 4 "finished" 1 R_finished) : Cal P w base G 6 "call" 3 (liftF R_call) := by
  refine Cal.lift (F := R_call) ?_
  exact cal_of (fs := f_call) D sc_call (fun f cdv A outer s H E hr tk hp C => by exact ⟨_, (pbx_one (psx_ret (px_callO (c_finished.wC C) tk (hr.mono (by decide)) (by rfl) (by rfl) (by rfl) (px_cal (c_begin.wC C) tk (hr.mono (by decide)) (by rfl) (by rfl) (by rfl) (pax_cons (px_var 0) (pax_cons (px_var 1) (pax_cons (px_var 2) pax_nil)))) pa_nil ka_nil)))⟩) (fun _ _ => .inr rfl)
theorem p_c_l_told {D_DeedFault : Addr} {D_Ring : Addr} (D : Df G "_law_told" s_l_told ["hall", "number"]) (c_call : Cal P w base G 6 "call" 3 (liftF R_call)) (ex : Exm G) (g_DeedFault : G.mg "DeedFault" = some (.ref D_DeedFault)) (xf_DeedFault : ∀ {D : Addr}, G.mg "DeedFault" = some (.ref D) → XfC G.K D ∧ ∀ f ∈ (["piece", "code"] : List Str), PySem.W.findIn G.K (.ref D) f = some none) (g_Ring : G.mg "Ring" = some (.ref D_Ring)) : Cal P w base G 7 "_law_told" 2 R_l_told := by
  exact cal_of (fs := f_l_told) D sc_l_told (fun f cdv A outer s H E hr tk hp C => by exact ⟨_, (pbx_cons (psx_asg 2 sc_l_told.nd px_non)
  (pbx_cons (psx_try (ex.wC C) (by rfl) (by rfl) (by rfl) tk (fun W pn xe tk => (pbx_one (psx_asg 2 sc_l_told.nd (px_tup (pax_dat px_str (pax_dat (px_cal (c_call.wC C) tk (hr.mono (by decide)) (by rfl) (by rfl) (by rfl) (pax_cons (px_var 0) (pax_cons px_str (pax_cons (px_var 1) pax_nil)))) pax_nil)))))) (Mixx.named g_DeedFault (by rfl) (by rfl) (by decide) sc_l_told.nd (by rfl) (by rfl) (fun a oe cls d pn hz hf => (pbx_one (psx_asg 2 sc_l_told.nd (px_tup (pax_dat px_str (pax_dat (px_tup (pax_dat (px_xf (by rfl) g_DeedFault (xf_DeedFault g_DeedFault).1 ((xf_DeedFault g_DeedFault).2 _ (by decide)) hz hf (pv 3)) (pax_dat (px_xf (by rfl) g_DeedFault (xf_DeedFault g_DeedFault).1 ((xf_DeedFault g_DeedFault).2 _ (by decide)) hz hf (pv 3)) pax_nil))) pax_nil)))))) (Mixx.bare g_Ring (by rfl) (by rfl) (by decide) (fun a oe cls d pn hz hf => (pbx_one (psx_asg 2 sc_l_told.nd (px_tup (pax_dat px_str pax_nil))))) Mixx.nil)))
  (pbx_one (psx_ret (px_var 2)))))⟩) (fun _ _ => .inr rfl)
theorem p_c_l_free (D : Df G "_law_free" s_l_free ["name", "left", "pairs"])  : Cal P w base G 1 "_law_free" 3 R_l_free := by
  exact cal_of (fs := f_l_free) D sc_l_free (fun f cdv A outer s H E hr tk hp C => by exact ⟨_, (pbx_cons (psx_pre [3] (psx_for (by rfl) hp (by rfl) (px_var 2) (pgx_name 3 sc_l_free.nd)
  (pbx_forget [3] (pbx_one (psx_if (PWx.pt (pwx_and (ptx_eq hr.units (by rfl) (px_ix (by rfl) (px_var 3) px_int (fun _ _ => (by rfl))) (px_var 0)) (pwx_and1 (ptx_in (r65 hr) (by rfl) (px_ix (by rfl) (px_var 3) px_int (fun _ _ => (by rfl))) (px_var 1)))))
  (pbx_one (psx_ret px_bl))
  pbx_nil)))))
  (pbx_one (psx_ret px_bl)))⟩) (fun _ _ => .inr rfl)
theorem p_c_l_order (D : Df G "_law_order" s_l_order ["names", "pairs"]) (c_l_free : Cal P w base G 1 "_law_free" 3 R_l_free) (B : Blt G) : Cal P w base G 2 "_law_order" 2 R_l_order := by
  exact cal_of (fs := f_l_order) D sc_l_order (fun f cdv A outer s H E hr tk hp C => by exact ⟨_, (pbx_cons (psx_asg 2 sc_l_order.nd (px_list (by rfl) (by rfl) B.list_ (px_var 0)))
  (pbx_cons (psx_asg 3 sc_l_order.nd (px_lst pax_nil))
  (pbx_cons (psx_pre [4] (psx_while 1000 hp (ptx_ne hr.units (by rfl) (px_var 2) (px_lst pax_nil)) (pbx_forget [4] (pbx_cons (psx_setLc (own := [("name", 5)]) 4 (by rfl) (by rfl) sc_l_order.nd (by rfl) (by rfl) (sw_true (by rfl) (by rfl) (by rfl) (by decide +kernel)) (blkOk_by (own := [("name", 5)]) (N := ["names", "pairs", "left", "found", "free", "name"]) (sc := defScope s_l_order) (by decide +kernel)) (px_var 2) (fun _ _ _ _ _ => by exact (pgx_name 5 sc_l_order.nd)) (fun _ _ _ _ _ => by exact (ptsx_one (pt_of (px_cal (c_l_free.wC C) takes0 (hr.mono (by decide)) (by rfl) (by rfl) (by rfl) (pax_cons (px_var 5) (pax_cons (px_var 2) (pax_cons (px_var 1) pax_nil))))))) (fun _ _ _ _ _ => by exact (px_var 5)) (by decide))
  (pbx_cons (psx_if (ptx_eq hr.units (by rfl) (px_var 4) (px_lst pax_nil))
  (pbx_one (psx_ret px_non))
  pbx_nil)
  (pbx_cons (psx_expr (px_app (by rfl) (pv 3) (px_ix (by rfl) (px_var 4) px_int (fun _ _ => (by rfl)))))
  (pbx_one (psx_expr (px_rem (by rfl) (pv 2) (px_ix (by rfl) (px_var 4) px_int (fun _ _ => (by rfl))))))))))))
  (pbx_one (psx_ret (px_var 3))))))⟩) (fun _ _ => .inr rfl)
theorem p_c_l_whole (D : Df G "_law_whole" s_l_whole ["found"]) (B : Blt G) : Cal P w base G 1 "_law_whole" 1 R_l_whole := by
  exact cal_of (fs := f_l_whole) D sc_l_whole (fun f cdv A outer s H E hr tk hp C => by exact ⟨_, (pbx_one (psx_ret (px_andV (px_isi "int" "int" (by decide +kernel) (.inr (.inr (.inr (.inl (by rfl))))) (by rfl) (by rfl) B.isinstance_ (by rfl) B.int_ (px_var 0)) (px_one (px_notV (px_isi "bool" "bool" (by decide +kernel) (.inr (.inr (.inr (.inr (by rfl))))) (by rfl) (by rfl) B.isinstance_ (by rfl) B.bool_ (px_var 0)))))))⟩) (fun _ _ => .inr rfl)
theorem p_c_l_value (D : Df G "_law_value" s_l_value ["found", "due"]) (c_l_whole : Cal P w base G 1 "_law_whole" 1 R_l_whole) : Cal P w base G 2 "_law_value" 2 R_l_value := by
  exact cal_of (fs := f_l_value) D sc_l_value (fun f cdv A outer s H E hr tk hp C => by exact ⟨_, (pbx_cons (psx_if (ptx_is (px_var 1) px_non)
  (pbx_one (psx_ret (px_is (px_var 0) px_non)))
  pbx_nil)
  (pbx_one (psx_ret (px_andV (px_cal (c_l_whole.wC C) tk (hr.mono (by decide)) (by rfl) (by rfl) (by rfl) (pax_cons (px_var 0) pax_nil)) (px_one (px_eq hr.units (by rfl) (px_var 0) (px_var 1)))))))⟩) (fun _ _ => .inr rfl)
theorem p_c_l_pairs_alike (D : Df G "_law_pairs_alike" s_l_pairs_alike ["found", "due"]) (c_l_value : Cal P w base G 2 "_law_value" 2 R_l_value) (B : Blt G) : Cal P w base G 3 "_law_pairs_alike" 2 R_l_pairs_alike := by
  exact cal_of (fs := f_l_pairs_alike) D sc_l_pairs_alike (fun f cdv A outer s H E hr tk hp C => by exact ⟨_, (pbx_cons (psx_if (PWx.pt (pwx_or (ptx_not (pt_of (px_isi "list" "list" (by decide +kernel) (.inl (by rfl)) (by rfl) (by rfl) B.isinstance_ (by rfl) B.list_ (px_var 0)))) (pwx_or1 (ptx_ne hr.units (by rfl) (px_len (by rfl) (by rfl) B.len_ (px_var 0)) (px_len (by rfl) (by rfl) B.len_ (px_var 1))))))
  (pbx_one (psx_ret px_bl))
  pbx_nil)
  (pbx_cons (psx_pre [2, 3] (psx_forR1 hp (by rfl) (by rfl) B.range_ (px_len (by rfl) (by rfl) B.len_ (px_var 1)) (pgx_name 2 sc_l_pairs_alike.nd)
  (pbx_forget [2, 3] (pbx_cons (psx_asg 3 sc_l_pairs_alike.nd (px_ix (by rfl) (px_var 0) (px_var 2) (fun _ _ => (by rfl))))
  (pbx_one (psx_if (PWx.pt (pwx_or (ptx_not (pt_of (px_isi "tuple" "tuple" (by decide +kernel) (.inr (.inr (.inl (by rfl)))) (by rfl) (by rfl) B.isinstance_ (by rfl) B.tuple_ (px_var 3)))) (pwx_or (ptx_ne hr.units (by rfl) (px_len (by rfl) (by rfl) B.len_ (px_var 3)) px_int) (pwx_or (ptx_ne hr.units (by rfl) (px_ix (by rfl) (px_var 3) px_int (fun _ _ => (by rfl))) (px_ix (by rfl) (px_ix (by rfl) (px_var 1) (px_var 2) (fun _ _ => (by rfl))) px_int (fun _ _ => (by rfl)))) (pwx_or1 (ptx_not (pt_of (px_cal (c_l_value.wC C) tk (hr.mono (by decide)) (by rfl) (by rfl) (by rfl) (pax_cons (px_ix (by rfl) (px_var 3) px_int (fun _ _ => (by rfl))) (pax_cons (px_ix (by rfl) (px_ix (by rfl) (px_var 1) (px_var 2) (fun _ _ => (by rfl))) px_int (fun _ _ => (by rfl))) pax_nil))))))))))
  (pbx_one (psx_ret px_bl))
  pbx_nil))))))
  (pbx_one (psx_ret px_bl))))⟩) (fun _ _ => .inr rfl)
theorem p_c_l_answer_right (D : Df G "_law_answer_right" s_l_answer_right ["found", "due"]) (c_l_pairs_alike : Cal P w base G 3 "_law_pairs_alike" 2 R_l_pairs_alike) (c_l_value : Cal P w base G 2 "_law_value" 2 R_l_value) (B : Blt G) : Cal P w base G 4 "_law_answer_right" 2 R_l_answer_right := by
  exact cal_of (fs := f_l_answer_right) D sc_l_answer_right (fun f cdv A outer s H E hr tk hp C => by exact ⟨_, (pbx_cons (psx_if (pt_of (px_isi "list" "list" (by decide +kernel) (.inl (by rfl)) (by rfl) (by rfl) B.isinstance_ (by rfl) B.list_ (px_var 1)))
  (pbx_one (psx_ret (px_cal (c_l_pairs_alike.wC C) tk (hr.mono (by decide)) (by rfl) (by rfl) (by rfl) (pax_cons (px_var 0) (pax_cons (px_var 1) pax_nil)))))
  pbx_nil)
  (pbx_one (psx_ret (px_cal (c_l_value.wC C) tk (hr.mono (by decide)) (by rfl) (by rfl) (by rfl) (pax_cons (px_var 0) (pax_cons (px_var 1) pax_nil))))))⟩) (fun _ _ => .inr rfl)
theorem p_c_l_right (D : Df G "_law_right" s_l_right ["found", "due"]) (c_l_value : Cal P w base G 2 "_law_value" 2 R_l_value) (c_l_answer_right : Cal P w base G 4 "_law_answer_right" 2 R_l_answer_right) (c_l_pairs_alike : Cal P w base G 3 "_law_pairs_alike" 2 R_l_pairs_alike) (B : Blt G) : Cal P w base G 5 "_law_right" 2 R_l_right := by
  exact cal_of (fs := f_l_right) D sc_l_right (fun f cdv A outer s H E hr tk hp C => by exact ⟨_, (pbx_cons (psx_if (ptx_ne hr.units (by rfl) (px_ix (by rfl) (px_var 0) px_int (fun _ _ => (by rfl))) (px_ix (by rfl) (px_var 1) px_int (fun _ _ => (by rfl))))
  (pbx_one (psx_ret px_bl))
  pbx_nil)
  (pbx_cons (psx_if (ptx_eq hr.units (by rfl) (px_ix (by rfl) (px_var 1) px_int (fun _ _ => (by rfl))) px_str)
  (pbx_one (psx_ret (px_andV (px_eq hr.units (by rfl) (px_ix (by rfl) (px_ix (by rfl) (px_var 0) px_int (fun _ _ => (by rfl))) px_int (fun _ _ => (by rfl))) (px_ix (by rfl) (px_ix (by rfl) (px_var 1) px_int (fun _ _ => (by rfl))) px_int (fun _ _ => (by rfl)))) (px_one (px_cal (c_l_value.wC C) tk (hr.mono (by decide)) (by rfl) (by rfl) (by rfl) (pax_cons (px_ix (by rfl) (px_ix (by rfl) (px_var 0) px_int (fun _ _ => (by rfl))) px_int (fun _ _ => (by rfl))) (pax_cons (px_ix (by rfl) (px_ix (by rfl) (px_var 1) px_int (fun _ _ => (by rfl))) px_int (fun _ _ => (by rfl))) pax_nil)))))))
  pbx_nil)
  (pbx_cons (psx_if (PWx.pt (pwx_or (ptx_not (pt_of (px_isi "tuple" "tuple" (by decide +kernel) (.inr (.inr (.inl (by rfl)))) (by rfl) (by rfl) B.isinstance_ (by rfl) B.tuple_ (px_ix (by rfl) (px_var 0) px_int (fun _ _ => (by rfl)))))) (pwx_or1 (ptx_ne hr.units (by rfl) (px_len (by rfl) (by rfl) B.len_ (px_ix (by rfl) (px_var 0) px_int (fun _ _ => (by rfl)))) px_int))))
  (pbx_one (psx_ret px_bl))
  pbx_nil)
  (pbx_one (psx_ret (px_andV (px_cal (c_l_answer_right.wC C) tk (hr.mono (by decide)) (by rfl) (by rfl) (by rfl) (pax_cons (px_ix (by rfl) (px_ix (by rfl) (px_var 0) px_int (fun _ _ => (by rfl))) px_int (fun _ _ => (by rfl))) (pax_cons (px_ix (by rfl) (px_ix (by rfl) (px_var 1) px_int (fun _ _ => (by rfl))) px_int (fun _ _ => (by rfl))) pax_nil))) (px_one (px_cal (c_l_pairs_alike.wC C) tk (hr.mono (by decide)) (by rfl) (by rfl) (by rfl) (pax_cons (px_ix (by rfl) (px_ix (by rfl) (px_var 0) px_int (fun _ _ => (by rfl))) px_int (fun _ _ => (by rfl))) (pax_cons (px_ix (by rfl) (px_ix (by rfl) (px_var 1) px_int (fun _ _ => (by rfl))) px_int (fun _ _ => (by rfl))) pax_nil))))))))))⟩) (fun _ _ => .inr rfl)
end
end Fw
namespace Fw
open PySem L2
section
variable {P : Program} {w : World} {base : Heap} {G : Gx}
theorem p_c_l_pairs (D : Df G "_law_pairs" s_l_pairs ["pieces", "names"])  : Cal P w base G 1 "_law_pairs" 2 R_l_pairs := by
  exact cal_of (fs := f_l_pairs) D sc_l_pairs (fun f cdv A outer s H E hr tk hp C => by exact ⟨_, (pbx_cons (psx_asg 2 sc_l_pairs.nd (px_lst pax_nil))
  (pbx_cons (psx_pre [3] (psx_for (by rfl) hp (by rfl) (px_var 0) (pgx_name 3 sc_l_pairs.nd)
  (pbx_forget [3] (pbx_one (psx_if (ptx_in (r65 hr) (by rfl) (px_ix (by rfl) (px_var 3) px_int (fun _ _ => (by rfl))) (px_var 1))
  (pbx_cons (psx_expr (px_ext (by rfl) (pv 2) (px_lc (own := [("other", 4)]) (by rfl) (by rfl) sc_l_pairs.nd (blkOk_by (own := [("other", 4)]) (N := ["pieces", "names", "pairs", "piece", "other"]) (sc := defScope s_l_pairs) (by decide +kernel)) (px_ix (by rfl) (px_ix (by rfl) (px_var 3) px_int (fun _ _ => (by rfl))) px_int (fun _ _ => (by rfl))) (fun _ _ _ _ _ => by exact (pgx_name 4 sc_l_pairs.nd)) (fun _ _ _ _ _ => by exact (ptsx_one (ptx_in (r65 hr) (by rfl) (px_var 4) (px_var 1)))) (fun _ _ _ _ _ => by exact (px_tup (pax_dat (px_ix (by rfl) (px_var 3) px_int (fun _ _ => (by rfl))) (pax_dat (px_var 4) pax_nil)))) (by decide))))
  (pbx_one (psx_expr (px_ext (by rfl) (pv 2) (px_lc (own := [("other", 4)]) (by rfl) (by rfl) sc_l_pairs.nd (blkOk_by (own := [("other", 4)]) (N := ["pieces", "names", "pairs", "piece", "other"]) (sc := defScope s_l_pairs) (by decide +kernel)) (px_ix (by rfl) (px_ix (by rfl) (px_var 3) px_int (fun _ _ => (by rfl))) px_int (fun _ _ => (by rfl))) (fun _ _ _ _ _ => by exact (pgx_name 4 sc_l_pairs.nd)) (fun _ _ _ _ _ => by exact (ptsx_one (ptx_in (r65 hr) (by rfl) (px_var 4) (px_var 1)))) (fun _ _ _ _ _ => by exact (px_tup (pax_dat (px_var 4) (pax_dat (px_ix (by rfl) (px_var 3) px_int (fun _ _ => (by rfl))) pax_nil)))) (by decide))))))
  pbx_nil)))))
  (pbx_one (psx_ret (px_var 2)))))⟩) (fun _ _ => .inr rfl)
theorem p_c_l_round (D : Df G "_law_round" s_l_round ["rows", "number", "held"])  : Cal P w base G 24 "_law_round" 3 R_l_round := by
  exact cal_rec (k := 0) (fs := f_l_round) D sc_l_round (fun Frec j hkj Crec f cdv A outer s H E hr tk hp C => by exact ⟨_, (pbx_cons (psx_if (ptx_eq hr.units (by rfl) (px_var 0) (px_lst pax_nil))
  (pbx_one (psx_ret (px_var 1)))
  pbx_nil)
  (pbx_cons (psx_asg 3 sc_l_round.nd (px_ix (by rfl) (px_ix (by rfl) (px_var 0) px_int (fun _ _ => (by rfl))) px_int (fun _ _ => (by rfl))))
  (pbx_cons (psx_if (ptx_eq hr.units (by rfl) (px_ix (by rfl) (px_var 3) px_int (fun _ _ => (by rfl))) px_str)
  (pbx_one (psx_ret (px_ix (by rfl) (px_var 3) px_int (fun _ _ => (by rfl)))))
  pbx_nil)
  (pbx_cons (psx_if (ptx_eq hr.units (by rfl) (px_ix (by rfl) (px_var 3) px_int (fun _ _ => (by rfl))) px_str)
  (pbx_one (psx_ret (px_add (px_mul px_int (px_cal (Crec.wC C) tk (hr.mono (Nat.le_refl _)) (by rfl) (by rfl) (by rfl) (pax_cons (px_slx (by rfl) (px_var 0) (pox_some px_int) pox_none) (pax_cons (px_add (px_var 1) (px_ix (by rfl) (px_var 3) px_int (fun _ _ => (by rfl)))) (pax_cons (px_var 2) pax_nil))))) (px_ix (by rfl) (px_var 3) px_int (fun _ _ => (by rfl))))))
  pbx_nil)
  (pbx_cons (psx_if (ptx_eq hr.units (by rfl) (px_ix (by rfl) (px_var 3) px_int (fun _ _ => (by rfl))) px_str)
  (pbx_one (psx_expr (px_app (by rfl) (pv 2) (px_tup (pax_dat (px_ix (by rfl) (px_ix (by rfl) (px_var 0) px_int (fun _ _ => (by rfl))) px_int (fun _ _ => (by rfl))) (pax_dat (px_ix (by rfl) (px_var 3) px_int (fun _ _ => (by rfl))) pax_nil))))))
  pbx_nil)
  (pbx_one (psx_ret (px_cal (Crec.wC C) tk (hr.mono (Nat.le_refl _)) (by rfl) (by rfl) (by rfl) (pax_cons (px_slx (by rfl) (px_var 0) (pox_some px_int) pox_none) (pax_cons (px_var 1) (pax_cons (px_var 2) pax_nil)))))))))))⟩) 24
theorem p_c_l_said (D : Df G "_law_said" s_l_said ["deed", "number"])  : Cal P w base G 1 "_law_said" 2 R_l_said := by
  exact cal_of (fs := f_l_said) D sc_l_said (fun f cdv A outer s H E hr tk hp C => by exact ⟨_, (pbx_cons (psx_if (ptx_eq hr.units (by rfl) (px_ix (by rfl) (px_var 0) px_int (fun _ _ => (by rfl))) px_str)
  (pbx_one (psx_ret (px_add (px_var 1) (px_ix (by rfl) (px_var 0) px_int (fun _ _ => (by rfl))))))
  pbx_nil)
  (pbx_cons (psx_if (ptx_eq hr.units (by rfl) (px_ix (by rfl) (px_var 0) px_int (fun _ _ => (by rfl))) px_str)
  (pbx_one (psx_ret (px_ix (by rfl) (px_var 0) px_int (fun _ _ => (by rfl)))))
  pbx_nil)
  (pbx_one (psx_ret px_non))))⟩) (fun _ _ => .inr rfl)
theorem p_c_l_answer (D : Df G "_law_answer" s_l_answer ["kind", "rows", "number", "held"]) (c_l_round : Cal P w base G 24 "_law_round" 3 R_l_round) (c_l_said : Cal P w base G 1 "_law_said" 2 R_l_said) : Cal P w base G 25 "_law_answer" 4 R_l_answer := by
  exact cal_of (fs := f_l_answer) D sc_l_answer (fun f cdv A outer s H E hr tk hp C => by exact ⟨_, (pbx_cons (psx_if (ptx_eq hr.units (by rfl) (px_var 0) px_str)
  (pbx_one (psx_ret (px_cal (c_l_round.wC C) tk (hr.mono (by decide)) (by rfl) (by rfl) (by rfl) (pax_cons (px_var 1) (pax_cons (px_var 2) (pax_cons (px_var 3) pax_nil))))))
  pbx_nil)
  (pbx_cons (psx_asg 4 sc_l_answer.nd (px_lst pax_nil))
  (pbx_cons (psx_pre [5, 6, 7] (psx_for (by rfl) hp (by rfl) (px_var 1) (pgx_pair 5 6 (by rfl) (by rfl) sc_l_answer.nd)
  (pbx_forget [5, 6, 7] (pbx_cons (psx_asg 7 sc_l_answer.nd (px_cal (c_l_said.wC C) tk (hr.mono (by decide)) (by rfl) (by rfl) (by rfl) (pax_cons (px_var 6) (pax_cons (px_var 2) pax_nil))))
  (pbx_one (psx_if (ptx_eq hr.units (by rfl) (px_ix (by rfl) (px_var 6) px_int (fun _ _ => (by rfl))) px_str)
  (pbx_one (psx_expr (px_app (by rfl) (pv 3) (px_tup (pax_dat (px_var 5) (pax_dat (px_ix (by rfl) (px_var 6) px_int (fun _ _ => (by rfl))) pax_nil))))))
  (pbx_one (psx_if (PWx.pt (pwx_and (ptx_eq hr.units (by rfl) (px_var 0) px_str) (pwx_and1 (ptx_isN (px_var 7) px_non))))
  (pbx_one (psx_ret (px_var 7)))
  (pbx_one (psx_if (ptx_eq hr.units (by rfl) (px_var 0) px_str)
  (pbx_one (psx_expr (px_app (by rfl) (pv 4) (px_tup (pax_dat (px_var 5) (pax_dat (px_var 7) pax_nil))))))
  (pbx_one (psx_if (PWx.pt (pwx_and (ptx_eq hr.units (by rfl) (px_var 0) px_str) (pwx_and1 (ptx_isN (px_var 7) px_non))))
  (pbx_one (psx_asg 2 sc_l_answer.nd (px_var 7)))
  pbx_nil))))))))))))
  (pbx_one (psx_ret (px_dsel (hu1 hr) (pdv_var (s := "all") pe_str (pv 4) (pdv_con (s := "first") pe_str pe_non (fun _ => .non) (pdv_var (s := "chain") pe_str (pv 2) pdv_nil))) (pv 0) (by rfl) (by rfl) (by decide) (by decide) (by decide) (fun _ _ => (by rfl))))))))⟩) (fun _ _ => .inr rfl)
theorem p_c_l_outcome (D : Df G "_law_outcome" s_l_outcome ["kind", "rule", "rows", "number"]) (c_l_answer : Cal P w base G 25 "_law_answer" 4 R_l_answer) : Cal P w base G 26 "_law_outcome" 4 R_l_outcome := by
  exact cal_of (fs := f_l_outcome) D sc_l_outcome (fun f cdv A outer s H E hr tk hp C => by exact ⟨_, (pbx_cons (psx_asg 4 sc_l_outcome.nd (px_lst pax_nil))
  (pbx_cons (psx_asg 5 sc_l_outcome.nd (px_cal (c_l_answer.wC C) tk (hr.mono (by decide)) (by rfl) (by rfl) (by rfl) (pax_cons (px_var 0) (pax_cons (px_var 2) (pax_cons (px_var 3) (pax_cons (px_var 4) pax_nil))))))
  (pbx_cons (psx_if (PWx.pt (pwx_and (ptx_eq hr.units (by rfl) (px_var 1) px_str) (pwx_and1 (ptx_ne hr.units (by rfl) (px_var 4) (px_lst pax_nil)))))
  (pbx_one (psx_ret (px_tup (pax_dat px_str (pax_dat (px_ix (by rfl) (px_var 4) px_int (fun _ _ => (by rfl))) pax_nil)))))
  pbx_nil)
  (pbx_one (psx_ret (px_tup (pax_dat px_str (pax_dat (px_tup (pax_dat (px_var 5) (pax_dat (px_var 4) pax_nil))) pax_nil))))))))⟩) (fun _ _ => .inr rfl)
end
end Fw
namespace Fw
open PySem L2
section
variable {P : Program} {w : World} {base : Heap} {G : Gx}
theorem p_c_law {f : Addr} {fd : FuncData} (F : Fun G.K "law" "law" s_law f fd) (c_l_cell_at : Cal P w base G 1 "_law_cell_at" 2 R_l_cell_at) (c_l_pieces : Cal P w base G 3 "_law_pieces" 3 R_l_pieces) (c_l_hall : Cal P w base G 4 "_law_hall" 3 R_l_hall) (c_l_at_hub : Cal P w base G 1 "_law_at_hub" 1 R_l_at_hub) (c_l_told : Cal P w base G 7 "_law_told" 2 R_l_told) (c_l_pairs : Cal P w base G 1 "_law_pairs" 2 R_l_pairs) (c_l_order : Cal P w base G 2 "_law_order" 2 R_l_order) (c_l_outcome : Cal P w base G 26 "_law_outcome" 4 R_l_outcome) (c_l_right : Cal P w base G 5 "_law_right" 2 R_l_right) : FnOk P w G.K G.mg base (L2.CX P w) 27 f fd ["script"] (spF G 1 R_law) := by
  exact law_of (fs := f_law) F sc_law (fun cdv A outer s H E hr tk hp C => by exact ⟨_, (pbx_cons (psx_asg 1 sc_law.nd (px_cal (c_l_pieces.wC C) tk (hr.mono (by decide)) (by rfl) (by rfl) (by rfl) (pax_cons (px_var 0) (pax_cons px_int (pax_cons (px_mod (px_cal (c_l_cell_at.wC C) tk (hr.mono (by decide)) (by rfl) (by rfl) (by rfl) (pax_cons (px_var 0) (pax_cons px_int pax_nil))) px_int) pax_nil)))))
  (pbx_cons (psx_asg 2 sc_law.nd (px_ix (by rfl) (px_lst (pax_dat px_str (pax_dat px_str (pax_dat px_str (pax_dat px_str pax_nil))))) (px_mod (px_cal (c_l_cell_at.wC C) tk (hr.mono (by decide)) (by rfl) (by rfl) (by rfl) (pax_cons (px_var 0) (pax_cons px_int pax_nil))) px_int) (fun _ _ => (by rfl))))
  (pbx_cons (psx_asg 3 sc_law.nd (px_ix (by rfl) (px_lst (pax_dat px_str (pax_dat px_str pax_nil))) (px_mod (px_div (px_cal (c_l_cell_at.wC C) tk (hr.mono (by decide)) (by rfl) (by rfl) (by rfl) (pax_cons (px_var 0) (pax_cons px_int pax_nil))) px_int) px_int) (fun _ _ => (by rfl))))
  (pbx_cons (psx_asg 4 sc_law.nd (px_sub (px_mod (px_cal (c_l_cell_at.wC C) tk (hr.mono (by decide)) (by rfl) (by rfl) (by rfl) (pax_cons (px_var 0) (pax_cons px_int pax_nil))) px_int) px_int))
  (pbx_cons (psx_asg 5 sc_law.nd (px_cal (c_l_hall.wC C) tk (hr.mono (by decide)) (by rfl) (by rfl) (by rfl) (pax_cons (px_var 1) (pax_cons (px_var 2) (pax_cons (px_var 3) pax_nil)))))
  (pbx_cons (psx_asg 6 sc_law.nd (px_cal (c_l_at_hub.wC C) tk (hr.mono (by decide)) (by rfl) (by rfl) (by rfl) (pax_cons (px_var 1) pax_nil)))
  (pbx_cons (psx_asg 7 sc_law.nd (px_cal (c_l_told.wC C) tk (hr.mono (by decide)) (by rfl) (by rfl) (by rfl) (pax_cons (px_var 5) (pax_cons (px_var 4) pax_nil))))
  (pbx_cons (psx_asg 8 sc_law.nd (px_cal (c_l_order.wC C) tk (hr.mono (by decide)) (by rfl) (by rfl) (by rfl) (pax_cons (px_var 6) (pax_cons (px_cal (c_l_pairs.wC C) tk (hr.mono (by decide)) (by rfl) (by rfl) (by rfl) (pax_cons (px_var 1) (pax_cons (px_var 6) pax_nil))) pax_nil))))
  (pbx_cons (psx_if (ptx_isM (px_var 8) px_non)
  (pbx_one (psx_ret (px_eq hr.units (by rfl) (px_var 7) (px_tup (pax_dat px_str pax_nil)))))
  pbx_nil)
  (pbx_cons (psx_asg 9 sc_law.nd px_dnew)
  (pbx_cons (psx_pre [10] (psx_for (by rfl) hp (by rfl) (px_var 1) (pgx_name 10 sc_law.nd)
  (pbx_forget [10] (pbx_one (psx_dput (hu1 hr) (pv 9) (px_ix (by rfl) (px_var 10) px_int (fun _ _ => (by rfl))) (px_ix (by rfl) (px_var 10) px_int (fun _ _ => (by rfl))))))))
  (pbx_one (psx_ret (px_cal (c_l_right.wC C) tk (hr.mono (by decide)) (by rfl) (by rfl) (by rfl) (pax_cons (px_var 7) (pax_cons (px_cal (c_l_outcome.wC C) tk (hr.mono (by decide)) (by rfl) (by rfl) (by rfl) (pax_cons (px_var 2) (pax_cons (px_var 3) (pax_cons (px_lc (own := [("name", 11)]) (by rfl) (by rfl) sc_law.nd (blkOk_by (own := [("name", 11)]) (N := ["script", "pieces", "kind", "rule", "number", "hall", "names", "found", "row", "deeds", "piece", "name"]) (sc := defScope s_law) (by decide +kernel)) (px_var 8) (fun _ _ _ _ _ => by exact (pgx_name 11 sc_law.nd)) (fun _ _ _ _ _ => by exact ptsx_nil) (fun _ _ _ _ _ => by exact (px_tup (pax_dat (px_var 11) (pax_dat (px_dget (hu1 hr) (pv 9) (px_var 11) (fun _ _ => (by rfl))) pax_nil)))) (by decide)) (pax_cons (px_var 4) pax_nil))))) pax_nil))))))))))))))))⟩)
end
end Fw
namespace Fw
open PySem PySem.Spec PyProof.Rows L2
abbrev gx (K : PySem.W.Frag) (mg : Str → Option Value) (CH CP CR : Addr) : Gx := ⟨K, mg, CH, CP, CR, fun _ => none, none⟩
theorem all_mk {w : World} {K : PySem.W.Frag} {h : Heap} {mg : Str → Option Value} {fa : Addr} (X : K.In h) (NS : h.Ns mainGlobals mg) (hfa : mg "law" = some (.ref fa))
    {CH CP CR f0 f1 f2 f3 f4 f5 f6 f7 f8 f9 f10 T10 f11 f12 f13 T13 f14 f15 f16 f17 f18 f19 f21 f22 f23 f24 f25 f26 f28 f29 f30 f31 f32 f33 f34 f35 f36 f37 f38 f39 f40 f41 f42 f43 f44 f45 f46 f47 f48 f49 f50 EHallError ENameThere ENoPlace ENoPiece ETooMany ENoAnswer ERing EDeedFault f20 f27 : Addr} {od0 an0 od1 an1 od2 an2 od3 an3 od4 an4 od5 an5 od6 an6 od7 an7 od8 an8 od9 an9 od10 an10 od11 an11 od12 an12 od13 an13 od14 an14 od15 an15 od16 an16 od17 an17 od18 an18 od19 an19 od21 an21 od22 an22 od23 an23 od24 an24 od25 an25 od26 an26 od28 an28 od29 an29 od30 an30 od31 an31 od32 an32 od33 an33 od34 an34 od35 an35 od36 an36 od37 an37 od38 an38 od39 an39 od40 an40 od41 an41 od42 an42 od43 an43 od44 an44 od45 an45 od46 an46 od47 an47 od48 an48 od49 an49 od50 an50 od20 an20 od27 an27 : Option Addr} {sl0 sl1 sl2 sl3 sl4 sl5 sl6 sl7 sl8 sl9 sl10 sl11 sl12 sl13 sl14 sl15 sl16 sl17 sl18 sl19 sl21 sl22 sl23 sl24 sl25 sl26 sl28 sl29 sl30 sl31 sl32 sl33 sl34 sl35 sl36 sl37 sl38 sl39 sl40 sl41 sl42 sl43 sl44 sl45 sl46 sl47 sl48 sl49 sl50 sl20 sl27 : Array (Option Value)} {oc0 kV0 dc0 pm0 cd0 ct0 oc1 kV1 dc1 pm1 cd1 ct1 oc2 kV2 dc2 pm2 cd2 ct2 oc3 kV3 dc3 pm3 cd3 ct3 oc4 kV4 dc4 pm4 cd4 ct4 oc5 kV5 dc5 pm5 cd5 ct5 oc6 kV6 dc6 pm6 cd6 ct6 oc7 kV7 dc7 pm7 cd7 ct7 oc8 kV8 dc8 pm8 cd8 ct8 oc9 kV9 dc9 pm9 cd9 ct9 oc10 kV10 dc10 pm10 cd10 ct10 oc11 kV11 dc11 pm11 cd11 ct11 oc12 kV12 dc12 pm12 cd12 ct12 oc13 kV13 dc13 pm13 cd13 ct13 oc14 kV14 dc14 pm14 cd14 ct14 oc15 kV15 dc15 pm15 cd15 ct15 oc16 kV16 dc16 pm16 cd16 ct16 oc17 kV17 dc17 pm17 cd17 ct17 oc18 kV18 dc18 pm18 cd18 ct18 oc19 kV19 dc19 pm19 cd19 ct19 oc21 kV21 dc21 pm21 cd21 ct21 oc22 kV22 dc22 pm22 cd22 ct22 oc23 kV23 dc23 pm23 cd23 ct23 oc24 kV24 dc24 pm24 cd24 ct24 oc25 kV25 dc25 pm25 cd25 ct25 oc26 kV26 dc26 pm26 cd26 ct26 oc28 kV28 dc28 pm28 cd28 ct28 oc29 kV29 dc29 pm29 cd29 ct29 oc30 kV30 dc30 pm30 cd30 ct30 oc31 kV31 dc31 pm31 cd31 ct31 oc32 kV32 dc32 pm32 cd32 ct32 oc33 kV33 dc33 pm33 cd33 ct33 oc34 kV34 dc34 pm34 cd34 ct34 oc35 kV35 dc35 pm35 cd35 ct35 oc36 kV36 dc36 pm36 cd36 ct36 oc37 kV37 dc37 pm37 cd37 ct37 oc38 kV38 dc38 pm38 cd38 ct38 oc39 kV39 dc39 pm39 cd39 ct39 oc40 kV40 dc40 pm40 cd40 ct40 oc41 kV41 dc41 pm41 cd41 ct41 oc42 kV42 dc42 pm42 cd42 ct42 oc43 kV43 dc43 pm43 cd43 ct43 oc44 kV44 dc44 pm44 cd44 ct44 oc45 kV45 dc45 pm45 cd45 ct45 oc46 kV46 dc46 pm46 cd46 ct46 oc47 kV47 dc47 pm47 cd47 ct47 oc48 kV48 dc48 pm48 cd48 ct48 oc49 kV49 dc49 pm49 cd49 ct49 oc50 kV50 dc50 pm50 cd50 ct50 oc20 kV20 dc20 pm20 cd20 ct20 oc27 kV27 dc27 pm27 cd27 ct27 : Value} {o10 o13 : Obj} {n10 n13 : Nat} {tokPLACES tokPIECES : Tok} {nm20 qn20 : Str} {Nn20 : Addr} {bs20 bm20 : List Value} {sn20 : List Str} {sub20 : List Value} {ab20 : Bool} {col20 : Option Bool} {dd20 : Option Addr} {m020 m120 m220 m320 m520 : Option Value} {nm27 qn27 : Str} {Nn27 : Addr} {bs27 bm27 : List Value} {sn27 : List Str} {sub27 : List Value} {ab27 : Bool} {col27 : Option Bool} {dd27 : Option Addr} {m027 m127 m227 m327 m527 : Option Value}
    (aH : PySem.W.nsIn K mainGlobals "Hall" = some (some (.ref CH)))
    (pgH : PySem.W.plainGet K CH Str.empty = true)
    (hdH : PySem.W.hasDictIn K CH = true)
    (poH : PySem.W.plainOver K CH = true)
    (saH : PySem.W.findIn K (.ref CH) "__setattr__" = some (some (.builtin "object.__setattr__")))
    (mkH : PySem.W.makesIn K CH = true)
    (kcH : PySem.W.keepIn K (.ref CH) = true)
    (aP : PySem.W.nsIn K mainGlobals "Piece" = some (some (.ref CP)))
    (pgP : PySem.W.plainGet K CP Str.empty = true)
    (hdP : PySem.W.hasDictIn K CP = true)
    (poP : PySem.W.plainOver K CP = true)
    (saP : PySem.W.findIn K (.ref CP) "__setattr__" = some (some (.builtin "object.__setattr__")))
    (mkP : PySem.W.makesIn K CP = true)
    (kcP : PySem.W.keepIn K (.ref CP) = true)
    (nHkinds : PySem.W.findIn K (.ref CH) "kinds" = some none)
    (nHrules : PySem.W.findIn K (.ref CH) "rules" = some none)
    (nHhung : PySem.W.findIn K (.ref CH) "hung" = some none)
    (nHoff : PySem.W.findIn K (.ref CH) "off" = some none)
    (nPname : PySem.W.findIn K (.ref CP) "name" = some none)
    (nPplace : PySem.W.findIn K (.ref CP) "place" = some none)
    (nPdeed : PySem.W.findIn K (.ref CP) "deed" = some none)
    (nPby : PySem.W.findIn K (.ref CP) "by" = some none)
    (nPahead : PySem.W.findIn K (.ref CP) "ahead" = some none)
    (nPbehind : PySem.W.findIn K (.ref CP) "behind" = some none)
    (nPneeds : PySem.W.findIn K (.ref CP) "needs" = some none)
    (nPbars : PySem.W.findIn K (.ref CP) "bars" = some none)
    (aR : PySem.W.nsIn K mainGlobals "Run" = some (some (.ref CR)))
    (pgR : PySem.W.plainGet K CR Str.empty = true)
    (hdR : PySem.W.hasDictIn K CR = true)
    (poR : PySem.W.plainOver K CR = true)
    (saR : PySem.W.findIn K (.ref CR) "__setattr__" = some (some (.builtin "object.__setattr__")))
    (mkR : PySem.W.makesIn K CR = true)
    (kcR : PySem.W.keepIn K (.ref CR) = true)
    (nRkind : PySem.W.findIn K (.ref CR) "kind" = some none)
    (nRrule : PySem.W.findIn K (.ref CR) "rule" = some none)
    (nRrows : PySem.W.findIn K (.ref CR) "rows" = some none)
    (nRworth : PySem.W.findIn K (.ref CR) "worth" = some none)
    (nRspot : PySem.W.findIn K (.ref CR) "spot" = some none)
    (nRshut : PySem.W.findIn K (.ref CR) "shut" = some none)
    (nRtorn : PySem.W.findIn K (.ref CR) "torn" = some none)
    (nRtold : PySem.W.findIn K (.ref CR) "told" = some none)
    (nRbacks : PySem.W.findIn K (.ref CR) "backs" = some none)
    (nRheld : PySem.W.findIn K (.ref CR) "held" = some none)
    (zlen : PySem.W.nsIn K mainGlobals "len" = some none)
    (zrange : PySem.W.nsIn K mainGlobals "range" = some none)
    (zisinstance : PySem.W.nsIn K mainGlobals "isinstance" = some none)
    (zlist : PySem.W.nsIn K mainGlobals "list" = some none)
    (ztuple : PySem.W.nsIn K mainGlobals "tuple" = some none)
    (zstr : PySem.W.nsIn K mainGlobals "str" = some none)
    (zint : PySem.W.nsIn K mainGlobals "int" = some none)
    (zbool : PySem.W.nsIn K mainGlobals "bool" = some none)
    (zsorted : PySem.W.nsIn K mainGlobals "sorted" = some none)
    (zreversed : PySem.W.nsIn K mainGlobals "reversed" = some none)
    (zset : PySem.W.nsIn K mainGlobals "set" = some none)
    (a0 : PySem.W.nsIn K mainGlobals "_law_cell_at" = some (some (.ref f0)))
    (l0 : K.lookup f0 = some ⟨oc0, od0, .func (PySem.W.fnOf "_law_cell_at" "_law_cell_at" (defArgs s_l_cell_at) (defBody s_l_cell_at) (defScope s_l_cell_at) .none kV0 dc0 pm0 an0 cd0 ct0), sl0⟩)
    (c0 : PySem.W.codeIn K cd0 "_law_cell_at" = true)
    (k0 : PySem.W.keepIn K (.ref f0) = true)
    (a1 : PySem.W.nsIn K mainGlobals "_law_name" = some (some (.ref f1)))
    (l1 : K.lookup f1 = some ⟨oc1, od1, .func (PySem.W.fnOf "_law_name" "_law_name" (defArgs s_l_name) (defBody s_l_name) (defScope s_l_name) .none kV1 dc1 pm1 an1 cd1 ct1), sl1⟩)
    (c1 : PySem.W.codeIn K cd1 "_law_name" = true)
    (k1 : PySem.W.keepIn K (.ref f1) = true)
    (a2 : PySem.W.nsIn K mainGlobals "_law_some" = some (some (.ref f2)))
    (l2 : K.lookup f2 = some ⟨oc2, od2, .func (PySem.W.fnOf "_law_some" "_law_some" (defArgs s_l_some) (defBody s_l_some) (defScope s_l_some) .none kV2 dc2 pm2 an2 cd2 ct2), sl2⟩)
    (c2 : PySem.W.codeIn K cd2 "_law_some" = true)
    (k2 : PySem.W.keepIn K (.ref f2) = true)
    (a3 : PySem.W.nsIn K mainGlobals "_law_deed" = some (some (.ref f3)))
    (l3 : K.lookup f3 = some ⟨oc3, od3, .func (PySem.W.fnOf "_law_deed" "_law_deed" (defArgs s_l_deed) (defBody s_l_deed) (defScope s_l_deed) .none kV3 dc3 pm3 an3 cd3 ct3), sl3⟩)
    (c3 : PySem.W.codeIn K cd3 "_law_deed" = true)
    (k3 : PySem.W.keepIn K (.ref f3) = true)
    (a4 : PySem.W.nsIn K mainGlobals "_law_pieces" = some (some (.ref f4)))
    (l4 : K.lookup f4 = some ⟨oc4, od4, .func (PySem.W.fnOf "_law_pieces" "_law_pieces" (defArgs s_l_pieces) (defBody s_l_pieces) (defScope s_l_pieces) .none kV4 dc4 pm4 an4 cd4 ct4), sl4⟩)
    (c4 : PySem.W.codeIn K cd4 "_law_pieces" = true)
    (k4 : PySem.W.keepIn K (.ref f4) = true)
    (a5 : PySem.W.findIn K (.ref CH) "__init__" = some (some (.ref f5)))
    (i5 : PySem.W.isFn K (.ref f5) = true)
    (l5 : K.lookup f5 = some ⟨oc5, od5, .func (PySem.W.fnOf "__init__" "Hall.__init__" (defArgs s_Hall_init) (defBody s_Hall_init) (defScope s_Hall_init) .none kV5 dc5 pm5 an5 cd5 ct5), sl5⟩)
    (c5 : PySem.W.codeIn K cd5 "Hall.__init__" = true)
    (k5 : PySem.W.keepIn K (.ref f5) = true)
    (a6 : PySem.W.findIn K (.ref CH) "open_place" = some (some (.ref f6)))
    (i6 : PySem.W.isFn K (.ref f6) = true)
    (l6 : K.lookup f6 = some ⟨oc6, od6, .func (PySem.W.fnOf "open_place" "Hall.open_place" (defArgs s_Hall_open_place) (defBody s_Hall_open_place) (defScope s_Hall_open_place) .none kV6 dc6 pm6 an6 cd6 ct6), sl6⟩)
    (c6 : PySem.W.codeIn K cd6 "Hall.open_place" = true)
    (k6 : PySem.W.keepIn K (.ref f6) = true)
    (a7 : PySem.W.findIn K (.ref CH) "names" = some (some (.ref f7)))
    (i7 : PySem.W.isFn K (.ref f7) = true)
    (l7 : K.lookup f7 = some ⟨oc7, od7, .func (PySem.W.fnOf "names" "Hall.names" (defArgs s_Hall_names) (defBody s_Hall_names) (defScope s_Hall_names) .none kV7 dc7 pm7 an7 cd7 ct7), sl7⟩)
    (c7 : PySem.W.codeIn K cd7 "Hall.names" = true)
    (k7 : PySem.W.keepIn K (.ref f7) = true)
    (a8 : PySem.W.findIn K (.ref CH) "has" = some (some (.ref f8)))
    (i8 : PySem.W.isFn K (.ref f8) = true)
    (l8 : K.lookup f8 = some ⟨oc8, od8, .func (PySem.W.fnOf "has" "Hall.has" (defArgs s_Hall_has) (defBody s_Hall_has) (defScope s_Hall_has) .none kV8 dc8 pm8 an8 cd8 ct8), sl8⟩)
    (c8 : PySem.W.codeIn K cd8 "Hall.has" = true)
    (k8 : PySem.W.keepIn K (.ref f8) = true)
    (a9 : PySem.W.findIn K (.ref CP) "__init__" = some (some (.ref f9)))
    (i9 : PySem.W.isFn K (.ref f9) = true)
    (l9 : K.lookup f9 = some ⟨oc9, od9, .func (PySem.W.fnOf "__init__" "Piece.__init__" (defArgs s_Piece_init) (defBody s_Piece_init) (defScope s_Piece_init) .none kV9 dc9 pm9 an9 cd9 ct9), sl9⟩)
    (c9 : PySem.W.codeIn K cd9 "Piece.__init__" = true)
    (k9 : PySem.W.keepIn K (.ref f9) = true)
    (a10 : PySem.W.findIn K (.ref CH) "hang" = some (some (.ref f10)))
    (i10 : PySem.W.isFn K (.ref f10) = true)
    (l10 : K.lookup f10 = some ⟨oc10, od10, .func (PySem.W.fnOf "hang" "Hall.hang" (defArgs s_Hall_hang) (defBody s_Hall_hang) (defScope s_Hall_hang) (.ref T10) kV10 dc10 pm10 an10 cd10 ct10), sl10⟩)
    (c10 : PySem.W.codeIn K cd10 "Hall.hang" = true)
    (k10 : PySem.W.keepIn K (.ref f10) = true)
    (lT10 : K.lookup T10 = some o10)
    (oT10 : o10.data = .seq (List.replicate 1 Value.none).toArray n10)
    (a11 : PySem.W.findIn K (.ref CH) "look_up" = some (some (.ref f11)))
    (i11 : PySem.W.isFn K (.ref f11) = true)
    (l11 : K.lookup f11 = some ⟨oc11, od11, .func (PySem.W.fnOf "look_up" "Hall.look_up" (defArgs s_Hall_look_up) (defBody s_Hall_look_up) (defScope s_Hall_look_up) .none kV11 dc11 pm11 an11 cd11 ct11), sl11⟩)
    (c11 : PySem.W.codeIn K cd11 "Hall.look_up" = true)
    (k11 : PySem.W.keepIn K (.ref f11) = true)
    (a12 : PySem.W.nsIn K mainGlobals "wished" = some (some (.ref f12)))
    (l12 : K.lookup f12 = some ⟨oc12, od12, .func (PySem.W.fnOf "wished" "wished" (defArgs s_wished) (defBody s_wished) (defScope s_wished) .none kV12 dc12 pm12 an12 cd12 ct12), sl12⟩)
    (c12 : PySem.W.codeIn K cd12 "wished" = true)
    (k12 : PySem.W.keepIn K (.ref f12) = true)
    (a13 : PySem.W.findIn K (.ref CH) "wish" = some (some (.ref f13)))
    (i13 : PySem.W.isFn K (.ref f13) = true)
    (l13 : K.lookup f13 = some ⟨oc13, od13, .func (PySem.W.fnOf "wish" "Hall.wish" (defArgs s_Hall_wish) (defBody s_Hall_wish) (defScope s_Hall_wish) (.ref T13) kV13 dc13 pm13 an13 cd13 ct13), sl13⟩)
    (c13 : PySem.W.codeIn K cd13 "Hall.wish" = true)
    (k13 : PySem.W.keepIn K (.ref f13) = true)
    (lT13 : K.lookup T13 = some o13)
    (oT13 : o13.data = .seq (List.replicate 4 Value.none).toArray n13)
    (a14 : PySem.W.findIn K (.ref CH) "switch" = some (some (.ref f14)))
    (i14 : PySem.W.isFn K (.ref f14) = true)
    (l14 : K.lookup f14 = some ⟨oc14, od14, .func (PySem.W.fnOf "switch" "Hall.switch" (defArgs s_Hall_switch) (defBody s_Hall_switch) (defScope s_Hall_switch) .none kV14 dc14 pm14 an14 cd14 ct14), sl14⟩)
    (c14 : PySem.W.codeIn K cd14 "Hall.switch" = true)
    (k14 : PySem.W.keepIn K (.ref f14) = true)
    (a15 : PySem.W.nsIn K mainGlobals "_law_hall" = some (some (.ref f15)))
    (l15 : K.lookup f15 = some ⟨oc15, od15, .func (PySem.W.fnOf "_law_hall" "_law_hall" (defArgs s_l_hall) (defBody s_l_hall) (defScope s_l_hall) .none kV15 dc15 pm15 an15 cd15 ct15), sl15⟩)
    (c15 : PySem.W.codeIn K cd15 "_law_hall" = true)
    (k15 : PySem.W.keepIn K (.ref f15) = true)
    (a16 : PySem.W.nsIn K mainGlobals "_law_at_hub" = some (some (.ref f16)))
    (l16 : K.lookup f16 = some ⟨oc16, od16, .func (PySem.W.fnOf "_law_at_hub" "_law_at_hub" (defArgs s_l_at_hub) (defBody s_l_at_hub) (defScope s_l_at_hub) .none kV16 dc16 pm16 an16 cd16 ct16), sl16⟩)
    (c16 : PySem.W.codeIn K cd16 "_law_at_hub" = true)
    (k16 : PySem.W.keepIn K (.ref f16) = true)
    (a17 : PySem.W.findIn K (.ref CR) "over" = some (some (.ref f17)))
    (i17 : PySem.W.isFn K (.ref f17) = true)
    (l17 : K.lookup f17 = some ⟨oc17, od17, .func (PySem.W.fnOf "over" "Run.over" (defArgs s_Run_over) (defBody s_Run_over) (defScope s_Run_over) .none kV17 dc17 pm17 an17 cd17 ct17), sl17⟩)
    (c17 : PySem.W.codeIn K cd17 "Run.over" = true)
    (k17 : PySem.W.keepIn K (.ref f17) = true)
    (a18 : PySem.W.nsIn K mainGlobals "said_by" = some (some (.ref f18)))
    (l18 : K.lookup f18 = some ⟨oc18, od18, .func (PySem.W.fnOf "said_by" "said_by" (defArgs s_said_by) (defBody s_said_by) (defScope s_said_by) .none kV18 dc18 pm18 an18 cd18 ct18), sl18⟩)
    (c18 : PySem.W.codeIn K cd18 "said_by" = true)
    (k18 : PySem.W.keepIn K (.ref f18) = true)
    (a19 : PySem.W.findIn K (.ref CR) "take" = some (some (.ref f19)))
    (i19 : PySem.W.isFn K (.ref f19) = true)
    (l19 : K.lookup f19 = some ⟨oc19, od19, .func (PySem.W.fnOf "take" "Run.take" (defArgs s_Run_take) (defBody s_Run_take) (defScope s_Run_take) .none kV19 dc19 pm19 an19 cd19 ct19), sl19⟩)
    (c19 : PySem.W.codeIn K cd19 "Run.take" = true)
    (k19 : PySem.W.keepIn K (.ref f19) = true)
    (a21 : PySem.W.findIn K (.ref CR) "step" = some (some (.ref f21)))
    (i21 : PySem.W.isFn K (.ref f21) = true)
    (l21 : K.lookup f21 = some ⟨oc21, od21, .func (PySem.W.fnOf "step" "Run.step" (defArgs s_Run_step) (defBody s_Run_step) (defScope s_Run_step) .none kV21 dc21 pm21 an21 cd21 ct21), sl21⟩)
    (c21 : PySem.W.codeIn K cd21 "Run.step" = true)
    (k21 : PySem.W.keepIn K (.ref f21) = true)
    (a22 : PySem.W.findIn K (.ref CR) "answer" = some (some (.ref f22)))
    (i22 : PySem.W.isFn K (.ref f22) = true)
    (l22 : K.lookup f22 = some ⟨oc22, od22, .func (PySem.W.fnOf "answer" "Run.answer" (defArgs s_Run_answer) (defBody s_Run_answer) (defScope s_Run_answer) .none kV22 dc22 pm22 an22 cd22 ct22), sl22⟩)
    (c22 : PySem.W.codeIn K cd22 "Run.answer" = true)
    (k22 : PySem.W.keepIn K (.ref f22) = true)
    (a23 : PySem.W.findIn K (.ref CR) "faults" = some (some (.ref f23)))
    (i23 : PySem.W.isFn K (.ref f23) = true)
    (l23 : K.lookup f23 = some ⟨oc23, od23, .func (PySem.W.fnOf "faults" "Run.faults" (defArgs s_Run_faults) (defBody s_Run_faults) (defScope s_Run_faults) .none kV23 dc23 pm23 an23 cd23 ct23), sl23⟩)
    (c23 : PySem.W.codeIn K cd23 "Run.faults" = true)
    (k23 : PySem.W.keepIn K (.ref f23) = true)
    (a24 : PySem.W.nsIn K mainGlobals "finished" = some (some (.ref f24)))
    (l24 : K.lookup f24 = some ⟨oc24, od24, .func (PySem.W.fnOf "finished" "finished" (defArgs s_finished) (defBody s_finished) (defScope s_finished) .none kV24 dc24 pm24 an24 cd24 ct24), sl24⟩)
    (c24 : PySem.W.codeIn K cd24 "finished" = true)
    (k24 : PySem.W.keepIn K (.ref f24) = true)
    (a25 : PySem.W.nsIn K mainGlobals "pairs_of" = some (some (.ref f25)))
    (l25 : K.lookup f25 = some ⟨oc25, od25, .func (PySem.W.fnOf "pairs_of" "pairs_of" (defArgs s_pairs_of) (defBody s_pairs_of) (defScope s_pairs_of) .none kV25 dc25 pm25 an25 cd25 ct25), sl25⟩)
    (c25 : PySem.W.codeIn K cd25 "pairs_of" = true)
    (k25 : PySem.W.keepIn K (.ref f25) = true)
    (a26 : PySem.W.nsIn K mainGlobals "laid" = some (some (.ref f26)))
    (l26 : K.lookup f26 = some ⟨oc26, od26, .func (PySem.W.fnOf "laid" "laid" (defArgs s_laid) (defBody s_laid) (defScope s_laid) .none kV26 dc26 pm26 an26 cd26 ct26), sl26⟩)
    (c26 : PySem.W.codeIn K cd26 "laid" = true)
    (k26 : PySem.W.keepIn K (.ref f26) = true)
    (a28 : PySem.W.nsIn K mainGlobals "ring_from" = some (some (.ref f28)))
    (l28 : K.lookup f28 = some ⟨oc28, od28, .func (PySem.W.fnOf "ring_from" "ring_from" (defArgs s_ring_from) (defBody s_ring_from) (defScope s_ring_from) .none kV28 dc28 pm28 an28 cd28 ct28), sl28⟩)
    (c28 : PySem.W.codeIn K cd28 "ring_from" = true)
    (k28 : PySem.W.keepIn K (.ref f28) = true)
    (a29 : PySem.W.nsIn K mainGlobals "shortest_ring" = some (some (.ref f29)))
    (l29 : K.lookup f29 = some ⟨oc29, od29, .func (PySem.W.fnOf "shortest_ring" "shortest_ring" (defArgs s_shortest_ring) (defBody s_shortest_ring) (defScope s_shortest_ring) .none kV29 dc29 pm29 an29 cd29 ct29), sl29⟩)
    (c29 : PySem.W.codeIn K cd29 "shortest_ring" = true)
    (k29 : PySem.W.keepIn K (.ref f29) = true)
    (a30 : PySem.W.nsIn K mainGlobals "order_of" = some (some (.ref f30)))
    (l30 : K.lookup f30 = some ⟨oc30, od30, .func (PySem.W.fnOf "order_of" "order_of" (defArgs s_order_of) (defBody s_order_of) (defScope s_order_of) .none kV30 dc30 pm30 an30 cd30 ct30), sl30⟩)
    (c30 : PySem.W.codeIn K cd30 "order_of" = true)
    (k30 : PySem.W.keepIn K (.ref f30) = true)
    (a31 : PySem.W.findIn K (.ref CH) "at" = some (some (.ref f31)))
    (i31 : PySem.W.isFn K (.ref f31) = true)
    (l31 : K.lookup f31 = some ⟨oc31, od31, .func (PySem.W.fnOf "at" "Hall.at" (defArgs s_Hall_at) (defBody s_Hall_at) (defScope s_Hall_at) .none kV31 dc31 pm31 an31 cd31 ct31), sl31⟩)
    (c31 : PySem.W.codeIn K cd31 "Hall.at" = true)
    (k31 : PySem.W.keepIn K (.ref f31) = true)
    (a32 : PySem.W.nsIn K mainGlobals "order" = some (some (.ref f32)))
    (l32 : K.lookup f32 = some ⟨oc32, od32, .func (PySem.W.fnOf "order" "order" (defArgs s_order) (defBody s_order) (defScope s_order) .none kV32 dc32 pm32 an32 cd32 ct32), sl32⟩)
    (c32 : PySem.W.codeIn K cd32 "order" = true)
    (k32 : PySem.W.keepIn K (.ref f32) = true)
    (a33 : PySem.W.findIn K (.ref CR) "__init__" = some (some (.ref f33)))
    (i33 : PySem.W.isFn K (.ref f33) = true)
    (l33 : K.lookup f33 = some ⟨oc33, od33, .func (PySem.W.fnOf "__init__" "Run.__init__" (defArgs s_Run_init) (defBody s_Run_init) (defScope s_Run_init) .none kV33 dc33 pm33 an33 cd33 ct33), sl33⟩)
    (c33 : PySem.W.codeIn K cd33 "Run.__init__" = true)
    (k33 : PySem.W.keepIn K (.ref f33) = true)
    (a34 : PySem.W.nsIn K mainGlobals "rows_of" = some (some (.ref f34)))
    (l34 : K.lookup f34 = some ⟨oc34, od34, .func (PySem.W.fnOf "rows_of" "rows_of" (defArgs s_rows_of) (defBody s_rows_of) (defScope s_rows_of) .none kV34 dc34 pm34 an34 cd34 ct34), sl34⟩)
    (c34 : PySem.W.codeIn K cd34 "rows_of" = true)
    (k34 : PySem.W.keepIn K (.ref f34) = true)
    (a35 : PySem.W.nsIn K mainGlobals "begin" = some (some (.ref f35)))
    (l35 : K.lookup f35 = some ⟨oc35, od35, .func (PySem.W.fnOf "begin" "begin" (defArgs s_begin) (defBody s_begin) (defScope s_begin) .none kV35 dc35 pm35 an35 cd35 ct35), sl35⟩)
    (c35 : PySem.W.codeIn K cd35 "begin" = true)
    (k35 : PySem.W.keepIn K (.ref f35) = true)
    (a36 : PySem.W.nsIn K mainGlobals "call" = some (some (.ref f36)))
    (l36 : K.lookup f36 = some ⟨oc36, od36, .func (PySem.W.fnOf "call" "call" (defArgs s_call) (defBody s_call) (defScope s_call) .none kV36 dc36 pm36 an36 cd36 ct36), sl36⟩)
    (c36 : PySem.W.codeIn K cd36 "call" = true)
    (k36 : PySem.W.keepIn K (.ref f36) = true)
    (a37 : PySem.W.nsIn K mainGlobals "_law_told" = some (some (.ref f37)))
    (l37 : K.lookup f37 = some ⟨oc37, od37, .func (PySem.W.fnOf "_law_told" "_law_told" (defArgs s_l_told) (defBody s_l_told) (defScope s_l_told) .none kV37 dc37 pm37 an37 cd37 ct37), sl37⟩)
    (c37 : PySem.W.codeIn K cd37 "_law_told" = true)
    (k37 : PySem.W.keepIn K (.ref f37) = true)
    (a38 : PySem.W.nsIn K mainGlobals "_law_free" = some (some (.ref f38)))
    (l38 : K.lookup f38 = some ⟨oc38, od38, .func (PySem.W.fnOf "_law_free" "_law_free" (defArgs s_l_free) (defBody s_l_free) (defScope s_l_free) .none kV38 dc38 pm38 an38 cd38 ct38), sl38⟩)
    (c38 : PySem.W.codeIn K cd38 "_law_free" = true)
    (k38 : PySem.W.keepIn K (.ref f38) = true)
    (a39 : PySem.W.nsIn K mainGlobals "_law_order" = some (some (.ref f39)))
    (l39 : K.lookup f39 = some ⟨oc39, od39, .func (PySem.W.fnOf "_law_order" "_law_order" (defArgs s_l_order) (defBody s_l_order) (defScope s_l_order) .none kV39 dc39 pm39 an39 cd39 ct39), sl39⟩)
    (c39 : PySem.W.codeIn K cd39 "_law_order" = true)
    (k39 : PySem.W.keepIn K (.ref f39) = true)
    (a40 : PySem.W.nsIn K mainGlobals "_law_whole" = some (some (.ref f40)))
    (l40 : K.lookup f40 = some ⟨oc40, od40, .func (PySem.W.fnOf "_law_whole" "_law_whole" (defArgs s_l_whole) (defBody s_l_whole) (defScope s_l_whole) .none kV40 dc40 pm40 an40 cd40 ct40), sl40⟩)
    (c40 : PySem.W.codeIn K cd40 "_law_whole" = true)
    (k40 : PySem.W.keepIn K (.ref f40) = true)
    (a41 : PySem.W.nsIn K mainGlobals "_law_value" = some (some (.ref f41)))
    (l41 : K.lookup f41 = some ⟨oc41, od41, .func (PySem.W.fnOf "_law_value" "_law_value" (defArgs s_l_value) (defBody s_l_value) (defScope s_l_value) .none kV41 dc41 pm41 an41 cd41 ct41), sl41⟩)
    (c41 : PySem.W.codeIn K cd41 "_law_value" = true)
    (k41 : PySem.W.keepIn K (.ref f41) = true)
    (a42 : PySem.W.nsIn K mainGlobals "_law_pairs_alike" = some (some (.ref f42)))
    (l42 : K.lookup f42 = some ⟨oc42, od42, .func (PySem.W.fnOf "_law_pairs_alike" "_law_pairs_alike" (defArgs s_l_pairs_alike) (defBody s_l_pairs_alike) (defScope s_l_pairs_alike) .none kV42 dc42 pm42 an42 cd42 ct42), sl42⟩)
    (c42 : PySem.W.codeIn K cd42 "_law_pairs_alike" = true)
    (k42 : PySem.W.keepIn K (.ref f42) = true)
    (a43 : PySem.W.nsIn K mainGlobals "_law_answer_right" = some (some (.ref f43)))
    (l43 : K.lookup f43 = some ⟨oc43, od43, .func (PySem.W.fnOf "_law_answer_right" "_law_answer_right" (defArgs s_l_answer_right) (defBody s_l_answer_right) (defScope s_l_answer_right) .none kV43 dc43 pm43 an43 cd43 ct43), sl43⟩)
    (c43 : PySem.W.codeIn K cd43 "_law_answer_right" = true)
    (k43 : PySem.W.keepIn K (.ref f43) = true)
    (a44 : PySem.W.nsIn K mainGlobals "_law_right" = some (some (.ref f44)))
    (l44 : K.lookup f44 = some ⟨oc44, od44, .func (PySem.W.fnOf "_law_right" "_law_right" (defArgs s_l_right) (defBody s_l_right) (defScope s_l_right) .none kV44 dc44 pm44 an44 cd44 ct44), sl44⟩)
    (c44 : PySem.W.codeIn K cd44 "_law_right" = true)
    (k44 : PySem.W.keepIn K (.ref f44) = true)
    (a45 : PySem.W.nsIn K mainGlobals "_law_pairs" = some (some (.ref f45)))
    (l45 : K.lookup f45 = some ⟨oc45, od45, .func (PySem.W.fnOf "_law_pairs" "_law_pairs" (defArgs s_l_pairs) (defBody s_l_pairs) (defScope s_l_pairs) .none kV45 dc45 pm45 an45 cd45 ct45), sl45⟩)
    (c45 : PySem.W.codeIn K cd45 "_law_pairs" = true)
    (k45 : PySem.W.keepIn K (.ref f45) = true)
    (a46 : PySem.W.nsIn K mainGlobals "_law_round" = some (some (.ref f46)))
    (l46 : K.lookup f46 = some ⟨oc46, od46, .func (PySem.W.fnOf "_law_round" "_law_round" (defArgs s_l_round) (defBody s_l_round) (defScope s_l_round) .none kV46 dc46 pm46 an46 cd46 ct46), sl46⟩)
    (c46 : PySem.W.codeIn K cd46 "_law_round" = true)
    (k46 : PySem.W.keepIn K (.ref f46) = true)
    (a47 : PySem.W.nsIn K mainGlobals "_law_said" = some (some (.ref f47)))
    (l47 : K.lookup f47 = some ⟨oc47, od47, .func (PySem.W.fnOf "_law_said" "_law_said" (defArgs s_l_said) (defBody s_l_said) (defScope s_l_said) .none kV47 dc47 pm47 an47 cd47 ct47), sl47⟩)
    (c47 : PySem.W.codeIn K cd47 "_law_said" = true)
    (k47 : PySem.W.keepIn K (.ref f47) = true)
    (a48 : PySem.W.nsIn K mainGlobals "_law_answer" = some (some (.ref f48)))
    (l48 : K.lookup f48 = some ⟨oc48, od48, .func (PySem.W.fnOf "_law_answer" "_law_answer" (defArgs s_l_answer) (defBody s_l_answer) (defScope s_l_answer) .none kV48 dc48 pm48 an48 cd48 ct48), sl48⟩)
    (c48 : PySem.W.codeIn K cd48 "_law_answer" = true)
    (k48 : PySem.W.keepIn K (.ref f48) = true)
    (a49 : PySem.W.nsIn K mainGlobals "_law_outcome" = some (some (.ref f49)))
    (l49 : K.lookup f49 = some ⟨oc49, od49, .func (PySem.W.fnOf "_law_outcome" "_law_outcome" (defArgs s_l_outcome) (defBody s_l_outcome) (defScope s_l_outcome) .none kV49 dc49 pm49 an49 cd49 ct49), sl49⟩)
    (c49 : PySem.W.codeIn K cd49 "_law_outcome" = true)
    (k49 : PySem.W.keepIn K (.ref f49) = true)
    (a50 : PySem.W.nsIn K mainGlobals "law" = some (some (.ref f50)))
    (l50 : K.lookup f50 = some ⟨oc50, od50, .func (PySem.W.fnOf "law" "law" (defArgs s_law) (defBody s_law) (defScope s_law) .none kV50 dc50 pm50 an50 cd50 ct50), sl50⟩)
    (c50 : PySem.W.codeIn K cd50 "law" = true)
    (k50 : PySem.W.keepIn K (.ref f50) = true)
    (aEHallError : PySem.W.nsIn K mainGlobals "HallError" = some (some (.ref EHallError)))
    (aENameThere : PySem.W.nsIn K mainGlobals "NameThere" = some (some (.ref ENameThere)))
    (aENoPlace : PySem.W.nsIn K mainGlobals "NoPlace" = some (some (.ref ENoPlace)))
    (aENoPiece : PySem.W.nsIn K mainGlobals "NoPiece" = some (some (.ref ENoPiece)))
    (aETooMany : PySem.W.nsIn K mainGlobals "TooMany" = some (some (.ref ETooMany)))
    (aENoAnswer : PySem.W.nsIn K mainGlobals "NoAnswer" = some (some (.ref ENoAnswer)))
    (aERing : PySem.W.nsIn K mainGlobals "Ring" = some (some (.ref ERing)))
    (aEDeedFault : PySem.W.nsIn K mainGlobals "DeedFault" = some (some (.ref EDeedFault)))
    (xL20 : K.lookup EDeedFault = some (excClassObj nm20 qn20 EDeedFault Nn20 bs20 bm20 true sn20 sub20 ab20 col20 dd20 m020 m120 m220 m320 m520 "ValueError.__new__"))
    (xR20 : PySem.HandSPX.refsVE bm20 = true)
    (xS20 : PySem.W.findIn K (.ref EDeedFault) "__setattr__" = some (some (.builtin "object.__setattr__")))
    (xN20piece : PySem.W.findIn K (.ref EDeedFault) "piece" = some none)
    (xN20code : PySem.W.findIn K (.ref EDeedFault) "code" = some none)
    (a20 : PySem.W.findIn K (.ref EDeedFault) "__init__" = some (some (.ref f20)))
    (t20 : PySem.W.typeIn K (.ref f20) = some (.type "function"))
    (l20 : K.lookup f20 = some ⟨oc20, od20, .func (PySem.W.fnOf "__init__" "DeedFault.__init__" (defArgs s_DeedFault_init) (defBody s_DeedFault_init) (defScope s_DeedFault_init) .none kV20 dc20 pm20 an20 cd20 ct20), sl20⟩)
    (c20 : PySem.W.codeIn K cd20 "DeedFault.__init__" = true)
    (k20 : PySem.W.keepIn K (.ref f20) = true)
    (xL27 : K.lookup ERing = some (excClassObj nm27 qn27 ERing Nn27 bs27 bm27 true sn27 sub27 ab27 col27 dd27 m027 m127 m227 m327 m527 "ValueError.__new__"))
    (xR27 : PySem.HandSPX.refsVE bm27 = true)
    (xS27 : PySem.W.findIn K (.ref ERing) "__setattr__" = some (some (.builtin "object.__setattr__")))
    (xN27ring : PySem.W.findIn K (.ref ERing) "ring" = some none)
    (a27 : PySem.W.findIn K (.ref ERing) "__init__" = some (some (.ref f27)))
    (t27 : PySem.W.typeIn K (.ref f27) = some (.type "function"))
    (l27 : K.lookup f27 = some ⟨oc27, od27, .func (PySem.W.fnOf "__init__" "Ring.__init__" (defArgs s_Ring_init) (defBody s_Ring_init) (defScope s_Ring_init) .none kV27 dc27 pm27 an27 cd27 ct27), sl27⟩)
    (c27 : PySem.W.codeIn K cd27 "Ring.__init__" = true)
    (k27 : PySem.W.keepIn K (.ref f27) = true)
    (zEBarred : PySem.W.nsIn K mainGlobals "Barred" = some none)
    (xkHallError : PySem.W.keepIn K (.ref EHallError) = true)
    (xsHallError : PySem.W.subIn K (.ref EHallError) (.type "BaseException") = some true)
    (xtHallError : PySem.W.typeIn K (.ref EHallError) = some (.type "type"))
    (xcHallError : PySem.W.isClsIn K EHallError = true)
    (xkNameThere : PySem.W.keepIn K (.ref ENameThere) = true)
    (xsNameThere : PySem.W.subIn K (.ref ENameThere) (.type "BaseException") = some true)
    (xtNameThere : PySem.W.typeIn K (.ref ENameThere) = some (.type "type"))
    (xcNameThere : PySem.W.isClsIn K ENameThere = true)
    (xiNameThere : PySem.W.excIn K ENameThere [.type "ValueError", .type "Exception", .type "BaseException", .type "object"] "ValueError.__new__" = true)
    (xkNoPlace : PySem.W.keepIn K (.ref ENoPlace) = true)
    (xsNoPlace : PySem.W.subIn K (.ref ENoPlace) (.type "BaseException") = some true)
    (xtNoPlace : PySem.W.typeIn K (.ref ENoPlace) = some (.type "type"))
    (xcNoPlace : PySem.W.isClsIn K ENoPlace = true)
    (xiNoPlace : PySem.W.excIn K ENoPlace [.type "ValueError", .type "Exception", .type "BaseException", .type "object"] "ValueError.__new__" = true)
    (xkNoPiece : PySem.W.keepIn K (.ref ENoPiece) = true)
    (xsNoPiece : PySem.W.subIn K (.ref ENoPiece) (.type "BaseException") = some true)
    (xtNoPiece : PySem.W.typeIn K (.ref ENoPiece) = some (.type "type"))
    (xcNoPiece : PySem.W.isClsIn K ENoPiece = true)
    (xiNoPiece : PySem.W.excIn K ENoPiece [.type "ValueError", .type "Exception", .type "BaseException", .type "object"] "ValueError.__new__" = true)
    (xkTooMany : PySem.W.keepIn K (.ref ETooMany) = true)
    (xsTooMany : PySem.W.subIn K (.ref ETooMany) (.type "BaseException") = some true)
    (xtTooMany : PySem.W.typeIn K (.ref ETooMany) = some (.type "type"))
    (xcTooMany : PySem.W.isClsIn K ETooMany = true)
    (xiTooMany : PySem.W.excIn K ETooMany [.type "ValueError", .type "Exception", .type "BaseException", .type "object"] "ValueError.__new__" = true)
    (xkNoAnswer : PySem.W.keepIn K (.ref ENoAnswer) = true)
    (xsNoAnswer : PySem.W.subIn K (.ref ENoAnswer) (.type "BaseException") = some true)
    (xtNoAnswer : PySem.W.typeIn K (.ref ENoAnswer) = some (.type "type"))
    (xcNoAnswer : PySem.W.isClsIn K ENoAnswer = true)
    (xiNoAnswer : PySem.W.excIn K ENoAnswer [.type "ValueError", .type "Exception", .type "BaseException", .type "object"] "ValueError.__new__" = true)
    (xkRing : PySem.W.keepIn K (.ref ERing) = true)
    (xsRing : PySem.W.subIn K (.ref ERing) (.type "BaseException") = some true)
    (xtRing : PySem.W.typeIn K (.ref ERing) = some (.type "type"))
    (xcRing : PySem.W.isClsIn K ERing = true)
    (xkDeedFault : PySem.W.keepIn K (.ref EDeedFault) = true)
    (xsDeedFault : PySem.W.subIn K (.ref EDeedFault) (.type "BaseException") = some true)
    (xtDeedFault : PySem.W.typeIn K (.ref EDeedFault) = some (.type "type"))
    (xcDeedFault : PySem.W.isClsIn K EDeedFault = true)
    (ee_NameThere_HallError : PySem.W.subIn K (.ref ENameThere) (.ref EHallError) = some true)
    (ee_NameThere_NameThere : PySem.W.subIn K (.ref ENameThere) (.ref ENameThere) = some true)
    (ee_NameThere_NoPlace : PySem.W.subIn K (.ref ENameThere) (.ref ENoPlace) = some false)
    (ee_NameThere_NoPiece : PySem.W.subIn K (.ref ENameThere) (.ref ENoPiece) = some false)
    (ee_NameThere_TooMany : PySem.W.subIn K (.ref ENameThere) (.ref ETooMany) = some false)
    (ee_NameThere_NoAnswer : PySem.W.subIn K (.ref ENameThere) (.ref ENoAnswer) = some false)
    (ee_NameThere_Ring : PySem.W.subIn K (.ref ENameThere) (.ref ERing) = some false)
    (ee_NameThere_DeedFault : PySem.W.subIn K (.ref ENameThere) (.ref EDeedFault) = some false)
    (ee_NoPlace_HallError : PySem.W.subIn K (.ref ENoPlace) (.ref EHallError) = some true)
    (ee_NoPlace_NameThere : PySem.W.subIn K (.ref ENoPlace) (.ref ENameThere) = some false)
    (ee_NoPlace_NoPlace : PySem.W.subIn K (.ref ENoPlace) (.ref ENoPlace) = some true)
    (ee_NoPlace_NoPiece : PySem.W.subIn K (.ref ENoPlace) (.ref ENoPiece) = some false)
    (ee_NoPlace_TooMany : PySem.W.subIn K (.ref ENoPlace) (.ref ETooMany) = some false)
    (ee_NoPlace_NoAnswer : PySem.W.subIn K (.ref ENoPlace) (.ref ENoAnswer) = some false)
    (ee_NoPlace_Ring : PySem.W.subIn K (.ref ENoPlace) (.ref ERing) = some false)
    (ee_NoPlace_DeedFault : PySem.W.subIn K (.ref ENoPlace) (.ref EDeedFault) = some false)
    (ee_NoPiece_HallError : PySem.W.subIn K (.ref ENoPiece) (.ref EHallError) = some true)
    (ee_NoPiece_NameThere : PySem.W.subIn K (.ref ENoPiece) (.ref ENameThere) = some false)
    (ee_NoPiece_NoPlace : PySem.W.subIn K (.ref ENoPiece) (.ref ENoPlace) = some false)
    (ee_NoPiece_NoPiece : PySem.W.subIn K (.ref ENoPiece) (.ref ENoPiece) = some true)
    (ee_NoPiece_TooMany : PySem.W.subIn K (.ref ENoPiece) (.ref ETooMany) = some false)
    (ee_NoPiece_NoAnswer : PySem.W.subIn K (.ref ENoPiece) (.ref ENoAnswer) = some false)
    (ee_NoPiece_Ring : PySem.W.subIn K (.ref ENoPiece) (.ref ERing) = some false)
    (ee_NoPiece_DeedFault : PySem.W.subIn K (.ref ENoPiece) (.ref EDeedFault) = some false)
    (ee_TooMany_HallError : PySem.W.subIn K (.ref ETooMany) (.ref EHallError) = some true)
    (ee_TooMany_NameThere : PySem.W.subIn K (.ref ETooMany) (.ref ENameThere) = some false)
    (ee_TooMany_NoPlace : PySem.W.subIn K (.ref ETooMany) (.ref ENoPlace) = some false)
    (ee_TooMany_NoPiece : PySem.W.subIn K (.ref ETooMany) (.ref ENoPiece) = some false)
    (ee_TooMany_TooMany : PySem.W.subIn K (.ref ETooMany) (.ref ETooMany) = some true)
    (ee_TooMany_NoAnswer : PySem.W.subIn K (.ref ETooMany) (.ref ENoAnswer) = some false)
    (ee_TooMany_Ring : PySem.W.subIn K (.ref ETooMany) (.ref ERing) = some false)
    (ee_TooMany_DeedFault : PySem.W.subIn K (.ref ETooMany) (.ref EDeedFault) = some false)
    (ee_NoAnswer_HallError : PySem.W.subIn K (.ref ENoAnswer) (.ref EHallError) = some true)
    (ee_NoAnswer_NameThere : PySem.W.subIn K (.ref ENoAnswer) (.ref ENameThere) = some false)
    (ee_NoAnswer_NoPlace : PySem.W.subIn K (.ref ENoAnswer) (.ref ENoPlace) = some false)
    (ee_NoAnswer_NoPiece : PySem.W.subIn K (.ref ENoAnswer) (.ref ENoPiece) = some false)
    (ee_NoAnswer_TooMany : PySem.W.subIn K (.ref ENoAnswer) (.ref ETooMany) = some false)
    (ee_NoAnswer_NoAnswer : PySem.W.subIn K (.ref ENoAnswer) (.ref ENoAnswer) = some true)
    (ee_NoAnswer_Ring : PySem.W.subIn K (.ref ENoAnswer) (.ref ERing) = some false)
    (ee_NoAnswer_DeedFault : PySem.W.subIn K (.ref ENoAnswer) (.ref EDeedFault) = some false)
    (ee_Ring_HallError : PySem.W.subIn K (.ref ERing) (.ref EHallError) = some true)
    (ee_Ring_NameThere : PySem.W.subIn K (.ref ERing) (.ref ENameThere) = some false)
    (ee_Ring_NoPlace : PySem.W.subIn K (.ref ERing) (.ref ENoPlace) = some false)
    (ee_Ring_NoPiece : PySem.W.subIn K (.ref ERing) (.ref ENoPiece) = some false)
    (ee_Ring_TooMany : PySem.W.subIn K (.ref ERing) (.ref ETooMany) = some false)
    (ee_Ring_NoAnswer : PySem.W.subIn K (.ref ERing) (.ref ENoAnswer) = some false)
    (ee_Ring_Ring : PySem.W.subIn K (.ref ERing) (.ref ERing) = some true)
    (ee_Ring_DeedFault : PySem.W.subIn K (.ref ERing) (.ref EDeedFault) = some false)
    (ee_DeedFault_HallError : PySem.W.subIn K (.ref EDeedFault) (.ref EHallError) = some true)
    (ee_DeedFault_NameThere : PySem.W.subIn K (.ref EDeedFault) (.ref ENameThere) = some false)
    (ee_DeedFault_NoPlace : PySem.W.subIn K (.ref EDeedFault) (.ref ENoPlace) = some false)
    (ee_DeedFault_NoPiece : PySem.W.subIn K (.ref EDeedFault) (.ref ENoPiece) = some false)
    (ee_DeedFault_TooMany : PySem.W.subIn K (.ref EDeedFault) (.ref ETooMany) = some false)
    (ee_DeedFault_NoAnswer : PySem.W.subIn K (.ref EDeedFault) (.ref ENoAnswer) = some false)
    (ee_DeedFault_Ring : PySem.W.subIn K (.ref EDeedFault) (.ref ERing) = some false)
    (ee_DeedFault_DeedFault : PySem.W.subIn K (.ref EDeedFault) (.ref EDeedFault) = some true)
    (wgDeedFault : PySem.W.findIn K (.ref EDeedFault) "__getattribute__" = some (some (.builtin "BaseException.__getattribute__")))
    (wkDeedFault : PySem.W.findIn K (.ref EDeedFault) "__getattr__" = some none)
    (wdDeedFault : PySem.W.hasDictIn K EDeedFault = true)
    (vPLACES : PySem.W.nsIn K mainGlobals "PLACES" = some (some (.int 8 tokPLACES)))
    (vPIECES : PySem.W.nsIn K mainGlobals "PIECES" = some (some (.int 24 tokPIECES))) :
    ∃ fd : FuncData, (∀ (s : Shared) (u : Value), BindsTo s fd ⟨[u], []⟩ [("script", u)]) ∧ ∀ base : Heap, K.In base → base.Ns mainGlobals mg → FnOk (PySem.Challenge.rw_hookhall_k05_whole_calls).prog w K mg base (L2.CX (PySem.Challenge.rw_hookhall_k05_whole_calls).prog w) 27 fa fd ["script"] (spLaw K) := by
  have e := hfa.symm.trans (PySem.W.mg_of X NS a50)
  cases e
  refine ⟨PySem.W.fnOf "law" "law" (defArgs s_law) (defBody s_law) (defScope s_law) .none kV50 dc50 pm50 an50 cd50 ct50, fun s u => .of_eq rfl, fun base _ _ => ?_⟩
  have gH := PySem.W.mg_of X NS aH
  have gP := PySem.W.mg_of X NS aP
  have clH : Cls K CH := ⟨pgH, hdH, poH, saH⟩
  have clP : Cls K CP := ⟨pgP, hdP, poP, saP⟩
  have nH : ∀ f ∈ fldsOf true, NoAttr K CH f := fun f hf => by
    simp only [fldsOf, List.mem_cons, List.not_mem_nil, or_false] at hf
    rcases hf with rfl | rfl | rfl | rfl
    · exact nHkinds
    · exact nHrules
    · exact nHhung
    · exact nHoff
  have nP : ∀ f ∈ (["name", "place", "deed", "by", "ahead", "behind", "needs", "bars"] : List Str), NoAttr K CP f := fun f hf => by
    simp only [fldsOf, List.mem_cons, List.not_mem_nil, or_false] at hf
    rcases hf with rfl | rfl | rfl | rfl | rfl | rfl | rfl | rfl
    · exact nPname
    · exact nPplace
    · exact nPdeed
    · exact nPby
    · exact nPahead
    · exact nPbehind
    · exact nPneeds
    · exact nPbars
  have T : HallTxt (gx K mg CH CP CR) := ⟨clH, nH, clP, nP, gH, gP⟩
  have B : Blt (gx K mg CH CP CR) := ⟨PySem.W.mg_none_of X NS zlen, PySem.W.mg_none_of X NS zrange, PySem.W.mg_none_of X NS zisinstance, PySem.W.mg_none_of X NS zlist, PySem.W.mg_none_of X NS ztuple, PySem.W.mg_none_of X NS zstr, PySem.W.mg_none_of X NS zint, PySem.W.mg_none_of X NS zbool, PySem.W.mg_none_of X NS zsorted, PySem.W.mg_none_of X NS zreversed, PySem.W.mg_none_of X NS zset⟩
  have gR := PySem.W.mg_of X NS aR
  have clR : Cls K CR := ⟨pgR, hdR, poR, saR⟩
  have nR : ∀ f ∈ fldsOf false, NoAttr K CR f := fun f hf => by
    simp only [fldsOf, List.mem_cons, List.not_mem_nil, or_false] at hf
    rcases hf with rfl | rfl | rfl | rfl | rfl | rfl | rfl | rfl | rfl | rfl
    · exact nRkind
    · exact nRrule
    · exact nRrows
    · exact nRworth
    · exact nRspot
    · exact nRshut
    · exact nRtorn
    · exact nRtold
    · exact nRbacks
    · exact nRheld
  have TR : RunTxt (gx K mg CH CP CR) := ⟨clR, nR, gR⟩
  have g_HallError := PySem.W.mg_of X NS aEHallError
  have g_NameThere := PySem.W.mg_of X NS aENameThere
  have g_NoPlace := PySem.W.mg_of X NS aENoPlace
  have g_NoPiece := PySem.W.mg_of X NS aENoPiece
  have g_TooMany := PySem.W.mg_of X NS aETooMany
  have g_NoAnswer := PySem.W.mg_of X NS aENoAnswer
  have g_Ring := PySem.W.mg_of X NS aERing
  have g_DeedFault := PySem.W.mg_of X NS aEDeedFault
  have gz_Barred := PySem.W.mg_none_of X NS zEBarred
  have exA_NameThere : ExA (gx K mg CH CP CR) "NameThere" := ⟨ENameThere, g_NameThere, xiNameThere, xkNameThere, xsNameThere, xtNameThere⟩
  have exA_NoAnswer : ExA (gx K mg CH CP CR) "NoAnswer" := ⟨ENoAnswer, g_NoAnswer, xiNoAnswer, xkNoAnswer, xsNoAnswer, xtNoAnswer⟩
  have exA_NoPiece : ExA (gx K mg CH CP CR) "NoPiece" := ⟨ENoPiece, g_NoPiece, xiNoPiece, xkNoPiece, xsNoPiece, xtNoPiece⟩
  have exA_NoPlace : ExA (gx K mg CH CP CR) "NoPlace" := ⟨ENoPlace, g_NoPlace, xiNoPlace, xkNoPlace, xsNoPlace, xtNoPlace⟩
  have exA_TooMany : ExA (gx K mg CH CP CR) "TooMany" := ⟨ETooMany, g_TooMany, xiTooMany, xkTooMany, xsTooMany, xtTooMany⟩
  have ex : Exm (gx K mg CH CP CR) := ⟨fun x hx c hc C D h1 h2 => by
    simp only [leafs, List.mem_cons, List.not_mem_nil, or_false] at hx hc
    rcases hx with rfl | rfl | rfl | rfl | rfl | rfl | rfl | rfl
    · rcases hc with rfl | rfl | rfl | rfl | rfl | rfl | rfl | rfl | rfl
      · exact exm_of (G := (gx K mg CH CP CR)) g_NameThere g_HallError (exm_fact xsHallError xcHallError xtHallError ee_NameThere_HallError) (by decide +kernel) h1 h2
      · exact exm_of (G := (gx K mg CH CP CR)) g_NameThere g_NameThere (exm_fact xsNameThere xcNameThere xtNameThere ee_NameThere_NameThere) (by decide +kernel) h1 h2
      · exact exm_of (G := (gx K mg CH CP CR)) g_NameThere g_NoPlace (exm_fact xsNoPlace xcNoPlace xtNoPlace ee_NameThere_NoPlace) (by decide +kernel) h1 h2
      · exact exm_of (G := (gx K mg CH CP CR)) g_NameThere g_NoPiece (exm_fact xsNoPiece xcNoPiece xtNoPiece ee_NameThere_NoPiece) (by decide +kernel) h1 h2
      · exact exm_of (G := (gx K mg CH CP CR)) g_NameThere g_TooMany (exm_fact xsTooMany xcTooMany xtTooMany ee_NameThere_TooMany) (by decide +kernel) h1 h2
      · exact exm_of (G := (gx K mg CH CP CR)) g_NameThere g_NoAnswer (exm_fact xsNoAnswer xcNoAnswer xtNoAnswer ee_NameThere_NoAnswer) (by decide +kernel) h1 h2
      · exact exm_of (G := (gx K mg CH CP CR)) g_NameThere g_Ring (exm_fact xsRing xcRing xtRing ee_NameThere_Ring) (by decide +kernel) h1 h2
      · exact exm_no (G := (gx K mg CH CP CR)) gz_Barred h2
      · exact exm_of (G := (gx K mg CH CP CR)) g_NameThere g_DeedFault (exm_fact xsDeedFault xcDeedFault xtDeedFault ee_NameThere_DeedFault) (by decide +kernel) h1 h2
    · rcases hc with rfl | rfl | rfl | rfl | rfl | rfl | rfl | rfl | rfl
      · exact exm_of (G := (gx K mg CH CP CR)) g_NoPlace g_HallError (exm_fact xsHallError xcHallError xtHallError ee_NoPlace_HallError) (by decide +kernel) h1 h2
      · exact exm_of (G := (gx K mg CH CP CR)) g_NoPlace g_NameThere (exm_fact xsNameThere xcNameThere xtNameThere ee_NoPlace_NameThere) (by decide +kernel) h1 h2
      · exact exm_of (G := (gx K mg CH CP CR)) g_NoPlace g_NoPlace (exm_fact xsNoPlace xcNoPlace xtNoPlace ee_NoPlace_NoPlace) (by decide +kernel) h1 h2
      · exact exm_of (G := (gx K mg CH CP CR)) g_NoPlace g_NoPiece (exm_fact xsNoPiece xcNoPiece xtNoPiece ee_NoPlace_NoPiece) (by decide +kernel) h1 h2
      · exact exm_of (G := (gx K mg CH CP CR)) g_NoPlace g_TooMany (exm_fact xsTooMany xcTooMany xtTooMany ee_NoPlace_TooMany) (by decide +kernel) h1 h2
      · exact exm_of (G := (gx K mg CH CP CR)) g_NoPlace g_NoAnswer (exm_fact xsNoAnswer xcNoAnswer xtNoAnswer ee_NoPlace_NoAnswer) (by decide +kernel) h1 h2
      · exact exm_of (G := (gx K mg CH CP CR)) g_NoPlace g_Ring (exm_fact xsRing xcRing xtRing ee_NoPlace_Ring) (by decide +kernel) h1 h2
      · exact exm_no (G := (gx K mg CH CP CR)) gz_Barred h2
      · exact exm_of (G := (gx K mg CH CP CR)) g_NoPlace g_DeedFault (exm_fact xsDeedFault xcDeedFault xtDeedFault ee_NoPlace_DeedFault) (by decide +kernel) h1 h2
    · rcases hc with rfl | rfl | rfl | rfl | rfl | rfl | rfl | rfl | rfl
      · exact exm_of (G := (gx K mg CH CP CR)) g_NoPiece g_HallError (exm_fact xsHallError xcHallError xtHallError ee_NoPiece_HallError) (by decide +kernel) h1 h2
      · exact exm_of (G := (gx K mg CH CP CR)) g_NoPiece g_NameThere (exm_fact xsNameThere xcNameThere xtNameThere ee_NoPiece_NameThere) (by decide +kernel) h1 h2
      · exact exm_of (G := (gx K mg CH CP CR)) g_NoPiece g_NoPlace (exm_fact xsNoPlace xcNoPlace xtNoPlace ee_NoPiece_NoPlace) (by decide +kernel) h1 h2
      · exact exm_of (G := (gx K mg CH CP CR)) g_NoPiece g_NoPiece (exm_fact xsNoPiece xcNoPiece xtNoPiece ee_NoPiece_NoPiece) (by decide +kernel) h1 h2
      · exact exm_of (G := (gx K mg CH CP CR)) g_NoPiece g_TooMany (exm_fact xsTooMany xcTooMany xtTooMany ee_NoPiece_TooMany) (by decide +kernel) h1 h2
      · exact exm_of (G := (gx K mg CH CP CR)) g_NoPiece g_NoAnswer (exm_fact xsNoAnswer xcNoAnswer xtNoAnswer ee_NoPiece_NoAnswer) (by decide +kernel) h1 h2
      · exact exm_of (G := (gx K mg CH CP CR)) g_NoPiece g_Ring (exm_fact xsRing xcRing xtRing ee_NoPiece_Ring) (by decide +kernel) h1 h2
      · exact exm_no (G := (gx K mg CH CP CR)) gz_Barred h2
      · exact exm_of (G := (gx K mg CH CP CR)) g_NoPiece g_DeedFault (exm_fact xsDeedFault xcDeedFault xtDeedFault ee_NoPiece_DeedFault) (by decide +kernel) h1 h2
    · rcases hc with rfl | rfl | rfl | rfl | rfl | rfl | rfl | rfl | rfl
      · exact exm_of (G := (gx K mg CH CP CR)) g_TooMany g_HallError (exm_fact xsHallError xcHallError xtHallError ee_TooMany_HallError) (by decide +kernel) h1 h2
      · exact exm_of (G := (gx K mg CH CP CR)) g_TooMany g_NameThere (exm_fact xsNameThere xcNameThere xtNameThere ee_TooMany_NameThere) (by decide +kernel) h1 h2
      · exact exm_of (G := (gx K mg CH CP CR)) g_TooMany g_NoPlace (exm_fact xsNoPlace xcNoPlace xtNoPlace ee_TooMany_NoPlace) (by decide +kernel) h1 h2
      · exact exm_of (G := (gx K mg CH CP CR)) g_TooMany g_NoPiece (exm_fact xsNoPiece xcNoPiece xtNoPiece ee_TooMany_NoPiece) (by decide +kernel) h1 h2
      · exact exm_of (G := (gx K mg CH CP CR)) g_TooMany g_TooMany (exm_fact xsTooMany xcTooMany xtTooMany ee_TooMany_TooMany) (by decide +kernel) h1 h2
      · exact exm_of (G := (gx K mg CH CP CR)) g_TooMany g_NoAnswer (exm_fact xsNoAnswer xcNoAnswer xtNoAnswer ee_TooMany_NoAnswer) (by decide +kernel) h1 h2
      · exact exm_of (G := (gx K mg CH CP CR)) g_TooMany g_Ring (exm_fact xsRing xcRing xtRing ee_TooMany_Ring) (by decide +kernel) h1 h2
      · exact exm_no (G := (gx K mg CH CP CR)) gz_Barred h2
      · exact exm_of (G := (gx K mg CH CP CR)) g_TooMany g_DeedFault (exm_fact xsDeedFault xcDeedFault xtDeedFault ee_TooMany_DeedFault) (by decide +kernel) h1 h2
    · rcases hc with rfl | rfl | rfl | rfl | rfl | rfl | rfl | rfl | rfl
      · exact exm_of (G := (gx K mg CH CP CR)) g_NoAnswer g_HallError (exm_fact xsHallError xcHallError xtHallError ee_NoAnswer_HallError) (by decide +kernel) h1 h2
      · exact exm_of (G := (gx K mg CH CP CR)) g_NoAnswer g_NameThere (exm_fact xsNameThere xcNameThere xtNameThere ee_NoAnswer_NameThere) (by decide +kernel) h1 h2
      · exact exm_of (G := (gx K mg CH CP CR)) g_NoAnswer g_NoPlace (exm_fact xsNoPlace xcNoPlace xtNoPlace ee_NoAnswer_NoPlace) (by decide +kernel) h1 h2
      · exact exm_of (G := (gx K mg CH CP CR)) g_NoAnswer g_NoPiece (exm_fact xsNoPiece xcNoPiece xtNoPiece ee_NoAnswer_NoPiece) (by decide +kernel) h1 h2
      · exact exm_of (G := (gx K mg CH CP CR)) g_NoAnswer g_TooMany (exm_fact xsTooMany xcTooMany xtTooMany ee_NoAnswer_TooMany) (by decide +kernel) h1 h2
      · exact exm_of (G := (gx K mg CH CP CR)) g_NoAnswer g_NoAnswer (exm_fact xsNoAnswer xcNoAnswer xtNoAnswer ee_NoAnswer_NoAnswer) (by decide +kernel) h1 h2
      · exact exm_of (G := (gx K mg CH CP CR)) g_NoAnswer g_Ring (exm_fact xsRing xcRing xtRing ee_NoAnswer_Ring) (by decide +kernel) h1 h2
      · exact exm_no (G := (gx K mg CH CP CR)) gz_Barred h2
      · exact exm_of (G := (gx K mg CH CP CR)) g_NoAnswer g_DeedFault (exm_fact xsDeedFault xcDeedFault xtDeedFault ee_NoAnswer_DeedFault) (by decide +kernel) h1 h2
    · rcases hc with rfl | rfl | rfl | rfl | rfl | rfl | rfl | rfl | rfl
      · exact exm_of (G := (gx K mg CH CP CR)) g_Ring g_HallError (exm_fact xsHallError xcHallError xtHallError ee_Ring_HallError) (by decide +kernel) h1 h2
      · exact exm_of (G := (gx K mg CH CP CR)) g_Ring g_NameThere (exm_fact xsNameThere xcNameThere xtNameThere ee_Ring_NameThere) (by decide +kernel) h1 h2
      · exact exm_of (G := (gx K mg CH CP CR)) g_Ring g_NoPlace (exm_fact xsNoPlace xcNoPlace xtNoPlace ee_Ring_NoPlace) (by decide +kernel) h1 h2
      · exact exm_of (G := (gx K mg CH CP CR)) g_Ring g_NoPiece (exm_fact xsNoPiece xcNoPiece xtNoPiece ee_Ring_NoPiece) (by decide +kernel) h1 h2
      · exact exm_of (G := (gx K mg CH CP CR)) g_Ring g_TooMany (exm_fact xsTooMany xcTooMany xtTooMany ee_Ring_TooMany) (by decide +kernel) h1 h2
      · exact exm_of (G := (gx K mg CH CP CR)) g_Ring g_NoAnswer (exm_fact xsNoAnswer xcNoAnswer xtNoAnswer ee_Ring_NoAnswer) (by decide +kernel) h1 h2
      · exact exm_of (G := (gx K mg CH CP CR)) g_Ring g_Ring (exm_fact xsRing xcRing xtRing ee_Ring_Ring) (by decide +kernel) h1 h2
      · exact exm_no (G := (gx K mg CH CP CR)) gz_Barred h2
      · exact exm_of (G := (gx K mg CH CP CR)) g_Ring g_DeedFault (exm_fact xsDeedFault xcDeedFault xtDeedFault ee_Ring_DeedFault) (by decide +kernel) h1 h2
    · exact exm_no (G := (gx K mg CH CP CR)) gz_Barred h1
    · rcases hc with rfl | rfl | rfl | rfl | rfl | rfl | rfl | rfl | rfl
      · exact exm_of (G := (gx K mg CH CP CR)) g_DeedFault g_HallError (exm_fact xsHallError xcHallError xtHallError ee_DeedFault_HallError) (by decide +kernel) h1 h2
      · exact exm_of (G := (gx K mg CH CP CR)) g_DeedFault g_NameThere (exm_fact xsNameThere xcNameThere xtNameThere ee_DeedFault_NameThere) (by decide +kernel) h1 h2
      · exact exm_of (G := (gx K mg CH CP CR)) g_DeedFault g_NoPlace (exm_fact xsNoPlace xcNoPlace xtNoPlace ee_DeedFault_NoPlace) (by decide +kernel) h1 h2
      · exact exm_of (G := (gx K mg CH CP CR)) g_DeedFault g_NoPiece (exm_fact xsNoPiece xcNoPiece xtNoPiece ee_DeedFault_NoPiece) (by decide +kernel) h1 h2
      · exact exm_of (G := (gx K mg CH CP CR)) g_DeedFault g_TooMany (exm_fact xsTooMany xcTooMany xtTooMany ee_DeedFault_TooMany) (by decide +kernel) h1 h2
      · exact exm_of (G := (gx K mg CH CP CR)) g_DeedFault g_NoAnswer (exm_fact xsNoAnswer xcNoAnswer xtNoAnswer ee_DeedFault_NoAnswer) (by decide +kernel) h1 h2
      · exact exm_of (G := (gx K mg CH CP CR)) g_DeedFault g_Ring (exm_fact xsRing xcRing xtRing ee_DeedFault_Ring) (by decide +kernel) h1 h2
      · exact exm_no (G := (gx K mg CH CP CR)) gz_Barred h2
      · exact exm_of (G := (gx K mg CH CP CR)) g_DeedFault g_DeedFault (exm_fact xsDeedFault xcDeedFault xtDeedFault ee_DeedFault_DeedFault) (by decide +kernel) h1 h2⟩
  have xf_DeedFault : ∀ {D : Addr}, ((gx K mg CH CP CR)).mg "DeedFault" = some (.ref D) → XfC ((gx K mg CH CP CR)).K D ∧ ∀ f ∈ (["piece", "code"] : List Str), PySem.W.findIn ((gx K mg CH CP CR)).K (.ref D) f = some none := fun {D} hD => by
    have e0 := hD.symm.trans g_DeedFault
    cases e0
    refine ⟨⟨wgDeedFault, wkDeedFault, xsDeedFault, wdDeedFault⟩, fun f hf => ?_⟩
    simp only [List.mem_cons, List.not_mem_nil, or_false] at hf
    rcases hf with rfl | rfl
    · exact xN20piece
    · exact xN20code
  have k_PLACES := PySem.W.mg_of X NS vPLACES
  have k_PIECES := PySem.W.mg_of X NS vPIECES
  have D0 : Df (gx K mg CH CP CR) "_law_cell_at" s_l_cell_at ["script", "k"] := df_mk (G := (gx K mg CH CP CR)) X NS a0 l0 c0 k0 (fun _ _ _ _ _ _ us hl => match us, hl with | [_, _], _ => rfl)
  have c_l_cell_at := p_c_l_cell_at (P := (PySem.Challenge.rw_hookhall_k05_whole_calls).prog) (w := w) (base := base) (G := (gx K mg CH CP CR)) D0 B
  have D1 : Df (gx K mg CH CP CR) "_law_name" s_l_name ["k"] := df_mk (G := (gx K mg CH CP CR)) X NS a1 l1 c1 k1 (fun _ _ _ _ _ _ us hl => match us, hl with | [_], _ => rfl)
  have c_l_name := p_c_l_name (P := (PySem.Challenge.rw_hookhall_k05_whole_calls).prog) (w := w) (base := base) (G := (gx K mg CH CP CR)) D1 B
  have D2 : Df (gx K mg CH CP CR) "_law_some" s_l_some ["cell", "many"] := df_mk (G := (gx K mg CH CP CR)) X NS a2 l2 c2 k2 (fun _ _ _ _ _ _ us hl => match us, hl with | [_, _], _ => rfl)
  have c_l_some := p_c_l_some (P := (PySem.Challenge.rw_hookhall_k05_whole_calls).prog) (w := w) (base := base) (G := (gx K mg CH CP CR)) D2 c_l_name
  have D3 : Df (gx K mg CH CP CR) "_law_deed" s_l_deed ["cell"] := df_mk (G := (gx K mg CH CP CR)) X NS a3 l3 c3 k3 (fun _ _ _ _ _ _ us hl => match us, hl with | [_], _ => rfl)
  have c_l_deed := p_c_l_deed (P := (PySem.Challenge.rw_hookhall_k05_whole_calls).prog) (w := w) (base := base) (G := (gx K mg CH CP CR)) D3 
  have D4 : Df (gx K mg CH CP CR) "_law_pieces" s_l_pieces ["script", "start", "many"] := df_mk (G := (gx K mg CH CP CR)) X NS a4 l4 c4 k4 (fun _ _ _ _ _ _ us hl => match us, hl with | [_, _, _], _ => rfl)
  have c_l_pieces := p_c_l_pieces (P := (PySem.Challenge.rw_hookhall_k05_whole_calls).prog) (w := w) (base := base) (G := (gx K mg CH CP CR)) D4 c_l_cell_at c_l_some c_l_deed c_l_name B
  have D5 : IDf (gx K mg CH CP CR) CH "Hall.__init__" s_Hall_init ["self"] := idf_mk (G := (gx K mg CH CP CR)) mkH a5 i5 kcH l5 c5 k5 (fun _ _ _ _ _ _ us hl => match us, hl with | [_], _ => rfl)
  have mkH := p_mkH (P := (PySem.Challenge.rw_hookhall_k05_whole_calls).prog) (w := w) (base := base) (G := (gx K mg CH CP CR)) D5 T
  have D6 : MDf (gx K mg CH CP CR) true "open_place" "Hall.open_place" s_Hall_open_place ["self", "name", "kind", "rule"] 0 := mdf_mk (G := (gx K mg CH CP CR)) clH a6 i6 l6 c6 k6 (fun _ _ _ _ _ _ us hl => match us, hl with | [_, _, _, _], _ => rfl)
  have m_open_place := p_m_open_place (P := (PySem.Challenge.rw_hookhall_k05_whole_calls).prog) (w := w) (base := base) (G := (gx K mg CH CP CR)) D6 T B exA_NameThere k_PLACES exA_TooMany
  have D7 : MDf (gx K mg CH CP CR) true "names" "Hall.names" s_Hall_names ["self"] 0 := mdf_mk (G := (gx K mg CH CP CR)) clH a7 i7 l7 c7 k7 (fun _ _ _ _ _ _ us hl => match us, hl with | [_], _ => rfl)
  have m_names := p_m_names (P := (PySem.Challenge.rw_hookhall_k05_whole_calls).prog) (w := w) (base := base) (G := (gx K mg CH CP CR)) D7 T
  have D8 : MDf (gx K mg CH CP CR) true "has" "Hall.has" s_Hall_has ["self", "name"] 0 := mdf_mk (G := (gx K mg CH CP CR)) clH a8 i8 l8 c8 k8 (fun _ _ _ _ _ _ us hl => match us, hl with | [_, _], _ => rfl)
  have m_has := p_m_has (P := (PySem.Challenge.rw_hookhall_k05_whole_calls).prog) (w := w) (base := base) (G := (gx K mg CH CP CR)) D8 m_names
  have D9 : IDf (gx K mg CH CP CR) CP "Piece.__init__" s_Piece_init ["self", "name", "place", "deed", "by"] := idf_mk (G := (gx K mg CH CP CR)) mkP a9 i9 kcP l9 c9 k9 (fun _ _ _ _ _ _ us hl => match us, hl with | [_, _, _, _, _], _ => rfl)
  have mkP := p_mkP (P := (PySem.Challenge.rw_hookhall_k05_whole_calls).prog) (w := w) (base := base) (G := (gx K mg CH CP CR)) D9 T
  have D10_1 : MDf (gx K mg CH CP CR) true "hang" "Hall.hang" s_Hall_hang ["self", "name", "place", "deed", "by"] 1 := mdfD_mk (G := (gx K mg CH CP CR)) 1 1 clH a10 i10 l10 c10 k10 lT10 oT10 (by decide) (by decide) (by decide) (fun _ _ _ _ _ _ _ us its h1 h2 => match us, h1, its, h2 with | [_, _, _, _], _, [_], _ => ⟨_, rfl, rfl⟩)
  have m_hang1 := p_m_hang1 (P := (PySem.Challenge.rw_hookhall_k05_whole_calls).prog) (w := w) (base := base) (G := (gx K mg CH CP CR)) D10_1 m_has mkP T B exA_NameThere exA_NoPlace exA_NoPiece k_PIECES exA_TooMany
  have D11 : MDf (gx K mg CH CP CR) true "look_up" "Hall.look_up" s_Hall_look_up ["self", "name"] 0 := mdf_mk (G := (gx K mg CH CP CR)) clH a11 i11 l11 c11 k11 (fun _ _ _ _ _ _ us hl => match us, hl with | [_, _], _ => rfl)
  have m_look := p_m_look (P := (PySem.Challenge.rw_hookhall_k05_whole_calls).prog) (w := w) (base := base) (G := (gx K mg CH CP CR)) D11 T exA_NoPiece
  have D12 : Df (gx K mg CH CP CR) "wished" s_wished ["names"] := df_mk (G := (gx K mg CH CP CR)) X NS a12 l12 c12 k12 (fun _ _ _ _ _ _ us hl => match us, hl with | [_], _ => rfl)
  have c_wished := p_c_wished (P := (PySem.Challenge.rw_hookhall_k05_whole_calls).prog) (w := w) (base := base) (G := (gx K mg CH CP CR)) D12 
  have D13_0 : MDf (gx K mg CH CP CR) true "wish" "Hall.wish" s_Hall_wish ["self", "name", "ahead", "behind", "needs", "bars"] 0 := mdfD_mk (G := (gx K mg CH CP CR)) 4 0 clH a13 i13 l13 c13 k13 lT13 oT13 (by decide) (by decide) (by decide) (fun _ _ _ _ _ _ _ us its h1 h2 => match us, h1, its, h2 with | [_, _, _, _, _, _], _, [_, _, _, _], _ => ⟨_, rfl, rfl⟩)
  have m_wish0 := p_m_wish0 (P := (PySem.Challenge.rw_hookhall_k05_whole_calls).prog) (w := w) (base := base) (G := (gx K mg CH CP CR)) D13_0 T m_look c_wished
  have D14 : MDf (gx K mg CH CP CR) true "switch" "Hall.switch" s_Hall_switch ["self", "name", "on"] 0 := mdf_mk (G := (gx K mg CH CP CR)) clH a14 i14 l14 c14 k14 (fun _ _ _ _ _ _ us hl => match us, hl with | [_, _, _], _ => rfl)
  have m_switch := p_m_switch (P := (PySem.Challenge.rw_hookhall_k05_whole_calls).prog) (w := w) (base := base) (G := (gx K mg CH CP CR)) D14 m_look T
  have D15 : Df (gx K mg CH CP CR) "_law_hall" s_l_hall ["pieces", "kind", "rule"] := df_mk (G := (gx K mg CH CP CR)) X NS a15 l15 c15 k15 (fun _ _ _ _ _ _ us hl => match us, hl with | [_, _, _], _ => rfl)
  have c_l_hall := p_c_l_hall (P := (PySem.Challenge.rw_hookhall_k05_whole_calls).prog) (w := w) (base := base) (G := (gx K mg CH CP CR)) D15 mkH m_open_place m_hang1 m_wish0 m_switch T B
  have D16 : Df (gx K mg CH CP CR) "_law_at_hub" s_l_at_hub ["pieces"] := df_mk (G := (gx K mg CH CP CR)) X NS a16 l16 c16 k16 (fun _ _ _ _ _ _ us hl => match us, hl with | [_], _ => rfl)
  have c_l_at_hub := p_c_l_at_hub (P := (PySem.Challenge.rw_hookhall_k05_whole_calls).prog) (w := w) (base := base) (G := (gx K mg CH CP CR)) D16 
  have D17 : MDf (gx K mg CH CP CR) false "over" "Run.over" s_Run_over ["self"] 0 := mdf_mk (G := (gx K mg CH CP CR)) clR a17 i17 l17 c17 k17 (fun _ _ _ _ _ _ us hl => match us, hl with | [_], _ => rfl)
  have m_over := p_m_over (P := (PySem.Challenge.rw_hookhall_k05_whole_calls).prog) (w := w) (base := base) (G := (gx K mg CH CP CR)) D17 TR B
  have D18 : Df (gx K mg CH CP CR) "said_by" s_said_by ["deed", "worth"] := df_mk (G := (gx K mg CH CP CR)) X NS a18 l18 c18 k18 (fun _ _ _ _ _ _ us hl => match us, hl with | [_, _], _ => rfl)
  have c_said_by := p_c_said_by (P := (PySem.Challenge.rw_hookhall_k05_whole_calls).prog) (w := w) (base := base) (G := (gx K mg CH CP CR)) D18 
  have D19 : MDf (gx K mg CH CP CR) false "take" "Run.take" s_Run_take ["self", "name", "deed"] 0 := mdf_mk (G := (gx K mg CH CP CR)) clR a19 i19 l19 c19 k19 (fun _ _ _ _ _ _ us hl => match us, hl with | [_, _, _], _ => rfl)
  have m_take := p_m_take (P := (PySem.Challenge.rw_hookhall_k05_whole_calls).prog) (w := w) (base := base) (G := (gx K mg CH CP CR)) D19 c_said_by TR
  have fm20 := fun_mk (st := s_DeedFault_init) l20 c20 k20
  have exF_DeedFault := p_exF_DeedFault (P := (PySem.Challenge.rw_hookhall_k05_whole_calls).prog) (w := w) (base := base) (G := (gx K mg CH CP CR)) g_DeedFault ⟨⟨_, _, _, _, _, _, _, _, _, _, _, _, _, _, _, xL20, xR20⟩, xS20, xsDeedFault, xtDeedFault, xkDeedFault⟩ a20 t20 fm20 (fm20.binds (ps := ["self", "piece", "code"]) (fun _ _ _ _ _ _ us hl => match us, hl with | [_, _, _], _ => rfl)) xN20piece xN20code
  have D21 : MDf (gx K mg CH CP CR) false "step" "Run.step" s_Run_step ["self"] 0 := mdf_mk (G := (gx K mg CH CP CR)) clR a21 i21 l21 c21 k21 (fun _ _ _ _ _ _ us hl => match us, hl with | [_], _ => rfl)
  have m_step := p_m_step (P := (PySem.Challenge.rw_hookhall_k05_whole_calls).prog) (w := w) (base := base) (G := (gx K mg CH CP CR)) D21 m_over m_take TR exF_DeedFault
  have D22 : MDf (gx K mg CH CP CR) false "answer" "Run.answer" s_Run_answer ["self"] 0 := mdf_mk (G := (gx K mg CH CP CR)) clR a22 i22 l22 c22 k22 (fun _ _ _ _ _ _ us hl => match us, hl with | [_], _ => rfl)
  have m_answer := p_m_answer (P := (PySem.Challenge.rw_hookhall_k05_whole_calls).prog) (w := w) (base := base) (G := (gx K mg CH CP CR)) D22 m_over TR B exA_NoAnswer
  have D23 : MDf (gx K mg CH CP CR) false "faults" "Run.faults" s_Run_faults ["self"] 0 := mdf_mk (G := (gx K mg CH CP CR)) clR a23 i23 l23 c23 k23 (fun _ _ _ _ _ _ us hl => match us, hl with | [_], _ => rfl)
  have m_faults := p_m_faults (P := (PySem.Challenge.rw_hookhall_k05_whole_calls).prog) (w := w) (base := base) (G := (gx K mg CH CP CR)) D23 TR B
  have D24 : Df (gx K mg CH CP CR) "finished" s_finished ["run"] := df_mk (G := (gx K mg CH CP CR)) X NS a24 l24 c24 k24 (fun _ _ _ _ _ _ us hl => match us, hl with | [_], _ => rfl)
  have c_finished := p_c_finished (P := (PySem.Challenge.rw_hookhall_k05_whole_calls).prog) (w := w) (base := base) (G := (gx K mg CH CP CR)) D24 m_over m_step m_faults m_answer
  have D25 : Df (gx K mg CH CP CR) "pairs_of" s_pairs_of ["hall", "names"] := df_mk (G := (gx K mg CH CP CR)) X NS a25 l25 c25 k25 (fun _ _ _ _ _ _ us hl => match us, hl with | [_, _], _ => rfl)
  have c_pairs_of := p_c_pairs_of (P := (PySem.Challenge.rw_hookhall_k05_whole_calls).prog) (w := w) (base := base) (G := (gx K mg CH CP CR)) D25 m_look T
  have D26 : Df (gx K mg CH CP CR) "laid" s_laid ["names", "pairs"] := df_mk (G := (gx K mg CH CP CR)) X NS a26 l26 c26 k26 (fun _ _ _ _ _ _ us hl => match us, hl with | [_, _], _ => rfl)
  have c_laid := p_c_laid (P := (PySem.Challenge.rw_hookhall_k05_whole_calls).prog) (w := w) (base := base) (G := (gx K mg CH CP CR)) D26 B
  have fm27 := fun_mk (st := s_Ring_init) l27 c27 k27
  have exF_Ring := p_exF_Ring (P := (PySem.Challenge.rw_hookhall_k05_whole_calls).prog) (w := w) (base := base) (G := (gx K mg CH CP CR)) g_Ring ⟨⟨_, _, _, _, _, _, _, _, _, _, _, _, _, _, _, xL27, xR27⟩, xS27, xsRing, xtRing, xkRing⟩ a27 t27 fm27 (fm27.binds (ps := ["self", "ring"]) (fun _ _ _ _ _ _ us hl => match us, hl with | [_, _], _ => rfl)) xN27ring
  have D28 : Df (gx K mg CH CP CR) "ring_from" s_ring_from ["names", "pairs", "start"] := df_mk (G := (gx K mg CH CP CR)) X NS a28 l28 c28 k28 (fun _ _ _ _ _ _ us hl => match us, hl with | [_, _, _], _ => rfl)
  have c_ring_from := p_c_ring_from (P := (PySem.Challenge.rw_hookhall_k05_whole_calls).prog) (w := w) (base := base) (G := (gx K mg CH CP CR)) D28 B
  have D29 : Df (gx K mg CH CP CR) "shortest_ring" s_shortest_ring ["names", "pairs"] := df_mk (G := (gx K mg CH CP CR)) X NS a29 l29 c29 k29 (fun _ _ _ _ _ _ us hl => match us, hl with | [_, _], _ => rfl)
  have c_shortest_ring := p_c_shortest_ring (P := (PySem.Challenge.rw_hookhall_k05_whole_calls).prog) (w := w) (base := base) (G := (gx K mg CH CP CR)) D29 c_ring_from B
  have D30 : Df (gx K mg CH CP CR) "order_of" s_order_of ["hall", "names"] := df_mk (G := (gx K mg CH CP CR)) X NS a30 l30 c30 k30 (fun _ _ _ _ _ _ us hl => match us, hl with | [_, _], _ => rfl)
  have c_order_of := p_c_order_of (P := (PySem.Challenge.rw_hookhall_k05_whole_calls).prog) (w := w) (base := base) (G := (gx K mg CH CP CR)) D30 c_pairs_of c_laid c_shortest_ring B exF_Ring
  have D31 : MDf (gx K mg CH CP CR) true "at" "Hall.at" s_Hall_at ["self", "place"] 0 := mdf_mk (G := (gx K mg CH CP CR)) clH a31 i31 l31 c31 k31 (fun _ _ _ _ _ _ us hl => match us, hl with | [_, _], _ => rfl)
  have m_at := p_m_at (P := (PySem.Challenge.rw_hookhall_k05_whole_calls).prog) (w := w) (base := base) (G := (gx K mg CH CP CR)) D31 T exA_NoPlace
  have D32 : Df (gx K mg CH CP CR) "order" s_order ["hall", "place"] := df_mk (G := (gx K mg CH CP CR)) X NS a32 l32 c32 k32 (fun _ _ _ _ _ _ us hl => match us, hl with | [_, _], _ => rfl)
  have c_order := p_c_order (P := (PySem.Challenge.rw_hookhall_k05_whole_calls).prog) (w := w) (base := base) (G := (gx K mg CH CP CR)) D32 m_at c_order_of
  have D33 : IDf (gx K mg CH CP CR) CR "Run.__init__" s_Run_init ["self", "kind", "rule", "rows", "worth"] := idf_mk (G := (gx K mg CH CP CR)) mkR a33 i33 kcR l33 c33 k33 (fun _ _ _ _ _ _ us hl => match us, hl with | [_, _, _, _, _], _ => rfl)
  have mkR := p_mkR (P := (PySem.Challenge.rw_hookhall_k05_whole_calls).prog) (w := w) (base := base) (G := (gx K mg CH CP CR)) D33 TR
  have D34 : Df (gx K mg CH CP CR) "rows_of" s_rows_of ["hall", "names"] := df_mk (G := (gx K mg CH CP CR)) X NS a34 l34 c34 k34 (fun _ _ _ _ _ _ us hl => match us, hl with | [_, _], _ => rfl)
  have c_rows_of := p_c_rows_of (P := (PySem.Challenge.rw_hookhall_k05_whole_calls).prog) (w := w) (base := base) (G := (gx K mg CH CP CR)) D34 m_look T
  have D35 : Df (gx K mg CH CP CR) "begin" s_begin ["hall", "place", "number"] := df_mk (G := (gx K mg CH CP CR)) X NS a35 l35 c35 k35 (fun _ _ _ _ _ _ us hl => match us, hl with | [_, _, _], _ => rfl)
  have c_begin := p_c_begin (P := (PySem.Challenge.rw_hookhall_k05_whole_calls).prog) (w := w) (base := base) (G := (gx K mg CH CP CR)) D35 c_order mkR c_rows_of TR T
  have D36 : Df (gx K mg CH CP CR) "call" s_call ["hall", "place", "number"] := df_mk (G := (gx K mg CH CP CR)) X NS a36 l36 c36 k36 (fun _ _ _ _ _ _ us hl => match us, hl with | [_, _, _], _ => rfl)
  have c_call := p_c_call (P := (PySem.Challenge.rw_hookhall_k05_whole_calls).prog) (w := w) (base := base) (G := (gx K mg CH CP CR)) D36 c_begin c_finished
  have D37 : Df (gx K mg CH CP CR) "_law_told" s_l_told ["hall", "number"] := df_mk (G := (gx K mg CH CP CR)) X NS a37 l37 c37 k37 (fun _ _ _ _ _ _ us hl => match us, hl with | [_, _], _ => rfl)
  have c_l_told := p_c_l_told (P := (PySem.Challenge.rw_hookhall_k05_whole_calls).prog) (w := w) (base := base) (G := (gx K mg CH CP CR)) D37 c_call ex g_DeedFault xf_DeedFault g_Ring
  have D38 : Df (gx K mg CH CP CR) "_law_free" s_l_free ["name", "left", "pairs"] := df_mk (G := (gx K mg CH CP CR)) X NS a38 l38 c38 k38 (fun _ _ _ _ _ _ us hl => match us, hl with | [_, _, _], _ => rfl)
  have c_l_free := p_c_l_free (P := (PySem.Challenge.rw_hookhall_k05_whole_calls).prog) (w := w) (base := base) (G := (gx K mg CH CP CR)) D38 
  have D39 : Df (gx K mg CH CP CR) "_law_order" s_l_order ["names", "pairs"] := df_mk (G := (gx K mg CH CP CR)) X NS a39 l39 c39 k39 (fun _ _ _ _ _ _ us hl => match us, hl with | [_, _], _ => rfl)
  have c_l_order := p_c_l_order (P := (PySem.Challenge.rw_hookhall_k05_whole_calls).prog) (w := w) (base := base) (G := (gx K mg CH CP CR)) D39 c_l_free B
  have D40 : Df (gx K mg CH CP CR) "_law_whole" s_l_whole ["found"] := df_mk (G := (gx K mg CH CP CR)) X NS a40 l40 c40 k40 (fun _ _ _ _ _ _ us hl => match us, hl with | [_], _ => rfl)
  have c_l_whole := p_c_l_whole (P := (PySem.Challenge.rw_hookhall_k05_whole_calls).prog) (w := w) (base := base) (G := (gx K mg CH CP CR)) D40 B
  have D41 : Df (gx K mg CH CP CR) "_law_value" s_l_value ["found", "due"] := df_mk (G := (gx K mg CH CP CR)) X NS a41 l41 c41 k41 (fun _ _ _ _ _ _ us hl => match us, hl with | [_, _], _ => rfl)
  have c_l_value := p_c_l_value (P := (PySem.Challenge.rw_hookhall_k05_whole_calls).prog) (w := w) (base := base) (G := (gx K mg CH CP CR)) D41 c_l_whole
  have D42 : Df (gx K mg CH CP CR) "_law_pairs_alike" s_l_pairs_alike ["found", "due"] := df_mk (G := (gx K mg CH CP CR)) X NS a42 l42 c42 k42 (fun _ _ _ _ _ _ us hl => match us, hl with | [_, _], _ => rfl)
  have c_l_pairs_alike := p_c_l_pairs_alike (P := (PySem.Challenge.rw_hookhall_k05_whole_calls).prog) (w := w) (base := base) (G := (gx K mg CH CP CR)) D42 c_l_value B
  have D43 : Df (gx K mg CH CP CR) "_law_answer_right" s_l_answer_right ["found", "due"] := df_mk (G := (gx K mg CH CP CR)) X NS a43 l43 c43 k43 (fun _ _ _ _ _ _ us hl => match us, hl with | [_, _], _ => rfl)
  have c_l_answer_right := p_c_l_answer_right (P := (PySem.Challenge.rw_hookhall_k05_whole_calls).prog) (w := w) (base := base) (G := (gx K mg CH CP CR)) D43 c_l_pairs_alike c_l_value B
  have D44 : Df (gx K mg CH CP CR) "_law_right" s_l_right ["found", "due"] := df_mk (G := (gx K mg CH CP CR)) X NS a44 l44 c44 k44 (fun _ _ _ _ _ _ us hl => match us, hl with | [_, _], _ => rfl)
  have c_l_right := p_c_l_right (P := (PySem.Challenge.rw_hookhall_k05_whole_calls).prog) (w := w) (base := base) (G := (gx K mg CH CP CR)) D44 c_l_value c_l_answer_right c_l_pairs_alike B
  have D45 : Df (gx K mg CH CP CR) "_law_pairs" s_l_pairs ["pieces", "names"] := df_mk (G := (gx K mg CH CP CR)) X NS a45 l45 c45 k45 (fun _ _ _ _ _ _ us hl => match us, hl with | [_, _], _ => rfl)
  have c_l_pairs := p_c_l_pairs (P := (PySem.Challenge.rw_hookhall_k05_whole_calls).prog) (w := w) (base := base) (G := (gx K mg CH CP CR)) D45 
  have D46 : Df (gx K mg CH CP CR) "_law_round" s_l_round ["rows", "number", "held"] := df_mk (G := (gx K mg CH CP CR)) X NS a46 l46 c46 k46 (fun _ _ _ _ _ _ us hl => match us, hl with | [_, _, _], _ => rfl)
  have c_l_round := p_c_l_round (P := (PySem.Challenge.rw_hookhall_k05_whole_calls).prog) (w := w) (base := base) (G := (gx K mg CH CP CR)) D46 
  have D47 : Df (gx K mg CH CP CR) "_law_said" s_l_said ["deed", "number"] := df_mk (G := (gx K mg CH CP CR)) X NS a47 l47 c47 k47 (fun _ _ _ _ _ _ us hl => match us, hl with | [_, _], _ => rfl)
  have c_l_said := p_c_l_said (P := (PySem.Challenge.rw_hookhall_k05_whole_calls).prog) (w := w) (base := base) (G := (gx K mg CH CP CR)) D47 
  have D48 : Df (gx K mg CH CP CR) "_law_answer" s_l_answer ["kind", "rows", "number", "held"] := df_mk (G := (gx K mg CH CP CR)) X NS a48 l48 c48 k48 (fun _ _ _ _ _ _ us hl => match us, hl with | [_, _, _, _], _ => rfl)
  have c_l_answer := p_c_l_answer (P := (PySem.Challenge.rw_hookhall_k05_whole_calls).prog) (w := w) (base := base) (G := (gx K mg CH CP CR)) D48 c_l_round c_l_said
  have D49 : Df (gx K mg CH CP CR) "_law_outcome" s_l_outcome ["kind", "rule", "rows", "number"] := df_mk (G := (gx K mg CH CP CR)) X NS a49 l49 c49 k49 (fun _ _ _ _ _ _ us hl => match us, hl with | [_, _, _, _], _ => rfl)
  have c_l_outcome := p_c_l_outcome (P := (PySem.Challenge.rw_hookhall_k05_whole_calls).prog) (w := w) (base := base) (G := (gx K mg CH CP CR)) D49 c_l_answer
  exact fnok_as (p_c_law (G := (gx K mg CH CP CR)) (fun_mk l50 c50 k50) c_l_cell_at c_l_pieces c_l_hall c_l_at_hub c_l_told c_l_pairs c_l_order c_l_outcome c_l_right) (law_sp (G := (gx K mg CH CP CR)) e_law)
end Fw
open PySem PySem.W PyProof.Rows
set_option maxRecDepth 100000 in
set_option maxHeartbeats 0 in
theorem PySem.Challenge.cw_hookhall_k05_whole_calls_holds : PySem.Challenge.rw_hookhall_k05_whole_calls.Holds := by
  w_on; o_law; k_head; (case hw => w_witness2)
  k_fill
  refine L2.walk_of (l := PySem.Challenge.rw_hookhall_k05_whole_calls) (n := 63) (k := 27) (x := "script") (CX := fun w => L2.CX (PySem.Challenge.rw_hookhall_k05_whole_calls).prog w) (sp := fun w => Fw.spLaw _) rfl (by decide) rfl ⟨rfl, by decide, by decide⟩ (fun w h Y => PySem.W.kIn_of Y) ?F (fun _ _ a ns hl _ hS => ⟨a, ns, rfl, hS, hl, fun _ => rfl⟩) (fun _ _ _ _ _ z => by obtain ⟨_, _, _, _, _, _, _, _, _, _, _, _, z⟩ := z; exact z)
  case F =>
    intro w mg fa h KX NS hmg
    refine' Fw.all_mk KX NS hmg ?aH ?pgH ?hdH ?poH ?saH ?mkH ?kcH ?aP ?pgP ?hdP ?poP ?saP ?mkP ?kcP ?nHkinds ?nHrules ?nHhung ?nHoff ?nPname ?nPplace ?nPdeed ?nPby ?nPahead ?nPbehind ?nPneeds ?nPbars ?aR ?pgR ?hdR ?poR ?saR ?mkR ?kcR ?nRkind ?nRrule ?nRrows ?nRworth ?nRspot ?nRshut ?nRtorn ?nRtold ?nRbacks ?nRheld ?zlen ?zrange ?zisinstance ?zlist ?ztuple ?zstr ?zint ?zbool ?zsorted ?zreversed ?zset ?a0 ?l0 ?c0 ?k0 ?a1 ?l1 ?c1 ?k1 ?a2 ?l2 ?c2 ?k2 ?a3 ?l3 ?c3 ?k3 ?a4 ?l4 ?c4 ?k4 ?a5 ?i5 ?l5 ?c5 ?k5 ?a6 ?i6 ?l6 ?c6 ?k6 ?a7 ?i7 ?l7 ?c7 ?k7 ?a8 ?i8 ?l8 ?c8 ?k8 ?a9 ?i9 ?l9 ?c9 ?k9 ?a10 ?i10 ?l10 ?c10 ?k10 ?lT10 ?oT10 ?a11 ?i11 ?l11 ?c11 ?k11 ?a12 ?l12 ?c12 ?k12 ?a13 ?i13 ?l13 ?c13 ?k13 ?lT13 ?oT13 ?a14 ?i14 ?l14 ?c14 ?k14 ?a15 ?l15 ?c15 ?k15 ?a16 ?l16 ?c16 ?k16 ?a17 ?i17 ?l17 ?c17 ?k17 ?a18 ?l18 ?c18 ?k18 ?a19 ?i19 ?l19 ?c19 ?k19 ?a21 ?i21 ?l21 ?c21 ?k21 ?a22 ?i22 ?l22 ?c22 ?k22 ?a23 ?i23 ?l23 ?c23 ?k23 ?a24 ?l24 ?c24 ?k24 ?a25 ?l25 ?c25 ?k25 ?a26 ?l26 ?c26 ?k26 ?a28 ?l28 ?c28 ?k28 ?a29 ?l29 ?c29 ?k29 ?a30 ?l30 ?c30 ?k30 ?a31 ?i31 ?l31 ?c31 ?k31 ?a32 ?l32 ?c32 ?k32 ?a33 ?i33 ?l33 ?c33 ?k33 ?a34 ?l34 ?c34 ?k34 ?a35 ?l35 ?c35 ?k35 ?a36 ?l36 ?c36 ?k36 ?a37 ?l37 ?c37 ?k37 ?a38 ?l38 ?c38 ?k38 ?a39 ?l39 ?c39 ?k39 ?a40 ?l40 ?c40 ?k40 ?a41 ?l41 ?c41 ?k41 ?a42 ?l42 ?c42 ?k42 ?a43 ?l43 ?c43 ?k43 ?a44 ?l44 ?c44 ?k44 ?a45 ?l45 ?c45 ?k45 ?a46 ?l46 ?c46 ?k46 ?a47 ?l47 ?c47 ?k47 ?a48 ?l48 ?c48 ?k48 ?a49 ?l49 ?c49 ?k49 ?a50 ?l50 ?c50 ?k50 ?aEHallError ?aENameThere ?aENoPlace ?aENoPiece ?aETooMany ?aENoAnswer ?aERing ?aEDeedFault ?xL20 ?xR20 ?xS20 ?xN20piece ?xN20code ?a20 ?t20 ?l20 ?c20 ?k20 ?xL27 ?xR27 ?xS27 ?xN27ring ?a27 ?t27 ?l27 ?c27 ?k27 ?zEBarred ?xkHallError ?xsHallError ?xtHallError ?xcHallError ?xkNameThere ?xsNameThere ?xtNameThere ?xcNameThere ?xiNameThere ?xkNoPlace ?xsNoPlace ?xtNoPlace ?xcNoPlace ?xiNoPlace ?xkNoPiece ?xsNoPiece ?xtNoPiece ?xcNoPiece ?xiNoPiece ?xkTooMany ?xsTooMany ?xtTooMany ?xcTooMany ?xiTooMany ?xkNoAnswer ?xsNoAnswer ?xtNoAnswer ?xcNoAnswer ?xiNoAnswer ?xkRing ?xsRing ?xtRing ?xcRing ?xkDeedFault ?xsDeedFault ?xtDeedFault ?xcDeedFault ?ee_NameThere_HallError ?ee_NameThere_NameThere ?ee_NameThere_NoPlace ?ee_NameThere_NoPiece ?ee_NameThere_TooMany ?ee_NameThere_NoAnswer ?ee_NameThere_Ring ?ee_NameThere_DeedFault ?ee_NoPlace_HallError ?ee_NoPlace_NameThere ?ee_NoPlace_NoPlace ?ee_NoPlace_NoPiece ?ee_NoPlace_TooMany ?ee_NoPlace_NoAnswer ?ee_NoPlace_Ring ?ee_NoPlace_DeedFault ?ee_NoPiece_HallError ?ee_NoPiece_NameThere ?ee_NoPiece_NoPlace ?ee_NoPiece_NoPiece ?ee_NoPiece_TooMany ?ee_NoPiece_NoAnswer ?ee_NoPiece_Ring ?ee_NoPiece_DeedFault ?ee_TooMany_HallError ?ee_TooMany_NameThere ?ee_TooMany_NoPlace ?ee_TooMany_NoPiece ?ee_TooMany_TooMany ?ee_TooMany_NoAnswer ?ee_TooMany_Ring ?ee_TooMany_DeedFault ?ee_NoAnswer_HallError ?ee_NoAnswer_NameThere ?ee_NoAnswer_NoPlace ?ee_NoAnswer_NoPiece ?ee_NoAnswer_TooMany ?ee_NoAnswer_NoAnswer ?ee_NoAnswer_Ring ?ee_NoAnswer_DeedFault ?ee_Ring_HallError ?ee_Ring_NameThere ?ee_Ring_NoPlace ?ee_Ring_NoPiece ?ee_Ring_TooMany ?ee_Ring_NoAnswer ?ee_Ring_Ring ?ee_Ring_DeedFault ?ee_DeedFault_HallError ?ee_DeedFault_NameThere ?ee_DeedFault_NoPlace ?ee_DeedFault_NoPiece ?ee_DeedFault_TooMany ?ee_DeedFault_NoAnswer ?ee_DeedFault_Ring ?ee_DeedFault_DeedFault ?wgDeedFault ?wkDeedFault ?wdDeedFault ?vPLACES ?vPIECES
    (case aH => k_is)
    (case pgH => k_is)
    (case hdH => k_is)
    (case poH => k_is)
    (case saH => k_is)
    (case mkH => k_is)
    (case kcH => k_is)
    (case aP => k_is)
    (case pgP => k_is)
    (case hdP => k_is)
    (case poP => k_is)
    (case saP => k_is)
    (case mkP => k_is)
    (case kcP => k_is)
    (case nHkinds => k_is)
    (case nHrules => k_is)
    (case nHhung => k_is)
    (case nHoff => k_is)
    (case nPname => k_is)
    (case nPplace => k_is)
    (case nPdeed => k_is)
    (case nPby => k_is)
    (case nPahead => k_is)
    (case nPbehind => k_is)
    (case nPneeds => k_is)
    (case nPbars => k_is)
    (case aR => k_is)
    (case pgR => k_is)
    (case hdR => k_is)
    (case poR => k_is)
    (case saR => k_is)
    (case mkR => k_is)
    (case kcR => k_is)
    (case nRkind => k_is)
    (case nRrule => k_is)
    (case nRrows => k_is)
    (case nRworth => k_is)
    (case nRspot => k_is)
    (case nRshut => k_is)
    (case nRtorn => k_is)
    (case nRtold => k_is)
    (case nRbacks => k_is)
    (case nRheld => k_is)
    (case zlen => k_is)
    (case zrange => k_is)
    (case zisinstance => k_is)
    (case zlist => k_is)
    (case ztuple => k_is)
    (case zstr => k_is)
    (case zint => k_is)
    (case zbool => k_is)
    (case zsorted => k_is)
    (case zreversed => k_is)
    (case zset => k_is)
    (case a0 => k_is)
    (case l0 => k_is)
    (case c0 => k_is)
    (case k0 => k_is)
    (case a1 => k_is)
    (case l1 => k_is)
    (case c1 => k_is)
    (case k1 => k_is)
    (case a2 => k_is)
    (case l2 => k_is)
    (case c2 => k_is)
    (case k2 => k_is)
    (case a3 => k_is)
    (case l3 => k_is)
    (case c3 => k_is)
    (case k3 => k_is)
    (case a4 => k_is)
    (case l4 => k_is)
    (case c4 => k_is)
    (case k4 => k_is)
    (case a5 => k_is)
    (case i5 => k_is)
    (case l5 => k_is)
    (case c5 => k_is)
    (case k5 => k_is)
    (case a6 => k_is)
    (case i6 => k_is)
    (case l6 => k_is)
    (case c6 => k_is)
    (case k6 => k_is)
    (case a7 => k_is)
    (case i7 => k_is)
    (case l7 => k_is)
    (case c7 => k_is)
    (case k7 => k_is)
    (case a8 => k_is)
    (case i8 => k_is)
    (case l8 => k_is)
    (case c8 => k_is)
    (case k8 => k_is)
    (case a9 => k_is)
    (case i9 => k_is)
    (case l9 => k_is)
    (case c9 => k_is)
    (case k9 => k_is)
    (case a10 => k_is)
    (case i10 => k_is)
    (case l10 => k_is)
    (case c10 => k_is)
    (case k10 => k_is)
    (case lT10 => k_is)
    (case oT10 => first | rfl | k_is)
    (case a11 => k_is)
    (case i11 => k_is)
    (case l11 => k_is)
    (case c11 => k_is)
    (case k11 => k_is)
    (case a12 => k_is)
    (case l12 => k_is)
    (case c12 => k_is)
    (case k12 => k_is)
    (case a13 => k_is)
    (case i13 => k_is)
    (case l13 => k_is)
    (case c13 => k_is)
    (case k13 => k_is)
    (case lT13 => k_is)
    (case oT13 => first | rfl | k_is)
    (case a14 => k_is)
    (case i14 => k_is)
    (case l14 => k_is)
    (case c14 => k_is)
    (case k14 => k_is)
    (case a15 => k_is)
    (case l15 => k_is)
    (case c15 => k_is)
    (case k15 => k_is)
    (case a16 => k_is)
    (case l16 => k_is)
    (case c16 => k_is)
    (case k16 => k_is)
    (case a17 => k_is)
    (case i17 => k_is)
    (case l17 => k_is)
    (case c17 => k_is)
    (case k17 => k_is)
    (case a18 => k_is)
    (case l18 => k_is)
    (case c18 => k_is)
    (case k18 => k_is)
    (case a19 => k_is)
    (case i19 => k_is)
    (case l19 => k_is)
    (case c19 => k_is)
    (case k19 => k_is)
    (case a21 => k_is)
    (case i21 => k_is)
    (case l21 => k_is)
    (case c21 => k_is)
    (case k21 => k_is)
    (case a22 => k_is)
    (case i22 => k_is)
    (case l22 => k_is)
    (case c22 => k_is)
    (case k22 => k_is)
    (case a23 => k_is)
    (case i23 => k_is)
    (case l23 => k_is)
    (case c23 => k_is)
    (case k23 => k_is)
    (case a24 => k_is)
    (case l24 => k_is)
    (case c24 => k_is)
    (case k24 => k_is)
    (case a25 => k_is)
    (case l25 => k_is)
    (case c25 => k_is)
    (case k25 => k_is)
    (case a26 => k_is)
    (case l26 => k_is)
    (case c26 => k_is)
    (case k26 => k_is)
    (case a28 => k_is)
    (case l28 => k_is)
    (case c28 => k_is)
    (case k28 => k_is)
    (case a29 => k_is)
    (case l29 => k_is)
    (case c29 => k_is)
    (case k29 => k_is)
    (case a30 => k_is)
    (case l30 => k_is)
    (case c30 => k_is)
    (case k30 => k_is)
    (case a31 => k_is)
    (case i31 => k_is)
    (case l31 => k_is)
    (case c31 => k_is)
    (case k31 => k_is)
    (case a32 => k_is)
    (case l32 => k_is)
    (case c32 => k_is)
    (case k32 => k_is)
    (case a33 => k_is)
    (case i33 => k_is)
    (case l33 => k_is)
    (case c33 => k_is)
    (case k33 => k_is)
    (case a34 => k_is)
    (case l34 => k_is)
    (case c34 => k_is)
    (case k34 => k_is)
    (case a35 => k_is)
    (case l35 => k_is)
    (case c35 => k_is)
    (case k35 => k_is)
    (case a36 => k_is)
    (case l36 => k_is)
    (case c36 => k_is)
    (case k36 => k_is)
    (case a37 => k_is)
    (case l37 => k_is)
    (case c37 => k_is)
    (case k37 => k_is)
    (case a38 => k_is)
    (case l38 => k_is)
    (case c38 => k_is)
    (case k38 => k_is)
    (case a39 => k_is)
    (case l39 => k_is)
    (case c39 => k_is)
    (case k39 => k_is)
    (case a40 => k_is)
    (case l40 => k_is)
    (case c40 => k_is)
    (case k40 => k_is)
    (case a41 => k_is)
    (case l41 => k_is)
    (case c41 => k_is)
    (case k41 => k_is)
    (case a42 => k_is)
    (case l42 => k_is)
    (case c42 => k_is)
    (case k42 => k_is)
    (case a43 => k_is)
    (case l43 => k_is)
    (case c43 => k_is)
    (case k43 => k_is)
    (case a44 => k_is)
    (case l44 => k_is)
    (case c44 => k_is)
    (case k44 => k_is)
    (case a45 => k_is)
    (case l45 => k_is)
    (case c45 => k_is)
    (case k45 => k_is)
    (case a46 => k_is)
    (case l46 => k_is)
    (case c46 => k_is)
    (case k46 => k_is)
    (case a47 => k_is)
    (case l47 => k_is)
    (case c47 => k_is)
    (case k47 => k_is)
    (case a48 => k_is)
    (case l48 => k_is)
    (case c48 => k_is)
    (case k48 => k_is)
    (case a49 => k_is)
    (case l49 => k_is)
    (case c49 => k_is)
    (case k49 => k_is)
    (case a50 => k_is)
    (case l50 => k_is)
    (case c50 => k_is)
    (case k50 => k_is)
    (case aEHallError => k_is)
    (case aENameThere => k_is)
    (case aENoPlace => k_is)
    (case aENoPiece => k_is)
    (case aETooMany => k_is)
    (case aENoAnswer => k_is)
    (case aERing => k_is)
    (case aEDeedFault => k_is)
    (case xL20 => k_is)
    (case xR20 => first | rfl | decide +kernel)
    (case xS20 => k_is)
    (case xN20piece => k_is)
    (case xN20code => k_is)
    (case a20 => k_is)
    (case t20 => k_is)
    (case l20 => k_is)
    (case c20 => k_is)
    (case k20 => k_is)
    (case xL27 => k_is)
    (case xR27 => first | rfl | decide +kernel)
    (case xS27 => k_is)
    (case xN27ring => k_is)
    (case a27 => k_is)
    (case t27 => k_is)
    (case l27 => k_is)
    (case c27 => k_is)
    (case k27 => k_is)
    (case zEBarred => k_is)
    (case xkHallError => k_is)
    (case xsHallError => k_is)
    (case xtHallError => k_is)
    (case xcHallError => k_is)
    (case xkNameThere => k_is)
    (case xsNameThere => k_is)
    (case xtNameThere => k_is)
    (case xcNameThere => k_is)
    (case xiNameThere => k_exc)
    (case xkNoPlace => k_is)
    (case xsNoPlace => k_is)
    (case xtNoPlace => k_is)
    (case xcNoPlace => k_is)
    (case xiNoPlace => k_exc)
    (case xkNoPiece => k_is)
    (case xsNoPiece => k_is)
    (case xtNoPiece => k_is)
    (case xcNoPiece => k_is)
    (case xiNoPiece => k_exc)
    (case xkTooMany => k_is)
    (case xsTooMany => k_is)
    (case xtTooMany => k_is)
    (case xcTooMany => k_is)
    (case xiTooMany => k_exc)
    (case xkNoAnswer => k_is)
    (case xsNoAnswer => k_is)
    (case xtNoAnswer => k_is)
    (case xcNoAnswer => k_is)
    (case xiNoAnswer => k_exc)
    (case xkRing => k_is)
    (case xsRing => k_is)
    (case xtRing => k_is)
    (case xcRing => k_is)
    (case xkDeedFault => k_is)
    (case xsDeedFault => k_is)
    (case xtDeedFault => k_is)
    (case xcDeedFault => k_is)
    (case ee_NameThere_HallError => first | rfl | k_is)
    (case ee_NameThere_NameThere => first | rfl | k_is)
    (case ee_NameThere_NoPlace => first | rfl | k_is)
    (case ee_NameThere_NoPiece => first | rfl | k_is)
    (case ee_NameThere_TooMany => first | rfl | k_is)
    (case ee_NameThere_NoAnswer => first | rfl | k_is)
    (case ee_NameThere_Ring => first | rfl | k_is)
    (case ee_NameThere_DeedFault => first | rfl | k_is)
    (case ee_NoPlace_HallError => first | rfl | k_is)
    (case ee_NoPlace_NameThere => first | rfl | k_is)
    (case ee_NoPlace_NoPlace => first | rfl | k_is)
    (case ee_NoPlace_NoPiece => first | rfl | k_is)
    (case ee_NoPlace_TooMany => first | rfl | k_is)
    (case ee_NoPlace_NoAnswer => first | rfl | k_is)
    (case ee_NoPlace_Ring => first | rfl | k_is)
    (case ee_NoPlace_DeedFault => first | rfl | k_is)
    (case ee_NoPiece_HallError => first | rfl | k_is)
    (case ee_NoPiece_NameThere => first | rfl | k_is)
    (case ee_NoPiece_NoPlace => first | rfl | k_is)
    (case ee_NoPiece_NoPiece => first | rfl | k_is)
    (case ee_NoPiece_TooMany => first | rfl | k_is)
    (case ee_NoPiece_NoAnswer => first | rfl | k_is)
    (case ee_NoPiece_Ring => first | rfl | k_is)
    (case ee_NoPiece_DeedFault => first | rfl | k_is)
    (case ee_TooMany_HallError => first | rfl | k_is)
    (case ee_TooMany_NameThere => first | rfl | k_is)
    (case ee_TooMany_NoPlace => first | rfl | k_is)
    (case ee_TooMany_NoPiece => first | rfl | k_is)
    (case ee_TooMany_TooMany => first | rfl | k_is)
    (case ee_TooMany_NoAnswer => first | rfl | k_is)
    (case ee_TooMany_Ring => first | rfl | k_is)
    (case ee_TooMany_DeedFault => first | rfl | k_is)
    (case ee_NoAnswer_HallError => first | rfl | k_is)
    (case ee_NoAnswer_NameThere => first | rfl | k_is)
    (case ee_NoAnswer_NoPlace => first | rfl | k_is)
    (case ee_NoAnswer_NoPiece => first | rfl | k_is)
    (case ee_NoAnswer_TooMany => first | rfl | k_is)
    (case ee_NoAnswer_NoAnswer => first | rfl | k_is)
    (case ee_NoAnswer_Ring => first | rfl | k_is)
    (case ee_NoAnswer_DeedFault => first | rfl | k_is)
    (case ee_Ring_HallError => first | rfl | k_is)
    (case ee_Ring_NameThere => first | rfl | k_is)
    (case ee_Ring_NoPlace => first | rfl | k_is)
    (case ee_Ring_NoPiece => first | rfl | k_is)
    (case ee_Ring_TooMany => first | rfl | k_is)
    (case ee_Ring_NoAnswer => first | rfl | k_is)
    (case ee_Ring_Ring => first | rfl | k_is)
    (case ee_Ring_DeedFault => first | rfl | k_is)
    (case ee_DeedFault_HallError => first | rfl | k_is)
    (case ee_DeedFault_NameThere => first | rfl | k_is)
    (case ee_DeedFault_NoPlace => first | rfl | k_is)
    (case ee_DeedFault_NoPiece => first | rfl | k_is)
    (case ee_DeedFault_TooMany => first | rfl | k_is)
    (case ee_DeedFault_NoAnswer => first | rfl | k_is)
    (case ee_DeedFault_Ring => first | rfl | k_is)
    (case ee_DeedFault_DeedFault => first | rfl | k_is)
    (case wgDeedFault => first | rfl | k_is | decide +kernel)
    (case wkDeedFault => first | rfl | k_is | decide +kernel)
    (case wdDeedFault => first | rfl | k_is | decide +kernel)
    (case vPLACES => k_is)
    (case vPIECES => k_is)
