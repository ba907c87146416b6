import PyProof.Rows.All
import Wide.All
import OpenK.AllK
import Wide.FinOn
import HandS.Lambda
import HandS.ForMost
import HandS.ForExc
import HandS.Walk
import HandS.TupAny
import HandS.Wide
import HandS.Conv
import HandS.Zip
import HandS.Style
import HandS.Deep
import HandS.TupLe
import HandS.IsInst
import KE.GoesEnum
import HandS.TupMul
import HandS.TryOnly
import HandS.ExcIs
import HandS.ExcOwn
import HandS.WordsExc
import HandS.NoneIn
import PyProof.ListMulRight
import HandS.Text
import HandS.WordsDict
import HandS.SortInts
import KE.KEqDict
import PyProof.NeKinds
import HandS.Strs
import HandS.ReCall
import HandS.EndTab
import KE.KTupSum
import KE.GoesRaise
import KE.KAsSuite
import PySem.Challenge.RW_echoyard_k09_lists_anywhere
set_option Elab.async false
set_option linter.all false
set_option maxRecDepth 100000
set_option maxHeartbeats 4000000
/-! A small layer over the hand layer: each expression, each statement has a meaning as a plain function of data. -/
namespace DL
open PySem L2

abbrev P := PyData

/-! ### answers -/
inductive Res (α : Type) where
  | ok (a : α)
  | exc (n : Str)
  | stuck
namespace Res
def bind {α β : Type} (r : Res α) (k : α → Res β) : Res β := match r with
  | .ok a => k a
  | .exc n => .exc n
  | .stuck => .stuck
@[simp] theorem bind_ok {α β : Type} (a : α) (k : α → Res β) : (Res.ok a).bind k = k a := rfl
@[simp] theorem bind_exc {α β : Type} (n : Str) (k : α → Res β) : (Res.exc n).bind k = .exc n := rfl
@[simp] theorem bind_stuck {α β : Type} (k : α → Res β) : (Res.stuck).bind k = .stuck := rfl
/-- an exception is not wanted here -/
def mute {α : Type} (r : Res α) : Res α := match r with
  | .ok a => .ok a
  | _ => .stuck
@[simp] theorem mute_ok {α : Type} (a : α) : (Res.ok a).mute = .ok a := rfl
end Res

/-! ### data in the heap -/
/-- the tables of code objects that matter, and the name that their code objects bear -/
class LTab where
  tabs : List (Addr × Str)
variable [LTab]
/-- a table of code objects: it may grow -/
def isTb : HO → Bool
  | .tbl _ => true
  | _ => false
structure Ex (H H' : Hp) : Prop where
  k : ∀ (a : Addr) (o : HO), H a = some o → (hn : isTb o = false := by rfl) → H' a = some o
  tb : ∀ (P : Addr) (q : Str), (P, q) ∈ LTab.tabs → LamX.TabS H P q → LamX.TabS H' P q
  so : ∀ (a : Addr) (o : HO), H a = some o → H' a ≠ none
theorem Ex.refl (H : Hp) : Ex H H := ⟨fun _ _ z _ => z, fun _ _ _ z => z, fun _ _ z => by rw [z]; nofun⟩
theorem Ex.trans {H H1 H2 : Hp} (a : Ex H H1) (b : Ex H1 H2) : Ex H H2 := ⟨fun _ _ z n => b.k _ _ (a.k _ _ z n) n, fun P q hm z => b.tb P q hm (a.tb P q hm z), fun p o z => by
  cases h : H1 p with
  | none => exact absurd h (a.so _ _ z)
  | some o1 => exact b.so _ _ h⟩
theorem Ex.of {H H' : Hp} (e : ∀ (a : Addr) (o : HO), H a = some o → H' a = some o) : Ex H H' := ⟨fun a o z _ => e a o z, fun _ _ _ z => LamX.TabS.ext z e, fun a o z => by rw [e a o z]; nofun⟩
theorem Ex.new {H : Hp} {p : Addr} {o : HO} (h : H p = none) : Ex H (upd H p o) := .of fun a u e => by
  rw [upd_ne (ne_of_none e h)]
  exact e
/-- no code object -/
def noCode (H : Hp) (p : Addr) : Prop := ∀ q, H p ≠ some (LamX.CodeO p q)
theorem Ex.mut {H H' : Hp} {p : Addr} {o : HO} (e : Ex H H') (h : H p = none) (hc : noCode H' p) : Ex H (upd H' p o) := by
  refine ⟨fun a u ha n => ?_, fun P q hm z => ?_, fun a u ha => ?_⟩
  · rw [upd_ne (ne_of_none ha h)]
    exact e.k a u ha n
  · obtain ⟨ps, h1, h2, h3⟩ := e.tb P q hm z
    obtain ⟨ps0, z1, _, _⟩ := z
    refine ⟨ps, by rw [upd_ne (ne_of_none z1 h)]; exact h1, h2, fun pos cv hcv => ?_⟩
    obtain ⟨c, c1, c2⟩ := h3 pos cv hcv
    refine ⟨c, c1, ?_⟩
    rw [upd_ne fun ec => hc q (by rw [← ec]; exact c2)]
    exact c2
  · rw [upd_ne (ne_of_none ha h)]
    exact e.so a u ha
/-- what is no code object stands at one place of both -/
theorem Ex.both {H H' : Hp} {p : Addr} {o : HO} (e : Ex H H') (h : H' p = none) (ho : ∀ φ, o ≠ .ext φ := by nofun) : Ex (upd H p o) (upd H' p o) := by
  have hc : ∀ {P : Addr} {q : Str}, (P, q) ∈ LTab.tabs → LamX.TabS (upd H p o) P q → LamX.TabS (upd H' p o) P q := fun {P q} hm z => by
    obtain ⟨ps, z1, z2, z3⟩ := z
    have code : ∀ (pos : Pos) (cv : Value), codeAmong pos ps.toList = some cv → ∃ c, cv = .ref c ∧ c ≠ p ∧ H c = some (LamX.CodeO c q) := fun pos cv hcv => by
      obtain ⟨c, c1, c2⟩ := z3 pos cv hcv
      have ne : c ≠ p := fun ec => by
        rw [ec, upd_same] at c2
        exact ho _ (Option.some.inj c2)
      rw [upd_ne ne] at c2
      exact ⟨c, c1, ne, c2⟩
    by_cases hP : P = p
    · subst hP
      rw [upd_same] at z1
      refine ⟨ps, by rw [upd_same]; exact z1, z2, fun pos cv hcv => ?_⟩
      obtain ⟨c, c1, ne, c2⟩ := code pos cv hcv
      exact ⟨c, c1, by rw [upd_ne ne]; exact e.k _ _ c2⟩
    · rw [upd_ne hP] at z1
      obtain ⟨ps', y1, y2, y3⟩ := e.tb P q hm ⟨ps, z1, z2, fun pos cv hcv => let ⟨c, c1, _, c2⟩ := code pos cv hcv; ⟨c, c1, c2⟩⟩
      refine ⟨ps', by rw [upd_ne hP]; exact y1, y2, fun pos cv hcv => ?_⟩
      obtain ⟨c, c1, c2⟩ := y3 pos cv hcv
      refine ⟨c, c1, ?_⟩
      rw [upd_ne (ne_of_none c2 h)]
      exact c2
  refine ⟨fun a u ha n => ?_, fun P q hm z => hc hm z, fun a u ha => ?_⟩
  · by_cases q : a = p
    · subst q
      rw [upd_same] at ha ⊢
      exact ha
    · rw [upd_ne q] at ha ⊢
      exact e.k a u ha n
  · by_cases q : a = p
    · subst q
      rw [upd_same]
      nofun
    · rw [upd_ne q] at ha ⊢
      exact e.so a u ha
/-- what stands there is taken for one that never changes -/
theorem Ex.put {F H : Hp} {p : Addr} {o : HO} (c : Ex F H) (h' : H p = some o) (ho : ∀ φ, o ≠ .ext φ := by nofun) : Ex (upd F p o) H := by
  refine ⟨fun a u e n => ?_, fun P q hm z => ?_, fun a u e => ?_⟩
  · by_cases q : a = p
    · subst q
      rw [upd_same] at e
      cases e
      exact h'
    · rw [upd_ne q] at e
      exact c.k a u e n
  · obtain ⟨ps, z1, z2, z3⟩ := z
    have code : ∀ (pos : Pos) (cv : Value), codeAmong pos ps.toList = some cv → ∃ c, cv = .ref c ∧ F c = some (LamX.CodeO c q) := fun pos cv hcv => by
      obtain ⟨c, c1, c2⟩ := z3 pos cv hcv
      have ne : c ≠ p := fun ec => by
        rw [ec, upd_same] at c2
        exact ho _ (Option.some.inj c2)
      rw [upd_ne ne] at c2
      exact ⟨c, c1, c2⟩
    by_cases hP : P = p
    · subst hP
      rw [upd_same] at z1
      rw [Option.some.inj z1] at h'
      exact ⟨ps, h', z2, fun pos cv hcv => let ⟨c', c1, c2⟩ := code pos cv hcv; ⟨c', c1, c.k _ _ c2⟩⟩
    · rw [upd_ne hP] at z1
      exact c.tb P q hm ⟨ps, z1, z2, code⟩
  · by_cases q : a = p
    · subst q
      rw [h']
      nofun
    · rw [upd_ne q] at e
      exact c.so a u e
theorem noCode.none {H : Hp} {p : Addr} (h : H p = none) : noCode H p := fun q z => by rw [h] at z; cases z
theorem noCode.of {H : Hp} {p : Addr} {o : HO} (h : H p = some o) (n : ∀ φ, o ≠ .ext φ) : noCode H p := fun q z => by
  rw [h] at z
  exact n _ (Option.some.inj z)
theorem Ex.none {H H' : Hp} (e : Ex H H') {p : Addr} (h : H' p = none) : H p = none := by
  cases h1 : H p with
  | none => rfl
  | some o => exact absurd h (e.so p o h1)
theorem Ex.rd {H H' : Hp} {a : Addr} {u : HO} (e : Ex H H') (h : Rd H a u) (n : isTb u = false := by rfl) : Rd H' a u := by
  rcases h with h | ⟨o, h⟩
  · exact .inl (e.k a _ h n)
  · exact .inr ⟨o, e.k a _ h rfl⟩
theorem Ex.sqL {K : PySem.W.Frag} {H H' : Hp} {a : Addr} {xs : List V} (e : Ex H H') (h : SqL K H a xs) : SqL K H' a xs := by
  rcases h with h | h
  · exact .inl (e.rd h)
  · exact .inr h
theorem Ex.sqT {K : PySem.W.Frag} {H H' : Hp} {a : Addr} {xs : List V} (e : Ex H H') (h : SqT K H a xs) : SqT K H' a xs := by
  rcases h with h | h
  · exact .inl (e.rd h)
  · exact .inr h

mutual
/-- v stands for the data d, by the objects of F alone (F: what never changes). The script is .dict [(.none, its list)] -/
inductive Rp (K : PySem.W.Frag) (F : Hp) : V → P → Prop
  | non : Rp K F .non .none
  | bl (b : Bool) : Rp K F (.bl b) (.bool b)
  | int (i : Int) : Rp K F (.int i) (.int i)
  | str (x : Str) : Rp K F (.str x) (.str x)
  | lst {a : Addr} {xs : List V} {ds : List P} : F a = some (.lst xs) → RpAll K F xs ds → Rp K F (.ref a) (.list ds)
  | tup {a : Addr} {xs : List V} {ds : List P} : SqT K F a xs → RpAll K F xs ds → Rp K F (.ref a) (.tuple ds)
  | scr {a : Addr} {ns : List Int} : SqL K F a (ns.map V.int) → Rp K F (.ref a) (.dict [(.none, .list (ns.map PyData.int))])
  | emp {a : Addr} : F a = some (.dK []) → Rp K F (.ref a) (.dict [])
inductive RpAll (K : PySem.W.Frag) (F : Hp) : List V → List P → Prop
  | nil : RpAll K F [] []
  | cons {v : V} {vs : List V} {d : P} {ds : List P} : Rp K F v d → RpAll K F vs ds → RpAll K F (v :: vs) (d :: ds)
end
section
variable {K : PySem.W.Frag} {F F' : Hp}
mutual
theorem Rp.mono (e : Ex F F') : ∀ (d : P) (v : V), Rp K F v d → Rp K F' v d
  | .none, _, h => by cases h; exact .non
  | .bool b, _, h => by cases h; exact .bl b
  | .int i, _, h => by cases h; exact .int i
  | .str x, _, h => by cases h; exact .str x
  | .list ds, _, h => by
    cases h with
    | lst h1 h2 => exact .lst (e.k _ _ h1) (RpAll.mono e ds _ h2)
  | .tuple ds, _, h => by
    cases h with
    | tup h1 h2 => exact .tup (e.sqT h1) (RpAll.mono e ds _ h2)
  | .dict kvs, _, h => by
    cases h with
    | scr h1 => exact .scr (e.sqL h1)
    | emp h1 => exact .emp (e.k _ _ h1)
theorem RpAll.mono (e : Ex F F') : ∀ (ds : List P) (vs : List V), RpAll K F vs ds → RpAll K F' vs ds
  | [], _, h => by cases h; exact .nil
  | d :: ds, _, h => by
    cases h with
    | cons h1 h2 => exact .cons (Rp.mono e d _ h1) (RpAll.mono e ds _ h2)
end
theorem Rp.up {v : V} {d : P} (h : Rp K F v d) (e : Ex F F') : Rp K F' v d := Rp.mono e d v h
theorem RpAll.up {vs : List V} {ds : List P} (h : RpAll K F vs ds) (e : Ex F F') : RpAll K F' vs ds := RpAll.mono e ds vs h
theorem RpAll.len : ∀ {vs : List V} {ds : List P}, RpAll K F vs ds → vs.length = ds.length
  | _, _, .nil => rfl
  | _, _, .cons _ h => by rw [List.length_cons, List.length_cons, RpAll.len h]
theorem RpAll.get : ∀ {vs : List V} {ds : List P} {i : Nat} {d : P}, RpAll K F vs ds → ds[i]? = some d → ∃ v, vs[i]? = some v ∧ Rp K F v d
  | _, _, _, _, .nil, h => by simp at h
  | _, _, 0, _, .cons h _, e => by
    simp at e
    subst e
    exact ⟨_, rfl, h⟩
  | _, _, i + 1, d, .cons _ h, e => by
    obtain ⟨v, h1, h2⟩ := RpAll.get (i := i) (d := d) h (by simpa using e)
    exact ⟨v, by simpa using h1, h2⟩
theorem RpAll.getV : ∀ {vs : List V} {ds : List P} {i : Nat} {v : V}, RpAll K F vs ds → vs[i]? = some v → ∃ d, ds[i]? = some d ∧ Rp K F v d
  | _, _, _, _, .nil, h => by simp at h
  | _, _, 0, _, .cons h _, e => by
    simp at e
    subst e
    exact ⟨_, rfl, h⟩
  | _, _, i + 1, d, .cons _ h, e => by
    obtain ⟨v, h1, h2⟩ := RpAll.getV (i := i) (v := d) h (by simpa using e)
    exact ⟨v, by simpa using h1, h2⟩
theorem RpAll.app : ∀ {vs ws : List V} {ds es : List P}, RpAll K F vs ds → RpAll K F ws es → RpAll K F (vs ++ ws) (ds ++ es)
  | _, _, _, _, .nil, h => h
  | _, _, _, _, .cons h1 h2, h => .cons h1 (RpAll.app h2 h)
theorem RpAll.take : ∀ {vs : List V} {ds : List P} (n : Nat), RpAll K F vs ds → RpAll K F (vs.take n) (ds.take n)
  | _, _, 0, _ => .nil
  | _, _, _ + 1, .nil => .nil
  | _, _, n + 1, .cons r t => .cons r (RpAll.take n t)
theorem RpAll.drop : ∀ {vs : List V} {ds : List P} (n : Nat), RpAll K F vs ds → RpAll K F (vs.drop n) (ds.drop n)
  | _, _, 0, r => r
  | _, _, _ + 1, .nil => .nil
  | _, _, n + 1, .cons _ t => RpAll.drop n t
theorem RpAll.set : ∀ {vs : List V} {ds : List P} {v : V} {d : P} (i : Nat), RpAll K F vs ds → Rp K F v d → RpAll K F (vs.set i v) (ds.set i d)
  | _, _, _, _, _, .nil, _ => .nil
  | _, _, _, _, 0, .cons _ t, h => .cons h t
  | _, _, _, _, i + 1, .cons r t, h => .cons r (RpAll.set i t h)
theorem RpAll.rep {vs : List V} {ds : List P} (h : RpAll K F vs ds) : ∀ k : Nat, RpAll K F (List.replicate k vs).flatten (List.replicate k ds).flatten
  | 0 => .nil
  | k + 1 => by
    simp only [List.replicate_succ, List.flatten_cons]
    exact h.app (RpAll.rep h k)
theorem RpAll.dropLast {vs : List V} {ds : List P} (h : RpAll K F vs ds) : RpAll K F vs.dropLast ds.dropLast := by
  rw [List.dropLast_eq_take, List.dropLast_eq_take, h.len]
  exact h.take _
theorem RpAll.rev {vs : List V} {ds : List P} (h : RpAll K F vs ds) : RpAll K F vs.reverse ds.reverse := by
  have go : ∀ {vs : List V} {ds : List P}, RpAll K F vs ds → ∀ {ws : List V} {es : List P}, RpAll K F ws es → RpAll K F (vs.reverseAux ws) (ds.reverseAux es) := by
    intro vs
    induction vs with
    | nil => intro ds h ws es h2; cases h; exact h2
    | cons v vs ih =>
      intro ds h ws es h2
      cases h with
      | cons h1 h3 => exact ih h3 (.cons h1 h2)
  exact go h .nil
/-- ints -/
theorem RpAll.ints : ∀ {vs : List V} {ns : List Int}, RpAll K F vs (ns.map PyData.int) → vs = ns.map V.int
  | [], [], _ => rfl
  | _ :: _, [], h => by cases h
  | [], _ :: _, h => by cases h
  | v :: vs, n :: ns, h => by
    cases h with
    | cons h1 h2 =>
      cases h1
      rw [RpAll.ints h2]
      rfl
theorem RpAll.of_ints : ∀ (ns : List Int), RpAll K F (ns.map V.int) (ns.map PyData.int)
  | [] => .nil
  | n :: ns => .cons (.int n) (RpAll.of_ints ns)
theorem RpAll.bools : ∀ {vs : List V} {ns : List Bool}, RpAll K F vs (ns.map PyData.bool) → vs = ns.map V.bl
  | [], [], _ => rfl
  | _ :: _, [], h => by cases h
  | [], _ :: _, h => by cases h
  | v :: vs, n :: ns, h => by
    cases h with
    | cons h1 h2 =>
      cases h1
      rw [RpAll.bools h2]
      rfl
theorem RpAll.strs : ∀ {vs : List V} {ns : List Str}, RpAll K F vs (ns.map PyData.str) → vs = ns.map V.str
  | [], [], _ => rfl
  | _ :: _, [], h => by cases h
  | [], _ :: _, h => by cases h
  | v :: vs, n :: ns, h => by
    cases h with
    | cons h1 h2 =>
      cases h1
      rw [RpAll.strs h2]
      rfl
theorem RpAll.of_strs : ∀ (ns : List Str), RpAll K F (ns.map V.str) (ns.map PyData.str)
  | [] => .nil
  | n :: ns => .cons (.str n) (RpAll.of_strs ns)

/-- a list that is read but may change later: its items stand in F, itself in H -/
def RpB (K : PySem.W.Frag) (F H : Hp) (v : V) (d : P) : Prop := Rp K F v d ∨ ∃ p vs ds, v = .ref p ∧ d = .list ds ∧ H p = some (.lst vs) ∧ RpAll K F vs ds
theorem RpB.lst {H : Hp} {v : V} {ds : List P} (e : Ex F H) (h : RpB K F H v (.list ds)) : ∃ p vs, v = .ref p ∧ H p = some (.lst vs) ∧ RpAll K F vs ds := by
  rcases h with h | ⟨p, vs, ds', h1, h2, h3, h4⟩
  · cases h with
    | lst h1 h2 => exact ⟨_, _, rfl, e.k _ _ h1, h2⟩
  · cases h2
    exact ⟨p, vs, h1, h3, h4⟩
theorem RpB.rp {H : Hp} {v : V} {d : P} (h : RpB K F H v d) (hd : ∀ ds, d ≠ .list ds) : Rp K F v d := by
  rcases h with h | ⟨p, vs, ds', h1, h2, h3, h4⟩
  · exact h
  · exact absurd h2 (hd _)
theorem RpB.tup {H : Hp} {v : V} {ds : List P} (h : RpB K F H v (.tuple ds)) : ∃ p vs, v = .ref p ∧ SqT K F p vs ∧ RpAll K F vs ds := by
  have := h.rp (fun _ => nofun)
  cases this with
  | tup h1 h2 => exact ⟨_, _, rfl, h1, h2⟩
end

/-! ### how heaps grow: F what never changes, H all -/
structure Ext (F H F' H' : Hp) : Prop where
  f : Ex F F'
  h : Ex H H'
  c : Ex F' H'
  n : ∀ p, F p = none → H p ≠ none → F' p = none
theorem Ext.refl {F H : Hp} (c : Ex F H) : Ext F H F H := ⟨.refl F, .refl H, c, fun _ h _ => h⟩
theorem Ext.trans {F H F1 H1 F2 H2 : Hp} (a : Ext F H F1 H1) (b : Ext F1 H1 F2 H2) : Ext F H F2 H2 :=
  ⟨a.f.trans b.f, a.h.trans b.h, b.c, fun p h1 h2 => b.n p (a.n p h1 h2) fun q => h2 (a.h.none q)⟩
/-- a new object that never changes -/
theorem Ext.new {F H : Hp} {p : Addr} {o : HO} (c : Ex F H) (h : H p = none) (ho : ∀ φ, o ≠ .ext φ := by nofun) : Ext F H (upd F p o) (upd H p o) :=
  ⟨.new (c.none h), .new h, c.both h ho, fun q h1 h2 => by
    have : q ≠ p := fun e => h2 (e ▸ h)
    rw [upd_ne this]
    exact h1⟩
/-- a new object that may change -/
theorem Ext.newH {F H : Hp} {p : Addr} {o : HO} (c : Ex F H) (h : H p = none) : Ext F H F (upd H p o) :=
  ⟨.refl F, .new h, c.mut (c.none h) (.none h), fun q h1 _ => h1⟩
/-- a new object is taken for one that never changes -/
theorem Ext.frz {F H F' H' : Hp} {p : Addr} {o : HO} (x : Ext F H F' H') (h : H p = none) (h' : H' p = some o) (hf : F' p = none) (ho : ∀ φ, o ≠ .ext φ := by nofun) : Ext F H (upd F' p o) H' :=
  ⟨x.f.trans (.new hf), x.h, x.c.put h' ho, fun q h1 h2 => by
    have : q ≠ p := fun e => h2 (e ▸ h)
    rw [upd_ne this]
    exact x.n q h1 h2⟩
theorem RpB.up {K : PySem.W.Frag} {F H F' H' : Hp} {v : V} {d : P} (h : RpB K F H v d) (e : Ext F H F' H') : RpB K F' H' v d := by
  rcases h with h | ⟨p, vs, ds, h1, h2, h3, h4⟩
  · exact .inl (h.up e.f)
  · exact .inr ⟨p, vs, ds, h1, h2, e.h.k _ _ h3, h4.up e.f⟩

/-! ### the names of a def -/
/-- free: it may change; fix: it does not (B tells it); with an address: it is the one there -/
inductive Lk where
  | free (o : Option Addr) | fix (o : Option Addr)
inductive Slot where
  | un
  | val (d : P)
  | own (ds : List P)
  | raw (v : V)
  | obj (lk : Lk) (c : Str) (fs : List (Str × P))
abbrev DEnv := List Slot
/-! ### objects: their fields, and a dict with int keys in a field; lk: nothing of it changes (B tells it) -/
inductive RpKv (K : PySem.W.Frag) (F : Hp) : List (Key × V) → List (P × P) → Prop
  | nil : RpKv K F [] []
  | cons {i : Int} {v : V} {d : P} {kvs : List (Key × V)} {ms : List (P × P)} : Rp K F v d → RpKv K F kvs ms → RpKv K F ((Sum.inl i, v) :: kvs) ((.int i, d) :: ms)
theorem RpKv.up {K : PySem.W.Frag} {F F' : Hp} (e : Ex F F') : ∀ {kvs : List (Key × V)} {ms : List (P × P)}, RpKv K F kvs ms → RpKv K F' kvs ms
  | _, _, .nil => .nil
  | _, _, .cons h t => .cons (h.up e) (RpKv.up e t)
def DicAt (B H : Hp) (lk : Lk) (m : Addr) (kvs : List (Key × V)) : Prop := match lk with
  | .free _ => H m = some (.dK kvs) ∧ B m = none
  | .fix _ => ∃ u, B m = some u ∧ (u = .dK kvs ∨ ∃ o, u = .frz o (.dK kvs))
inductive FldE (K : PySem.W.Frag) (B F H : Hp) (lk : Lk) : V → P → Prop
  | val {v : V} {d : P} : Rp K F v d → (∀ ms, d ≠ .dict ms) → FldE K B F H lk v d
  | dic {m : Addr} {kvs : List (Key × V)} {ms : List (P × P)} : RpKv K F kvs ms → F m = none → DicAt B H lk m kvs → FldE K B F H lk (.ref m) (.dict ms)
inductive Flds (K : PySem.W.Frag) (B F H : Hp) (lk : Lk) : List (Str × V) → List (Str × P) → Prop
  | nil : Flds K B F H lk [] []
  | cons {n : Str} {v : V} {d : P} {gs : List (Str × V)} {fs : List (Str × P)} : FldE K B F H lk v d → Flds K B F H lk gs fs → Flds K B F H lk ((n, v) :: gs) ((n, d) :: fs)
def FixAt (B : Hp) (lk : Lk) (p : Addr) (o : HO) : Prop := match lk with
  | .free q => B p = none ∧ ∀ a, q = some a → p = a
  | .fix q => B p = some o ∧ ∀ a, q = some a → p = a
/-- the names of attributes, of whatever class -/
def aNames : List Str := ["size", "wide", "marks", "row", "gone"]
def ClsA (K : PySem.W.Frag) (C : Addr) : Prop := Cls K C ∧ ∀ f ∈ aNames, NoAttr K C f
structure ObjE (K : PySem.W.Frag) (B F H : Hp) (lk : Lk) (c : Str) (fs : List (Str × P)) (p : Addr) : Prop where
  ex : ∃ C dx gs, PySem.W.nsIn K mainGlobals c = some (some (.ref C)) ∧ H p = some (.ins C dx gs) ∧ F p = none ∧ FixAt B lk p (.ins C dx gs) ∧ Flds K B F H lk gs fs ∧ ClsA K C ∧ ∀ n v, (n, v) ∈ gs → n ∈ aNames
def isL : HO → Bool
  | .lst _ => true
  | .tbl _ => true
  | _ => false
theorem noTb {o : HO} (h : isL o = false) : isTb o = false := by
  cases o <;> first | rfl | cases h
section
variable {K : PySem.W.Frag} {B F H F' H' : Hp} {lk : Lk}
theorem DicAt.here (b : Ex B H) {m : Addr} {kvs : List (Key × V)} (h : DicAt B H lk m kvs) : ∃ o, H m = some o ∧ isL o = false := by
  have key : (∃ u, B m = some u ∧ (u = .dK kvs ∨ ∃ o, u = .frz o (.dK kvs))) → ∃ o, H m = some o ∧ isL o = false := fun ⟨u, h1, h2⟩ => by
    rcases h2 with rfl | ⟨o, rfl⟩
    · exact ⟨_, b.k _ _ h1, rfl⟩
    · exact ⟨_, b.k _ _ h1, rfl⟩
  cases lk with
  | free q => exact ⟨_, h.1, rfl⟩
  | fix q => exact key h
theorem DicAt.rd (b : Ex B H) {m : Addr} {kvs : List (Key × V)} (h : DicAt B H lk m kvs) : Rd H m (.dK kvs) := by
  have key : (∃ u, B m = some u ∧ (u = .dK kvs ∨ ∃ o, u = .frz o (.dK kvs))) → Rd H m (.dK kvs) := fun ⟨u, h1, h2⟩ => by
    rcases h2 with rfl | ⟨o, rfl⟩
    · exact .inl (b.k _ _ h1)
    · exact .inr ⟨o, b.k _ _ h1⟩
  cases lk with
  | free q => exact .inl h.1
  | fix q => exact key h
theorem FldE.chg (b : Ex B H) (e : Ex F F') (hF : ∀ a o, F a = none → H a = some o → isL o = false → F' a = none) (hH : ∀ a o, H a = some o → isL o = false → H' a = some o) {v : V} {d : P} (h : FldE K B F H lk v d) : FldE K B F' H' lk v d := by
  cases h with
  | val h1 h2 => exact .val (h1.up e) h2
  | dic h1 h2 h3 =>
    obtain ⟨o, h4, h5⟩ := h3.here b
    refine .dic (h1.up e) (hF _ _ h2 h4 h5) ?_
    cases lk with
    | free q => exact ⟨hH _ _ h3.1 rfl, h3.2⟩
    | fix q => exact h3
theorem Flds.chg (b : Ex B H) (e : Ex F F') (hF : ∀ a o, F a = none → H a = some o → isL o = false → F' a = none) (hH : ∀ a o, H a = some o → isL o = false → H' a = some o) : ∀ {gs : List (Str × V)} {fs : List (Str × P)}, Flds K B F H lk gs fs → Flds K B F' H' lk gs fs
  | _, _, .nil => .nil
  | _, _, .cons h t => .cons (h.chg b e hF hH) (Flds.chg b e hF hH t)
theorem ObjE.chg (b : Ex B H) (e : Ex F F') (hF : ∀ a o, F a = none → H a = some o → isL o = false → F' a = none) (hH : ∀ a o, H a = some o → isL o = false → H' a = some o) {c : Str} {fs : List (Str × P)} {p : Addr} (h : ObjE K B F H lk c fs p) : ObjE K B F' H' lk c fs p := by
  obtain ⟨C, dx, gs, h1, h2, h3, h4, h5, h6⟩ := h.ex
  exact ⟨⟨C, dx, gs, h1, hH _ _ h2 rfl, hF _ _ h3 h2 rfl, h4, h5.chg b e hF hH, h6⟩⟩
end
def TabsIn (B : Hp) : Prop := LamX.Tabs LTab.tabs B
theorem TabsIn.up {B B' : Hp} (h : TabsIn B) (e : Ex B B') : TabsIn B' := fun p hp => e.tb _ _ hp (h p hp)
structure EnvOk (K : PySem.W.Frag) (B F H : Hp) (σ : St) (δ : DEnv) : Prop where
  c : Ex F H
  b : Ex B H
  tbs : TabsIn B
  len : σ.length = δ.length
  val : ∀ (i : Nat) (d : P), δ[i]? = some (.val d) → ∃ v, σ[i]? = some (some v) ∧ Rp K F v d
  own : ∀ (i : Nat) (ds : List P), δ[i]? = some (.own ds) → ∃ p vs, σ[i]? = some (some (.ref p)) ∧ H p = some (.lst vs) ∧ RpAll K F vs ds ∧ F p = none ∧ B p = none
  apart : ∀ (i j : Nat) (ds es : List P) (p : Addr), i ≠ j → δ[i]? = some (.own ds) → δ[j]? = some (.own es) → σ[i]? = some (some (.ref p)) → σ[j]? ≠ some (some (.ref p))
  raw : ∀ (i : Nat) (v : V), δ[i]? = some (.raw v) → σ[i]? = some (some v)
  obj : ∀ (i : Nat) (lk : Lk) (c : Str) (fs : List (Str × P)), δ[i]? = some (.obj lk c fs) → ∃ p, σ[i]? = some (some (.ref p)) ∧ ObjE K B F H lk c fs p
  far : ∀ (i j : Nat) (lk lk' : Lk) (c c' : Str) (fs fs' : List (Str × P)) (p : Addr), i ≠ j → δ[i]? = some (.obj lk c fs) → δ[j]? = some (.obj lk' c' fs') → σ[i]? = some (some (.ref p)) → σ[j]? ≠ some (some (.ref p))
theorem EnvOk.up {K : PySem.W.Frag} {B F H F' H' : Hp} {σ : St} {δ : DEnv} (E : EnvOk K B F H σ δ) (e : Ext F H F' H') : EnvOk K B F' H' σ δ :=
  ⟨e.c, E.b.trans e.h, E.tbs, E.len, fun i d h => let ⟨v, h1, h2⟩ := E.val i d h; ⟨v, h1, h2.up e.f⟩,
    fun i ds h => let ⟨p, vs, h1, h2, h3, h4, h5⟩ := E.own i ds h; ⟨p, vs, h1, e.h.k _ _ h2, h3.up e.f, e.n p h4 (by rw [h2]; nofun), h5⟩, E.apart, E.raw,
    fun i lk c fs h => let ⟨p, h1, h2⟩ := E.obj i lk c fs h; ⟨p, h1, h2.chg E.b e.f (fun a o h3 h4 _ => e.n a h3 (by rw [h4]; nofun)) fun a o h4 h5 => e.h.k a o h4 (noTb h5)⟩, E.far⟩

theorem EnvOk.tbsH {K : PySem.W.Frag} {B F H : Hp} {σ : St} {δ : DEnv} (E : EnvOk K B F H σ δ) : TabsIn H := E.tbs.up E.b
/-! ### readings by meaning -/
abbrev DE (α : Type) := DEnv → Res α
section
variable (K : PySem.W.Frag) (mg : Str → Option Value) (W : WX)
/-- what is wanted of an exception n -/
def XcW (σ : St) (F H : Hp) (n : Str) : Prop := ∀ C F' H', mg n = some (.ref C) → Ext F H F' H' → W (.ref C) none σ H'
def OutE (σ : St) (F H : Hp) (r : Res P) (Q : VK) : Prop := match r with
  | .ok d => ∀ v F' H', Ext F H F' H' → Rp K F' v d → Q v H'
  | .exc n => XcW mg W σ F H n
  | .stuck => False
def OutB (σ : St) (F H : Hp) (r : Res P) (Q : VK) : Prop := match r with
  | .ok d => ∀ v F' H', Ext F H F' H' → RpB K F' H' v d → Q v H'
  | .exc n => XcW mg W σ F H n
  | .stuck => False
def OutL (σ : St) (F H : Hp) (r : Res (List P)) (Q : VK) : Prop := match r with
  | .ok ds => ∀ p vs F' H', Ext F H F' H' → H p = none → F' p = none → H' p = some (.lst vs) → RpAll K F' vs ds → Q (.ref p) H'
  | .exc n => XcW mg W σ F H n
  | .stuck => False
def OutT (σ : St) (F H : Hp) (r : Res Bool) (Q : Bool → Hp → Prop) : Prop := match r with
  | .ok b => ∀ F' H', Ext F H F' H' → Q b H'
  | .exc n => XcW mg W σ F H n
  | .stuck => False
def OutA (σ : St) (F H : Hp) (r : Res (List P)) (Q : List V → Hp → Prop) : Prop := match r with
  | .ok ds => ∀ vs F' H', Ext F H F' H' → RpAll K F' vs ds → Q vs H'
  | .exc n => XcW mg W σ F H n
  | .stuck => False
/-- an expression's; one whose list may change later; one that makes a list; a test's; an argument list's -/
def teD (f : DE P) : TE := fun σ H Q => ∃ B F δ, EnvOk K B F H σ δ ∧ OutE K mg W σ F H (f δ) Q
def teB (f : DE P) : TE := fun σ H Q => ∃ B F δ, EnvOk K B F H σ δ ∧ OutB K mg W σ F H (f δ) Q
def teL (f : DE (List P)) : TE := fun σ H Q => ∃ B F δ, EnvOk K B F H σ δ ∧ OutL K mg W σ F H (f δ) Q
def teT (f : DE Bool) : TT := fun σ H Q => ∃ B F δ, EnvOk K B F H σ δ ∧ OutT mg W σ F H (f δ) Q
def taD (f : DE (List P)) : TA := fun σ H Q => ∃ B F δ, EnvOk K B F H σ δ ∧ OutA K mg W σ F H (f δ) Q
end
section
variable {K : PySem.W.Frag} {mg : Str → Option Value} {W : WX} {σ : St} {F H F1 H1 : Hp}
theorem XcW.up {n : Str} (h : XcW mg W σ F H n) (e : Ext F H F1 H1) : XcW mg W σ F1 H1 n := fun C F' H' q x => h C F' H' q (e.trans x)
theorem OutE.up {r : Res P} {Q : VK} (h : OutE K mg W σ F H r Q) (e : Ext F H F1 H1) : OutE K mg W σ F1 H1 r Q := by
  cases r with
  | ok d => exact fun v F' H' x => h v F' H' (e.trans x)
  | exc n => exact XcW.up h e
  | stuck => exact h
theorem OutB.up {r : Res P} {Q : VK} (h : OutB K mg W σ F H r Q) (e : Ext F H F1 H1) : OutB K mg W σ F1 H1 r Q := by
  cases r with
  | ok d => exact fun v F' H' x => h v F' H' (e.trans x)
  | exc n => exact XcW.up h e
  | stuck => exact h
theorem OutT.up {r : Res Bool} {Q : Bool → Hp → Prop} (h : OutT mg W σ F H r Q) (e : Ext F H F1 H1) : OutT mg W σ F1 H1 r Q := by
  cases r with
  | ok d => exact fun F' H' x => h F' H' (e.trans x)
  | exc n => exact XcW.up h e
  | stuck => exact h
theorem OutA.up {r : Res (List P)} {Q : List V → Hp → Prop} (h : OutA K mg W σ F H r Q) (e : Ext F H F1 H1) : OutA K mg W σ F1 H1 r Q := by
  cases r with
  | ok d => exact fun v F' H' x => h v F' H' (e.trans x)
  | exc n => exact XcW.up h e
  | stuck => exact h
theorem OutL.up {r : Res (List P)} {Q : VK} (h : OutL K mg W σ F H r Q) (e : Ext F H F1 H1) : OutL K mg W σ F1 H1 r Q := by
  cases r with
  | ok d => exact fun p vs F' H' x h1 => h p vs F' H' (e.trans x) (e.h.none h1)
  | exc n => exact XcW.up h e
  | stuck => exact h
/-- one reading after another -/
theorem teD.then {f : DE P} {Q : VK} {B : Hp} {δ : DEnv} (E : EnvOk K B F H σ δ) (hx : ∀ n, f δ = .exc n → XcW mg W σ F H n) (hs : f δ = .stuck → False)
    (k : ∀ d v F1 H1, f δ = .ok d → Ext F H F1 H1 → Rp K F1 v d → Q v H1) : teD K mg W f σ H Q := by
  refine ⟨B, F, δ, E, ?_⟩
  cases h : f δ with
  | ok d => exact fun v F' H' x r => k d v F' H' h x r
  | exc n => exact hx n h
  | stuck => exact hs h
theorem teB.then {f : DE P} {Q : VK} {B : Hp} {δ : DEnv} (E : EnvOk K B F H σ δ) (hx : ∀ n, f δ = .exc n → XcW mg W σ F H n) (hs : f δ = .stuck → False)
    (k : ∀ d v F1 H1, f δ = .ok d → Ext F H F1 H1 → RpB K F1 H1 v d → Q v H1) : teB K mg W f σ H Q := by
  refine ⟨B, F, δ, E, ?_⟩
  cases h : f δ with
  | ok d => exact fun v F' H' x r => k d v F' H' h x r
  | exc n => exact hx n h
  | stuck => exact hs h
theorem teT.then {f : DE Bool} {Q : Bool → Hp → Prop} {B : Hp} {δ : DEnv} (E : EnvOk K B F H σ δ) (hx : ∀ n, f δ = .exc n → XcW mg W σ F H n) (hs : f δ = .stuck → False)
    (k : ∀ b F1 H1, f δ = .ok b → Ext F H F1 H1 → Q b H1) : teT K mg W f σ H Q := by
  refine ⟨B, F, δ, E, ?_⟩
  cases h : f δ with
  | ok d => exact fun F' H' x => k d F' H' h x
  | exc n => exact hx n h
  | stuck => exact hs h
theorem taD.then {f : DE (List P)} {Q : List V → Hp → Prop} {B : Hp} {δ : DEnv} (E : EnvOk K B F H σ δ) (hx : ∀ n, f δ = .exc n → XcW mg W σ F H n) (hs : f δ = .stuck → False)
    (k : ∀ ds vs F1 H1, f δ = .ok ds → Ext F H F1 H1 → RpAll K F1 vs ds → Q vs H1) : taD K mg W f σ H Q := by
  refine ⟨B, F, δ, E, ?_⟩
  cases h : f δ with
  | ok d => exact fun v F' H' x r => k d v F' H' h x r
  | exc n => exact hx n h
  | stuck => exact hs h
end

/-! ### weaker readings -/
section
variable {X : Cx}
theorem PEi {e : Expr} {t t' : TE} (h : PE X e t) (i : ∀ σ H Q, t' σ H Q → t σ H Q) : PE X e t' := ⟨fun pins s σ H Q I q => h.run pins s σ H Q I (i σ H Q q)⟩
theorem PTi {e : Expr} {t t' : TT} (h : PT X e t) (i : ∀ σ H Q, t' σ H Q → t σ H Q) : PT X e t' := ⟨fun pins s σ H Q I q => h.run pins s σ H Q I (i σ H Q q)⟩
theorem PWi {e : Expr} {t t' : TT} (h : PW X e t) (i : ∀ σ H Q, t' σ H Q → t σ H Q) : PW X e t' := ⟨fun wh pins s σ H Q I q => h.run wh pins s σ H Q I (i σ H Q q)⟩
theorem PAi {e : List Expr} {t t' : TA} (h : PA X e t) (i : ∀ σ H Q, t' σ H Q → t σ H Q) : PA X e t' := ⟨fun pos pins s σ H Q I q => h.run pos pins s σ H Q I (i σ H Q q)⟩
theorem PSi {e : Stmt} {t t' : TS} (h : PS X e t) (i : ∀ D σ H, t' D σ H → t D σ H) : PS X e t' := ⟨fun pins s σ H D I q => h.run pins s σ H D I (i D σ H q)⟩
theorem PSsi {e : List Stmt} {t t' : TS} (h : PSs X e t) (i : ∀ D σ H, t' D σ H → t D σ H) : PSs X e t' := ⟨fun pins s σ H D I q => h.run pins s σ H D I (i D σ H q)⟩
theorem PTsi {e : List Expr} {t t' : TT} (h : PTs X e t) (i : ∀ σ H Q, t' σ H Q → t σ H Q) : PTs X e t' := ⟨fun pins s σ H Q I q => h.run pins s σ H Q I (i σ H Q q)⟩
theorem PIi {tg e : Expr} {t t' : TI} (h : PI X tg e t) (i : ∀ σ H Q, t' σ H Q → t σ H Q) : PI X tg e t' := ⟨fun pins s σ H Q I q => h.run pins s σ H Q I (i σ H Q q)⟩
theorem PGi {e : Expr} {t t' : TG} (h : PG X e t) (i : ∀ v σ H Q, t' v σ H Q → t v σ H Q) : PG X e t' := ⟨fun pins s σ H v u Q I r q => h.run pins s σ H v u Q I r (i v σ H Q q)⟩
end
end DL

set_option Elab.async false
set_option linter.all false
set_option maxRecDepth 100000
set_option maxHeartbeats 4000000
namespace DL
open PySem L2
variable [LTab]

/-! ### what the operators do with data -/
def dInts : List P → Option (List Int)
  | [] => some []
  | .int i :: ds => (dInts ds).map (i :: ·)
  | _ => none
theorem ints_map : ∀ ns : List Int, dInts (ns.map PyData.int) = some ns
  | [] => rfl
  | n :: ns => by
    show (dInts (ns.map PyData.int)).map (n :: ·) = _
    rw [ints_map ns]
    rfl
theorem ints_eq : ∀ {ds : List P} {ns : List Int}, dInts ds = some ns → ds = ns.map PyData.int
  | [], ns, h => by
    cases h
    rfl
  | d :: ds, ns, h => by
    cases d with
    | int i =>
      have h : (dInts ds).map (i :: ·) = some ns := h
      cases e : dInts ds with
      | none =>
        rw [e] at h
        cases h
      | some ms =>
        rw [e] at h
        cases h
        rw [ints_eq e]
        rfl
    | _ => cases h
def dBools : List P → Option (List Bool)
  | [] => some []
  | .bool i :: ds => (dBools ds).map (i :: ·)
  | _ => none
theorem bools_map : ∀ ns : List Bool, dBools (ns.map PyData.bool) = some ns
  | [] => rfl
  | n :: ns => by
    show (dBools (ns.map PyData.bool)).map (n :: ·) = _
    rw [bools_map ns]
    rfl
theorem bools_eq : ∀ {ds : List P} {ns : List Bool}, dBools ds = some ns → ds = ns.map PyData.bool
  | [], ns, h => by
    cases h
    rfl
  | d :: ds, ns, h => by
    cases d with
    | bool i =>
      have h : (dBools ds).map (i :: ·) = some ns := h
      cases e : dBools ds with
      | none =>
        rw [e] at h
        cases h
      | some ms =>
        rw [e] at h
        cases h
        rw [bools_eq e]
        rfl
    | _ => cases h
def dStrs : List P → Option (List Str)
  | [] => some []
  | .str i :: ds => (dStrs ds).map (i :: ·)
  | _ => none
theorem strs_map : ∀ ns : List Str, dStrs (ns.map PyData.str) = some ns
  | [] => rfl
  | n :: ns => by
    show (dStrs (ns.map PyData.str)).map (n :: ·) = _
    rw [strs_map ns]
    rfl
theorem strs_eq : ∀ {ds : List P} {ns : List Str}, dStrs ds = some ns → ds = ns.map PyData.str
  | [], ns, h => by
    cases h
    rfl
  | d :: ds, ns, h => by
    cases d with
    | str i =>
      have h : (dStrs ds).map (i :: ·) = some ns := h
      cases e : dStrs ds with
      | none =>
        rw [e] at h
        cases h
      | some ms =>
        rw [e] at h
        cases h
        rw [strs_eq e]
        rfl
    | _ => cases h

def lim : Nat := 16777216
theorem lim_eq : sizeLine = lim := sizeLine_eq
def pAdd : P → P → Res P
  | .int a, .int b => .ok (.int (a + b))
  | .str a, .str b => if a.length + b.length ≤ lim then .ok (.str (a ++ b)) else .stuck
  | .tuple a, .tuple b => if a.length + b.length ≤ lim then .ok (.tuple (a ++ b)) else .stuck
  | _, _ => .stuck
def pAddL : P → P → Res (List P)
  | .list a, .list b => if a.length + b.length ≤ lim then .ok (a ++ b) else .stuck
  | _, _ => .stuck
def pSub : P → P → Res P
  | .int a, .int b => .ok (.int (a - b))
  | _, _ => .stuck
/-- one of them is small -/
def mulOk (i j : Int) : Bool := decide ((-(2 ^ 64) < i ∧ i < 2 ^ 64) ∨ (-(2 ^ 64) < j ∧ j < 2 ^ 64))
def pMul : P → P → Res P
  | .int a, .int b => if mulOk a b = true then .ok (.int (a * b)) else .stuck
  | _, _ => .stuck
def pMod : P → P → Res P
  | .int a, .int b => if b = 0 then .stuck else .ok (.int (a.fmod b))
  | _, _ => .stuck
def pDiv : P → P → Res P
  | .int a, .int b => if b ≠ 0 ∧ b.natAbs < 1073741824 then .ok (.int (a.fdiv b)) else .stuck
  | _, _ => .stuck
def pPow : P → P → Res P
  | .int a, .int b => if 0 ≤ b ∧ b ≤ 1000000 ∧ a.natAbs < 2 ^ 64 then .ok (.int (a ^ b.toNat)) else .stuck
  | _, _ => .stuck
def pEq (d e : P) : Res P := if SeqAt.shaped d = true ∧ SeqAt.shaped e = true then .ok (.bool (PyData.eqv d e)) else .stuck
def pNe (d e : P) : Res P := if SeqAt.shaped d = true ∧ SeqAt.shaped e = true then .ok (.bool (!PyData.eqv d e)) else .stuck
def pLt : P → P → Res P
  | .int a, .int b => .ok (.bool (decide (a < b)))
  | _, _ => .stuck
def pLe : P → P → Res P
  | .int a, .int b => .ok (.bool (decide (a ≤ b)))
  | _, _ => .stuck
def pGt : P → P → Res P
  | .int a, .int b => .ok (.bool (decide (b < a)))
  | _, _ => .stuck
def pGe : P → P → Res P
  | .int a, .int b => .ok (.bool (decide (b ≤ a)))
  | _, _ => .stuck
def isNone : P → Bool
  | .none => true
  | _ => false
/-- is: against None, or truths -/
def pIs : P → P → Res P
  | d, .none => .ok (.bool (isNone d))
  | .bool a, .bool b => .ok (.bool (decide (a = b)))
  | _, _ => .stuck
def pIsNot : P → P → Res P
  | d, .none => .ok (.bool (!isNone d))
  | .bool a, .bool b => .ok (.bool (!decide (a = b)))
  | _, _ => .stuck
def inItems (i : Int) (es : List P) : Res Bool := match dInts es with
  | some ns => .ok (decide (i ∈ ns))
  | none => .stuck
def inStr (c z : Str) : Res Bool := if c.cps.size = 1 then .ok (decide (c.cps[0]! ∈ z.cps.toList)) else .stuck
def pIn0 : P → P → Res Bool
  | .int i, .tuple es => inItems i es
  | .int i, .list es => inItems i es
  | .str c, .str z => inStr c z
  | _, _ => .stuck
def pIn (d e : P) : Res P := (pIn0 d e).bind fun b => .ok (.bool b)
def pNotIn (d e : P) : Res P := (pIn0 d e).bind fun b => .ok (.bool (!b))
def atP (ds : List P) (i : Int) : Res P := match atI ds i with
  | some d => .ok d
  | none => .stuck
def pIx : P → P → Res P
  | .list ds, .int i => atP ds i
  | .tuple ds, .int i => atP ds i
  | .dict [(.none, .list ds)], .int i => atP ds i
  | .str z, .int i => if z.length ≤ lim then (match atI z.cps.toList i with | some c => .ok (.str ⟨#[c]⟩) | none => .stuck) else .stuck
  | _, _ => .stuck
/-- xs[lo:hi] -/
def cut {α : Type} (xs : List α) (lo hi : Option Int) : List α := (xs.drop (HT.sIx xs.length 0 lo)).take (HT.sIx xs.length xs.length hi - HT.sIx xs.length 0 lo)
def pSl (d : P) (lo hi : Option Int) : Res P := match d with
  | .tuple ds => .ok (.tuple (cut ds lo hi))
  | .str z => if z.length ≤ lim then .ok (.str (cutS z lo hi)) else .stuck
  | _ => .stuck
def pSlL (d : P) (lo hi : Option Int) : Res (List P) := match d with
  | .list ds => .ok (cut ds lo hi)
  | _ => .stuck
def pNeg : P → Res P
  | .int a => .ok (.int (-a))
  | _ => .stuck

/-! ### meanings of expressions -/
def dVar (i : Nat) : DE P := fun δ => match δ[i]? with
  | some (.val d) => .ok d
  | _ => .stuck
def dOwn (i : Nat) : DE P := fun δ => match δ[i]? with
  | some (.own ds) => .ok (.list ds)
  | _ => .stuck
def dC {α : Type} (d : α) : DE α := fun _ => .ok d
def dOp {α : Type} (op : P → P → Res α) (f g : DE P) : DE α := fun δ => (f δ).bind fun x => (g δ).bind fun y => op x y
def dUn {α : Type} (op : P → Res α) (f : DE P) : DE α := fun δ => (f δ).bind op
def dL (f : DE (List P)) : DE P := fun δ => (f δ).bind fun ds => .ok (.list ds)
def truthOf : P → Res Bool
  | .bool b => .ok b
  | _ => .stuck
def dT (f : DE P) : DE Bool := fun δ => (f δ).bind truthOf
def dAnd (f g : DE P) : DE P := fun δ => (f δ).bind fun x => (truthOf x).bind fun b => if b = true then g δ else .ok (.bool false)
def dOr (f g : DE P) : DE P := fun δ => (f δ).bind fun x => (truthOf x).bind fun b => if b = true then .ok (.bool true) else g δ
def dNot (f : DE P) : DE P := fun δ => (f δ).bind fun x => (truthOf x).bind fun b => .ok (.bool (!b))
def tAndD (f g : DE Bool) : DE Bool := fun δ => (f δ).bind fun b => if b = true then g δ else .ok false
def tOrD (f g : DE Bool) : DE Bool := fun δ => (f δ).bind fun b => if b = true then .ok true else g δ
def tNotD (f : DE Bool) : DE Bool := fun δ => (f δ).bind fun b => .ok (!b)
/-- a op b op' c -/
def dChain (op op' : P → P → Res P) (f g h : DE P) : DE P := fun δ => (f δ).bind fun x => (g δ).bind fun y => (op x y).bind fun z => (truthOf z).bind fun b => if b = true then (h δ).bind fun w => op' y w else .ok (.bool false)
def aNil : DE (List P) := fun _ => .ok []
def aCons (f : DE P) (g : DE (List P)) : DE (List P) := fun δ => (f δ).bind fun x => (g δ).bind fun xs => .ok (x :: xs)
def dTup (f : DE (List P)) : DE P := fun δ => (f δ).bind fun xs => .ok (.tuple xs)
def dCall (F : List P → Res P) (f : DE (List P)) : DE P := fun δ => (f δ).bind F
def dCallL (F : List P → Res (List P)) (f : DE (List P)) : DE (List P) := fun δ => (f δ).bind F
def partOf : P → Res (Option Int)
  | .int i => .ok (some i)
  | _ => .stuck
def oNone : DE (Option Int) := fun _ => .ok none
def oSome (f : DE P) : DE (Option Int) := fun δ => (f δ).bind partOf
def dSl {α : Type} (op : P → Option Int → Option Int → Res α) (f : DE P) (l u : DE (Option Int)) : DE α := fun δ => (f δ).bind fun x => (l δ).bind fun a => (u δ).bind fun b => op x a b

/-! ### the rules -/
section
variable {X : Cx} {W : WX} {a b c e : Expr} {es rest : List Expr} {f g h : DE P} {fl : DE (List P)} {pos : Pos}
/-- outs of binds -/
theorem outE_bind {K : PySem.W.Frag} {mg : Str → Option Value} {σ : St} {F H : Hp} {α : Type} {r : Res α} {k : α → Res P} {Q : VK} (o : OutE K mg W σ F H (r.bind k) Q) : (∀ n, r = .exc n → XcW mg W σ F H n) ∧ (r = .stuck → False) ∧ ∀ d, r = .ok d → OutE K mg W σ F H (k d) Q := by
  cases r with
  | ok d => exact ⟨nofun, nofun, fun d' e => by cases e; exact o⟩
  | exc n => exact ⟨fun n' e => by cases e; exact o, nofun, nofun⟩
  | stuck => exact o.elim
theorem outB_bind {K : PySem.W.Frag} {mg : Str → Option Value} {σ : St} {F H : Hp} {α : Type} {r : Res α} {k : α → Res P} {Q : VK} (o : OutB K mg W σ F H (r.bind k) Q) : (∀ n, r = .exc n → XcW mg W σ F H n) ∧ (r = .stuck → False) ∧ ∀ d, r = .ok d → OutB K mg W σ F H (k d) Q := by
  cases r with
  | ok d => exact ⟨nofun, nofun, fun d' e => by cases e; exact o⟩
  | exc n => exact ⟨fun n' e => by cases e; exact o, nofun, nofun⟩
  | stuck => exact o.elim
theorem outL_bind {K : PySem.W.Frag} {mg : Str → Option Value} {σ : St} {F H : Hp} {α : Type} {r : Res α} {k : α → Res (List P)} {Q : VK} (o : OutL K mg W σ F H (r.bind k) Q) : (∀ n, r = .exc n → XcW mg W σ F H n) ∧ (r = .stuck → False) ∧ ∀ d, r = .ok d → OutL K mg W σ F H (k d) Q := by
  cases r with
  | ok d => exact ⟨nofun, nofun, fun d' e => by cases e; exact o⟩
  | exc n => exact ⟨fun n' e => by cases e; exact o, nofun, nofun⟩
  | stuck => exact o.elim
theorem outT_bind {mg : Str → Option Value} {σ : St} {F H : Hp} {α : Type} {r : Res α} {k : α → Res Bool} {Q : Bool → Hp → Prop} (o : OutT mg W σ F H (r.bind k) Q) : (∀ n, r = .exc n → XcW mg W σ F H n) ∧ (r = .stuck → False) ∧ ∀ d, r = .ok d → OutT mg W σ F H (k d) Q := by
  cases r with
  | ok d => exact ⟨nofun, nofun, fun d' e => by cases e; exact o⟩
  | exc n => exact ⟨fun n' e => by cases e; exact o, nofun, nofun⟩
  | stuck => exact o.elim
theorem outA_bind {K : PySem.W.Frag} {mg : Str → Option Value} {σ : St} {F H : Hp} {α : Type} {r : Res α} {k : α → Res (List P)} {Q : List V → Hp → Prop} (o : OutA K mg W σ F H (r.bind k) Q) : (∀ n, r = .exc n → XcW mg W σ F H n) ∧ (r = .stuck → False) ∧ ∀ d, r = .ok d → OutA K mg W σ F H (k d) Q := by
  cases r with
  | ok d => exact ⟨nofun, nofun, fun d' e => by cases e; exact o⟩
  | exc n => exact ⟨fun n' e => by cases e; exact o, nofun, nofun⟩
  | stuck => exact o.elim
theorem XcW.dn {mg : Str → Option Value} {σ : St} {F H F1 H1 : Hp} {n : Str} (h : XcW mg W σ F H n) (x : Ext F H F1 H1) : XcW mg W σ F1 H1 n := h.up x

/-- names, constants -/
theorem px_var (i : Nat) {x : Str} {pos : Pos} (hN : X.N[i]? = some x := by rfl) (hv : Vis X.env.scope x := by first | exact Or.inl rfl | exact Or.inr (Or.inl rfl) | exact Or.inr (Or.inr rfl)) (hd : (x == ("__debug__" : Str)) = false := by decide)
    (hcd : (x == ("__classdict__" : Str)) = false := by decide) : PE X (.Name x pos) (teD X.K X.mg W (dVar i)) := PEi (pe_var hN hv hd hcd) fun σ H Q ⟨B, F, δ, E, o⟩ => by
  unfold dVar at o
  split at o
  · rename_i d h
    obtain ⟨v, h1, h2⟩ := E.val i d h
    exact ⟨v, h1, o v F H (.refl E.c) h2⟩
  · exact o.elim
theorem pb_own (i : Nat) {x : Str} {pos : Pos} (hN : X.N[i]? = some x := by rfl) (hv : Vis X.env.scope x := by first | exact Or.inl rfl | exact Or.inr (Or.inl rfl) | exact Or.inr (Or.inr rfl)) (hd : (x == ("__debug__" : Str)) = false := by decide)
    (hcd : (x == ("__classdict__" : Str)) = false := by decide) : PE X (.Name x pos) (teB X.K X.mg W (dOwn i)) := PEi (pe_var hN hv hd hcd) fun σ H Q ⟨B, F, δ, E, o⟩ => by
  unfold dOwn at o
  split at o
  · rename_i ds h
    obtain ⟨p, vs, h1, h2, h3, h4, h5⟩ := E.own i ds h
    exact ⟨.ref p, h1, o _ F H (.refl E.c) (.inr ⟨p, vs, ds, rfl, rfl, h2, h3⟩)⟩
  · exact o.elim
theorem px_glob {x : Str} {v : V} {u : Value} {d : P} {pos : Pos} (hg : Gl X x) (hm : X.mg x = some u) (r : RelV v u) (hr : ∀ F, Rp X.K F v d) (hd : (x == ("__debug__" : Str)) = false := by decide) : PE X (.Name x pos) (teD X.K X.mg W (dC d)) :=
  PEi (pe_glob hg hm r hd) fun σ H Q ⟨B, F, δ, E, o⟩ => o v F H (.refl E.c) (hr F)
theorem px_int {i : Int} {j : Nat} : PE X (.Constant (.int i) j pos) (teD X.K X.mg W (dC (.int i))) := PEi pe_int fun σ H Q ⟨B, F, δ, E, o⟩ => o _ F H (.refl E.c) (.int i)
theorem px_bl {i : Bool} {j : Nat} : PE X (.Constant (.bool i) j pos) (teD X.K X.mg W (dC (.bool i))) := PEi pe_bl fun σ H Q ⟨B, F, δ, E, o⟩ => o _ F H (.refl E.c) (.bl i)
theorem px_non {j : Nat} : PE X (.Constant .none j pos) (teD X.K X.mg W (dC .none)) := PEi pe_non fun σ H Q ⟨B, F, δ, E, o⟩ => o _ F H (.refl E.c) .non
theorem px_str {i : Str} {j : Nat} : PE X (.Constant (.str i) j pos) (teD X.K X.mg W (dC (.str i))) := PEi pe_str fun σ H Q ⟨B, F, δ, E, o⟩ => o _ F H (.refl E.c) (.str i)
/-- what is had may be read -/
theorem pb (h : PE X e (teD X.K X.mg W f)) : PE X e (teB X.K X.mg W f) := PEi h fun σ H Q ⟨B, F, δ, E, o⟩ => by
  refine ⟨B, F, δ, E, ?_⟩
  cases r : f δ with
  | ok d => rw [r] at o; exact fun v F' H' x q => o v F' H' x (.inl q)
  | exc n => rw [r] at o; exact o
  | stuck => rw [r] at o; exact o.elim
/-- a list that is made, as one that never changes -/
theorem px_l (h : PE X e (teL X.K X.mg W fl)) : PE X e (teD X.K X.mg W (dL fl)) := PEi h fun σ H Q ⟨B, F, δ, E, o⟩ => by
  refine ⟨B, F, δ, E, ?_⟩
  unfold dL at o
  cases r : fl δ with
  | ok ds => rw [r] at o; exact fun p vs F' H' x h1 h2 h3 h4 => o _ _ H' (x.frz h1 h3 h2) (.lst upd_same (h4.up (.new h2)))
  | exc n => rw [r] at o; exact o
  | stuck => rw [r] at o; exact o.elim

/-! ### two places -/
def OpD (X : Cx) (W : WX) (op : P → P → Res P) (r : R2) : Prop := ∀ (σ : St) (F H : Hp) (x y : V) (d e : P) (Q : VK), Ex F H → RpB X.K F H x d → RpB X.K F H y e → OutE X.K X.mg W σ F H (op d e) Q → r x y H Q
def OpDL (X : Cx) (W : WX) (op : P → P → Res (List P)) (r : R2) : Prop := ∀ (σ : St) (F H : Hp) (x y : V) (d e : P) (Q : VK), Ex F H → RpB X.K F H x d → RpB X.K F H y e → OutL X.K X.mg W σ F H (op d e) Q → r x y H Q
theorem two {r : R2} {op : P → P → Res P} (ho : OpD X W op r) {σ : St} {H : Hp} {Q : VK} (q : teD X.K X.mg W (dOp op f g) σ H Q) : tOp r (teB X.K X.mg W f) (teB X.K X.mg W g) σ H Q := by
  obtain ⟨B, F, δ, E, o⟩ := q
  obtain ⟨x1, s1, k1⟩ := outE_bind o
  refine teB.then E x1 s1 fun d v F1 H1 e1 X1 r1 => ?_
  obtain ⟨x2, s2, k2⟩ := outE_bind (k1 d e1)
  refine teB.then (E.up X1) (fun n h => (x2 n h).up X1) s2 fun d2 u F2 H2 e2 X2 r2 => ?_
  exact ho σ F2 H2 v u d d2 Q X2.c (r1.up X2) r2 ((k2 d2 e2).up (X1.trans X2))
theorem twoL {r : R2} {op : P → P → Res (List P)} (ho : OpDL X W op r) {σ : St} {H : Hp} {Q : VK} (q : teL X.K X.mg W (dOp op f g) σ H Q) : tOp r (teB X.K X.mg W f) (teB X.K X.mg W g) σ H Q := by
  obtain ⟨B, F, δ, E, o⟩ := q
  obtain ⟨x1, s1, k1⟩ := outL_bind o
  refine teB.then E x1 s1 fun d v F1 H1 e1 X1 r1 => ?_
  obtain ⟨x2, s2, k2⟩ := outL_bind (k1 d e1)
  refine teB.then (E.up X1) (fun n h => (x2 n h).up X1) s2 fun d2 u F2 H2 e2 X2 r2 => ?_
  exact ho σ F2 H2 v u d d2 Q X2.c (r1.up X2) r2 ((k2 d2 e2).up (X1.trans X2))
theorem px_bin {op : Operator} {r : R2} {pop : P → P → Res P} (ho : OpR X (binaryOp op) r) (hd : OpD X W pop r) (ha : PE X a (teB X.K X.mg W f)) (hb : PE X b (teB X.K X.mg W g)) : PE X (.BinOp a op b pos) (teD X.K X.mg W (dOp pop f g)) :=
  PEi (pe_op ho ha hb) fun _ _ _ q => two hd q
theorem px_binL {op : Operator} {r : R2} {pop : P → P → Res (List P)} (ho : OpR X (binaryOp op) r) (hd : OpDL X W pop r) (ha : PE X a (teB X.K X.mg W f)) (hb : PE X b (teB X.K X.mg W g)) : PE X (.BinOp a op b pos) (teL X.K X.mg W (dOp pop f g)) :=
  PEi (pe_op ho ha hb) fun _ _ _ q => twoL hd q
theorem px_cmpR {op : CmpOp} {r : R2} {pop : P → P → Res P} (ho : OpR X (compareOp op) r) (hd : OpD X W pop r) (ha : PE X a (teB X.K X.mg W f)) (hb : PE X b (teB X.K X.mg W g)) (hm : behindInMarks op b = false) : PE X (.Compare a [op] [b] pos) (teD X.K X.mg W (dOp pop f g)) :=
  PEi (pe_cmpR ho ha hb hm) fun _ _ _ q => two hd q
theorem px_ixR {r : R2} {pop : P → P → Res P} (ho : IxR X r) (hd : OpD X W pop r) (ha : PE X a (teB X.K X.mg W f)) (hb : PE X b (teB X.K X.mg W g)) (hs : PlainIx b) : PE X (.Subscript a b pos) (teD X.K X.mg W (dOp pop f g)) :=
  PEi (pe_ix ho ha hb hs) fun _ _ _ q => two hd q

/-! the operators' rules -/
theorem int_of {K : PySem.W.Frag} {F H : Hp} {v : V} {i : Int} (h : RpB K F H v (.int i)) : v = .int i := by
  cases h.rp (fun _ => nofun)
  rfl
theorem bool_of {K : PySem.W.Frag} {F H : Hp} {v : V} {i : Bool} (h : RpB K F H v (.bool i)) : v = .bl i := by
  cases h.rp (fun _ => nofun)
  rfl
theorem str_of {K : PySem.W.Frag} {F H : Hp} {v : V} {i : Str} (h : RpB K F H v (.str i)) : v = .str i := by
  cases h.rp (fun _ => nofun)
  rfl
theorem none_of {K : PySem.W.Frag} {F H : Hp} {v : V} (h : RpB K F H v .none) : v = .non := by
  cases h.rp (fun _ => nofun)
  rfl
theorem od_I0 {k : Int → Int → Int} {op : P → P → Res P} (h1 : ∀ d e, (∃ a b, d = .int a ∧ e = .int b ∧ op d e = .ok (.int (k a b))) ∨ op d e = .stuck) : OpD X W op (rI0 fun i j => .int (k i j)) := fun σ F H x y d e Q c hx hy o => by
  rcases h1 d e with ⟨a, b, rfl, rfl, h⟩ | h
  · rw [h] at o
    exact ⟨a, b, int_of hx, int_of hy, o _ F H (.refl c) (.int _)⟩
  · rw [h] at o
    exact o.elim
theorem od_B0 {k : Int → Int → Bool} {op : P → P → Res P} (h1 : ∀ d e, (∃ a b, d = .int a ∧ e = .int b ∧ op d e = .ok (.bool (k a b))) ∨ op d e = .stuck) : OpD X W op (rI0 fun i j => .bl (k i j)) := fun σ F H x y d e Q c hx hy o => by
  rcases h1 d e with ⟨a, b, rfl, rfl, h⟩ | h
  · rw [h] at o
    exact ⟨a, b, int_of hx, int_of hy, o _ F H (.refl c) (.bl _)⟩
  · rw [h] at o
    exact o.elim
theorem od_I {C : Int → Int → Prop} {k : Int → Int → Int} {op : P → P → Res P} (h1 : ∀ d e, (∃ a b, d = .int a ∧ e = .int b ∧ C a b ∧ op d e = .ok (.int (k a b))) ∨ op d e = .stuck) : OpD X W op (rI C fun i j => .int (k i j)) := fun σ F H x y d e Q c hx hy o => by
  rcases h1 d e with ⟨a, b, rfl, rfl, hc, h⟩ | h
  · rw [h] at o
    exact ⟨a, b, int_of hx, int_of hy, hc, o _ F H (.refl c) (.int _)⟩
  · rw [h] at o
    exact o.elim
theorem px_sub (ha : PE X a (teB X.K X.mg W f)) (hb : PE X b (teB X.K X.mg W g)) : PE X (.BinOp a .Sub b pos) (teD X.K X.mg W (dOp pSub f g)) := px_bin op_sub (od_I0 fun d e => by
  cases d <;> cases e <;> first | exact .inl ⟨_, _, rfl, rfl, rfl⟩ | exact .inr rfl) ha hb
theorem px_mul (ha : PE X a (teB X.K X.mg W f)) (hb : PE X b (teB X.K X.mg W g)) : PE X (.BinOp a .Mult b pos) (teD X.K X.mg W (dOp pMul f g)) := px_bin op_mul (od_I fun d e => by
  cases d with
  | int i =>
    cases e with
    | int j =>
      by_cases q : mulOk i j = true
      · exact .inl ⟨_, _, rfl, rfl, by simpa [mulOk, CMul] using q, if_pos q⟩
      · exact .inr (if_neg q)
    | _ => exact .inr rfl
  | _ => exact .inr rfl) ha hb
theorem px_mod (ha : PE X a (teB X.K X.mg W f)) (hb : PE X b (teB X.K X.mg W g)) : PE X (.BinOp a .Mod b pos) (teD X.K X.mg W (dOp pMod f g)) := px_bin op_modN (od_I fun d e => by
  cases d with
  | int i =>
    cases e with
    | int j =>
      by_cases q : j = 0
      · exact .inr (if_pos q)
      · exact .inl ⟨_, _, rfl, rfl, q, if_neg q⟩
    | _ => exact .inr rfl
  | _ => exact .inr rfl) ha hb
theorem px_div (ha : PE X a (teB X.K X.mg W f)) (hb : PE X b (teB X.K X.mg W g)) : PE X (.BinOp a .FloorDiv b pos) (teD X.K X.mg W (dOp pDiv f g)) := px_bin op_fdivN (od_I fun d e => by
  cases d with
  | int i =>
    cases e with
    | int j =>
      by_cases q : j ≠ 0 ∧ j.natAbs < 1073741824
      · exact .inl ⟨_, _, rfl, rfl, q, if_pos q⟩
      · exact .inr (if_neg q)
    | _ => exact .inr rfl
  | _ => exact .inr rfl) ha hb
theorem px_pow (ha : PE X a (teB X.K X.mg W f)) (hb : PE X b (teB X.K X.mg W g)) : PE X (.BinOp a .Pow b pos) (teD X.K X.mg W (dOp pPow f g)) := px_bin op_pow (od_I fun d e => by
  cases d with
  | int i =>
    cases e with
    | int j =>
      by_cases q : 0 ≤ j ∧ j ≤ 1000000 ∧ i.natAbs < 2 ^ 64
      · exact .inl ⟨_, _, rfl, rfl, q, if_pos q⟩
      · exact .inr (if_neg q)
    | _ => exact .inr rfl
  | _ => exact .inr rfl) ha hb
/-- + of dInts, texts, tuples -/
def rAddA (K : PySem.W.Frag) : R2 := fun x y H Q => rI0 (fun i j => .int (i + j)) x y H Q ∨ (∃ i j, x = .str i ∧ y = .str j ∧ i.length + j.length ≤ sizeLine ∧ Q (.str (i ++ j)) H) ∨ rCatA K x y H Q
theorem op_addA : OpR X (binaryOp .Add) (rAddA X.K) := OpR.or op_add (OpR.or op_add_str op_catA)
theorem od_add : OpD X W pAdd (rAddA X.K) := fun σ F H x y d e Q c hx hy o => by
  unfold pAdd at o
  split at o
  · exact .inl ⟨_, _, int_of hx, int_of hy, o _ F H (.refl c) (.int _)⟩
  · split at o
    · rename_i hz
      exact .inr (.inl ⟨_, _, str_of hx, str_of hy, by rw [lim_eq]; exact hz, o _ F H (.refl c) (.str _)⟩)
    · exact o.elim
  · split at o
    · rename_i hz
      obtain ⟨p, vs, rfl, h1, h2⟩ := hx.tup
      obtain ⟨q, ws, rfl, h3, h4⟩ := hy.tup
      refine .inr (.inr ⟨p, q, vs, ws, rfl, rfl, c.sqT h1, c.sqT h3, by rw [lim_eq, h2.len, h4.len]; exact hz, fun z => ?_, fun _ z => ?_, fun _ _ t ht => ?_⟩)
      · subst z
        cases h2
        exact o _ F H (.refl c) (.tup h3 (by simpa using h4))
      · subst z
        cases h4
        exact o _ F H (.refl c) (.tup h1 (by simpa using h2))
      · exact o _ _ _ (.new c ht) (.tup (.of upd_same) ((h2.app h4).up (.new (c.none ht))))
    · exact o.elim
  · exact o.elim
theorem px_add (ha : PE X a (teB X.K X.mg W f)) (hb : PE X b (teB X.K X.mg W g)) : PE X (.BinOp a .Add b pos) (teD X.K X.mg W (dOp pAdd f g)) := px_bin op_addA od_add ha hb
theorem od_addL : OpDL X W pAddL rCat := fun σ F H x y d e Q c hx hy o => by
  unfold pAddL at o
  split at o
  · split at o
    · rename_i hz
      obtain ⟨p, vs, rfl, h1, h2⟩ := hx.lst c
      obtain ⟨q, ws, rfl, h3, h4⟩ := hy.lst c
      exact ⟨p, q, vs, ws, rfl, rfl, h1, h3, by rw [lim_eq, h2.len, h4.len]; exact hz, fun t ht => o t _ F _ (.newH c ht) ht (c.none ht) upd_same (h2.app h4)⟩
    · exact o.elim
  · exact o.elim
theorem pl_add (ha : PE X a (teB X.K X.mg W f)) (hb : PE X b (teB X.K X.mg W g)) : PE X (.BinOp a .Add b pos) (teL X.K X.mg W (dOp pAddL f g)) := px_binL op_cat od_addL ha hb

/-! comparisons -/
mutual
theorem Rp.dp {K : PySem.W.Frag} {F : Hp} : ∀ (d : P) (v : V), Rp K F v d → d.canLay0 = true → Dp K F v d
  | .none, _, h, _ => by cases h; exact .non
  | .bool b, _, h, _ => by cases h; exact .bl b
  | .int i, _, h, _ => by cases h; exact .int i
  | .str x, _, h, _ => by cases h; exact .str x
  | .list ds, _, h, l => by
    cases h with
    | lst h1 h2 => exact .lst (.inl (.inl h1)) (RpAll.dp ds _ h2 (by simpa [PyData.canLay0] using l))
  | .tuple ds, _, h, l => by
    cases h with
    | tup h1 h2 => exact .tup h1 (RpAll.dp ds _ h2 (by simpa [PyData.canLay0] using l))
  | .dict kvs, _, h, l => by simp [PyData.canLay0] at l
theorem RpAll.dp {K : PySem.W.Frag} {F : Hp} : ∀ (ds : List P) (vs : List V), RpAll K F vs ds → PyData.canLayAll0 ds = true → DpAll K F vs ds
  | [], _, h, _ => by cases h; exact .nil
  | d :: ds, _, h, l => by
    have l' : d.canLay0 = true ∧ PyData.canLayAll0 ds = true := by simpa [PyData.canLayAll0] using l
    cases h with
    | cons h1 h2 => exact .cons (Rp.dp d _ h1 l'.1) (RpAll.dp ds _ h2 l'.2)
end
theorem RpB.dp {K : PySem.W.Frag} {F H : Hp} {v : V} {d : P} (c : Ex F H) (h : RpB K F H v d) (l : SeqAt.shaped d = true) : Dp K H v d := by
  have l0 := SeqAt.canLay_of_shaped l
  rcases h with h | ⟨p, vs, ds, rfl, rfl, h3, h4⟩
  · exact Rp.dp d v (h.up c) l0
  · exact .lst (.inl (.inl h3)) (RpAll.dp ds vs (h4.up c) (by simpa [PyData.canLay0] using l0))
theorem od_eq : OpD X W pEq (rEqD X.K) := fun σ F H x y d e Q c hx hy o => by
  unfold pEq at o
  split at o
  · rename_i hs
    exact ⟨d, e, hx.dp c hs.1, hy.dp c hs.2, hs.1, hs.2, o _ F H (.refl c) (.bl _)⟩
  · exact o.elim
theorem od_ne : OpD X W pNe (rNeD X.K) := fun σ F H x y d e Q c hx hy o => by
  unfold pNe at o
  split at o
  · rename_i hs
    exact ⟨d, e, hx.dp c hs.1, hy.dp c hs.2, hs.1, hs.2, o _ F H (.refl c) (.bl _)⟩
  · exact o.elim
theorem px_eq {k : Nat} (hr : Room k X.A) (ha : PE X a (teB X.K X.mg W f)) (hb : PE X b (teB X.K X.mg W g)) : PE X (.Compare a [.Eq] [b] pos) (teD X.K X.mg W (dOp pEq f g)) := px_cmpR (op_eqD hr.units) od_eq ha hb (nomark _)
theorem px_ne {k : Nat} (hr : Room k X.A) (ha : PE X a (teB X.K X.mg W f)) (hb : PE X b (teB X.K X.mg W g)) : PE X (.Compare a [.NotEq] [b] pos) (teD X.K X.mg W (dOp pNe f g)) := px_cmpR (op_neD hr.units) od_ne ha hb (nomark _)
theorem od_lt : OpD X W pLt (rI0 fun i j => .bl (decide (i < j))) := od_B0 fun d e => by
  cases d <;> cases e <;> first | exact .inl ⟨_, _, rfl, rfl, rfl⟩ | exact .inr rfl
theorem od_le : OpD X W pLe (rI0 fun i j => .bl (decide (i ≤ j))) := od_B0 fun d e => by
  cases d <;> cases e <;> first | exact .inl ⟨_, _, rfl, rfl, rfl⟩ | exact .inr rfl
theorem od_gt : OpD X W pGt (rI0 fun i j => .bl (decide (j < i))) := od_B0 fun d e => by
  cases d <;> cases e <;> first | exact .inl ⟨_, _, rfl, rfl, rfl⟩ | exact .inr rfl
theorem od_ge : OpD X W pGe (rI0 fun i j => .bl (decide (j ≤ i))) := od_B0 fun d e => by
  cases d <;> cases e <;> first | exact .inl ⟨_, _, rfl, rfl, rfl⟩ | exact .inr rfl
theorem px_lt (ha : PE X a (teB X.K X.mg W f)) (hb : PE X b (teB X.K X.mg W g)) : PE X (.Compare a [.Lt] [b] pos) (teD X.K X.mg W (dOp pLt f g)) := px_cmpR op_lt od_lt ha hb (nomark _)
theorem px_le (ha : PE X a (teB X.K X.mg W f)) (hb : PE X b (teB X.K X.mg W g)) : PE X (.Compare a [.LtE] [b] pos) (teD X.K X.mg W (dOp pLe f g)) := px_cmpR op_le od_le ha hb (nomark _)
theorem px_gt (ha : PE X a (teB X.K X.mg W f)) (hb : PE X b (teB X.K X.mg W g)) : PE X (.Compare a [.Gt] [b] pos) (teD X.K X.mg W (dOp pGt f g)) := px_cmpR op_gt od_gt ha hb (nomark _)
theorem px_ge (ha : PE X a (teB X.K X.mg W f)) (hb : PE X b (teB X.K X.mg W g)) : PE X (.Compare a [.GtE] [b] pos) (teD X.K X.mg W (dOp pGe f g)) := px_cmpR op_ge od_ge ha hb (nomark _)
theorem none_iff {K : PySem.W.Frag} {F H : Hp} {v : V} {d : P} (h : RpB K F H v d) : decide (v = .non) = isNone d := by
  rcases h with h | ⟨p, vs, ds, rfl, rfl, _⟩
  · cases h <;> rfl
  · rfl
def rIsA : R2 := fun x y H Q => (y = .non ∧ Q (.bl (decide (x = .non))) H) ∨ rIsB x y H Q
def rIsNotA : R2 := fun x y H Q => (y = .non ∧ Q (.bl (!decide (x = .non))) H) ∨ rNotB x y H Q
theorem od_is : OpD X W pIs rIsA := fun σ F H x y d e Q c hx hy o => by
  unfold pIs at o
  split at o
  · exact .inl ⟨none_of hy, by rw [none_iff hx]; exact o _ F H (.refl c) (.bl _)⟩
  · exact .inr ⟨_, _, bool_of hx, bool_of hy, o _ F H (.refl c) (.bl _)⟩
  · exact o.elim
theorem od_isnot : OpD X W pIsNot rIsNotA := fun σ F H x y d e Q c hx hy o => by
  unfold pIsNot at o
  split at o
  · exact .inl ⟨none_of hy, by rw [none_iff hx]; exact o _ F H (.refl c) (.bl _)⟩
  · exact .inr ⟨_, _, bool_of hx, bool_of hy, o _ F H (.refl c) (.bl _)⟩
  · exact o.elim
theorem px_is (ha : PE X a (teB X.K X.mg W f)) (hb : PE X b (teB X.K X.mg W g)) : PE X (.Compare a [.Is] [b] pos) (teD X.K X.mg W (dOp pIs f g)) := px_cmpR (OpR.or op_isN op_isBl) od_is ha hb (nomark _)
theorem px_isnot (ha : PE X a (teB X.K X.mg W f)) (hb : PE X b (teB X.K X.mg W g)) : PE X (.Compare a [.IsNot] [b] pos) (teD X.K X.mg W (dOp pIsNot f g)) := px_cmpR (OpR.or op_notN op_notBl) od_isnot ha hb (nomark _)
end
end DL

set_option Elab.async false
set_option linter.all false
set_option maxRecDepth 100000
set_option maxHeartbeats 4000000
namespace DL
open PySem L2
variable [LTab]
section
variable {X : Cx} {W : WX} {a b c e : Expr} {es rest : List Expr} {f g h : DE P} {fl : DE (List P)} {ft gt : DE Bool} {pos : Pos}
/-! ### in, not in -/
theorem inV_ints (i : Int) (ns : List Int) : inV (.int i) (ns.map V.int) = decide (i ∈ ns) := by
  unfold inV
  rw [List.any_map, Bool.eq_iff_iff, List.any_eq_true, decide_eq_true_iff]
  constructor
  · rintro ⟨x, hx, q⟩
    have q' : (x == i) = true := q
    rw [beq_iff_eq] at q'
    subst q'
    exact hx
  · exact fun hx => ⟨i, hx, by show (i == i) = true; simp⟩
theorem flat_ints (ns : List Int) : (ns.map V.int).all flatV = true := by
  rw [List.all_map, List.all_eq_true]
  exact fun x _ => rfl
def rInA (K : PySem.W.Frag) (neg : Bool) : R2 := fun x y H Q => rIn K neg x y H Q ∨ (∃ (c : Nat) (z : Str), x = .str ⟨#[c]⟩ ∧ y = .str z ∧ Q (.bl (if neg then !decide (c ∈ z.cps.toList) else decide (c ∈ z.cps.toList))) H)
theorem str_one {c : Str} (h : c.cps.size = 1) : c = ⟨#[c.cps[0]!]⟩ := by
  obtain ⟨⟨l⟩⟩ := c
  match l, h with
  | [x], _ => rfl
theorem od_in0 {neg : Bool} {σ : St} {F H : Hp} {x y : V} {d e : P} {Q : VK} (c : Ex F H) (hx : RpB X.K F H x d) (hy : RpB X.K F H y e) (o : OutE X.K X.mg W σ F H ((pIn0 d e).bind fun b => .ok (.bool (if neg then !b else b))) Q) : rInA X.K neg x y H Q := by
  unfold pIn0 at o
  split at o
  · rename_i i es
    obtain ⟨p, vs, rfl, h1, h2⟩ := hy.tup
    unfold inItems at o
    split at o
    · rename_i ns hn
      rw [ints_eq hn] at h2
      rw [h2.ints] at h1
      cases int_of hx
      refine .inl ⟨p, _, rfl, .inr (c.sqT h1), rfl, flat_ints ns, ?_⟩
      rw [inV_ints]
      exact o _ F H (.refl c) (.bl _)
    · exact o.elim
  · rename_i i es
    obtain ⟨p, vs, rfl, h1, h2⟩ := hy.lst c
    unfold inItems at o
    split at o
    · rename_i ns hn
      rw [ints_eq hn] at h2
      rw [h2.ints] at h1
      cases int_of hx
      refine .inl ⟨p, _, rfl, .inl (.of h1), rfl, flat_ints ns, ?_⟩
      rw [inV_ints]
      exact o _ F H (.refl c) (.bl _)
    · exact o.elim
  · rename_i u z
    unfold inStr at o
    split at o
    · rename_i hs
      refine .inr ⟨u.cps[0]!, z, ?_, str_of hy, o _ F H (.refl c) (.bl _)⟩
      rw [← str_one hs]
      exact str_of hx
    · exact o.elim
  · exact o.elim
theorem op_inA : OpR X (compareOp .In) (rInA X.K false) := OpR.or op_in_seq op_in_sign
theorem op_notInA : OpR X (compareOp .NotIn) (rInA X.K true) := OpR.or op_notIn_seq op_notIn_sign
theorem od_in : OpD X W pIn (rInA X.K false) := fun σ F H x y d e Q c hx hy o => od_in0 c hx hy o
theorem od_notin : OpD X W pNotIn (rInA X.K true) := fun σ F H x y d e Q c hx hy o => od_in0 c hx hy o
theorem px_in (ha : PE X a (teB X.K X.mg W f)) (hb : PE X b (teB X.K X.mg W g)) (hm : behindInMarks .In b = false := by rfl) : PE X (.Compare a [.In] [b] pos) (teD X.K X.mg W (dOp pIn f g)) := px_cmpR op_inA od_in ha hb hm
theorem px_notin (ha : PE X a (teB X.K X.mg W f)) (hb : PE X b (teB X.K X.mg W g)) (hm : behindInMarks .NotIn b = false := by rfl) : PE X (.Compare a [.NotIn] [b] pos) (teD X.K X.mg W (dOp pNotIn f g)) := px_cmpR op_notInA od_notin ha hb hm

/-! ### items, slices -/
theorem atI_rp {K : PySem.W.Frag} {F : Hp} {vs : List V} {ds : List P} {i : Int} {d : P} (h : RpAll K F vs ds) (e : atI ds i = some d) : ∃ v, atI vs i = some v ∧ Rp K F v d := by
  unfold atI at e ⊢
  rw [h.len]
  cases q : ixN ds.length i with
  | none => exact absurd e (by rw [q]; exact nofun)
  | some j =>
    rw [q] at e
    exact h.get e
theorem od_ix : OpD X W pIx (rIx X.K) := fun σ F H x y d e Q c hx hy o => by
  unfold pIx at o
  split at o
  · rename_i ds i
    obtain ⟨p, vs, rfl, h1, h2⟩ := hx.lst c
    unfold atP at o
    split at o
    · rename_i d' hd
      obtain ⟨v, hv, hr⟩ := atI_rp h2 hd
      exact .inl ⟨p, vs, i, v, rfl, int_of hy, .of h1, hv, o v F H (.refl c) hr⟩
    · exact o.elim
  · rename_i ds i
    obtain ⟨p, vs, rfl, h1, h2⟩ := hx.tup
    unfold atP at o
    split at o
    · rename_i d' hd
      obtain ⟨v, hv, hr⟩ := atI_rp h2 hd
      exact .inr (.inl ⟨p, vs, i, v, rfl, int_of hy, c.sqT h1, hv, o v F H (.refl c) hr⟩)
    · exact o.elim
  · rename_i ds i
    have h1 := hx.rp (fun _ => nofun)
    cases h1 with
    | scr h1 =>
      rename_i a ns
      unfold atP at o
      split at o
      · rename_i d' hd
        obtain ⟨v, hv, hr⟩ := atI_rp (K := X.K) (F := F) (RpAll.of_ints ns) hd
        exact .inl ⟨_, _, i, v, rfl, int_of hy, c.sqL h1, hv, o v F H (.refl c) hr⟩
      · exact o.elim
  · rename_i z i
    split at o
    · rename_i hz
      split at o
      · rename_i u hu
        exact .inr (.inr ⟨z, i, u, str_of hx, int_of hy, by rw [lim_eq]; exact hz, hu, o _ F H (.refl c) (.str _)⟩)
      · exact o.elim
    · exact o.elim
  · exact o.elim
theorem px_ix (ha : PE X a (teB X.K X.mg W f)) (hb : PE X b (teB X.K X.mg W g)) (hs : PlainIx b := by exact fun _ _ => rfl) : PE X (.Subscript a b pos) (teD X.K X.mg W (dOp pIx f g)) := px_ixR ix_seq od_ix ha hb hs

theorem cut_eq (xs : List V) (lo hi : Option Int) : cutV xs lo hi = cut xs lo hi := rfl
theorem RpAll.cut {K : PySem.W.Frag} {F : Hp} {vs : List V} {ds : List P} (h : RpAll K F vs ds) (lo hi : Option Int) : RpAll K F (cutV vs lo hi) (DL.cut ds lo hi) := by
  unfold cutV DL.cut
  rw [h.len]
  exact (h.drop _).take _
theorem cut_whole {α : Type} {xs : List α} {lo hi : Option Int} (h : HT.sIx xs.length 0 lo = 0 ∧ HT.sIx xs.length xs.length hi = xs.length) : cut xs lo hi = xs := by
  unfold cut
  rw [h.1, h.2, List.drop_zero, Nat.sub_zero, List.take_length]
/-- a part of a slice -/
def toD (K : PySem.W.Frag) (mg : Str → Option Value) (W : WX) (f : DE (Option Int)) : TO := fun σ H Q => ∃ B F δ, EnvOk K B F H σ δ ∧ (match f δ with
  | .ok l => ∀ F' H', Ext F H F' H' → Q l H'
  | .exc n => XcW mg W σ F H n
  | .stuck => False)
theorem toD.then {K : PySem.W.Frag} {mg : Str → Option Value} {σ : St} {F H : Hp} {f : DE (Option Int)} {Q : Option Int → Hp → Prop} {B : Hp} {δ : DEnv} (E : EnvOk K B F H σ δ) (hx : ∀ n, f δ = .exc n → XcW mg W σ F H n) (hs : f δ = .stuck → False)
    (k : ∀ l F1 H1, f δ = .ok l → Ext F H F1 H1 → Q l H1) : toD K mg W f σ H Q := by
  refine ⟨B, F, δ, E, ?_⟩
  cases h : f δ with
  | ok d => exact fun F' H' x => k d F' H' h x
  | exc n => exact hx n h
  | stuck => exact hs h
theorem POi {e : Option Expr} {t t' : TO} (h : PO X e t) (i : ∀ σ H Q, t' σ H Q → t σ H Q) : PO X e t' := ⟨fun pins s σ H Q I q => h.run pins s σ H Q I (i σ H Q q)⟩
theorem px_onone : PO X none (toD X.K X.mg W oNone) := POi po_none fun σ H Q ⟨B, F, δ, E, o⟩ => o F H (.refl E.c)
theorem px_osome (ha : PE X a (teB X.K X.mg W f)) : PO X (some a) (toD X.K X.mg W (oSome f)) := POi (po_some ha) fun σ H Q ⟨B, F, δ, E, o⟩ => by
  have o' : match (f δ).bind partOf with
    | .ok l => ∀ F' H', Ext F H F' H' → Q l H'
    | .exc n => XcW X.mg W σ F H n
    | .stuck => False := o
  clear o
  refine teB.then E (fun n e => ?_) (fun e => ?_) fun d v F1 H1 e1 X1 r1 => ?_
  · rw [e] at o'
    exact o'
  · rw [e] at o'
    exact o'
  · rw [e1] at o'
    cases d with
    | int i => exact ⟨i, int_of r1, o' F1 H1 X1⟩
    | _ => exact o'.elim
/-- slices of tuples and texts; of lists -/
def rSlAny (K : PySem.W.Frag) : V → Option Int → Option Int → Hp → VK → Prop := fun x lo hi H Q => rSlA K x lo hi H Q ∨ rSlS x lo hi H Q
theorem sl_any : SlR X (rSlAny X.K) := SlR.or sl_tupA sl_str
variable {l u : Option Expr} {lf uf : DE (Option Int)} {p2 : Pos}
theorem px_sl (ha : PE X a (teB X.K X.mg W f)) (hl : PO X l (toD X.K X.mg W lf)) (hu : PO X u (toD X.K X.mg W uf)) : PE X (.Subscript a (.Slice l u none p2) pos) (teD X.K X.mg W (dSl pSl f lf uf)) :=
  PEi (pe_slice sl_any ha hl hu) fun σ H Q ⟨B, F, δ, E, o⟩ => by
  obtain ⟨x1, s1, k1⟩ := outE_bind o
  refine teB.then E x1 s1 fun d v F1 H1 e1 X1 r1 => ?_
  obtain ⟨x2, s2, k2⟩ := outE_bind (k1 d e1)
  refine toD.then (E.up X1) (fun n h => (x2 n h).up X1) s2 fun lo F2 H2 e2 X2 => ?_
  obtain ⟨x3, s3, k3⟩ := outE_bind (k2 lo e2)
  refine toD.then ((E.up X1).up X2) (fun n h => (x3 n h).up (X1.trans X2)) s3 fun hi F3 H3 e3 X3 => ?_
  have o3 := (k3 hi e3).up ((X1.trans X2).trans X3)
  have r3 := (r1.up X2).up X3
  unfold pSl at o3
  split at o3
  · obtain ⟨p, vs, rfl, h1, h2⟩ := r3.tup
    refine .inl ⟨p, vs, rfl, X3.c.sqT h1, fun hw => ?_, fun hw q hq => ?_⟩
    · refine o3 _ F3 H3 (.refl X3.c) (.tup h1 ?_)
      rw [h2.len] at hw
      rw [cut_whole hw]
      exact h2
    · exact o3 _ _ _ (.new X3.c hq) (.tup (.of upd_same) ((h2.cut lo hi).up (.new (X3.c.none hq))))
  · split at o3
    · rename_i z hz
      exact .inr ⟨z, str_of r3, by rw [lim_eq]; exact hz, o3 _ F3 H3 (.refl X3.c) (.str _)⟩
    · exact o3.elim
  · exact o3.elim
theorem pl_sl (ha : PE X a (teB X.K X.mg W f)) (hl : PO X l (toD X.K X.mg W lf)) (hu : PO X u (toD X.K X.mg W uf)) : PE X (.Subscript a (.Slice l u none p2) pos) (teL X.K X.mg W (dSl pSlL f lf uf)) :=
  PEi (pe_slice sl_list ha hl hu) fun σ H Q ⟨B, F, δ, E, o⟩ => by
  obtain ⟨x1, s1, k1⟩ := outL_bind o
  refine teB.then E x1 s1 fun d v F1 H1 e1 X1 r1 => ?_
  obtain ⟨x2, s2, k2⟩ := outL_bind (k1 d e1)
  refine toD.then (E.up X1) (fun n h => (x2 n h).up X1) s2 fun lo F2 H2 e2 X2 => ?_
  obtain ⟨x3, s3, k3⟩ := outL_bind (k2 lo e2)
  refine toD.then ((E.up X1).up X2) (fun n h => (x3 n h).up (X1.trans X2)) s3 fun hi F3 H3 e3 X3 => ?_
  have o3 := (k3 hi e3).up ((X1.trans X2).trans X3)
  have r3 := (r1.up X2).up X3
  unfold pSlL at o3
  split at o3
  · obtain ⟨p, vs, rfl, h1, h2⟩ := r3.lst X3.c
    exact ⟨p, vs, rfl, .of h1, fun q hq => o3 q _ F3 _ (.newH X3.c hq) hq (X3.c.none hq) upd_same (h2.cut lo hi)⟩
  · exact o3.elim

/-! ### one place -/
theorem px_neg (ha : PE X a (teB X.K X.mg W f)) : PE X (.UnaryOp .USub a pos) (teD X.K X.mg W (dUn pNeg f)) := PEi (pe_un un_neg ha) fun σ H Q ⟨B, F, δ, E, o⟩ => by
  obtain ⟨x1, s1, k1⟩ := outE_bind o
  refine teB.then E x1 s1 fun d v F1 H1 e1 X1 r1 => ?_
  have o1 := (k1 d e1).up X1
  cases d with
  | int i => exact ⟨i, int_of r1, o1 _ F1 H1 (.refl X1.c) (.int _)⟩
  | _ => exact o1.elim

/-! ### truths as values -/
theorem truth_ok {d : P} {b : Bool} (h : truthOf d = .ok b) : d = .bool b := by
  cases d <;> cases h
  rfl
theorem truth_exc {d : P} {n : Str} (h : truthOf d = .exc n) : False := by
  cases d <;> cases h
theorem px_one {op : BoolOp} (ha : PE X a (teD X.K X.mg W f)) : PE X (.BoolOp op [a] pos) (teD X.K X.mg W f) := pe_one ha
theorem px_and (ha : PE X a (teD X.K X.mg W f)) (hb : PE X (.BoolOp .And (b :: rest) pos) (teD X.K X.mg W g)) : PE X (.BoolOp .And (a :: b :: rest) pos) (teD X.K X.mg W (dAnd f g)) := PEi (pe_and ha hb) fun σ H Q ⟨B, F, δ, E, o⟩ => by
  obtain ⟨x1, s1, k1⟩ := outE_bind o
  refine teD.then E x1 s1 fun d v F1 H1 e1 X1 r1 => ?_
  obtain ⟨x2, s2, k2⟩ := outE_bind (k1 d e1)
  cases t : truthOf d with
  | ok b =>
    have o2 := (k2 b t).up X1
    cases truth_ok t
    cases r1
    refine ⟨b, rfl, ?_⟩
    cases b with
    | true => exact ⟨B, F1, δ, E.up X1, o2⟩
    | false => exact o2 _ F1 H1 (.refl X1.c) (.bl _)
  | exc n => exact (truth_exc t).elim
  | stuck => exact (s2 t).elim
theorem px_or (ha : PE X a (teD X.K X.mg W f)) (hb : PE X (.BoolOp .Or (b :: rest) pos) (teD X.K X.mg W g)) : PE X (.BoolOp .Or (a :: b :: rest) pos) (teD X.K X.mg W (dOr f g)) := PEi (pe_or ha hb) fun σ H Q ⟨B, F, δ, E, o⟩ => by
  obtain ⟨x1, s1, k1⟩ := outE_bind o
  refine teD.then E x1 s1 fun d v F1 H1 e1 X1 r1 => ?_
  obtain ⟨x2, s2, k2⟩ := outE_bind (k1 d e1)
  cases t : truthOf d with
  | ok b =>
    have o2 := (k2 b t).up X1
    cases truth_ok t
    cases r1
    refine ⟨b, rfl, ?_⟩
    cases b with
    | false => exact ⟨B, F1, δ, E.up X1, o2⟩
    | true => exact o2 _ F1 H1 (.refl X1.c) (.bl _)
  | exc n => exact (truth_exc t).elim
  | stuck => exact (s2 t).elim
theorem px_not (ha : PE X a (teD X.K X.mg W f)) : PE X (.UnaryOp .Not a pos) (teD X.K X.mg W (dNot f)) := PEi (pe_not ha) fun σ H Q ⟨B, F, δ, E, o⟩ => by
  obtain ⟨x1, s1, k1⟩ := outE_bind o
  refine teD.then E x1 s1 fun d v F1 H1 e1 X1 r1 => ?_
  obtain ⟨x2, s2, k2⟩ := outE_bind (k1 d e1)
  cases t : truthOf d with
  | ok b =>
    have o2 := (k2 b t).up X1
    cases truth_ok t
    cases r1
    exact ⟨b, rfl, o2 _ F1 H1 (.refl X1.c) (.bl _)⟩
  | exc n => exact (truth_exc t).elim
  | stuck => exact (s2 t).elim
/-- a op b op' c -/
theorem px_chain {op op' : CmpOp} {r r' : R2} {pop pop' : P → P → Res P} (ho : OpR X (compareOp op) r) (ho' : OpR X (compareOp op') r') (hd : OpD X W pop r) (hd' : OpD X W pop' r') (ha : PE X a (teB X.K X.mg W f)) (hb : PE X b (teB X.K X.mg W g)) (hc : PE X c (teB X.K X.mg W h))
    (hm : lastMarks [op, op'] [b, c] = false := by with_unfolding_all rfl) : PE X (.Compare a [op, op'] [b, c] pos) (teD X.K X.mg W (dChain pop pop' f g h)) := PEi (pe_chain ho ho' ha hb hc hm) fun σ H Q ⟨B, F, δ, E, o⟩ => by
  obtain ⟨x1, s1, k1⟩ := outE_bind o
  refine teB.then E x1 s1 fun d v F1 H1 e1 X1 r1 => ?_
  obtain ⟨x2, s2, k2⟩ := outE_bind (k1 d e1)
  refine teB.then (E.up X1) (fun n h => (x2 n h).up X1) s2 fun d2 v2 F2 H2 e2 X2 r2 => ?_
  obtain ⟨x3, s3, k3⟩ := outE_bind (k2 d2 e2)
  have X12 := X1.trans X2
  refine hd σ F2 H2 v v2 d d2 _ X2.c (r1.up X2) r2 ?_
  cases t : pop d d2 with
  | exc n => exact (x3 n t).up X12
  | stuck => exact (s3 t).elim
  | ok z =>
    intro v3 F3 H3 X3 r3
    obtain ⟨x4, s4, k4⟩ := outE_bind (k3 z t)
    cases t2 : truthOf z with
    | exc n => exact (truth_exc t2).elim
    | stuck => exact (s4 t2).elim
    | ok b =>
      have o4 := (k4 b t2).up (X12.trans X3)
      cases truth_ok t2
      cases r3
      refine ⟨b, rfl, ?_⟩
      cases b with
      | false => exact o4 _ F3 H3 (.refl X3.c) (.bl _)
      | true =>
        rw [if_pos rfl] at o4 ⊢
        obtain ⟨x5, s5, k5⟩ := outE_bind o4
        refine teB.then ((E.up X12).up X3) x5 s5 fun d5 v5 F5 H5 e5 X5 r5 => ?_
        exact hd' σ F5 H5 v2 v5 d2 d5 Q X5.c ((r2.up X3).up X5) r5 ((k5 d5 e5).up X5)
theorem px_le_lt (ha : PE X a (teB X.K X.mg W f)) (hb : PE X b (teB X.K X.mg W g)) (hc : PE X c (teB X.K X.mg W h)) (hm : lastMarks [.LtE, .Lt] [b, c] = false := by with_unfolding_all rfl) : PE X (.Compare a [.LtE, .Lt] [b, c] pos) (teD X.K X.mg W (dChain pLe pLt f g h)) := px_chain op_le op_lt od_le od_lt ha hb hc hm
theorem px_le_le (ha : PE X a (teB X.K X.mg W f)) (hb : PE X b (teB X.K X.mg W g)) (hc : PE X c (teB X.K X.mg W h)) (hm : lastMarks [.LtE, .LtE] [b, c] = false := by with_unfolding_all rfl) : PE X (.Compare a [.LtE, .LtE] [b, c] pos) (teD X.K X.mg W (dChain pLe pLe f g h)) := px_chain op_le op_le od_le od_le ha hb hc hm
theorem px_lt_lt (ha : PE X a (teB X.K X.mg W f)) (hb : PE X b (teB X.K X.mg W g)) (hc : PE X c (teB X.K X.mg W h)) (hm : lastMarks [.Lt, .Lt] [b, c] = false := by with_unfolding_all rfl) : PE X (.Compare a [.Lt, .Lt] [b, c] pos) (teD X.K X.mg W (dChain pLt pLt f g h)) := px_chain op_lt op_lt od_lt od_lt ha hb hc hm

/-! ### tests -/
theorem tt_of {σ : St} {H : Hp} {Q : Bool → Hp → Prop} (q : teT X.K X.mg W (dT f) σ H Q) : teD X.K X.mg W f σ H (fun x H' => ∃ k, x = .bl k ∧ Q k H') := by
  obtain ⟨B, F, δ, E, o⟩ := q
  obtain ⟨x1, s1, k1⟩ := outT_bind o
  refine teD.then E x1 s1 fun d v F1 H1 e1 X1 r1 => ?_
  have o1 := (k1 d e1).up X1
  cases t : truthOf d with
  | ok b =>
    rw [t] at o1
    cases truth_ok t
    cases r1
    exact ⟨b, rfl, o1 F1 H1 (.refl X1.c)⟩
  | exc n => exact (truth_exc t).elim
  | stuck =>
    rw [t] at o1
    exact o1.elim
/-- of a name, a call, an item -/
theorem pt_e (ha : PE X a (teD X.K X.mg W f)) (he : ∀ whole, isTrue a X.env whole = (do let v ← whole; standAt a.pos; holding [v] (truthy v)) := by intro _; rfl) : PT X a (teT X.K X.mg W (dT f)) := PTi (pt_val ha he) fun _ _ _ q => tt_of q
theorem pt_cR {op : CmpOp} {r : R2} {pop : P → P → Res P} (ho : OpR X (compareOp op) r) (hd : OpD X W pop r) (ha : PE X a (teB X.K X.mg W f)) (hb : PE X b (teB X.K X.mg W g)) (hm : behindInMarks op b = false) : PT X (.Compare a [op] [b] pos) (teT X.K X.mg W (dT (dOp pop f g))) :=
  PTi (pt_cmpR ho ha hb hm) fun _ _ _ q => two hd (tt_of q)
theorem pt_eq {k : Nat} (hr : Room k X.A) (ha : PE X a (teB X.K X.mg W f)) (hb : PE X b (teB X.K X.mg W g)) : PT X (.Compare a [.Eq] [b] pos) (teT X.K X.mg W (dT (dOp pEq f g))) := pt_cR (op_eqD hr.units) od_eq ha hb (nomark _)
theorem pt_ne {k : Nat} (hr : Room k X.A) (ha : PE X a (teB X.K X.mg W f)) (hb : PE X b (teB X.K X.mg W g)) : PT X (.Compare a [.NotEq] [b] pos) (teT X.K X.mg W (dT (dOp pNe f g))) := pt_cR (op_neD hr.units) od_ne ha hb (nomark _)
theorem pt_lt (ha : PE X a (teB X.K X.mg W f)) (hb : PE X b (teB X.K X.mg W g)) : PT X (.Compare a [.Lt] [b] pos) (teT X.K X.mg W (dT (dOp pLt f g))) := pt_cR op_lt od_lt ha hb (nomark _)
theorem pt_le (ha : PE X a (teB X.K X.mg W f)) (hb : PE X b (teB X.K X.mg W g)) : PT X (.Compare a [.LtE] [b] pos) (teT X.K X.mg W (dT (dOp pLe f g))) := pt_cR op_le od_le ha hb (nomark _)
theorem pt_gt (ha : PE X a (teB X.K X.mg W f)) (hb : PE X b (teB X.K X.mg W g)) : PT X (.Compare a [.Gt] [b] pos) (teT X.K X.mg W (dT (dOp pGt f g))) := pt_cR op_gt od_gt ha hb (nomark _)
theorem pt_ge (ha : PE X a (teB X.K X.mg W f)) (hb : PE X b (teB X.K X.mg W g)) : PT X (.Compare a [.GtE] [b] pos) (teT X.K X.mg W (dT (dOp pGe f g))) := pt_cR op_ge od_ge ha hb (nomark _)
theorem pt_is (ha : PE X a (teB X.K X.mg W f)) (hb : PE X b (teB X.K X.mg W g)) : PT X (.Compare a [.Is] [b] pos) (teT X.K X.mg W (dT (dOp pIs f g))) := pt_cR (OpR.or op_isN op_isBl) od_is ha hb (nomark _)
theorem pt_isnot (ha : PE X a (teB X.K X.mg W f)) (hb : PE X b (teB X.K X.mg W g)) : PT X (.Compare a [.IsNot] [b] pos) (teT X.K X.mg W (dT (dOp pIsNot f g))) := pt_cR (OpR.or op_notN op_notBl) od_isnot ha hb (nomark _)
theorem pt_in (ha : PE X a (teB X.K X.mg W f)) (hb : PE X b (teB X.K X.mg W g)) (hm : behindInMarks .In b = false := by rfl) : PT X (.Compare a [.In] [b] pos) (teT X.K X.mg W (dT (dOp pIn f g))) := pt_cR op_inA od_in ha hb hm
theorem pt_notin (ha : PE X a (teB X.K X.mg W f)) (hb : PE X b (teB X.K X.mg W g)) (hm : behindInMarks .NotIn b = false := by rfl) : PT X (.Compare a [.NotIn] [b] pos) (teT X.K X.mg W (dT (dOp pNotIn f g))) := pt_cR op_notInA od_notin ha hb hm
theorem chain_dn {r r' : R2} {pop pop' : P → P → Res P} (hd : OpD X W pop r) (hd' : OpD X W pop' r') {σ : St} {H : Hp} {Q : VK} (q : teD X.K X.mg W (dChain pop pop' f g h) σ H Q) : tChain r r' (teB X.K X.mg W f) (teB X.K X.mg W g) (teB X.K X.mg W h) σ H Q := by
  obtain ⟨B, F, δ, E, o⟩ := q
  obtain ⟨x1, s1, k1⟩ := outE_bind o
  refine teB.then E x1 s1 fun d v F1 H1 e1 X1 r1 => ?_
  obtain ⟨x2, s2, k2⟩ := outE_bind (k1 d e1)
  refine teB.then (E.up X1) (fun n h => (x2 n h).up X1) s2 fun d2 v2 F2 H2 e2 X2 r2 => ?_
  obtain ⟨x3, s3, k3⟩ := outE_bind (k2 d2 e2)
  have X12 := X1.trans X2
  refine hd σ F2 H2 v v2 d d2 _ X2.c (r1.up X2) r2 ?_
  cases t : pop d d2 with
  | exc n => exact (x3 n t).up X12
  | stuck => exact (s3 t).elim
  | ok z =>
    intro v3 F3 H3 X3 r3
    obtain ⟨x4, s4, k4⟩ := outE_bind (k3 z t)
    cases t2 : truthOf z with
    | exc n => exact (truth_exc t2).elim
    | stuck => exact (s4 t2).elim
    | ok b =>
      have o4 := (k4 b t2).up (X12.trans X3)
      cases truth_ok t2
      cases r3
      refine ⟨b, rfl, ?_⟩
      cases b with
      | false => exact o4 _ F3 H3 (.refl X3.c) (.bl _)
      | true =>
        rw [if_pos rfl] at o4 ⊢
        obtain ⟨x5, s5, k5⟩ := outE_bind o4
        refine teB.then ((E.up X12).up X3) x5 s5 fun d5 v5 F5 H5 e5 X5 r5 => ?_
        exact hd' σ F5 H5 v2 v5 d2 d5 Q X5.c ((r2.up X3).up X5) r5 ((k5 d5 e5).up X5)
theorem pt_chainD {op op' : CmpOp} {r r' : R2} {pop pop' : P → P → Res P} (ho : OpR X (compareOp op) r) (ho' : OpR X (compareOp op') r') (hd : OpD X W pop r) (hd' : OpD X W pop' r') (ha : PE X a (teB X.K X.mg W f)) (hb : PE X b (teB X.K X.mg W g)) (hc : PE X c (teB X.K X.mg W h))
    (hm : lastMarks [op, op'] [b, c] = false := by with_unfolding_all rfl) : PT X (.Compare a [op, op'] [b, c] pos) (teT X.K X.mg W (dT (dChain pop pop' f g h))) := PTi (pt_chain ho ho' ha hb hc hm) fun _ _ _ q => chain_dn hd hd' (tt_of q)
theorem pt_le_lt (ha : PE X a (teB X.K X.mg W f)) (hb : PE X b (teB X.K X.mg W g)) (hc : PE X c (teB X.K X.mg W h)) (hm : lastMarks [.LtE, .Lt] [b, c] = false := by with_unfolding_all rfl) : PT X (.Compare a [.LtE, .Lt] [b, c] pos) (teT X.K X.mg W (dT (dChain pLe pLt f g h))) := pt_chainD op_le op_lt od_le od_lt ha hb hc hm
theorem pt_le_le (ha : PE X a (teB X.K X.mg W f)) (hb : PE X b (teB X.K X.mg W g)) (hc : PE X c (teB X.K X.mg W h)) (hm : lastMarks [.LtE, .LtE] [b, c] = false := by with_unfolding_all rfl) : PT X (.Compare a [.LtE, .LtE] [b, c] pos) (teT X.K X.mg W (dT (dChain pLe pLe f g h))) := pt_chainD op_le op_le od_le od_le ha hb hc hm
theorem pt_lt_lt (ha : PE X a (teB X.K X.mg W f)) (hb : PE X b (teB X.K X.mg W g)) (hc : PE X c (teB X.K X.mg W h)) (hm : lastMarks [.Lt, .Lt] [b, c] = false := by with_unfolding_all rfl) : PT X (.Compare a [.Lt, .Lt] [b, c] pos) (teT X.K X.mg W (dT (dChain pLt pLt f g h))) := pt_chainD op_lt op_lt od_lt od_lt ha hb hc hm
theorem pt_notD (ha : PT X a (teT X.K X.mg W ft)) : PT X (.UnaryOp .Not a pos) (teT X.K X.mg W (tNotD ft)) := PTi (pt_not ha) fun σ H Q ⟨B, F, δ, E, o⟩ => by
  obtain ⟨x1, s1, k1⟩ := outT_bind o
  exact teT.then E x1 s1 fun b F1 H1 e1 X1 => (k1 b e1).up X1 F1 H1 (.refl X1.c)
theorem pw_one1A (ha : PT X a (teT X.K X.mg W ft)) : PW X (.BoolOp .And [a] pos) (teT X.K X.mg W ft) := pw_and1 ha
theorem pw_one1O (ha : PT X a (teT X.K X.mg W ft)) : PW X (.BoolOp .Or [a] pos) (teT X.K X.mg W ft) := pw_or1 ha
theorem pw_andD (ha : PT X a (teT X.K X.mg W ft)) (hb : PW X (.BoolOp .And (b :: rest) pos) (teT X.K X.mg W gt)) : PW X (.BoolOp .And (a :: b :: rest) pos) (teT X.K X.mg W (tAndD ft gt)) := PWi (pw_and ha hb) fun σ H Q ⟨B, F, δ, E, o⟩ => by
  obtain ⟨x1, s1, k1⟩ := outT_bind o
  refine teT.then E x1 s1 fun b F1 H1 e1 X1 => ?_
  have o1 := (k1 b e1).up X1
  cases b with
  | true => exact ⟨B, F1, δ, E.up X1, o1⟩
  | false => exact o1 F1 H1 (.refl X1.c)
theorem pw_orD (ha : PT X a (teT X.K X.mg W ft)) (hb : PW X (.BoolOp .Or (b :: rest) pos) (teT X.K X.mg W gt)) : PW X (.BoolOp .Or (a :: b :: rest) pos) (teT X.K X.mg W (tOrD ft gt)) := PWi (pw_or ha hb) fun σ H Q ⟨B, F, δ, E, o⟩ => by
  obtain ⟨x1, s1, k1⟩ := outT_bind o
  refine teT.then E x1 s1 fun b F1 H1 e1 X1 => ?_
  have o1 := (k1 b e1).up X1
  cases b with
  | false => exact ⟨B, F1, δ, E.up X1, o1⟩
  | true => exact o1 F1 H1 (.refl X1.c)

/-! ### displays, arguments -/
theorem ax_nil : PA X [] (taD X.K X.mg W aNil) := PAi pa_nil fun σ H Q ⟨B, F, δ, E, o⟩ => o _ F H (.refl E.c) .nil
theorem ax_cons (ha : PE X e (teD X.K X.mg W f)) (hr : PA X es (taD X.K X.mg W fl)) (hs : starEach (e :: es) X.env = (false, eval e X.env) :: starEach es X.env := by rfl) : PA X (e :: es) (taD X.K X.mg W (aCons f fl)) := PAi (pa_cons ha hr hs) fun σ H Q ⟨B, F, δ, E, o⟩ => by
  obtain ⟨x1, s1, k1⟩ := outA_bind o
  refine teD.then E x1 s1 fun d v F1 H1 e1 X1 r1 => ?_
  obtain ⟨x2, s2, k2⟩ := outA_bind (k1 d e1)
  refine taD.then (E.up X1) (fun n h => (x2 n h).up X1) s2 fun ds vs F2 H2 e2 X2 r2 => ?_
  exact ((k2 ds e2).up (X1.trans X2)) _ F2 H2 (.refl X2.c) (.cons (r1.up X2.f) r2)
def sizedL (ds : List P) : Res (List P) := if ds.length ≤ lim then .ok ds else .stuck
def sizedT (ds : List P) : Res P := if ds.length ≤ lim then .ok (.tuple ds) else .stuck
def dTupl (fl : DE (List P)) : DE P := fun δ => (fl δ).bind sizedT
def dList (fl : DE (List P)) : DE (List P) := fun δ => (fl δ).bind sizedL
theorem px_tup {x1 : Nat} (h : PA X es (taD X.K X.mg W fl)) : PE X (.Tuple es x1 pos) (teD X.K X.mg W (dTupl fl)) := PEi (pe_tup h) fun σ H Q ⟨B, F, δ, E, o⟩ => by
  obtain ⟨x1, s1, k1⟩ := outE_bind o
  refine taD.then E x1 s1 fun ds vs F1 H1 e1 X1 r1 => ?_
  have o1 := (k1 ds e1).up X1
  unfold sizedT at o1
  split at o1
  · rename_i hz
    refine ⟨by rw [lim_eq, r1.len]; exact hz, fun p hp => ?_⟩
    exact o1 _ _ _ (.new X1.c hp) (.tup (.of upd_same) (r1.up (.new (X1.c.none hp))))
  · exact o1.elim
theorem pl_lst (h : PA X es (taD X.K X.mg W fl)) : PE X (.List es pos) (teL X.K X.mg W (dList fl)) := PEi (pe_lst h) fun σ H Q ⟨B, F, δ, E, o⟩ => by
  obtain ⟨x1, s1, k1⟩ := outL_bind o
  refine taD.then E x1 s1 fun ds vs F1 H1 e1 X1 r1 => ?_
  have o1 := (k1 ds e1).up X1
  unfold sizedL at o1
  split at o1
  · rename_i hz
    refine ⟨by rw [lim_eq, r1.len]; exact hz, fun p hp => ?_⟩
    exact o1 p _ F1 _ (.newH X1.c hp) hp (X1.c.none hp) upd_same r1
  · exact o1.elim

/-! ### calls of built-ins with one thing -/
variable {x : Str} {p : Pos} {T : String} {r : List V → Hp → VK → Prop}
theorem one_b {op : P → Res P} (ho : ∀ (σ : St) (F H : Hp) (v : V) (d : P) (Q : VK), Ex F H → RpB X.K F H v d → OutE X.K X.mg W σ F H (op d) Q → r [v] H Q) {σ : St} {H : Hp} {Q : VK} (q : teD X.K X.mg W (dUn op f) σ H Q) : tCB r (tCons (teB X.K X.mg W f) tNil) σ H Q := by
  obtain ⟨B, F, δ, E, o⟩ := q
  obtain ⟨x1, s1, k1⟩ := outE_bind o
  exact teB.then E x1 s1 fun d v F1 H1 e1 X1 r1 => ho σ F1 H1 v d Q X1.c r1 ((k1 d e1).up X1)
theorem one_bL {op : P → Res (List P)} (ho : ∀ (σ : St) (F H : Hp) (v : V) (d : P) (Q : VK), Ex F H → RpB X.K F H v d → OutL X.K X.mg W σ F H (op d) Q → r [v] H Q) {σ : St} {H : Hp} {Q : VK} (q : teL X.K X.mg W (dUn op f) σ H Q) : tCB r (tCons (teB X.K X.mg W f) tNil) σ H Q := by
  obtain ⟨B, F, δ, E, o⟩ := q
  obtain ⟨x1, s1, k1⟩ := outL_bind o
  exact teB.then E x1 s1 fun d v F1 H1 e1 X1 r1 => ho σ F1 H1 v d Q X1.c r1 ((k1 d e1).up X1)
theorem two_b {op : P → P → Res P} (ho : ∀ (σ : St) (F H : Hp) (v u : V) (d e : P) (Q : VK), Ex F H → RpB X.K F H v d → RpB X.K F H u e → OutE X.K X.mg W σ F H (op d e) Q → r [v, u] H Q) {σ : St} {H : Hp} {Q : VK} (q : teD X.K X.mg W (dOp op f g) σ H Q) :
    tCB r (tCons (teB X.K X.mg W f) (tCons (teB X.K X.mg W g) tNil)) σ H Q := by
  obtain ⟨B, F, δ, E, o⟩ := q
  obtain ⟨x1, s1, k1⟩ := outE_bind o
  refine teB.then E x1 s1 fun d v F1 H1 e1 X1 r1 => ?_
  obtain ⟨x2, s2, k2⟩ := outE_bind (k1 d e1)
  refine teB.then (E.up X1) (fun n h => (x2 n h).up X1) s2 fun d2 u F2 H2 e2 X2 r2 => ?_
  exact ho σ F2 H2 v u d d2 Q X2.c (r1.up X2) r2 ((k2 d2 e2).up (X1.trans X2))
def pLen : P → Res P
  | .list ds => .ok (.int ds.length)
  | .tuple ds => .ok (.int ds.length)
  | .dict [(.none, .list ds)] => .ok (.int ds.length)
  | .str z => if z.length ≤ lim then .ok (.int z.length) else .stuck
  | _ => .stuck
theorem px_len (hg : Gl X "len") (hm : X.mg "len" = none) (ha : PE X a (teB X.K X.mg W f)) (hs : starEach [a] X.env = (false, eval a X.env) :: starEach [] X.env := by rfl) : PE X (.Call (.Name "len" p) [a] [] pos) (teD X.K X.mg W (dUn pLen f)) :=
  PEi (pe_callB (CallR.or call_len_seq call_len_str) hg hm PySem.boot_len (pa_cons ha pa_nil hs) (he := hs)) fun _ _ _ q => one_b (fun σ F H v d Q c hv o => by
  unfold pLen at o
  split at o
  · obtain ⟨p, vs, rfl, h1, h2⟩ := hv.lst c
    exact .inl ⟨p, vs, rfl, .inl (.of h1), by rw [h2.len]; exact o _ F H (.refl c) (.int _)⟩
  · obtain ⟨p, vs, rfl, h1, h2⟩ := hv.tup
    exact .inl ⟨p, vs, rfl, .inr (c.sqT h1), by rw [h2.len]; exact o _ F H (.refl c) (.int _)⟩
  · have h1 := hv.rp (fun _ => nofun)
    cases h1 with
    | scr h1 => exact .inl ⟨_, _, rfl, .inl (c.sqL h1), by rw [List.length_map]; rw [List.length_map] at o; exact o _ F H (.refl c) (.int _)⟩
  · split at o
    · rename_i z hz
      exact .inr ⟨z, by rw [str_of hv], by rw [lim_eq]; exact hz, o _ F H (.refl c) (.int _)⟩
    · exact o.elim
  · exact o.elim) q
def pSum : P → Res P
  | .list ds => match dInts ds with
    | some ns => .ok (.int ns.sum)
    | none => .stuck
  | _ => .stuck
theorem px_sum (hc : X.calm = true) (hg : Gl X "sum") (hm : X.mg "sum" = none) (ha : PE X a (teB X.K X.mg W f)) (hs : starEach [a] X.env = (false, eval a X.env) :: starEach [] X.env := by rfl) : PE X (.Call (.Name "sum" p) [a] [] pos) (teD X.K X.mg W (dUn pSum f)) :=
  PEi (pe_callB (cr_sum hc) hg hm PyProof.Rows.boot_sum (pa_cons ha pa_nil hs) (he := hs)) fun _ _ _ q => one_b (fun σ F H v d Q c hv o => by
  unfold pSum at o
  split at o
  · split at o
    · rename_i ns hn
      obtain ⟨p, vs, rfl, h1, h2⟩ := hv.lst c
      rw [ints_eq hn] at h2
      rw [h2.ints] at h1
      exact ⟨p, ns, rfl, .of h1, o _ F H (.refl c) (.int _)⟩
    · exact o.elim
  · exact o.elim) q
def pAll : P → Res P
  | .list ds => match dBools ds with
    | some ns => .ok (.bool (ns.all id))
    | none => .stuck
  | _ => .stuck
theorem px_all (hc : X.calm = true) (hg : Gl X "all") (hm : X.mg "all" = none) (ha : PE X a (teB X.K X.mg W f)) (hs : starEach [a] X.env = (false, eval a X.env) :: starEach [] X.env := by rfl) : PE X (.Call (.Name "all" p) [a] [] pos) (teD X.K X.mg W (dUn pAll f)) :=
  PEi (pe_callB (cr_all hc) hg hm PyProof.Rows.boot_all (pa_cons ha pa_nil hs) (he := hs)) fun _ _ _ q => one_b (fun σ F H v d Q c hv o => by
  unfold pAll at o
  split at o
  · split at o
    · rename_i ns hn
      obtain ⟨p, vs, rfl, h1, h2⟩ := hv.lst c
      rw [bools_eq hn] at h2
      rw [h2.bools] at h1
      exact ⟨p, ns, rfl, .of h1, o _ F H (.refl c) (.bl _)⟩
    · exact o.elim
  · exact o.elim) q
/-- tuple(list), tuple(tuple) -/
def pTuple : P → Res P
  | .list ds => .ok (.tuple ds)
  | .tuple ds => .ok (.tuple ds)
  | _ => .stuck
theorem px_tuple (hg : Gl X "tuple") (hm : X.mg "tuple" = none) (ha : PE X a (teB X.K X.mg W f)) (hs : starEach [a] X.env = (false, eval a X.env) :: starEach [] X.env := by rfl) : PE X (.Call (.Name "tuple" p) [a] [] pos) (teD X.K X.mg W (dUn pTuple f)) :=
  PEi (pe_callTy call_tuple_of hg hm PyProof.Rows.boot_tuple (pa_cons ha pa_nil hs) (he := hs)) fun _ _ _ q => one_b (fun σ F H v d Q c hv o => by
  unfold pTuple at o
  split at o
  · obtain ⟨p, vs, rfl, h1, h2⟩ := hv.lst c
    exact ⟨p, vs, rfl, .inl ⟨.of h1, fun q hq => o _ _ _ (.new c hq) (.tup (.of upd_same) (h2.up (.new (c.none hq))))⟩⟩
  · obtain ⟨p, vs, rfl, h1, h2⟩ := hv.tup
    exact ⟨p, vs, rfl, .inr ⟨c.sqT h1, o _ F H (.refl c) (.tup h1 h2)⟩⟩
  · exact o.elim) q
def pListOf : P → Res (List P)
  | .list ds => .ok ds
  | .tuple ds => .ok ds
  | _ => .stuck
theorem pl_list (hg : Gl X "list") (hm : X.mg "list" = none) (ha : PE X a (teB X.K X.mg W f)) (hs : starEach [a] X.env = (false, eval a X.env) :: starEach [] X.env := by rfl) : PE X (.Call (.Name "list" p) [a] [] pos) (teL X.K X.mg W (dUn pListOf f)) :=
  PEi (pe_callTy call_list_of hg hm PyProof.Rows.boot_list (pa_cons ha pa_nil hs) (he := hs)) fun _ _ _ q => one_bL (fun σ F H v d Q c hv o => by
  unfold pListOf at o
  split at o
  · obtain ⟨p, vs, rfl, h1, h2⟩ := hv.lst c
    exact ⟨p, vs, rfl, .inl (.of h1), fun q hq => o q _ F _ (.newH c hq) hq (c.none hq) upd_same h2⟩
  · obtain ⟨p, vs, rfl, h1, h2⟩ := hv.tup
    exact ⟨p, vs, rfl, .inr (c.sqT h1), fun q hq => o q _ F _ (.newH c hq) hq (c.none hq) upd_same h2⟩
  · exact o.elim) q
/-- int of an int, of a truth -/
def pInt : P → Res P
  | .int i => .ok (.int i)
  | .bool b => .ok (.int (if b then 1 else 0))
  | _ => .stuck
theorem px_toInt (hg : Gl X "int") (hm : X.mg "int" = none) (ha : PE X a (teB X.K X.mg W f)) (hs : starEach [a] X.env = (false, eval a X.env) :: starEach [] X.env := by rfl) : PE X (.Call (.Name "int" p) [a] [] pos) (teD X.K X.mg W (dUn pInt f)) :=
  PEi (pe_callTy call_int1 hg hm PyProof.Rows.boot_int (pa_cons ha pa_nil hs) (he := hs)) fun _ _ _ q => one_b (fun σ F H v d Q c hv o => by
  unfold pInt at o
  split at o
  · exact .inl ⟨_, by rw [int_of hv], o _ F H (.refl c) (.int _)⟩
  · exact .inr ⟨_, by rw [bool_of hv], o _ F H (.refl c) (.int _)⟩
  · exact o.elim) q
def pMax : P → P → Res P
  | .int i, .int j => .ok (.int (if j > i then j else i))
  | _, _ => .stuck
def pMin : P → P → Res P
  | .int i, .int j => .ok (.int (if j < i then j else i))
  | _, _ => .stuck
theorem px_max (hc : X.calm = true) (hg : Gl X "max") (hm : X.mg "max" = none) (ha : PE X a (teB X.K X.mg W f)) (hb : PE X b (teB X.K X.mg W g)) (hs : starEach [a, b] X.env = (false, eval a X.env) :: starEach [b] X.env := by rfl) (hpl : (backTo pos (starEach [b] X.env)).any (·.1) = false := by rfl) (hs1 : starEach [b] X.env = (false, eval b X.env) :: starEach [] X.env := by rfl) :
    PE X (.Call (.Name "max" p) [a, b] [] pos) (teD X.K X.mg W (dOp pMax f g)) :=
  PEi (pe_callB (call_max2 hc) hg hm PyProof.Rows.boot_max (pa_cons ha (pa_cons hb pa_nil hs1) hs) (he := hs) (hpl := hpl)) fun _ _ _ q => two_b (fun σ F H v u d e Q c hv hu o => by
  unfold pMax at o
  split at o
  · exact ⟨_, _, by rw [int_of hv, int_of hu], o _ F H (.refl c) (.int _)⟩
  · exact o.elim) q
theorem px_min (hc : X.calm = true) (hg : Gl X "min") (hm : X.mg "min" = none) (ha : PE X a (teB X.K X.mg W f)) (hb : PE X b (teB X.K X.mg W g)) (hs : starEach [a, b] X.env = (false, eval a X.env) :: starEach [b] X.env := by rfl) (hpl : (backTo pos (starEach [b] X.env)).any (·.1) = false := by rfl) (hs1 : starEach [b] X.env = (false, eval b X.env) :: starEach [] X.env := by rfl) :
    PE X (.Call (.Name "min" p) [a, b] [] pos) (teD X.K X.mg W (dOp pMin f g)) :=
  PEi (pe_callB (call_min2 hc) hg hm PyProof.Rows.boot_min (pa_cons ha (pa_cons hb pa_nil hs1) hs) (he := hs) (hpl := hpl)) fun _ _ _ q => two_b (fun σ F H v u d e Q c hv hu o => by
  unfold pMin at o
  split at o
  · exact ⟨_, _, by rw [int_of hv, int_of hu], o _ F H (.refl c) (.int _)⟩
  · exact o.elim) q
def pStr : P → Res P
  | .int i => if i.natAbs.log2 < 1920 then .ok (.str (Str.ofString (toString i))) else .stuck
  | _ => .stuck

/-! ### isinstance -/
def tyName : P → String
  | .none => "NoneType"
  | .bool _ => "bool"
  | .int _ => "int"
  | .str _ => "str"
  | .list _ => "list"
  | .tuple _ => "tuple"
  | .dict [] => "dict"
  | .dict (_ :: _) => "list"
theorem tyX_of {K : PySem.W.Frag} {F H : Hp} {v : V} {d : P} (c : Ex F H) (h : RpB K F H v d) : TyX K H v (.type (tyName d)) := by
  have lst : ∀ {a : Addr} {xs : List V}, SqL K H a xs → TyX K H (.ref a) (.type "list") := fun {a xs} q => by
    rcases q with (q | ⟨o, q⟩) | ⟨o, its, n, q, q2, _⟩
    · exact .base (.lst q)
    · exact .base (.frz q)
    · exact .kList q q2
  rcases h with h | ⟨p, vs, ds, rfl, rfl, h3, _⟩
  · cases h with
    | non => exact .base .non
    | bl b => exact .base (.bl b)
    | int i => exact .base (.int i)
    | str x => exact .base (.str x)
    | lst h1 h2 => exact .base (.lst (c.k _ _ h1))
    | tup h1 h2 =>
      rcases c.sqT h1 with (q | ⟨o, q⟩) | ⟨o, its, n, q, q2, _⟩
      · exact .base (.tup q)
      · exact .fTuple q
      · exact .kTuple q q2
    | scr h1 => exact lst (c.sqL h1)
    | emp h1 => exact .base (.dK (c.k _ _ h1))
  · exact .base (.lst h3)
def pIsB (isB : P → Bool) (d : P) : Res P := .ok (.bool (isB d))
theorem px_isinst {isB : P → Bool} (hk : ∀ d, kitB (tyName d) T = some (isB d)) (hb : bootBuiltins (Str.ofString T) = some (.type T)) (hn : Str.ofString T ≠ "__name__") (hdb : (Str.ofString T == ("__debug__" : Str)) = false) (hg : Gl X "isinstance") (hm : X.mg "isinstance" = none) (hgT : Gl X (Str.ofString T)) (hmT : X.mg (Str.ofString T) = none)
    (ha : PE X a (teB X.K X.mg W f)) {q : Pos} (hs : starEach [a, .Name (Str.ofString T) q] X.env = (false, eval a X.env) :: starEach [.Name (Str.ofString T) q] X.env := by rfl) (hpl : (backTo pos (starEach [.Name (Str.ofString T) q] X.env)).any (·.1) = false := by rfl)
    (hs2 : starEach [.Name (Str.ofString T) q] X.env = (false, eval (.Name (Str.ofString T) q) X.env) :: starEach [] X.env := by rfl) :
    PE X (.Call (.Name "isinstance" p) [a, .Name (Str.ofString T) q] [] pos) (teD X.K X.mg W (dUn (pIsB isB) f)) :=
  PEi (pe_callB call_isi hg hm PyProof.Rows.boot_isinstance (pa_cons ha (pa_cons (pe_bltn hgT hmT hb (v := .ty T) rfl hn hdb) pa_nil hs2) hs) (he := hs) (hpl := hpl)) fun σ H Q ⟨B, F, δ, E, o⟩ => by
  obtain ⟨x1, s1, k1⟩ := outE_bind o
  exact teB.then E x1 s1 fun d v F1 H1 e1 X1 r1 => ⟨v, .ty T, .type (tyName d), .type T, isB d, rfl, .ty T, tyX_of X1.c r1, kit_ty (hk d), (k1 d e1).up X1 _ F1 H1 (.refl X1.c) (.bl _)⟩
def isInt : P → Bool
  | .int _ => true
  | .bool _ => true
  | _ => false
def isBool : P → Bool
  | .bool _ => true
  | _ => false
def isTuple : P → Bool
  | .tuple _ => true
  | _ => false
def isStr : P → Bool
  | .str _ => true
  | _ => false
theorem kit_int : ∀ d : P, kitB (tyName d) "int" = some (isInt d) := fun d => by
  cases d <;> first
    | (show kitB "NoneType" "int" = some false; decide +kernel)
    | (show kitB "bool" "int" = some true; decide +kernel)
    | (show kitB "int" "int" = some true; decide +kernel)
    | (show kitB "str" "int" = some false; decide +kernel)
    | (show kitB "list" "int" = some false; decide +kernel)
    | (rename_i l; cases l <;> first | (show kitB "dict" "int" = some false; decide +kernel) | (show kitB "list" "int" = some false; decide +kernel))
    | (show kitB "tuple" "int" = some false; decide +kernel)
theorem kit_bool : ∀ d : P, kitB (tyName d) "bool" = some (isBool d) := fun d => by
  cases d <;> first
    | (show kitB "NoneType" "bool" = some false; decide +kernel)
    | (show kitB "bool" "bool" = some true; decide +kernel)
    | (show kitB "int" "bool" = some false; decide +kernel)
    | (show kitB "str" "bool" = some false; decide +kernel)
    | (show kitB "list" "bool" = some false; decide +kernel)
    | (rename_i l; cases l <;> first | (show kitB "dict" "bool" = some false; decide +kernel) | (show kitB "list" "bool" = some false; decide +kernel))
    | (show kitB "tuple" "bool" = some false; decide +kernel)
theorem kit_tuple : ∀ d : P, kitB (tyName d) "tuple" = some (isTuple d) := fun d => by
  cases d <;> first
    | (show kitB "NoneType" "tuple" = some false; decide +kernel)
    | (show kitB "bool" "tuple" = some false; decide +kernel)
    | (show kitB "int" "tuple" = some false; decide +kernel)
    | (show kitB "str" "tuple" = some false; decide +kernel)
    | (show kitB "list" "tuple" = some false; decide +kernel)
    | (rename_i l; cases l <;> first | (show kitB "dict" "tuple" = some false; decide +kernel) | (show kitB "list" "tuple" = some false; decide +kernel))
    | (show kitB "tuple" "tuple" = some true; decide +kernel)
theorem kit_str : ∀ d : P, kitB (tyName d) "str" = some (isStr d) := fun d => by
  cases d <;> first
    | (show kitB "NoneType" "str" = some false; decide +kernel)
    | (show kitB "bool" "str" = some false; decide +kernel)
    | (show kitB "int" "str" = some false; decide +kernel)
    | (show kitB "str" "str" = some true; decide +kernel)
    | (show kitB "list" "str" = some false; decide +kernel)
    | (rename_i l; cases l <;> first | (show kitB "dict" "str" = some false; decide +kernel) | (show kitB "list" "str" = some false; decide +kernel))
    | (show kitB "tuple" "str" = some false; decide +kernel)
end
end DL

set_option Elab.async false
set_option linter.all false
set_option maxRecDepth 100000
set_option maxHeartbeats 4000000
/-! ### enumerate(tuple) -/
namespace PySem
open Sem (wp)
set_option maxHeartbeats 1000000 in
theorem meets_enumerate_newT1 {v : Value} {o : Obj} {H : Heap → Prop} (Bg : Begins v o H) :
    Meets (Builtin.«enumerate.__new__» ⟨[.type "enumerate", v], []⟩) (fun _ R s => H s.heap ∧
      R (.ok (.ret (.ref (s.heap.push o).objs.size))) { s with heap := (s.heap.push o).push { cls := .type "enumerate", data := .fields #[.none, .bool false, .ref s.heap.objs.size, rawInt 0, .none, .none] } }) :=
  .of_wp fun prog w A R s after => by
    obtain ⟨hh0, g, d, tk, outs⟩ := s; obtain ⟨pre1, after⟩ := after
    have hsub := sub_enumerate
    have stepB : ∀ {A' : Around} {E : Value → Shared → Prop} {Q : Value → Shared → Prop}, Q (.ref hh0.objs.size) ⟨hh0.push o, g, d, tk, outs⟩ → wpAny (model prog w) A' (pyIter v) Q E ⟨hh0, g, d, tk, outs⟩ :=
      fun q => Bg.iter prog w _ _ ⟨hh0, g, d, tk, outs⟩ _ pre1 q
    wp_walk using stepB
    refine wpAny_stack_any fun stand => wpAny_pure ?_
    split
    · rename_i c _ _ _ _ _
      cases ((c == Value.type "enumerate"))
      · wp_walk using stepB
        exact ⟨_, rfl, after⟩
      · wp_walk using stepB
        exact ⟨_, rfl, after⟩
    · wp_walk using stepB
      exact ⟨_, rfl, after⟩
section
variable {prog : Program} {w : World} {s : Shared} {A : Around} {E : Value → Shared → Prop}
theorem enum_begins1 {v : Value} {o : Obj} {H : Heap → Prop} {Q : Value → Shared → Prop} (Bg : Begins v o H) (pre1 : H s.heap)
    (h : ∀ h', IsEnum h' (s.heap.objs.size + 1) s.heap.objs.size 0 .none → h'.get? s.heap.objs.size = some o → h'.objs.size = s.heap.objs.size + 2 →
      (∀ b ob, s.heap.get? b = some ob → h'.get? b = some ob) → Q (.ref (s.heap.objs.size + 1)) { s with heap := h' }) :
    wpAny (model prog w) A (call (.type "enumerate") [v]) Q E s := by
  refine callType_new
    F.called_enumerate (by decide) (F.typeCall_enumerate_1 _) (F.newCall_enumerate_1 _) (fun obj => F.args_object_init_2 obj _) F.entry_enumerate_new
    (meets_enumerate_newT1 Bg) ⟨pre1, ?_⟩
  have grow : (s.heap.push o).objs.size = s.heap.objs.size + 1 := Heap.size_push ..
  show _ ∧ _
  rw [grow]
  have isE : IsEnum ((s.heap.push o).push { cls := .type "enumerate", data := .fields #[.none, .bool false, .ref s.heap.objs.size, rawInt 0, .none, .none] }) (s.heap.objs.size + 1) s.heap.objs.size 0 .none := by
    have := Heap.get?_push_size (s.heap.push o) (o := { cls := .type "enumerate", data := .fields #[.none, .bool false, .ref s.heap.objs.size, rawInt 0, .none, .none] }) rfl
    rw [grow] at this; exact this
  refine ⟨⟨_, isE, rfl⟩, h _ isE (Heap.get?_push_of_some _ (Heap.get?_push_size _ Bg.free)) (by rw [Heap.size_push, grow]) fun b o x => Heap.get?_push_of_some _ (Heap.get?_push_of_some _ x)⟩
end
end PySem

namespace DL
open PySem L2
variable [LTab]
/-- the tuple at a, each item in a new pair -/
def IteT (K : PySem.W.Frag) (a : Addr) : It :=
  ⟨fun i H => ∃ (xs : List V) (x : V), SqT K H a xs ∧ xs[i]? = some x, fun i H v H' => ∃ T x, v = .ref T ∧ H T = none ∧ H' = upd H T (.tup [.int (i : Nat), x]) ∧ ∀ xs, SqT K H a xs → xs[i]? = some x, fun i H => ∃ xs : List V, SqT K H a xs ∧ xs.length = i⟩
theorem turn_enumT {P : Program} {w : World} {K : PySem.W.Frag} {elts : List Expr} {kk : Nat} {tpos : Pos} (a e it : Addr) :
    Turn P w K (.Tuple elts kk tpos) (IteT K a) [e, it] e (fun i h => (∃ was, IsEnum h e it ((i : Nat) : Int) was) ∧ h.IsTupleIter it a i ∧ e ≠ it) where
  mem := by simp
  obj := fun i h stand b hb => by
    obtain ⟨⟨was, isE⟩, ⟨o, got, clsO, datO⟩, _⟩ := stand
    have which : b = e ∨ b = it := by simpa using hb
    rcases which with z | z
    · rw [z]; exact ⟨_, isE, fun v q => nomatch q⟩
    · rw [z]; exact ⟨o, got, fun v q => by rw [datO] at q; cases q⟩
  keep := fun i h h' stand k => let ⟨⟨was, isE⟩, hi, apart⟩ := stand; ⟨⟨was, k e (by simp) _ isE⟩, hi.at fun o q => k it (by simp) o q, apart⟩
  item := by
    intro X hP hw hK hc i pins s σ H E I frame stand todo
    subst hP hw hK
    obtain ⟨⟨was, isE⟩, isI, apart⟩ := stand
    obtain ⟨xs, x, seq, atx⟩ := todo
    obtain ⟨els, tie, p, grow⟩ := I.tuple seq
    obtain ⟨u, atu, relu⟩ := tie.get atx
    have ltE : e < s.heap.objs.size := Heap.lt_size isE
    have ltI : it < s.heap.objs.size := by obtain ⟨_, q, _⟩ := isI; exact Heap.lt_size q
    have awI : a ≠ it := fun z => by
      obtain ⟨o, got, cls1, _⟩ := p
      obtain ⟨o2, got2, cls2, _⟩ := isI
      rw [z] at got
      rw [got] at got2
      cases got2
      rw [cls1] at cls2
      exact absurd cls2 (by decide)
    have awE : a ≠ e := fun z => by
      obtain ⟨o, got, cls1, _⟩ := p
      rw [z] at got
      have isE2 : s.heap.get? e = some _ := isE
      rw [got] at isE2
      cases isE2
      exact absurd (show Value.type "enumerate" = Value.type "tuple" from cls1) (by decide)
    have hi : i < els.toArray.size := by
      have := (List.getElem?_eq_some_iff.mp atu).1
      simpa using this
    refine wpAny_pyNext_enum_itemD (Draws.tuple (prog := X.prog) (w := X.w) (A := X.A.in1) (I.ok.hd hc) it a awI els.toArray) isE ⟨isI, show s.heap.IsTuple a els.toArray from p⟩ hi apart (by simp [apart, awE.symm]) fun x' h' tk hx' got isI2 hT gr kp => ?_
    have ex : x' = u := by
      have q : els.toArray[i]? = some x' := hx'
      rw [List.getElem?_toArray, atu] at q
      exact Eq.symm (Option.some.inj q)
    subst ex
    refine ⟨_, rfl, wpAny_letOwnedTupleGo_enum (s := { s with heap := h', toks := tk + 1 }) got fun h'' isE2 sb => ?_⟩
    have hT2 : h''.get? s.heap.objs.size = some { cls := .type "tuple", data := .seq #[.int i tk, x'] } := (sb.2 _ (Nat.ne_of_gt ltE)).trans hT
    have fresh : ObjOk X.prog X.w (upd H s.heap.objs.size (.tup [.int (i : Nat), x])) h'' s.heap.objs.size (.tup [.int (i : Nat), x]) :=
      ⟨by show 2 ≤ sizeLine; decide, [.int i tk, x'], .cons ⟨_, rfl⟩ (.cons relu .nil), ⟨_, hT2, rfl, _, rfl⟩⟩
    have I1 : Inv X pins σ (upd H s.heap.objs.size (.tup [.int (i : Nat), x])) { s with heap := h'', toks := tk + 1 } :=
      I.turnedNew (ch := [e, it]) (fun b ob hb q => (sb.2 b (fun z => hb (by simp [z]))).trans (kp b ob (fun z => hb (by simp [z])) (fun z => hb (by simp [z])) q)) frame (Nat.le_refl _) fresh
    refine ⟨.ref s.heap.objs.size, _, I1, rfl, ⟨_, x, rfl, I.hok.fresh (Nat.le_refl _), rfl, fun ys hy => by rw [I.tuple_inj hy seq]; exact atx⟩, ⟨⟨x', ?_⟩, isI2.1.at fun o q => (sb.2 it (Ne.symm apart)).trans q, apart⟩, fun b hb => ?_⟩
    · have nxt : ((i + 1 : Nat) : Int) = (i : Int) + 1 := by omega
      rw [nxt]; exact isE2
    · have low : b < s.heap.objs.size := by
        have which : b = e ∨ b = it := by simpa using hb
        rcases which with z | z
        · rw [z]; exact ltE
        · rw [z]; exact ltI
      rw [upd_ne (Nat.ne_of_lt low)]
      exact (frame b hb).1
  done := by
    intro X hP hw hK hc i pins s σ H E I frame stand todo
    subst hP hw hK
    obtain ⟨⟨was, isE⟩, isI, apart⟩ := stand
    obtain ⟨xs, seq, atx⟩ := todo
    obtain ⟨els, tie, p, grow⟩ := I.tuple seq
    obtain ⟨f0, f1, f2, f3, f4, f5⟩ := frame it (by simp)
    have hl := tie.length
    have awI : a ≠ it := fun z => by
      obtain ⟨o, got, cls1, _⟩ := p
      obtain ⟨o2, got2, cls2, _⟩ := isI
      rw [z] at got
      rw [got] at got2
      cases got2
      rw [cls1] at cls2
      exact absurd cls2 (by decide)
    have hn : i = els.toArray.size := by rw [List.size_toArray, ← hl, atx]
    subst hn
    exact wpAny_pyNext_enum_endD (Draws.tuple (prog := X.prog) (w := X.w) (A := X.A.in1) (I.ok.hd hc) it a awI els.toArray) isE ⟨isI, show s.heap.IsTuple a els.toArray from p⟩ fun h' eb => ⟨rfl, I.turned (t' := s.toks) (fun b o hb q => eb b o hb q) f0 f1 f3 f4 f5⟩
  self := fun A i s Q E stand h => let ⟨⟨_, isE⟩, _⟩ := stand; wpAny_pyIter_enum isE h

def iEnumA (K : PySem.W.Frag) (ta : TA) : TI := fun σ H R => ta σ H fun vs H1 => ∃ a xs, vs = [.ref a] ∧ ((SqL K H1 a xs ∧ R (Ite K a) H1) ∨ (SqT K H1 a xs ∧ R (IteT K a) H1))
theorem pi_enumA {X : Cx} {e : Expr} {ta : TA} {p pos tpos : Pos} {elts : List Expr} {kk : Nat} (todo : Gl X "enumerate") (hm : X.mg "enumerate" = none) (ha : PA X [e] ta) (hs : starEach [e] X.env = [(false, eval e X.env)] := by rfl) :
    PI X (.Tuple elts kk tpos) (.Call (.Name "enumerate" p) [e] [] pos) (iEnumA X.K ta) := by
  refine ⟨fun pins s σ H R J after => ?_⟩
  refine PyProof.Rows.Call_ (ld_blt J todo hm PyProof.Rows.boot_enumerate (PyProof.Rows.callWith_type1 (thn (ha.run pos pins s σ H _ J after) fun us s1 ⟨vs, H1, I1, r1, stepB⟩ => ?_) hs rfl))
  obtain ⟨a, xs, ex, q⟩ := stepB
  subst ex
  cases r1 with
  | cons r rr =>
    cases rr
    cases r
    have fresh2 : ∀ b, b ∈ [s1.heap.objs.size + 1, s1.heap.objs.size] → FpOk X pins H1 b := fun b hb => by
      have which : b = s1.heap.objs.size + 1 ∨ b = s1.heap.objs.size := by simpa using hb
      have above : s1.heap.objs.size ≤ b := by
        rcases which with z | z
        · exact z ▸ Nat.le_add_right _ _
        · exact z ▸ Nat.le_refl _
      exact I1.fpOk above (I1.hok.fresh above)
    rcases q with ⟨seq, q⟩ | ⟨seq, q⟩
    · obtain ⟨els, tie, shp, grow⟩ := I1.list seq
      refine call_enumerate_list shp.isList fun h' isE isI gr kp => wpAny_pyIter_enum isE ?_
      have J2 : Inv X pins σ H1 { s1 with heap := h' } := I1.kept (t' := s1.toks) kp
      exact ⟨s1.heap.objs.size + 1, [s1.heap.objs.size + 1, s1.heap.objs.size], _, _, H1, rfl, J2, turn_enum a (s1.heap.objs.size + 1) s1.heap.objs.size, ⟨⟨.none, isE⟩, isI, Nat.succ_ne_self _⟩, fresh2, q⟩
    · obtain ⟨els, tie, shp, grow⟩ := I1.tuple seq
      refine enum_begins1 (begins_tuple a els.toArray) (show s1.heap.IsTuple a els.toArray from shp) fun h' isE isI gr kp => wpAny_pyIter_enum isE ?_
      have J2 : Inv X pins σ H1 { s1 with heap := h' } := I1.kept (t' := s1.toks) kp
      exact ⟨s1.heap.objs.size + 1, [s1.heap.objs.size + 1, s1.heap.objs.size], _, _, H1, rfl, J2, turn_enumT a (s1.heap.objs.size + 1) s1.heap.objs.size, ⟨⟨.none, isE⟩, ⟨_, isI, rfl, rfl⟩, Nat.succ_ne_self _⟩, fresh2, q⟩
theorem walk_enumT {K : PySem.W.Frag} {a : Addr} {xs : List V} : Walk (IteT K a) xs.length (fun H => SqT K H a xs) (YPair (fun i => some (.int (i : Nat))) (fun i => xs[i]?)) := by
  refine ⟨fun i _ hi q => ⟨xs, xs[i], q, by simp [hi]⟩, fun _ q => ⟨xs, q, rfl⟩, fun i H v H' _ q y => ?_⟩
  obtain ⟨T, x, pre1, h2, h3, h4⟩ := y
  exact ⟨T, .int (i : Nat), x, pre1, h2, h3, rfl, h4 xs q⟩
end DL

set_option Elab.async false
set_option linter.all false
set_option maxRecDepth 100000
set_option maxHeartbeats 4000000
namespace DL
open PySem L2
variable [LTab]

/-! ### what is walked -/
structure Gives (K : PySem.W.Frag) (F' : Hp) (J : It) (ds : List P) : Prop where
  ex : ∃ G Y, Walk J ds.length G Y ∧ (∀ H'', Ex F' H'' → G H'') ∧ ∀ (i : Nat) (Fi Hi : Hp) (x : V) (Hi' : Hp), i < ds.length → Ex F' Fi → Ex Fi Hi → Y i Hi x Hi' → ∃ Fi' d, Ext Fi Hi Fi' Hi' ∧ ds[i]? = some d ∧ Rp K Fi' x d
section
variable (K : PySem.W.Frag) (mg : Str → Option Value) (W : WX)
def OutI (σ : St) (F H : Hp) (r : Res (List P)) (R : It → Hp → Prop) : Prop := match r with
  | .ok ds => ∀ J F' H', Ext F H F' H' → Gives K F' J ds → R J H'
  | .exc n => XcW mg W σ F H n
  | .stuck => False
def tiD (f : DE (List P)) : TI := fun σ H R => ∃ B F δ, EnvOk K B F H σ δ ∧ OutI K mg W σ F H (f δ) R
end
theorem outI_bind {K : PySem.W.Frag} {mg : Str → Option Value} {W : WX} {σ : St} {F H : Hp} {α : Type} {r : Res α} {k : α → Res (List P)} {R : It → Hp → Prop} (o : OutI K mg W σ F H (r.bind k) R) : (∀ n, r = .exc n → XcW mg W σ F H n) ∧ (r = .stuck → False) ∧ ∀ d, r = .ok d → OutI K mg W σ F H (k d) R := by
  cases r with
  | ok d => exact ⟨nofun, nofun, fun d' e => by cases e; exact o⟩
  | exc n => exact ⟨fun n' e => by cases e; exact o, nofun, nofun⟩
  | stuck => exact o.elim
theorem OutI.up {K : PySem.W.Frag} {mg : Str → Option Value} {W : WX} {σ : St} {F H F1 H1 : Hp} {r : Res (List P)} {R : It → Hp → Prop} (h : OutI K mg W σ F H r R) (e : Ext F H F1 H1) : OutI K mg W σ F1 H1 r R := by
  cases r with
  | ok d => exact fun J F' H' x => h J F' H' (e.trans x)
  | exc n => exact XcW.up h e
  | stuck => exact h
section
variable {K : PySem.W.Frag} {F : Hp} {a b : Addr} {vs ws : List V} {ds es : List P}
theorem gives_at {J : It} {G : Hp → Prop} (w : Walk J vs.length G (YAt vs)) (hG : ∀ H'', Ex F H'' → G H'') (r : RpAll K F vs ds) : Gives K F J ds := by
  refine ⟨⟨G, YAt vs, by rw [← r.len]; exact w, hG, fun i Fi Hi x Hi' hi e1 e2 y => ?_⟩⟩
  obtain ⟨rfl, hx⟩ := y
  obtain ⟨d, h1, h2⟩ := r.getV hx
  exact ⟨Fi, d, .refl e2, h1, h2.up e1⟩
theorem gives_list (h : F a = some (.lst vs)) (r : RpAll K F vs ds) : Gives K F (Itl K a) ds := gives_at walk_list (fun H'' e => .of (e.k _ _ h)) r
theorem gives_sqL (h : SqL K F a vs) (r : RpAll K F vs ds) : Gives K F (Itl K a) ds := gives_at walk_list (fun H'' e => e.sqL h) r
theorem gives_tup (h : SqT K F a vs) (r : RpAll K F vs ds) : Gives K F (Itt K a) ds := gives_at walk_tup (fun H'' e => e.sqT h) r
def signs (z : Str) : List P := z.cps.toList.map fun c => .str ⟨#[c]⟩
theorem gives_str {z : Str} : Gives K F (Its z) (signs z) := by
  refine ⟨⟨_, _, by unfold signs; rw [List.length_map, Array.length_toList]; exact walk_str, fun _ _ => trivial, fun i Fi Hi x Hi' hi e1 e2 y => ?_⟩⟩
  obtain ⟨rfl, c, hc, rfl⟩ := y
  refine ⟨Fi, _, .refl e2, ?_, .str _⟩
  unfold signs
  rw [List.getElem?_map, Array.getElem?_toList, hc]
  rfl
def rangeItems (lo : Int) (n : Nat) : List P := (List.range n).map fun i => .int (lo + (i : Nat))
theorem rangeItems_len (lo : Int) (n : Nat) : (rangeItems lo n).length = n := by
  unfold rangeItems
  simp only [List.length_range, List.length_map]
theorem gives_range {lo : Int} {n : Nat} : Gives K F (Itr lo n) (rangeItems lo n) := by
  refine ⟨⟨_, _, by rw [rangeItems_len]; exact walk_range, fun _ _ => trivial, fun i Fi Hi x Hi' hi e1 e2 y => ?_⟩⟩
  obtain ⟨rfl, rfl⟩ := y
  rw [rangeItems_len] at hi
  refine ⟨Fi, .int (lo + (i : Nat)), .refl e2, ?_, .int _⟩
  unfold rangeItems
  rw [List.getElem?_map, List.getElem?_range hi]
  rfl
theorem gives_pair {J : It} {G : Hp → Prop} {f g : Nat → Option V} (w : Walk J ds.length G (YPair f g)) (hG : ∀ H'', Ex F H'' → G H'')
    (r : ∀ i x y, i < ds.length → f i = some x → g i = some y → ∃ d e, ds[i]? = some (.tuple [d, e]) ∧ Rp K F x d ∧ Rp K F y e) : Gives K F J ds := by
  refine ⟨⟨G, _, w, hG, fun i Fi Hi v Hi' hi e1 e2 y => ?_⟩⟩
  obtain ⟨T, x, z, rfl, hT, rfl, h1, h2⟩ := y
  obtain ⟨d, e, h3, h4, h5⟩ := r i x z hi h1 h2
  have up : Ex F (upd Fi T (.tup [x, z])) := e1.trans (.new (e2.none hT))
  exact ⟨_, _, .new e2 hT, h3, .tup (.of upd_same) (.cons (h4.up up) (.cons (h5.up up) .nil))⟩
def enumItems (ds : List P) : List P := ds.zipIdx.map fun p => .tuple [.int (p.2 : Nat), p.1]
theorem enumItems_len (ds : List P) : (enumItems ds).length = ds.length := by
  unfold enumItems
  rw [List.length_map, List.length_zipIdx]
theorem enumItems_get {ds : List P} {i : Nat} {d : P} (h : ds[i]? = some d) : (enumItems ds)[i]? = some (.tuple [.int (i : Nat), d]) := by
  unfold enumItems
  rw [List.getElem?_map, List.getElem?_zipIdx, h]
  simp
theorem gives_enum (h : F a = some (.lst vs)) (r : RpAll K F vs ds) : Gives K F (Ite K a) (enumItems ds) := by
  refine gives_pair (by rw [enumItems_len, ← r.len]; exact walk_enum) (fun H'' e => SqL.of (e.k _ _ h)) fun i x y hi h1 h2 => ?_
  cases h1
  obtain ⟨d, h3, h4⟩ := r.getV h2
  exact ⟨.int (i : Nat), d, enumItems_get h3, .int _, h4⟩
theorem gives_enumT (h : SqT K F a vs) (r : RpAll K F vs ds) : Gives K F (IteT K a) (enumItems ds) := by
  refine gives_pair (by rw [enumItems_len, ← r.len]; exact walk_enumT) (fun H'' e => e.sqT h) fun i x y hi h1 h2 => ?_
  cases h1
  obtain ⟨d, h3, h4⟩ := r.getV h2
  exact ⟨.int (i : Nat), d, enumItems_get h3, .int _, h4⟩
def zipItems (ds es : List P) : List P := (ds.zip es).map fun p => .tuple [p.1, p.2]
theorem zipItems_len (ds es : List P) : (zipItems ds es).length = min ds.length es.length := by
  unfold zipItems
  rw [List.length_map, List.length_zip]
theorem zipItems_get {ds es : List P} {i : Nat} {d e : P} (h : ds[i]? = some d) (h2 : es[i]? = some e) : (zipItems ds es)[i]? = some (.tuple [d, e]) := by
  unfold zipItems
  rw [List.getElem?_map]
  have : (ds.zip es)[i]? = some (d, e) := List.getElem?_zip_eq_some.mpr ⟨h, h2⟩
  rw [this]
  rfl
theorem walk_zipT {n : Nat} {xs ys : List V} (hn : n = min xs.length ys.length) : Walk (RZ.ItzT K a b) n (fun H => SqT K H a xs ∧ SqT K H b ys) (YPair (fun i => xs[i]?) (fun i => ys[i]?)) := by
  subst hn
  refine ⟨fun i _ hi both => ?_, fun _ both => ⟨xs, ys, both.1, both.2, by omega⟩, fun i _ _ _ _ both new => ?_⟩
  · have lx : i < xs.length := by omega
    have ly : i < ys.length := by omega
    exact ⟨xs, ys, xs[i], ys[i], both.1, both.2, by simp [lx], by simp [ly]⟩
  · obtain ⟨T, x, z, e0, e1, e2, gx, gy⟩ := new
    exact ⟨T, x, z, e0, e1, e2, gx xs both.1, gy ys both.2⟩
theorem gives_zip (h : F a = some (.lst vs)) (r : RpAll K F vs ds) (h' : F b = some (.lst ws)) (r' : RpAll K F ws es) : Gives K F (Itz K a b) (zipItems ds es) := by
  refine gives_pair (G := fun H => SqL K H a vs ∧ SqL K H b ws) (by rw [zipItems_len, ← r.len, ← r'.len]; exact walk_zip rfl) (fun H'' e => ⟨SqL.of (e.k _ _ h), SqL.of (e.k _ _ h')⟩) fun i x y hi h1 h2 => ?_
  obtain ⟨d, h3, h4⟩ := r.getV h1
  obtain ⟨e, h5, h6⟩ := r'.getV h2
  exact ⟨d, e, zipItems_get h3 h5, h4, h6⟩
theorem gives_zipT (h : SqT K F a vs) (r : RpAll K F vs ds) (h' : SqT K F b ws) (r' : RpAll K F ws es) : Gives K F (RZ.ItzT K a b) (zipItems ds es) := by
  refine gives_pair (G := fun H => SqT K H a vs ∧ SqT K H b ws) (by rw [zipItems_len, ← r.len, ← r'.len]; exact walk_zipT rfl) (fun H'' e => ⟨e.sqT h, e.sqT h'⟩) fun i x y hi h1 h2 => ?_
  obtain ⟨d, h3, h4⟩ := r.getV h1
  obtain ⟨e, h5, h6⟩ := r'.getV h2
  exact ⟨d, e, zipItems_get h3 h5, h4, h6⟩
end

/-! ### the iterables -/
def itemsOf : P → Res (List P)
  | .list ds => .ok ds
  | .tuple ds => .ok ds
  | .dict [(.none, .list ds)] => .ok ds
  | .str z => .ok (signs z)
  | _ => .stuck
def rangeOf1 : P → Res (List P)
  | .int n => if -(2 ^ 62) ≤ n ∧ n < 2 ^ 62 then .ok (rangeItems 0 n.toNat) else .stuck
  | _ => .stuck
def rangeOf2 : P → P → Res (List P)
  | .int i, .int j => if -(2 ^ 62) ≤ i ∧ i < 2 ^ 62 ∧ -(2 ^ 62) ≤ j ∧ j < 2 ^ 62 then .ok (rangeItems i (j - i).toNat) else .stuck
  | _, _ => .stuck
def enumOf : P → Res (List P)
  | .list ds => .ok (enumItems ds)
  | .tuple ds => .ok (enumItems ds)
  | _ => .stuck
def zipOf : P → P → Res (List P)
  | .list ds, .list es => .ok (zipItems ds es)
  | .tuple ds, .tuple es => .ok (zipItems ds es)
  | _, _ => .stuck
def iUn (op : P → Res (List P)) (f : DE P) : DE (List P) := fun δ => (f δ).bind op
def iOp (op : P → P → Res (List P)) (f g : DE P) : DE (List P) := fun δ => (f δ).bind fun x => (g δ).bind fun y => op x y
section
variable {X : Cx} {W : WX} {tg a b : Expr} {f g : DE P} {p pos : Pos}
/-- a sequence of any of these kinds -/
def iSeq (K : PySem.W.Frag) (tl : TE) : TI := fun σ H R => tl σ H fun x H1 => (∃ a, x = .ref a ∧ (∃ xs, SqL K H1 a xs) ∧ R (Itl K a) H1) ∨ (∃ a, x = .ref a ∧ (∃ xs, SqT K H1 a xs) ∧ R (Itt K a) H1) ∨ ∃ z, x = .str z ∧ R (Its z) H1
theorem pi_seq {l : Expr} {tl : TE} (hl : PE X l tl) : PI X tg l (iSeq X.K tl) := by
  refine ⟨fun pins s σ H R J after => ?_⟩
  have core : ∀ (v : Value) (s1 : Shared) (x : V) (H1 : Hp), Inv X pins σ H1 s1 → RelV x v → ((∃ a, x = .ref a ∧ (∃ xs, SqL X.K H1 a xs) ∧ R (Itl X.K a) H1) ∨ (∃ a, x = .ref a ∧ (∃ xs, SqT X.K H1 a xs) ∧ R (Itt X.K a) H1) ∨ ∃ z, x = .str z ∧ R (Its z) H1) → wpAny (model X.prog X.w) X.A (pyIter v) (PIE X pins σ tg R) X.xe s1 := by
    intro v s1 x H1 J1 r1 q1
    have one : ∀ b : Addr, b ∈ [s1.heap.objs.size] → FpOk X pins H1 b := fun b inb => by
      have e : b = s1.heap.objs.size := List.mem_singleton.mp inb
      subst e
      have z := Nat.le_refl s1.heap.objs.size
      exact J1.fpOk z (J1.hok.fresh z)
    rcases q1 with ⟨a, e, ⟨xs, seq⟩, q⟩ | ⟨a, e, ⟨xs, seq⟩, q⟩ | ⟨z, e, q⟩
    · subst e
      cases r1
      obtain ⟨els, tie, shp, grow⟩ := J1.list seq
      refine wpAny_pyIter_list shp.isList ?_
      exact ⟨s1.heap.objs.size, [s1.heap.objs.size], _, _, H1, rfl, J1.kept (t' := s1.toks) fun b o e => Heap.get?_push_of_some _ e, turn_list a _, ⟨_, Heap.get?_push_size _ rfl, rfl, rfl⟩, one, q⟩
    · subst e
      cases r1
      obtain ⟨els, tie, shp, grow⟩ := J1.tuple seq
      refine wpAny_pyIter_tuple (show s1.heap.IsTuple a els.toArray from shp) ?_
      exact ⟨s1.heap.objs.size, [s1.heap.objs.size], _, _, H1, rfl, J1.kept (t' := s1.toks) fun b o e => Heap.get?_push_of_some _ e, turn_tuple a _, ⟨_, Heap.get?_push_size _ rfl, rfl, rfl⟩, one, q⟩
    · subst e
      obtain ⟨t, rfl⟩ := r1
      refine wpAny_pyIter_strU ?_
      refine ⟨s1.heap.objs.size, [s1.heap.objs.size], _, _, H1, rfl, J1.kept (t' := s1.toks) fun b o e => Heap.get?_push_of_some _ e, turn_str s1.heap.objs.size z t (strIterType z) ?_, ⟨_, Heap.get?_push_size _ rfl, rfl, rfl⟩, one, q⟩
      unfold strIterType
      split
      · exact .inl rfl
      · exact .inr rfl
  exact thn (hl.run pins s σ H _ J after) fun v s1 ⟨x, H1, J1, r1, q1⟩ => core v s1 x H1 J1 r1 q1
theorem ix_seq' (ha : PE X a (teD X.K X.mg W f)) : PI X tg a (tiD X.K X.mg W (iUn itemsOf f)) := PIi (pi_seq ha) fun σ H R ⟨B, F, δ, E, o⟩ => by
  obtain ⟨x1, s1, k1⟩ := outI_bind o
  refine teD.then E x1 s1 fun d v F1 H1 e1 X1 r1 => ?_
  have o1 := (k1 d e1).up X1
  unfold itemsOf at o1
  split at o1
  · cases r1 with
    | lst h1 h2 => exact .inl ⟨_, rfl, ⟨_, .of (X1.c.k _ _ h1)⟩, o1 _ F1 H1 (.refl X1.c) (gives_list h1 h2)⟩
  · cases r1 with
    | tup h1 h2 => exact .inr (.inl ⟨_, rfl, ⟨_, X1.c.sqT h1⟩, o1 _ F1 H1 (.refl X1.c) (gives_tup h1 h2)⟩)
  · cases r1 with
    | scr h1 => exact .inl ⟨_, rfl, ⟨_, X1.c.sqL h1⟩, o1 _ F1 H1 (.refl X1.c) (gives_sqL h1 (.of_ints _))⟩
  · cases r1
    exact .inr (.inr ⟨_, rfl, o1 _ F1 H1 (.refl X1.c) gives_str⟩)
  · exact o1.elim
theorem ix_range1 (hg : Gl X "range") (hm : X.mg "range" = none) (ha : PE X a (teB X.K X.mg W f)) (hs0 : starEach [a] X.env = (false, eval a X.env) :: starEach [] X.env := by rfl) (hs : starEach [a] X.env = [(false, eval a X.env)] := by rfl) : PI X tg (.Call (.Name "range" p) [a] [] pos) (tiD X.K X.mg W (iUn rangeOf1 f)) :=
  PIi (pi_range1 hg hm (pa_cons ha pa_nil hs0) hs) fun σ H R ⟨B, F, δ, E, o⟩ => by
  obtain ⟨x1, s1, k1⟩ := outI_bind o
  refine teB.then E x1 s1 fun d v F1 H1 e1 X1 r1 => ?_
  have o1 := (k1 d e1).up X1
  unfold rangeOf1 at o1
  split at o1
  · split at o1
    · rename_i n hn
      exact ⟨n, by rw [int_of r1], hn.1, hn.2, o1 _ F1 H1 (.refl X1.c) gives_range⟩
    · exact o1.elim
  · exact o1.elim
theorem ix_range2 (hg : Gl X "range") (hm : X.mg "range" = none) (ha : PE X a (teB X.K X.mg W f)) (hb : PE X b (teB X.K X.mg W g)) (hs0 : starEach [a, b] X.env = (false, eval a X.env) :: starEach [b] X.env := by rfl) (hs1 : starEach [b] X.env = (false, eval b X.env) :: starEach [] X.env := by rfl)
    (hs : starEach [a, b] X.env = [(false, eval a X.env), (false, eval b X.env)] := by rfl) (hs2 : starEach [b] X.env = [(false, eval b X.env)] := by rfl) : PI X tg (.Call (.Name "range" p) [a, b] [] pos) (tiD X.K X.mg W (iOp rangeOf2 f g)) :=
  PIi (pi_range2 hg hm (pa_cons ha (pa_cons hb pa_nil hs1) hs0) hs hs2) fun σ H R ⟨B, F, δ, E, o⟩ => by
  obtain ⟨x1, s1, k1⟩ := outI_bind o
  refine teB.then E x1 s1 fun d v F1 H1 e1 X1 r1 => ?_
  obtain ⟨x2, s2, k2⟩ := outI_bind (k1 d e1)
  refine teB.then (E.up X1) (fun n h => (x2 n h).up X1) s2 fun d2 v2 F2 H2 e2 X2 r2 => ?_
  have o2 := (k2 d2 e2).up (X1.trans X2)
  unfold rangeOf2 at o2
  split at o2
  · split at o2
    · rename_i i j hn
      exact ⟨i, j, by rw [int_of r1, int_of r2], hn, o2 _ F2 H2 (.refl X2.c) gives_range⟩
    · exact o2.elim
  · exact o2.elim
theorem ix_enum {elts : List Expr} {kk : Nat} {tpos : Pos} (hg : Gl X "enumerate") (hm : X.mg "enumerate" = none) (ha : PE X a (teD X.K X.mg W f)) (hs0 : starEach [a] X.env = (false, eval a X.env) :: starEach [] X.env := by rfl) (hs : starEach [a] X.env = [(false, eval a X.env)] := by rfl) :
    PI X (.Tuple elts kk tpos) (.Call (.Name "enumerate" p) [a] [] pos) (tiD X.K X.mg W (iUn enumOf f)) := PIi (pi_enumA hg hm (pa_cons ha pa_nil hs0) hs) fun σ H R ⟨B, F, δ, E, o⟩ => by
  obtain ⟨x1, s1, k1⟩ := outI_bind o
  refine teD.then E x1 s1 fun d v F1 H1 e1 X1 r1 => ?_
  have o1 := (k1 d e1).up X1
  unfold enumOf at o1
  split at o1
  · cases r1 with
    | lst h1 h2 => exact ⟨_, _, rfl, .inl ⟨.of (X1.c.k _ _ h1), o1 _ F1 H1 (.refl X1.c) (gives_enum h1 h2)⟩⟩
  · cases r1 with
    | tup h1 h2 => exact ⟨_, _, rfl, .inr ⟨X1.c.sqT h1, o1 _ F1 H1 (.refl X1.c) (gives_enumT h1 h2)⟩⟩
  · exact o1.elim
theorem ix_zip {elts : List Expr} {kk : Nat} {tpos : Pos} (hg : Gl X "zip") (hm : X.mg "zip" = none) (ha : PE X a (teD X.K X.mg W f)) (hb : PE X b (teD X.K X.mg W g)) (hs0 : starEach [a, b] X.env = (false, eval a X.env) :: starEach [b] X.env := by rfl) (hs1 : starEach [b] X.env = (false, eval b X.env) :: starEach [] X.env := by rfl)
    (hpl : (backTo pos (starEach [b] X.env)).any (·.1) = false := by rfl) : PI X (.Tuple elts kk tpos) (.Call (.Name "zip" p) [a, b] [] pos) (tiD X.K X.mg W (iOp zipOf f g)) := PIi (RZ.pi_zipA hg hm (pa_cons ha (pa_cons hb pa_nil hs1) hs0) hs0 hpl) fun σ H R ⟨B, F, δ, E, o⟩ => by
  obtain ⟨x1, s1, k1⟩ := outI_bind o
  refine teD.then E x1 s1 fun d v F1 H1 e1 X1 r1 => ?_
  obtain ⟨x2, s2, k2⟩ := outI_bind (k1 d e1)
  refine teD.then (E.up X1) (fun n h => (x2 n h).up X1) s2 fun d2 v2 F2 H2 e2 X2 r2 => ?_
  have o2 := (k2 d2 e2).up (X1.trans X2)
  have r1' := r1.up X2.f
  unfold zipOf at o2
  split at o2
  · cases r1' with
    | lst h1 h2 =>
      cases r2 with
      | lst h3 h4 => exact ⟨_, _, _, _, rfl, .inl ⟨.of (X2.c.k _ _ h1), .of (X2.c.k _ _ h3), o2 _ F2 H2 (.refl X2.c) (gives_zip h1 h2 h3 h4)⟩⟩
  · cases r1' with
    | tup h1 h2 =>
      cases r2 with
      | tup h3 h4 => exact ⟨_, _, _, _, rfl, .inr ⟨X2.c.sqT h1, X2.c.sqT h3, o2 _ F2 H2 (.refl X2.c) (gives_zipT h1 h2 h3 h4)⟩⟩
  · exact o2.elim
end

/-! ### targets -/
theorem EnvOk.set {K : PySem.W.Frag} {B F H : Hp} {σ : St} {δ : DEnv} (E : EnvOk K B F H σ δ) {v : V} {d : P} (i : Nat) (r : Rp K F v d) : EnvOk K B F H (σ.set i (some v)) (δ.set i (.val d)) := by
  have key : ∀ (j : Nat) (s : Slot), (δ.set i (.val d))[j]? = some s → (j = i ∧ s = .val d ∧ (σ.set i (some v))[j]? = some (some v)) ∨ (j ≠ i ∧ δ[j]? = some s ∧ (σ.set i (some v))[j]? = σ[j]?) := by
    intro j s h
    by_cases e : j = i
    · subst e
      have hj : j < δ.length := by
        have := (List.getElem?_eq_some_iff.mp h).1
        simpa using this
      rw [List.getElem?_set_self hj] at h
      cases h
      exact .inl ⟨rfl, rfl, List.getElem?_set_self (by rw [E.len]; exact hj)⟩
    · rw [List.getElem?_set_ne (Ne.symm e)] at h
      exact .inr ⟨e, h, List.getElem?_set_ne (Ne.symm e)⟩
  refine ⟨E.c, E.b, E.tbs, by rw [List.length_set, List.length_set]; exact E.len, fun j e h => ?_, fun j ds h => ?_, fun j k ds es p hjk h1 h2 h3 => ?_, fun j w h => ?_, fun j lk c fs h => ?_, fun j k lk lk' c c' fs fs' p hjk h1 h2 h3 => ?_⟩
  · rcases key j _ h with ⟨_, q, h'⟩ | ⟨_, q, h'⟩
    · cases q
      exact ⟨v, h', r⟩
    · rw [h']
      exact E.val j e q
  · rcases key j _ h with ⟨_, q, h'⟩ | ⟨_, q, h'⟩
    · cases q
    · rw [h']
      exact E.own j ds q
  · rcases key j _ h1 with ⟨_, q, h'⟩ | ⟨_, q, h'⟩
    · cases q
    · rcases key k _ h2 with ⟨_, q2, h2'⟩ | ⟨_, q2, h2'⟩
      · cases q2
      · rw [h'] at h3
        rw [h2']
        exact E.apart j k ds es p hjk q q2 h3
  · rcases key j _ h with ⟨_, q, h'⟩ | ⟨_, q, h'⟩
    · cases q
    · rw [h']
      exact E.raw j w q
  · rcases key j _ h with ⟨_, q, h'⟩ | ⟨_, q, h'⟩
    · cases q
    · rw [h']
      exact E.obj j lk c fs q
  · rcases key j _ h1 with ⟨_, q, h'⟩ | ⟨_, q, h'⟩
    · cases q
    · rcases key k _ h2 with ⟨_, q2, h2'⟩ | ⟨_, q2, h2'⟩
      · cases q2
      · rw [h'] at h3
        rw [h2']
        exact E.far j k lk lk' c c' fs fs' p hjk q q2 h3
theorem EnvOk.forget {K : PySem.W.Frag} {B F H : Hp} {σ : St} {δ : DEnv} (E : EnvOk K B F H σ δ) (i : Nat) (o : Option V) : EnvOk K B F H (σ.set i o) (δ.set i .un) := by
  have key : ∀ (j : Nat) (s : Slot), s ≠ .un → (δ.set i .un)[j]? = some s → (j ≠ i ∧ δ[j]? = some s ∧ (σ.set i o)[j]? = σ[j]?) := by
    intro j s hs h
    by_cases e : j = i
    · subst e
      have hj : j < δ.length := by
        have := (List.getElem?_eq_some_iff.mp h).1
        simpa using this
      rw [List.getElem?_set_self hj] at h
      cases h
      exact absurd rfl hs
    · rw [List.getElem?_set_ne (Ne.symm e)] at h
      exact ⟨e, h, List.getElem?_set_ne (Ne.symm e)⟩
  refine ⟨E.c, E.b, E.tbs, by rw [List.length_set, List.length_set]; exact E.len, fun j e h => ?_, fun j ds h => ?_, fun j k ds es p hjk h1 h2 h3 => ?_, fun j w h => ?_, fun j lk c fs h => ?_, fun j k lk lk' c c' fs fs' p hjk h1 h2 h3 => ?_⟩
  · obtain ⟨_, q, h'⟩ := key j (.val e) nofun h
    rw [h']
    exact E.val j e q
  · obtain ⟨_, q, h'⟩ := key j (.own ds) nofun h
    rw [h']
    exact E.own j ds q
  · obtain ⟨_, q, h'⟩ := key j (.own ds) nofun h1
    obtain ⟨_, q2, h2'⟩ := key k (.own es) nofun h2
    rw [h'] at h3
    rw [h2']
    exact E.apart j k ds es p hjk q q2 h3
  · obtain ⟨_, q, h'⟩ := key j (.raw w) nofun h
    rw [h']
    exact E.raw j w q
  · obtain ⟨_, q, h'⟩ := key j (.obj lk c fs) nofun h
    rw [h']
    exact E.obj j lk c fs q
  · obtain ⟨_, q, h'⟩ := key j (.obj lk c fs) nofun h1
    obtain ⟨_, q2, h2'⟩ := key k (.obj lk' c' fs') nofun h2
    rw [h'] at h3
    rw [h2']
    exact E.far j k lk lk' c c' fs fs' p hjk q q2 h3
def wipeD (δ : DEnv) : List Nat → DEnv
  | [] => δ
  | v :: vs => (wipeD δ vs).set v .un
theorem EnvOk.wipe {K : PySem.W.Frag} {B F H : Hp} {σ : St} {δ : DEnv} (E : EnvOk K B F H σ δ) : ∀ vs : List Nat, EnvOk K B F H (L2.wipe σ vs) (wipeD δ vs)
  | [] => E
  | v :: vs => (EnvOk.wipe E vs).forget v none
theorem wipe_set {σ : St} {i : Nat} {o : Option V} : ∀ {vs : List Nat}, i ∈ vs → L2.wipe (σ.set i o) vs = L2.wipe σ vs
  | v :: vs, h => by
    show (L2.wipe (σ.set i o) vs).set v none = (L2.wipe σ vs).set v none
    by_cases hm : i ∈ vs
    · rw [wipe_set hm]
    · have e : i = v := by
        rcases List.mem_cons.mp h with h | h
        · exact h
        · exact absurd h hm
      subst e
      have : ∀ ws : List Nat, (L2.wipe (σ.set i o) ws).set i none = (L2.wipe σ ws).set i none := by
        intro ws
        induction ws with
        | nil => show (σ.set i o).set i none = σ.set i none; rw [List.set_set]
        | cons w ws ih =>
          show ((L2.wipe (σ.set i o) ws).set w none).set i none = ((L2.wipe σ ws).set w none).set i none
          by_cases hw : w = i
          · subst hw
            rw [ih]
          · rw [List.set_comm _ _ hw, ih, ← List.set_comm _ _ hw]
      exact this vs
theorem wipe_wipe (σ : St) (vs : List Nat) : L2.wipe (L2.wipe σ vs) vs = L2.wipe σ vs := by
  have : ∀ us : List Nat, (∀ i ∈ us, i ∈ vs) → L2.wipe (L2.wipe σ us) vs = L2.wipe σ vs := by
    intro us
    induction us with
    | nil => intro _; rfl
    | cons u us ih =>
      intro h
      show L2.wipe ((L2.wipe σ us).set u none) vs = _
      rw [wipe_set (h u List.mem_cons_self)]
      exact ih fun i hi => h i (List.mem_cons_of_mem _ hi)
  exact this vs fun _ h => h
abbrev Bd := P → DEnv → Res DEnv
def bN (i : Nat) : Bd := fun d δ => .ok (δ.set i (.val d))
def bP (i j : Nat) : Bd := fun d δ => match d with
  | .tuple [a, b] => .ok ((δ.set i (.val a)).set j (.val b))
  | _ => .stuck
/-- a target -/
def tgD (K : PySem.W.Frag) (bd : Bd) (ix : List Nat) : TG := fun v σ H Q => ∃ B F δ d, EnvOk K B F H σ δ ∧ Rp K F v d ∧ (match bd d δ with
  | .ok δ' => ∀ σ', EnvOk K B F H σ' δ' → (∀ vs, (∀ i ∈ ix, i ∈ vs) → L2.wipe σ' vs = L2.wipe σ vs) → Q σ' H
  | _ => False)
section
variable {X : Cx} {pos : Pos}
theorem gx_name {i : Nat} {x : Str} (hN : X.N.Nodup) (hi : X.N[i]? = some x) (hx : Loc X.env.scope x) (hf : X.fn x = true ∨ X.env.scope.names.lookup x = some .local := by first | exact .inl rfl | exact .inr rfl | assumption) : PG X (.Name x pos) (tgD X.K (bN i) [i]) :=
  PGi (pg_name hN hi hx hf) fun v σ H Q ⟨B, F, δ, d, E, r, o⟩ => o _ (E.set i r) fun vs h => wipe_set (h i (by simp))
theorem gx_pair {i j : Nat} {x y : Str} {k : Nat} {p1 p2 : Pos} (hc : X.calm = true) (hN : X.N.Nodup) (hi : X.N[i]? = some x) (hx : Loc X.env.scope x) (hj : X.N[j]? = some y) (hy : Loc X.env.scope y)
    (hf : X.fn x = true ∨ X.env.scope.names.lookup x = some .local := by first | exact .inl rfl | exact .inr rfl | assumption) (hf2 : X.fn y = true ∨ X.env.scope.names.lookup y = some .local := by first | exact .inl rfl | exact .inr rfl | assumption) : PG X (.Tuple [.Name x p1, .Name y p2] k pos) (tgD X.K (bP i j) [i, j]) :=
  PGi (pg_tup hc (pgs_cons (pg_name hN hi hx hf) (pgs_cons (pg_name hN hj hy hf2) pgs_nil))) fun v σ H Q ⟨B, F, δ, d, E, r, o⟩ => by
    unfold bP at o
    split at o
    · rename_i δ' q
      split at q
      · rename_i d1 d2
        cases q
        cases r with
        | tup h1 h2 =>
          cases h2 with
          | cons r1 h2 =>
            cases h2 with
            | cons r2 h2 =>
              cases h2
              refine ⟨_, _, rfl, E.c.sqT h1, rfl, _, _, rfl, _, _, rfl, rfl, o _ ((E.set i r1).set j r2) fun vs h => ?_⟩
              rw [wipe_set (h j (by simp)), wipe_set (h i (by simp))]
      · cases q
    · exact o.elim
end
end DL

set_option Elab.async false
set_option linter.all false
set_option maxRecDepth 100000
set_option maxHeartbeats 4000000
namespace DL
open PySem L2
variable [LTab]

/-! ### list comprehensions -/
abbrev WF : WX := fun _ _ _ _ => False
/-- the loop of a comprehension, in the block's names -/
def compGo (bd : Bd) (c : DE Bool) (e : DE P) (δ : DEnv) : List P → Res (List P)
  | [] => .ok []
  | d :: ds => (bd d δ).mute.bind fun δ1 => (c δ1).mute.bind fun b => if b = true then (e δ1).mute.bind fun y => (compGo bd c e δ ds).bind fun ys => .ok (y :: ys) else compGo bd c e δ ds
def dComp (fi : DE (List P)) (vs : List Nat) (bd : Bd) (c : DE Bool) (e : DE P) : DE (List P) := fun δ => (fi δ).bind fun ds => if ds.length ≤ lim then (compGo bd c e (wipeD δ vs) ds).mute else .stuck
def cYes : DE Bool := fun _ => .ok true
theorem mute_ok_of {α : Type} {r : Res α} {a : α} (h : r.mute = .ok a) : r = .ok a := by
  cases r <;> cases h
  rfl
theorem mute_cases {α : Type} (r : Res α) : (∃ a, r = .ok a ∧ r.mute = .ok a) ∨ r.mute = .stuck := by
  cases r with
  | ok a => exact .inl ⟨a, rfl, rfl⟩
  | exc n => exact .inr rfl
  | stuck => exact .inr rfl
theorem compGo_cons {bd : Bd} {c : DE Bool} {e : DE P} {δ : DEnv} {d : P} {ds zs : List P} (h : compGo bd c e δ (d :: ds) = .ok zs) :
    ∃ δ1 b, bd d δ = .ok δ1 ∧ c δ1 = .ok b ∧ ((b = true ∧ ∃ y ys, e δ1 = .ok y ∧ compGo bd c e δ ds = .ok ys ∧ zs = y :: ys) ∨ (b = false ∧ compGo bd c e δ ds = .ok zs)) := by
  unfold compGo at h
  rcases mute_cases (bd d δ) with ⟨δ1, h1, m1⟩ | m1
  · rw [m1] at h
    simp only [Res.bind_ok] at h
    rcases mute_cases (c δ1) with ⟨b, h2, m2⟩ | m2
    · rw [m2] at h
      simp only [Res.bind_ok] at h
      refine ⟨δ1, b, h1, h2, ?_⟩
      cases b with
      | false =>
        simp only [if_false, Bool.false_eq_true] at h
        exact .inr ⟨rfl, h⟩
      | true =>
        rw [if_pos rfl] at h
        rcases mute_cases (e δ1) with ⟨y, h3, m3⟩ | m3
        · rw [m3] at h
          simp only [Res.bind_ok] at h
          cases q : compGo bd c e δ ds with
          | ok ys =>
            rw [q] at h
            cases h
            exact .inl ⟨rfl, y, ys, h3, rfl, rfl⟩
          | exc n => rw [q] at h; cases h
          | stuck => rw [q] at h; cases h
        · rw [m3] at h
          cases h
    · rw [m2] at h
      cases h
  · rw [m1] at h
    cases h
section
variable {X : Cx} {W : WX} {elt tg iter : Expr} {ifs : List Expr} {scope : Scope} {own : List (Str × Nat)} {pos : Pos} {fi : DE (List P)} {bd : Bd} {ix : List Nat} {fc : DE Bool} {fe : DE P}
theorem tsi_nil : PTs X [] (teT X.K X.mg W cYes) := PTsi pts_nil fun σ H Q ⟨B, F, δ, E, o⟩ => o F H (.refl E.c)
theorem tsi_one {c : Expr} (h : PT X c (teT X.K X.mg W fc)) : PTs X [c] (teT X.K X.mg W fc) := pts_one h
theorem comp_dn (hix : ∀ i ∈ ix, i ∈ own.map (·.2)) {σ : St} {H : Hp} {Q : VK} (q : teL X.K X.mg W (dComp fi (own.map (·.2)) bd fc fe) σ H Q) :
    tLc (tiD X.K X.mg W fi) (tgD X.K bd ix) (teT X.K X.mg WF fc) (teD X.K X.mg WF fe) (own.map (·.2)) σ H Q := by
  obtain ⟨B, F, δ, E, o⟩ := q
  obtain ⟨x1, s1, k1⟩ := outL_bind o
  refine ⟨B, F, δ, E, ?_⟩
  cases hf : fi δ with
  | exc n => exact x1 n hf
  | stuck => exact s1 hf
  | ok ds =>
    intro J F1 H1 X1 ⟨⟨G, Y, w, hG, hY⟩⟩ D hD
    have o1 := k1 ds hf
    by_cases hz : ds.length ≤ lim
    · rw [if_pos hz] at o1
      rcases mute_cases (compGo bd fc fe (wipeD δ (own.map (·.2))) ds) with ⟨total, ht, hm⟩ | hm
      · rw [hm] at o1
        have E1 := (E.up X1).wipe (own.map (·.2))
        refine lc_it w (fun i Hh => ∃ Fi acc ys zs, Ext F1 H1 Fi Hh ∧ Fi D = none ∧ Hh D = some (.lst acc) ∧ RpAll X.K Fi acc ys ∧ acc.length ≤ i ∧ compGo bd fc fe (wipeD δ (own.map (·.2))) (ds.drop i) = .ok zs ∧ total = ys ++ zs) ?_ ?_ ?_ ?_
        · exact ⟨F1, [], [], total, .newH X1.c hD, X1.c.none hD, upd_same, .nil, Nat.le_refl _, by rw [List.drop_zero]; exact ht, rfl⟩
        · rintro i Hh hi ⟨Fi, acc, ys, zs, e, _⟩
          exact hG Hh (e.f.trans e.c)
        · rintro i x Hi Hi' hi ⟨Fi, acc, ys, zs, e, hFD, hHD, ra, hl, hc, ht⟩ y
          obtain ⟨Fj, d, ej, hd, rd⟩ := hY i Fi Hi x Hi' hi e.f e.c y
          have hdrop : ds.drop i = d :: ds.drop (i + 1) := by
            obtain ⟨h1, h2⟩ := List.getElem?_eq_some_iff.mp hd
            rw [List.drop_eq_getElem_cons h1]; rw [h2]
          rw [hdrop] at hc
          obtain ⟨δ1, b, hb1, hb2, hb3⟩ := compGo_cons hc
          have e1 := e.trans ej
          have E2 := E1.up e1
          have HD' : Hi' D = some (.lst acc) := ej.h.k _ _ hHD
          have FD' : Fj D = none := ej.n D hFD (by rw [hHD]; nofun)
          refine ⟨B, Fj, wipeD δ (own.map (·.2)), d, E2, rd, ?_⟩
          rw [hb1]
          intro σ2 E3 hw
          refine ⟨by rw [hw _ hix, wipe_wipe], ?_⟩
          refine ⟨B, Fj, δ1, E3, ?_⟩
          rw [hb2]
          intro F3 H3 X3
          rcases hb3 with ⟨rfl, yv, ys', hy, hys, rfl⟩ | ⟨rfl, hys⟩
          · rw [if_pos rfl]
            refine ⟨B, F3, δ1, E3.up X3, ?_⟩
            rw [hy]
            intro v F4 H4 X4 r4
            have hD4 : H4 D = some (.lst acc) := X4.h.k _ _ (X3.h.k _ _ HD')
            have FD4 : F4 D = none := X4.n D (X3.n D FD' (by rw [HD']; nofun)) (by rw [X3.h.k _ _ HD']; nofun)
            have e4 := (e1.trans X3).trans X4
            have hlz : acc.length < sizeLine := by
              rw [lim_eq]
              omega
            refine ⟨acc, hD4, hlz, F4, acc ++ [v], ys ++ [yv], ys', ?_, FD4, upd_same, ?_, ?_, hys, by rw [ht]; simp⟩
            · exact ⟨e4.f, e4.h.mut hD (.of hD4 nofun), e4.c.mut FD4 (.of hD4 nofun), e4.n⟩
            · exact (((ra.up ej.f).up X3.f).up X4.f).app (.cons r4 .nil)
            · simp only [List.length_append, List.length_singleton]
              omega
          · rw [if_neg Bool.false_ne_true]
            exact ⟨F3, acc, ys, zs, e1.trans X3, X3.n D FD' (by rw [HD']; nofun), X3.h.k _ _ HD', (ra.up ej.f).up X3.f, by omega, hys, ht⟩
        · rintro Hh ⟨Fi, acc, ys, zs, e, hFD, hHD, ra, hl, hc, ht⟩
          rw [List.drop_length] at hc
          cases hc
          rw [List.append_nil] at ht
          subst ht
          exact o1 D acc Fi Hh (X1.trans e) (X1.h.none hD) hFD hHD ra
      · rw [hm] at o1
        exact o1.elim
    · rw [if_neg hz] at o1
      exact o1.elim
theorem pl_lc {vs : List Nat} (hc : X.calm = true) (hN : X.N.Nodup) (hi : PI X tg iter (tiD X.K X.mg W fi)) (ok : BlkOk X.N X.env.scope scope own) (hv : own.map (·.2) = vs) (hix : ∀ i ∈ ix, i ∈ own.map (·.2))
    (hg : ∀ (s : Shared) (H : Hp) (C : Addr) (cl : List (Str × Addr)) (fp : List Addr), PG (X.blk s H scope (compEnvC scope cl C X.env) fp) tg (tgD X.K bd ix))
    (ht : ∀ (s : Shared) (H : Hp) (C : Addr) (cl : List (Str × Addr)) (fp : List Addr), PTs (X.blk s H scope (compEnvC scope cl C X.env) fp) ifs (teT X.K X.mg WF fc))
    (he : ∀ (s : Shared) (H : Hp) (C : Addr) (cl : List (Str × Addr)) (fp : List Addr), PE (X.blk s H scope (compEnvC scope cl C X.env) fp) elt (teD X.K X.mg WF fe)) (hs : ∀ x, foldedSetIterable iter X.env x = pure x := by intro _; rfl) :
    PE X (.ListComp elt [⟨tg, iter, ifs, 0⟩] scope pos) (teL X.K X.mg W (dComp fi vs bd fc fe)) := by
  subst hv
  exact PEi (pe_lc hc hN hi ok hg ht he hs) fun _ _ _ q => comp_dn hix q
end

/-! ### statements -/
inductive SRes where
  | nx (δ : DEnv) | brk (δ : DEnv) | cont (δ : DEnv) | ret (d : P) | exc (n : Str) (δ : DEnv) | stuck
  /-- an object of its own is handed back, alone or ahead of a thing in a pair -/
  | retO (c : Str) (fs : List (Str × P)) (d : Option P)
  /-- a thing is handed back, with what the names then hold -/
  | retE (d : P) (δ : DEnv)
def RetAt (F H : Hp) (K : PySem.W.Frag) (v : V) (p : Addr) : Option P → Prop
  | none => v = .ref p
  | some d => ∃ t u, v = .ref t ∧ H t = some (.tup [.ref p, u]) ∧ Rp K F u d
structure SExt (B F F' : Hp) : Prop where
  f : Ex F F'
  n : ∀ p, F p = none → B p ≠ none → F' p = none
theorem SExt.refl {B F : Hp} : SExt B F F := ⟨.refl F, fun _ h _ => h⟩
theorem SExt.trans {B F F1 F2 : Hp} (a : SExt B F F1) (b : SExt B F1 F2) : SExt B F F2 := ⟨a.f.trans b.f, fun p h1 h2 => b.n p (a.n p h1 h2) h2⟩
theorem EnvOk.sext {K : PySem.W.Frag} {B F H F' H' : Hp} {σ : St} {δ : DEnv} (E : EnvOk K B F H σ δ) (x : Ext F H F' H') : SExt B F F' := ⟨x.f, fun p h1 h2 => x.n p h1 fun q => h2 (E.b.none q)⟩
section
variable (K : PySem.W.Frag) (mg : Str → Option Value) (W : WX)
def OutS (D : Ends) (B F : Hp) (r : SRes) : Prop := match r with
  | .nx δ' => ∀ σ' F' H', EnvOk K B F' H' σ' δ' → SExt B F F' → D.nx σ' H'
  | .brk δ' => ∀ σ' F' H', EnvOk K B F' H' σ' δ' → SExt B F F' → D.bk σ' H'
  | .cont δ' => ∀ σ' F' H', EnvOk K B F' H' σ' δ' → SExt B F F' → D.ct σ' H'
  | .ret d => ∀ v F' H', Ex F' H' → Ex B H' → SExt B F F' → Rp K F' v d → D.rt v H'
  | .exc n δ' => ∀ C σ' F' H', mg n = some (.ref C) → EnvOk K B F' H' σ' δ' → SExt B F F' → W (.ref C) none σ' H'
  | .stuck => False
  | .retE d δ' => ∀ v σ' F' H', EnvOk K B F' H' σ' δ' → SExt B F F' → Rp K F' v d → D.rt v H'
  | .retO c fs d => ∀ v p F' H', Ex F' H' → Ex B H' → SExt B F F' → ObjE K B F' H' (.free none) c fs p → RetAt F' H' K v p d → D.rt v H'
def tsD (g : DEnv → SRes) : TS := fun D σ H => ∃ B F δ, EnvOk K B F H σ δ ∧ OutS K mg W D B F (g δ)
end
section
variable {K : PySem.W.Frag} {mg : Str → Option Value} {W : WX} {D : Ends} {B F F1 H : Hp} {σ : St} {δ : DEnv}
theorem OutS.up {r : SRes} (h : OutS K mg W D B F r) (e : SExt B F F1) : OutS K mg W D B F1 r := by
  cases r with
  | nx δ' => exact fun σ' F' H' E x => h σ' F' H' E (e.trans x)
  | brk δ' => exact fun σ' F' H' E x => h σ' F' H' E (e.trans x)
  | cont δ' => exact fun σ' F' H' E x => h σ' F' H' E (e.trans x)
  | ret d => exact fun v F' H' c b x => h v F' H' c b (e.trans x)
  | exc n δ' => exact fun C σ' F' H' m E x => h C σ' F' H' m E (e.trans x)
  | stuck => exact h
  | retO c fs d => exact fun v p F' H' c b x => h v p F' H' c b (e.trans x)
  | retE d δ' => exact fun v σ' F' H' E x => h v σ' F' H' E (e.trans x)
/-- what a statement's expressions let out -/
theorem exc_up {n : Str} (E : EnvOk K B F H σ δ) (h : OutS K mg W D B F (.exc n δ)) : XcW mg W σ F H n := fun C F' H' m x => h C σ F' H' m (E.up x) (E.sext x)
end
def ofR {α : Type} (δ : DEnv) (r : Res α) (k : α → SRes) : SRes := match r with
  | .ok a => k a
  | .exc n => .exc n δ
  | .stuck => .stuck
@[simp] theorem ofR_ok {α : Type} (δ : DEnv) (a : α) (k : α → SRes) : ofR δ (.ok a) k = k a := rfl
theorem outS_of {K : PySem.W.Frag} {mg : Str → Option Value} {W : WX} {D : Ends} {B F H : Hp} {σ : St} {δ : DEnv} {α : Type} {r : Res α} {k : α → SRes} (E : EnvOk K B F H σ δ) (o : OutS K mg W D B F (ofR δ r k)) : (∀ n, r = .exc n → XcW mg W σ F H n) ∧ (r = .stuck → False) ∧ ∀ d, r = .ok d → OutS K mg W D B F (k d) := by
  cases r with
  | ok d => exact ⟨nofun, nofun, fun d' e => by cases e; exact o⟩
  | exc n => exact ⟨fun n' e => by cases e; exact exc_up E o, nofun, nofun⟩
  | stuck => exact o.elim
def sNil : DEnv → SRes := fun δ => .nx δ
def sSeq (g h : DEnv → SRes) : DEnv → SRes := fun δ => match g δ with
  | .nx δ' => h δ'
  | r => r
section
variable {X : Cx} {W : WX} {st : Stmt} {rest a b : List Stmt} {e c : Expr} {f : DE P} {fl : DE (List P)} {fc : DE Bool} {g h : DEnv → SRes} {pos : Pos}
theorem sx_nil : PSs X [] (tsD X.K X.mg W sNil) := PSsi pss_nil fun D σ H ⟨B, F, δ, E, o⟩ => o σ F H E .refl
theorem sx_cons (h1 : PS X st (tsD X.K X.mg W g)) (h2 : PSs X rest (tsD X.K X.mg W h)) : PSs X (st :: rest) (tsD X.K X.mg W (sSeq g h)) := PSsi (pss_cons h1 h2) fun D σ H ⟨B, F, δ, E, o⟩ => by
  refine ⟨B, F, δ, E, ?_⟩
  unfold sSeq at o
  cases r : g δ with
  | nx δ' =>
    rw [r] at o
    exact fun σ' F' H' E' x => ⟨B, F', δ', E', o.up x⟩
  | brk δ' => rw [r] at o; exact o
  | cont δ' => rw [r] at o; exact o
  | ret d => rw [r] at o; exact o
  | exc n δ' => rw [r] at o; exact o
  | stuck => rw [r] at o; exact o
  | retO c fs d => rw [r] at o; exact o
  | retE d δ' => rw [r] at o; exact o
theorem sx_one (h1 : PS X st (tsD X.K X.mg W g)) : PSs X [st] (tsD X.K X.mg W g) := pss_one h1
def sPass : DEnv → SRes := fun δ => .nx δ
theorem sx_pass : PS X (.Pass pos) (tsD X.K X.mg W sPass) := PSi ps_pass fun D σ H ⟨B, F, δ, E, o⟩ => o σ F H E .refl
theorem sx_break : PS X (.Break pos) (tsD X.K X.mg W .brk) := PSi ps_break fun D σ H ⟨B, F, δ, E, o⟩ => o σ F H E .refl
theorem sx_continue : PS X (.Continue pos) (tsD X.K X.mg W .cont) := PSi ps_continue fun D σ H ⟨B, F, δ, E, o⟩ => o σ F H E .refl
def sExpr (f : DE P) : DEnv → SRes := fun δ => ofR δ (f δ) fun _ => .nx δ
theorem sx_expr (he : PE X e (teD X.K X.mg W f)) (hs : swapsWith e none pos.line X.env = pure false := by rfl) : PS X (.Expr e pos) (tsD X.K X.mg W (sExpr f)) := PSi (ps_expr he hs) fun D σ H ⟨B, F, δ, E, o⟩ => by
  obtain ⟨x1, s1, k1⟩ := outS_of E o
  exact teD.then E x1 s1 fun d v F1 H1 e1 X1 r1 => k1 d e1 σ F1 H1 (E.up X1) (E.sext X1)
def sRet (f : DE P) : DEnv → SRes := fun δ => ofR δ (f δ) fun d => .ret d
theorem sx_ret (he : PE X e (teD X.K X.mg W f)) : PS X (.Return (some e) pos) (tsD X.K X.mg W (sRet f)) := PSi (ps_ret he) fun D σ H ⟨B, F, δ, E, o⟩ => by
  obtain ⟨x1, s1, k1⟩ := outS_of E o
  exact teD.then E x1 s1 fun d v F1 H1 e1 X1 r1 => k1 d e1 v F1 H1 X1.c (E.b.trans X1.h) (E.sext X1) r1
def sRetN : DEnv → SRes := fun _ => .ret .none
theorem sx_retN : PS X (.Return none pos) (tsD X.K X.mg W sRetN) := PSi ps_retN fun D σ H ⟨B, F, δ, E, o⟩ => o _ F H E.c E.b .refl .non
def sIf (c : DE Bool) (g h : DEnv → SRes) : DEnv → SRes := fun δ => ofR δ (c δ) fun b => if b = true then g δ else h δ
theorem sx_if (hc : PT X c (teT X.K X.mg W fc)) (ha : PSs X a (tsD X.K X.mg W g)) (hb : PSs X b (tsD X.K X.mg W h)) : PS X (.If c a b pos) (tsD X.K X.mg W (sIf fc g h)) := PSi (ps_if hc ha hb) fun D σ H ⟨B, F, δ, E, o⟩ => by
  obtain ⟨x1, s1, k1⟩ := outS_of E o
  refine teT.then E x1 s1 fun b F1 H1 e1 X1 => ?_
  have o1 := (k1 b e1).up (E.sext X1)
  cases b with
  | true => exact ⟨B, F1, δ, E.up X1, o1⟩
  | false => exact ⟨B, F1, δ, E.up X1, o1⟩
/-- x = e -/
def sSet (i : Nat) (f : DE P) : DEnv → SRes := fun δ => ofR δ (f δ) fun d => .nx (δ.set i (.val d))
theorem sx_set {i : Nat} {x : Str} {pos' : Pos} (hN : X.N.Nodup) (hi : X.N[i]? = some x) (hx : Loc X.env.scope x) (he : PE X e (teD X.K X.mg W f)) (hs : swapsWith e (some (.Name x pos')) pos.line X.env = pure false := by rfl) (hf : X.fn x = true ∨ X.env.scope.names.lookup x = some .local := by first | exact .inl rfl | exact .inr rfl | assumption) :
    PS X (.Assign [.Name x pos'] e pos) (tsD X.K X.mg W (sSet i f)) := PSi (ps_set hN hi hx he hs hf) fun D σ H ⟨B, F, δ, E, o⟩ => by
  obtain ⟨x1, s1, k1⟩ := outS_of E o
  exact teD.then E x1 s1 fun d v F1 H1 e1 X1 r1 => k1 d e1 _ F1 H1 ((E.up X1).set i r1) (E.sext X1)
/-- x = a new list that may change -/
theorem EnvOk.setOwn {K : PySem.W.Frag} {B F H : Hp} {σ : St} {δ : DEnv} (E : EnvOk K B F H σ δ) {p : Addr} {vs : List V} {ds : List P} (i : Nat) (h : H p = some (.lst vs)) (r : RpAll K F vs ds) (hf : F p = none) (hb : B p = none) (hap : ∀ (j : Nat) (es : List P), j ≠ i → δ[j]? = some (.own es) → σ[j]? ≠ some (some (.ref p))) :
    EnvOk K B F H (σ.set i (some (.ref p))) (δ.set i (.own ds)) := by
  have key : ∀ (j : Nat) (s : Slot), (δ.set i (.own ds))[j]? = some s → (j = i ∧ s = .own ds ∧ (σ.set i (some (.ref p)))[j]? = some (some (.ref p))) ∨ (j ≠ i ∧ δ[j]? = some s ∧ (σ.set i (some (.ref p)))[j]? = σ[j]?) := by
    intro j s h
    by_cases e : j = i
    · subst e
      have hj : j < δ.length := by
        have := (List.getElem?_eq_some_iff.mp h).1
        simpa using this
      rw [List.getElem?_set_self hj] at h
      cases h
      exact .inl ⟨rfl, rfl, List.getElem?_set_self (by rw [E.len]; exact hj)⟩
    · rw [List.getElem?_set_ne (Ne.symm e)] at h
      exact .inr ⟨e, h, List.getElem?_set_ne (Ne.symm e)⟩
  refine ⟨E.c, E.b, E.tbs, by rw [List.length_set, List.length_set]; exact E.len, fun j e h => ?_, fun j es h => ?_, fun j k es fs q hjk h1 h2 h3 => ?_, fun j w h => ?_, fun j lk c fs h => ?_, fun j k lk lk' c c' fs fs' p hjk h1 h2 h3 => ?_⟩
  · rcases key j _ h with ⟨_, q, h'⟩ | ⟨_, q, h'⟩
    · cases q
    · rw [h']
      exact E.val j e q
  · rcases key j _ h with ⟨_, q, h'⟩ | ⟨_, q, h'⟩
    · cases q
      exact ⟨p, vs, h', by assumption, r, hf, hb⟩
    · rw [h']
      exact E.own j es q
  · rcases key j _ h1 with ⟨e1, z, h'⟩ | ⟨e1, z, h'⟩
    · rcases key k _ h2 with ⟨e2, z2, h2'⟩ | ⟨e2, z2, h2'⟩
      · exact absurd (e1.trans e2.symm) hjk
      · rw [h'] at h3
        cases h3
        rw [h2']
        exact hap k fs e2 z2
    · rw [h'] at h3
      rcases key k _ h2 with ⟨e2, z2, h2'⟩ | ⟨e2, z2, h2'⟩
      · rw [h2']
        intro z3
        cases z3
        exact hap j es e1 z h3
      · rw [h2']
        exact E.apart j k es fs q hjk z z2 h3
  · rcases key j _ h with ⟨_, q, h'⟩ | ⟨_, q, h'⟩
    · cases q
    · rw [h']
      exact E.raw j w q
  · rcases key j _ h with ⟨_, q, h'⟩ | ⟨_, q, h'⟩
    · cases q
    · rw [h']
      exact E.obj j lk c fs q
  · rcases key j _ h1 with ⟨_, q, h'⟩ | ⟨_, q, h'⟩
    · cases q
    · rcases key k _ h2 with ⟨_, q2, h2'⟩ | ⟨_, q2, h2'⟩
      · cases q2
      · rw [h'] at h3
        rw [h2']
        exact E.far j k lk lk' c c' fs fs' p hjk q q2 h3
def sSetOwn (i : Nat) (f : DE (List P)) : DEnv → SRes := fun δ => ofR δ (f δ) fun ds => .nx (δ.set i (.own ds))
theorem teL.then {K : PySem.W.Frag} {mg : Str → Option Value} {σ : St} {F H : Hp} {f : DE (List P)} {Q : VK} {B : Hp} {δ : DEnv} (E : EnvOk K B F H σ δ) (hx : ∀ n, f δ = .exc n → XcW mg W σ F H n) (hs : f δ = .stuck → False)
    (k : ∀ ds p vs F1 H1, f δ = .ok ds → Ext F H F1 H1 → H p = none → F1 p = none → H1 p = some (.lst vs) → RpAll K F1 vs ds → Q (.ref p) H1) : teL K mg W f σ H Q := by
  refine ⟨B, F, δ, E, ?_⟩
  cases h : f δ with
  | ok d => exact fun p vs F' H' x h1 h2 h3 r => k d p vs F' H' h x h1 h2 h3 r
  | exc n => exact hx n h
  | stuck => exact hs h
theorem EnvOk.newp {K : PySem.W.Frag} {B F H : Hp} {σ : St} {δ : DEnv} (E : EnvOk K B F H σ δ) {p : Addr} (h : H p = none) (j : Nat) (es : List P) (hj : δ[j]? = some (.own es)) : σ[j]? ≠ some (some (.ref p)) := fun z => by
  obtain ⟨q, vs, h1, h2, _⟩ := E.own j es hj
  rw [h1] at z
  cases z
  rw [h] at h2
  cases h2
theorem own_set {i : Nat} {D : Ends} {σ : St} {H : Hp} (q : tsD X.K X.mg W (sSetOwn i fl) D σ H) : tAsg (teL X.K X.mg W fl) (gName i) D σ H := by
  obtain ⟨B, F, δ, E, o⟩ := q
  obtain ⟨x1, s1, k1⟩ := outS_of E o
  refine teL.then E x1 s1 fun ds p vs F1 H1 e1 X1 h1 h2 h3 r => ?_
  exact k1 ds e1 _ F1 H1 ((E.up X1).setOwn i h3 r h2 (E.b.none h1) fun j es _ hj => E.newp h1 j es hj) (E.sext X1)
theorem sx_setOwn {i : Nat} {x : Str} {pos' : Pos} (hN : X.N.Nodup) (hi : X.N[i]? = some x) (hx : Loc X.env.scope x) (he : PE X e (teL X.K X.mg W fl)) (hs : swapsWith e (some (.Name x pos')) pos.line X.env = pure false := by rfl) (hf : X.fn x = true ∨ X.env.scope.names.lookup x = some .local := by first | exact .inl rfl | exact .inr rfl | assumption) :
    PS X (.Assign [.Name x pos'] e pos) (tsD X.K X.mg W (sSetOwn i fl)) := PSi (ps_set hN hi hx he hs hf) fun D σ H q => own_set q
theorem val_setL {i : Nat} {D : Ends} {σ : St} {H : Hp} (q : tsD X.K X.mg W (sSet i (dL fl)) D σ H) : tAsg (teL X.K X.mg W fl) (gName i) D σ H := by
  obtain ⟨B, F, δ, E, o⟩ := q
  obtain ⟨x1, s1, k1⟩ := outS_of E o
  refine teL.then E (fun n h => x1 n (by unfold dL; rw [h]; rfl)) (fun h => s1 (by unfold dL; rw [h]; rfl)) fun ds p vs F1 H1 e1 X1 h1 h2 h3 r => ?_
  have X2 := X1.frz h1 h3 h2
  exact k1 (.list ds) (by unfold dL; rw [e1]; rfl) _ _ H1 ((E.up X2).set i (.lst upd_same (r.up (.new h2)))) (E.sext X2)
/-- x = [.. for ..] where the model has it so -/
theorem sx_setLc {vs : List Nat} {i : Nat} {y : Str} {py : Pos} {elt tg iter : Expr} {ifs : List Expr} {scope : Scope} {own : List (Str × Nat)} {spos : Pos} {fi : DE (List P)} {bd : Bd} {ix : List Nat} {fe : DE P} (hc : X.calm = true) (hN : X.N.Nodup) (hy : X.N[i]? = some y) (hyl : X.env.scope.names.lookup y = some .local)
    (hsw : swapsWith (.ListComp elt [⟨tg, iter, ifs, 0⟩] scope pos) (some (.Name y py)) spos.line X.env = pure true) (hi : PI X tg iter (tiD X.K X.mg W fi)) (ok : BlkOk X.N X.env.scope scope own) (hv : own.map (·.2) = vs) (hix : ∀ i ∈ ix, i ∈ own.map (·.2))
    (hg : ∀ (s : Shared) (H : Hp) (C : Addr) (cl : List (Str × Addr)) (fp : List Addr), PG (X.blk s H scope (compEnvC scope cl C X.env) fp) tg (tgD X.K bd ix))
    (ht : ∀ (s : Shared) (H : Hp) (C : Addr) (cl : List (Str × Addr)) (fp : List Addr), PTs (X.blk s H scope (compEnvC scope cl C X.env) fp) ifs (teT X.K X.mg WF fc))
    (he : ∀ (s : Shared) (H : Hp) (C : Addr) (cl : List (Str × Addr)) (fp : List Addr), PE (X.blk s H scope (compEnvC scope cl C X.env) fp) elt (teD X.K X.mg WF fe)) (hs : ∀ x, foldedSetIterable iter X.env x = pure x := by intro _; rfl) :
    PS X (.Assign [.Name y py] (.ListComp elt [⟨tg, iter, ifs, 0⟩] scope pos) spos) (tsD X.K X.mg W (sSet i (dL (dComp fi vs bd fc fe)))) := by
  subst hv
  exact PSi (ps_setLc hc hN hy hyl hsw hi ok hg ht he hs) fun D σ H q => by
    have q2 := val_setL q
    exact comp_dn (Q := fun x H1 => gName i x σ H1 D.nx) hix q2
theorem sx_setLcOwn {vs : List Nat} {i : Nat} {y : Str} {py : Pos} {elt tg iter : Expr} {ifs : List Expr} {scope : Scope} {own : List (Str × Nat)} {spos : Pos} {fi : DE (List P)} {bd : Bd} {ix : List Nat} {fe : DE P} (hc : X.calm = true) (hN : X.N.Nodup) (hy : X.N[i]? = some y) (hyl : X.env.scope.names.lookup y = some .local)
    (hsw : swapsWith (.ListComp elt [⟨tg, iter, ifs, 0⟩] scope pos) (some (.Name y py)) spos.line X.env = pure true) (hi : PI X tg iter (tiD X.K X.mg W fi)) (ok : BlkOk X.N X.env.scope scope own) (hv : own.map (·.2) = vs) (hix : ∀ i ∈ ix, i ∈ own.map (·.2))
    (hg : ∀ (s : Shared) (H : Hp) (C : Addr) (cl : List (Str × Addr)) (fp : List Addr), PG (X.blk s H scope (compEnvC scope cl C X.env) fp) tg (tgD X.K bd ix))
    (ht : ∀ (s : Shared) (H : Hp) (C : Addr) (cl : List (Str × Addr)) (fp : List Addr), PTs (X.blk s H scope (compEnvC scope cl C X.env) fp) ifs (teT X.K X.mg WF fc))
    (he : ∀ (s : Shared) (H : Hp) (C : Addr) (cl : List (Str × Addr)) (fp : List Addr), PE (X.blk s H scope (compEnvC scope cl C X.env) fp) elt (teD X.K X.mg WF fe)) (hs : ∀ x, foldedSetIterable iter X.env x = pure x := by intro _; rfl) :
    PS X (.Assign [.Name y py] (.ListComp elt [⟨tg, iter, ifs, 0⟩] scope pos) spos) (tsD X.K X.mg W (sSetOwn i (dComp fi vs bd fc fe))) := by
  subst hv
  exact PSi (ps_setLc hc hN hy hyl hsw hi ok hg ht he hs) fun D σ H q => by
    have q2 := own_set q
    exact comp_dn (Q := fun x H1 => gName i x σ H1 D.nx) hix q2
/-- a, b = e, e a tuple -/
def sPair (i j : Nat) (f : DE P) : DEnv → SRes := fun δ => ofR δ (f δ) fun d => match d with
  | .tuple [a, b] => .nx ((δ.set i (.val a)).set j (.val b))
  | _ => .stuck
theorem sx_pair {i j : Nat} {x y : Str} {k : Nat} {p1 p2 p3 : Pos} (hc : X.calm = true) (hN : X.N.Nodup) (hi : X.N[i]? = some x) (hx : Loc X.env.scope x) (hj : X.N[j]? = some y) (hy : Loc X.env.scope y) (he : PE X e (teD X.K X.mg W f))
    (hf : X.fn x = true ∨ X.env.scope.names.lookup x = some .local := by first | exact .inl rfl | exact .inr rfl | assumption) (hf2 : X.fn y = true ∨ X.env.scope.names.lookup y = some .local := by first | exact .inl rfl | exact .inr rfl | assumption)
    (hs : swapsWithSole [.Tuple [.Name x p1, .Name y p2] k p3] e pos.line X.env = pure false := by rfl) (hw : swappedStores [.Tuple [.Name x p1, .Name y p2] k p3] e X.env = pure none := by rfl)
    (h1 : (assignEach [.Tuple [.Name x p1, .Name y p2] k p3] X.env).map (·.2) = [assign (.Tuple [.Name x p1, .Name y p2] k p3) X.env] := by rfl) :
    PS X (.Assign [.Tuple [.Name x p1, .Name y p2] k p3] e pos) (tsD X.K X.mg W (sPair i j f)) := PSi (ps_asg he (gx_pair hc hN hi hx hj hy hf hf2) hs hw h1) fun D σ H ⟨B, F, δ, E, o⟩ => by
  obtain ⟨x1, s1, k1⟩ := outS_of E o
  refine teD.then E x1 s1 fun d v F1 H1 e1 X1 r1 => ?_
  have o1 := k1 d e1
  refine ⟨B, F1, δ, d, E.up X1, r1, ?_⟩
  unfold bP
  split at o1
  · exact fun σ' E' _ => o1 σ' F1 H1 E' (E.sext X1)
  · exact o1.elim
/-- a, b = e1, e2, both names local -/
def sPar (i j : Nat) (fl : DE (List P)) : DEnv → SRes := fun δ => ofR δ (fl δ) fun ds => match ds with
  | [a, b] => .nx ((δ.set i (.val a)).set j (.val b))
  | _ => .stuck
theorem sx_par {i j : Nat} {x y : Str} {e1 e2 : Expr} {px py pt : Pos} {kt k2 : Nat} {pt2 : Pos} (hc : X.calm = true) (hN : X.N.Nodup) (hi : X.N[i]? = some x) (hj : X.N[j]? = some y) (hij : i ≠ j)
    (hx : X.env.scope.names.lookup x = some .local) (hy : X.env.scope.names.lookup y = some .local) (ha : PA X [e1, e2] (taD X.K X.mg W fl))
    (hw : swappedStores [.Tuple [.Name x px, .Name y py] kt pt] (.Tuple [e1, e2] k2 pt2) X.env = pure (some [x, y]))
    (hs : swapsWithSole [.Tuple [.Name x px, .Name y py] kt pt] (.Tuple [e1, e2] k2 pt2) pos.line X.env = pure false := by rfl) :
    PS X (.Assign [.Tuple [.Name x px, .Name y py] kt pt] (.Tuple [e1, e2] k2 pt2) pos) (tsD X.K X.mg W (sPar i j fl)) := PSi (ps_par hc hN hi hj hij hx hy ha hw hs) fun D σ H ⟨B, F, δ, E, o⟩ => by
  obtain ⟨x1, s1, k1⟩ := outS_of E o
  refine taD.then E x1 s1 fun ds vs F1 H1 e1 X1 r1 => ?_
  have o1 := k1 ds e1
  split at o1
  · cases r1 with
    | cons r1 r2 =>
      cases r2 with
      | cons r2 r3 =>
        cases r3
        exact ⟨_, _, rfl, o1 _ F1 H1 (((E.up X1).set i r1).set j r2) (E.sext X1)⟩
  · exact o1.elim
/-- x.append(e) -/
def sApp (i : Nat) (f : DE P) : DEnv → SRes := fun δ => match δ[i]? with
  | some (.own ds) => ofR δ (f δ) fun d => if ds.length < lim then .nx (δ.set i (.own (ds ++ [d]))) else .stuck
  | _ => .stuck
theorem EnvOk.mutOwn {K : PySem.W.Frag} {B F H : Hp} {σ : St} {δ : DEnv} (E : EnvOk K B F H σ δ) {p : Addr} {ds es : List P} {ws : List V} {i : Nat} (h : δ[i]? = some (.own ds)) (hs : σ[i]? = some (some (.ref p))) (r : RpAll K F ws es) : EnvOk K B F (upd H p (.lst ws)) σ (δ.set i (.own es)) := by
  obtain ⟨p', vs, h1, h2, h3, h4, h5⟩ := E.own i ds h
  rw [hs] at h1
  cases h1
  have hl : i < δ.length := (List.getElem?_eq_some_iff.mp h).1
  have key : ∀ (j : Nat) (s : Slot), (δ.set i (.own es))[j]? = some s → (j = i ∧ s = .own es) ∨ (j ≠ i ∧ δ[j]? = some s) := by
    intro j s h
    by_cases e : j = i
    · subst e
      rw [List.getElem?_set_self hl] at h
      cases h
      exact .inl ⟨rfl, rfl⟩
    · rw [List.getElem?_set_ne (Ne.symm e)] at h
      exact .inr ⟨e, h⟩
  refine ⟨E.c.mut h4 (.of h2 nofun), E.b.mut h5 (.of h2 nofun), E.tbs, by rw [List.length_set]; exact E.len, fun j e h' => ?_, fun j fs h' => ?_, fun j k fs gs q hjk h1 h2 h3 => ?_, fun j w h' => ?_, fun j lk c fs h' => ?_, fun j k lk lk' c c' fs fs' p hjk h1 h2 h3 => ?_⟩
  · rcases key j _ h' with ⟨_, q⟩ | ⟨_, q⟩
    · cases q
    · exact E.val j e q
  · rcases key j _ h' with ⟨e, q⟩ | ⟨e, q⟩
    · cases q
      subst e
      exact ⟨p, ws, hs, upd_same, r, h4, h5⟩
    · obtain ⟨q1, vs1, a1, a2, a3, a4, a5⟩ := E.own j fs q
      refine ⟨q1, vs1, a1, ?_, a3, a4, a5⟩
      rw [upd_ne ?_]
      · exact a2
      · intro z
        subst z
        exact E.apart i j ds fs q1 (Ne.symm e) h q hs a1
  · rcases key j _ h1 with ⟨e, z⟩ | ⟨e, z⟩
    · subst e
      rcases key k _ h2 with ⟨e2, z2⟩ | ⟨e2, z2⟩
      · exact absurd e2.symm hjk
      · exact E.apart j k ds gs q hjk h z2 h3
    · rcases key k _ h2 with ⟨e2, z2⟩ | ⟨e2, z2⟩
      · subst e2
        exact E.apart j k fs ds q hjk z h h3
      · exact E.apart j k fs gs q hjk z z2 h3
  · rcases key j _ h' with ⟨_, q⟩ | ⟨_, q⟩
    · cases q
    · exact E.raw j w q
  · rcases key j _ h' with ⟨_, q⟩ | ⟨_, q⟩
    · cases q
    · obtain ⟨a, a1, a2⟩ := E.obj j lk c fs q
      refine ⟨a, a1, a2.chg E.b (.refl F) (fun b o h1 _ _ => h1) fun b o h1 hl => ?_⟩
      rw [upd_ne ?_]
      · exact h1
      · intro z
        subst z
        rw [h2] at h1
        cases h1
        cases hl
  · rcases key j _ h1 with ⟨_, q⟩ | ⟨_, q⟩
    · cases q
    · rcases key k _ h2 with ⟨_, q2⟩ | ⟨_, q2⟩
      · cases q2
      · exact E.far j k lk lk' c c' fs fs' p hjk q q2 h3
theorem sx_app {i : Nat} {x : Str} {apos cpos xpos : Pos} (hN : X.N[i]? = some x) (hv : Vis X.env.scope x) (he : PE X e (teD X.K X.mg W f)) (hd : (x == ("__debug__" : Str)) = false := by decide) (hcd : (x == ("__classdict__" : Str)) = false := by decide)
    (hs0 : starEach [e] X.env = (false, eval e X.env) :: starEach [] X.env := by rfl)
    (hpe : ∀ {to : TE} {t : TA}, PE X (.Name x xpos) to → PA X [e] t → PE X (.Call (.Attribute (.Name x xpos) "append" apos) [e] [] cpos) (tBM X.K "list" rAppend to t))
    (hs : swapsWith (.Call (.Attribute (.Name x xpos) "append" apos) [e] [] cpos) none pos.line X.env = pure false := by rfl) :
    PS X (.Expr (.Call (.Attribute (.Name x xpos) "append" apos) [e] [] cpos) pos) (tsD X.K X.mg W (sApp i f)) := PSi (ps_expr (hpe (pe_var hN hv hd hcd) (pa_cons he pa_nil hs0)) hs) fun D σ H ⟨B, F, δ, E, o⟩ => by
  unfold sApp at o
  split at o
  · rename_i ds hds
    obtain ⟨p, vs, h1, h2, h3, h4, h5⟩ := E.own i ds hds
    obtain ⟨x1, s1, k1⟩ := outS_of E o
    refine ⟨.ref p, h1, .inl ⟨rfl, _, SqL.of h2⟩, ?_⟩
    refine teD.then E x1 s1 fun d v F1 H1 e1 X1 r1 => ?_
    have o1 := k1 d e1
    split at o1
    · rename_i hz
      have E1 := E.up X1
      refine ⟨p, vs, v, rfl, rfl, X1.h.k _ _ h2, by rw [lim_eq, h3.len]; exact hz, ?_⟩
      exact o1 σ F1 _ (E1.mutOwn hds h1 ((h3.up X1.f).app (.cons r1 .nil))) (E.sext X1)
    · exact o1.elim
  · exact o.elim
/-- y = x.pop() -/
def sPop (j i : Nat) : DEnv → SRes := fun δ => match δ[i]? with
  | some (.own ds) => (match ds.getLast? with
    | some d => .nx ((δ.set i (.own ds.dropLast)).set j (.val d))
    | none => .stuck)
  | _ => .stuck
theorem sx_pop {i j : Nat} {x y : Str} {apos cpos xpos ypos : Pos} (hN : X.N.Nodup) (hi : X.N[i]? = some x) (hv : Vis X.env.scope x) (hj : X.N[j]? = some y) (hy : Loc X.env.scope y) (hd : (x == ("__debug__" : Str)) = false := by decide) (hcd : (x == ("__classdict__" : Str)) = false := by decide)
    (hpe : ∀ {to : TE}, PE X (.Name x xpos) to → PE X (.Call (.Attribute (.Name x xpos) "pop" apos) [] [] cpos) (tBM0 X.K "list" rPop to))
    (hs : swapsWith (.Call (.Attribute (.Name x xpos) "pop" apos) [] [] cpos) (some (.Name y ypos)) pos.line X.env = pure false := by rfl) (hf : X.fn y = true ∨ X.env.scope.names.lookup y = some .local := by first | exact .inl rfl | exact .inr rfl | assumption) :
    PS X (.Assign [.Name y ypos] (.Call (.Attribute (.Name x xpos) "pop" apos) [] [] cpos) pos) (tsD X.K X.mg W (sPop j i)) := PSi (ps_set hN hj hy (hpe (pe_var hi hv hd hcd)) hs hf) fun D σ H ⟨B, F, δ, E, o⟩ => by
  unfold sPop at o
  split at o
  · rename_i ds hds
    obtain ⟨p, vs, h1, h2, h3, h4, h5⟩ := E.own i ds hds
    split at o
    · rename_i d hd'
      have hg : ds[ds.length - 1]? = some d := by rw [← List.getLast?_eq_getElem?]; exact hd'
      obtain ⟨v, hv1, hr⟩ := h3.get hg
      refine ⟨.ref p, h1, .inl ⟨rfl, _, SqL.of h2⟩, p, vs, v, rfl, rfl, h2, by rw [h3.len]; exact hv1, ?_⟩
      exact o _ F _ ((E.mutOwn hds h1 h3.dropLast).set j hr) .refl
    · exact o.elim
  · exact o.elim
/-- x[e'] = e -/
def sStore (i : Nat) (fi f : DE P) : DEnv → SRes := fun δ => ofR δ (f δ) fun d => match δ[i]? with
  | some (.own ds) => ofR δ (fi δ) fun k => (match k with
    | .int k => (match ixN ds.length k with
      | some j => .nx (δ.set i (.own (ds.set j d)))
      | none => .stuck)
    | _ => .stuck)
  | _ => .stuck
theorem sx_store {i : Nat} {x : Str} {ie : Expr} {fi : DE P} {xpos tpos : Pos} (hN : X.N[i]? = some x) (hv : Vis X.env.scope x) (hie : PE X ie (teD X.K X.mg W fi)) (he : PE X e (teD X.K X.mg W f)) (hd : (x == ("__debug__" : Str)) = false := by decide) (hcd : (x == ("__classdict__" : Str)) = false := by decide)
    (ha : ∀ v, assign (.Subscript (.Name x xpos) ie tpos) X.env v = (do
      let o1 ← holding [v] (eval (.Name x xpos) X.env)
      let i1 ← holding [v, o1] (eval ie X.env)
      standAt tpos
      holding [v, o1, i1] (setItem o1 i1 v)
      release [v, o1, i1] []) := by intro _; rfl)
    (hs : swapsWithSole [.Subscript (.Name x xpos) ie tpos] e pos.line X.env = pure false := by rfl) (hw : swappedStores [.Subscript (.Name x xpos) ie tpos] e X.env = pure none := by rfl)
    (h1 : (assignEach [.Subscript (.Name x xpos) ie tpos] X.env).map (·.2) = [assign (.Subscript (.Name x xpos) ie tpos) X.env] := by rfl) :
    PS X (.Assign [.Subscript (.Name x xpos) ie tpos] e pos) (tsD X.K X.mg W (sStore i fi f)) := PSi (ps_asg he (pg_sub (pe_var hN hv hd hcd) hie set_list ha) hs hw h1) fun D σ H ⟨B, F, δ, E, o⟩ => by
  obtain ⟨x1, s1, k1⟩ := outS_of E o
  refine teD.then E x1 s1 fun d v F1 H1 e1 X1 r1 => ?_
  have E1 := E.up X1
  have o1 := (k1 d e1).up (E.sext X1)
  split at o1
  · rename_i ds hds
    obtain ⟨p, vs, h1, h2, h3, h4, h5⟩ := E1.own i ds hds
    obtain ⟨x2, s2, k2⟩ := outS_of E1 o1
    refine ⟨.ref p, h1, ?_⟩
    refine teD.then E1 x2 s2 fun k u F2 H2 e2 X2 r2 => ?_
    have o2 := k2 k e2
    split at o2
    · split at o2
      · rename_i j hj
        cases r2
        refine ⟨p, vs, _, j, rfl, rfl, X2.h.k _ _ h2, by rw [h3.len]; exact hj, ?_⟩
        exact o2 σ F2 _ ((E1.up X2).mutOwn hds h1 ((h3.up X2.f).set j (r1.up X2.f))) (E1.sext X2)
      · exact o2.elim
    · exact o2.elim
  · exact o1.elim
/-- y = x, x a list that may change: it goes over -/
def sMove (j i : Nat) : DEnv → SRes := fun δ => match δ[i]? with
  | some (.own ds) => if i = j then .stuck else .nx ((δ.set i .un).set j (.own ds))
  | _ => .stuck
theorem sx_move {i j : Nat} {x y : Str} {xpos ypos : Pos} (hN : X.N.Nodup) (hi : X.N[i]? = some x) (hv : Vis X.env.scope x) (hj : X.N[j]? = some y) (hy : Loc X.env.scope y) (hd : (x == ("__debug__" : Str)) = false := by decide) (hcd : (x == ("__classdict__" : Str)) = false := by decide)
    (hs : swapsWith (.Name x xpos) (some (.Name y ypos)) pos.line X.env = pure false := by rfl) (hf : X.fn y = true ∨ X.env.scope.names.lookup y = some .local := by first | exact .inl rfl | exact .inr rfl | assumption) :
    PS X (.Assign [.Name y ypos] (.Name x xpos) pos) (tsD X.K X.mg W (sMove j i)) := PSi (ps_set hN hj hy (pe_var hi hv hd hcd) hs hf) fun D σ H ⟨B, F, δ, E, o⟩ => by
  unfold sMove at o
  split at o
  · rename_i ds hds
    obtain ⟨p, vs, h1, h2, h3, h4, h5⟩ := E.own i ds hds
    split at o
    · exact o.elim
    · rename_i hij
      refine ⟨.ref p, h1, ?_⟩
      have hl : i < σ.length := (List.getElem?_eq_some_iff.mp h1).1
      have E1 : EnvOk X.K B F H σ (δ.set i .un) := by
        have := E.forget i (some (.ref p))
        have e : σ.set i (some (.ref p)) = σ := by
          apply List.ext_getElem?
          intro k
          by_cases hk : k = i
          · subst hk
            rw [List.getElem?_set_self hl, h1]
          · rw [List.getElem?_set_ne (Ne.symm hk)]
        rw [e] at this
        exact this
      refine o _ F H (E1.setOwn j h2 h3 h4 h5 fun k es hk hke => ?_) .refl
      have hki : k ≠ i := fun z => by
        subst z
        rw [List.getElem?_set_self (by rw [← E.len]; exact hl)] at hke
        cases hke
      rw [List.getElem?_set_ne (Ne.symm hki)] at hke
      exact E.apart i k ds es p (Ne.symm hki) hds hke h1
  · exact o.elim
/-- a list that may change is taken for one that never changes: ahead of a statement -/
def frzD (i : Nat) (δ : DEnv) : DEnv := match δ[i]? with
  | some (.own ds) => δ.set i (.val (.list ds))
  | _ => δ
theorem EnvOk.frz {K : PySem.W.Frag} {B F H : Hp} {σ : St} {δ : DEnv} (E : EnvOk K B F H σ δ) (i : Nat) : ∃ F', EnvOk K B F' H σ (frzD i δ) ∧ SExt B F F' := by
  unfold frzD
  split
  · rename_i ds hds
    obtain ⟨p, vs, h1, h2, h3, h4, h5⟩ := E.own i ds hds
    have hl : i < σ.length := (List.getElem?_eq_some_iff.mp h1).1
    have e : σ.set i (some (.ref p)) = σ := by
      apply List.ext_getElem?
      intro k
      by_cases hk : k = i
      · subst hk
        rw [List.getElem?_set_self hl, h1]
      · rw [List.getElem?_set_ne (Ne.symm hk)]
    have fe : Ex F (upd F p (.lst vs)) := .new h4
    have c' : Ex (upd F p (.lst vs)) H := E.c.put h2
    have E1 : EnvOk K B (upd F p (.lst vs)) H σ (δ.set i .un) := by
      have E0 := E.forget i (some (.ref p))
      rw [e] at E0
      refine ⟨c', E0.b, E0.tbs, E0.len, fun j d h => let ⟨v, a1, a2⟩ := E0.val j d h; ⟨v, a1, a2.up fe⟩, fun j es h => ?_, E0.apart, E0.raw, fun j lk c fs h => ?_, E0.far⟩
      obtain ⟨q, ws, a1, a2, a3, a4, a5⟩ := E0.own j es h
      have hji : j ≠ i := fun z => by
        subst z
        rw [List.getElem?_set_self (by rw [← E.len]; exact hl)] at h
        cases h
      rw [List.getElem?_set_ne (Ne.symm hji)] at h
      have hqp : q ≠ p := fun z => by
        subst z
        exact E.apart i j ds es q (Ne.symm hji) hds h h1 a1
      exact ⟨q, ws, a1, a2, a3.up fe, by rw [upd_ne hqp]; exact a4, a5⟩
      obtain ⟨a, a1, a2⟩ := E0.obj j lk c fs h
      refine ⟨a, a1, a2.chg E0.b fe (fun b o q3 q4 hl => ?_) fun b o q3 _ => q3⟩
      rw [upd_ne ?_]
      · exact q3
      · intro z
        subst z
        rw [h2] at q4
        cases q4
        cases hl
    refine ⟨_, ?_, fe, fun q hq hb => ?_⟩
    · have E2 := E1.set (v := .ref p) (d := .list ds) i (.lst upd_same (h3.up fe))
      rw [e, List.set_set] at E2
      exact E2
    · have hqp : q ≠ p := fun z => hb (z ▸ h5)
      rw [upd_ne hqp]
      exact hq
  · exact ⟨F, E, .refl⟩
def sFrz (i : Nat) (g : DEnv → SRes) : DEnv → SRes := fun δ => g (frzD i δ)
theorem sx_frz (i : Nat) (h1 : PS X st (tsD X.K X.mg W g)) : PS X st (tsD X.K X.mg W (sFrz i g)) := PSi h1 fun D σ H ⟨B, F, δ, E, o⟩ => by
  obtain ⟨F', E', x⟩ := E.frz i
  exact ⟨B, F', frzD i δ, E', o.up x⟩
/-! loops -/
def forGo (bd : Bd) (g : DEnv → SRes) : List P → DEnv → SRes
  | [], δ => .nx δ
  | d :: ds, δ => match bd d δ with
    | .ok δ1 => (match g δ1 with
      | .nx δ2 => forGo bd g ds δ2
      | .cont δ2 => forGo bd g ds δ2
      | .brk δ2 => .nx δ2
      | r => r)
    | _ => .stuck
def sFor (fi : DE (List P)) (bd : Bd) (g : DEnv → SRes) : DEnv → SRes := fun δ => ofR δ (fi δ) fun ds => forGo bd g ds δ
theorem sx_for {tg iter : Expr} {body : List Stmt} {fi : DE (List P)} {bd : Bd} {ix : List Nat} (hp : PassesOwn (model X.prog X.w) X.A X.env X.xe) (hc : X.calm = true) (hi : PI X tg iter (tiD X.K X.mg W fi)) (hg : PG X tg (tgD X.K bd ix)) (hb : PSs X body (tsD X.K X.mg W g))
    (hs : ∀ x, foldedSetIterable iter X.env x = pure x := by intro _; rfl) : PS X (.For tg iter body [] pos) (tsD X.K X.mg W (sFor fi bd g)) := PSi (ps_for hp hc hi hg hb hs) fun D σ H ⟨B, F, δ, E, o⟩ => by
  obtain ⟨x1, s1, k1⟩ := outS_of E o
  refine ⟨B, F, δ, E, ?_⟩
  cases hf : fi δ with
  | exc n => exact x1 n hf
  | stuck => exact s1 hf
  | ok ds =>
    intro J F1 H1 X1 ⟨⟨G, Y, w, hG, hY⟩⟩
    have o1 := (k1 ds hf).up (E.sext X1)
    refine for_it w (fun i σ' H' => ∃ F' δ', EnvOk X.K B F' H' σ' δ' ∧ SExt B F1 F' ∧ OutS X.K X.mg W D B F' (forGo bd g (ds.drop i) δ')) ?_ ?_ ?_ ?_
    · exact ⟨F1, δ, E.up X1, .refl, by rw [List.drop_zero]; exact o1⟩
    · rintro i σ' H' hi ⟨F', δ', E', x', _⟩
      exact hG H' (x'.f.trans E'.c)
    · rintro i x σ' Hi Hi' hi ⟨Fi, δ', E', x', o'⟩ y
      obtain ⟨Fj, d, ej, hd, rd⟩ := hY i Fi Hi x Hi' hi x'.f E'.c y
      have hdrop : ds.drop i = d :: ds.drop (i + 1) := by
        obtain ⟨h1, h2⟩ := List.getElem?_eq_some_iff.mp hd
        rw [List.drop_eq_getElem_cons h1]; rw [h2]
      rw [hdrop] at o'
      have o2 := o'.up (E'.sext ej)
      have x2 := x'.trans (E'.sext ej)
      unfold forGo at o2
      refine ⟨B, Fj, δ', d, E'.up ej, rd, ?_⟩
      cases hb1 : bd d δ' with
      | ok δ1 =>
        rw [hb1] at o2
        intro σ2 E2 _
        refine ⟨B, Fj, δ1, E2, ?_⟩
        simp only at o2
        cases hg1 : g δ1 with
        | nx δ2 =>
          rw [hg1] at o2
          exact fun σ3 F3 H3 E3 x3 => ⟨F3, δ2, E3, x2.trans x3, o2.up x3⟩
        | cont δ2 =>
          rw [hg1] at o2
          exact fun σ3 F3 H3 E3 x3 => ⟨F3, δ2, E3, x2.trans x3, o2.up x3⟩
        | brk δ2 =>
          rw [hg1] at o2
          exact o2
        | ret d2 =>
          rw [hg1] at o2
          exact o2
        | retO c2 fs2 d2 =>
          rw [hg1] at o2
          exact o2
        | retE d2 δ2 =>
          rw [hg1] at o2
          exact o2
        | exc n δ2 =>
          rw [hg1] at o2
          exact o2
        | stuck =>
          rw [hg1] at o2
          exact o2.elim
      | exc n =>
        rw [hb1] at o2
        exact o2.elim
      | stuck =>
        rw [hb1] at o2
        exact o2.elim
    · rintro σ' H' ⟨F', δ', E', x', o'⟩
      rw [List.drop_length] at o'
      exact o' σ' F' H' E' .refl
/-- a while, at most so many turns -/
def whileGo (c : DE Bool) (g : DEnv → SRes) : Nat → DEnv → SRes
  | 0, _ => .stuck
  | n + 1, δ => ofR δ (c δ) fun b => if b = true then (match g δ with
      | .nx δ2 => whileGo c g n δ2
      | .cont δ2 => whileGo c g n δ2
      | .brk δ2 => .nx δ2
      | r => r) else .nx δ
theorem sx_while {body : List Stmt} (n : Nat) (hp : PassesOwn (model X.prog X.w) X.A X.env X.xe) (hc : PT X c (teT X.K X.mg W fc)) (hb : PSs X body (tsD X.K X.mg W g)) : PS X (.While c body [] pos) (tsD X.K X.mg W (whileGo fc g n)) := PSi (ps_while hp hc hb) fun D σ H ⟨B, F, δ, E, o⟩ => by
  refine ⟨fun m σ' H' => ∃ F' δ', EnvOk X.K B F' H' σ' δ' ∧ OutS X.K X.mg W D B F' (whileGo fc g m δ'), ⟨n, F, δ, E, o⟩, ?_⟩
  rintro m σ' H' ⟨F', δ', E', o'⟩
  cases m with
  | zero => exact o'.elim
  | succ m =>
    unfold whileGo at o'
    obtain ⟨x1, s1, k1⟩ := outS_of E' o'
    refine teT.then E' x1 s1 fun b F1 H1 e1 X1 => ?_
    have o1 := (k1 b e1).up (E'.sext X1)
    have E1 := E'.up X1
    cases b with
    | false =>
      rw [if_neg Bool.false_ne_true] at o1 ⊢
      exact o1 σ' F1 H1 E1 .refl
    | true =>
      rw [if_pos rfl] at o1 ⊢
      refine ⟨fun σ2 H2 => ∃ F2 δ2, EnvOk X.K B F2 H2 σ2 δ2 ∧ OutS X.K X.mg W D B F2 (whileGo fc g m δ2), fun σ2 H2 q => ⟨m, Nat.lt_succ_self m, q⟩, B, F1, δ', E1, ?_⟩
      cases hg1 : g δ' with
      | nx δ2 =>
        rw [hg1] at o1
        exact fun σ3 F3 H3 E3 x3 => ⟨F3, δ2, E3, o1.up x3⟩
      | cont δ2 =>
        rw [hg1] at o1
        exact fun σ3 F3 H3 E3 x3 => ⟨F3, δ2, E3, o1.up x3⟩
      | brk δ2 => rw [hg1] at o1; exact o1
      | ret d2 => rw [hg1] at o1; exact o1
      | retO c2 fs2 d2 => rw [hg1] at o1; exact o1
      | retE d2 δ2 => rw [hg1] at o1; exact o1
      | exc nm δ2 => rw [hg1] at o1; exact o1
      | stuck => rw [hg1] at o1; exact o1.elim
end
end DL

set_option Elab.async false
set_option linter.all false
set_option maxRecDepth 100000
set_option maxHeartbeats 4000000
namespace DL
open PySem L2 PyProof.Rows
variable [LTab]

/-! ### defs -/
def resOf : SRes → Res P
  | .ret d => .ok d
  | .nx _ => .ok .none
  | .exc n _ => .exc n
  | _ => .stuck
/-- what a def with n parameters and k further names does -/
def defD (n k : Nat) (g : DEnv → SRes) (ds : List P) : Res P := if ds.length = n then resOf (g (ds.map .val ++ List.replicate k .un)) else .stuck
def OutF (K : PySem.W.Frag) (mg : Str → Option Value) (F H : Hp) (r : Res P) (Q : VK) (E : XK) : Prop := match r with
  | .ok d => ∀ v F' H', Ext F H F' H' → Rp K F' v d → Q v H'
  | .exc n => ∀ C F' H', mg n = some (.ref C) → Ext F H F' H' → E (.ref C) none H'
  | .stuck => False
def spD (K : PySem.W.Frag) (mg : Str → Option Value) (n : Nat) (G : List P → Res P) : Sp := fun vs H Q E => vs.length = n ∧ ∃ F ds, Ex F H ∧ TabsIn H ∧ RpAll K F vs ds ∧ OutF K mg F H (G ds) Q E
structure Callable (P₀ : Program) (w : World) (K : PySem.W.Frag) (mg : Str → Option Value) (base : Heap) (x : Str) (j n : Nat) (G : List P → Res P) : Prop where
  ex : ∃ (f : Addr) (fd : FuncData) (ps : List Str), mg x = some (.ref f) ∧ PySem.W.keepIn K (.ref f) = true ∧ Binds K fd ps [] ∧ FnOk P₀ w K mg base (L2.CX P₀ w) j f fd ps (spD K mg n G)
  len : ∀ ds, G ds ≠ .stuck → ds.length = n
theorem defD_len {n k : Nat} {g : DEnv → SRes} : ∀ ds, defD n k g ds ≠ .stuck → ds.length = n := fun ds h => by
  unfold defD at h
  split at h
  · assumption
  · exact absurd rfl h
theorem env_start {K : PySem.W.Frag} {F H : Hp} {N : List Str} {vs : List V} {ds : List P} (c : Ex F H) (tb : TabsIn H) (r : RpAll K F vs ds) (hz : vs.length ≤ N.length) : EnvOk K H F H (L2.start N vs) (ds.map .val ++ List.replicate (N.length - ds.length) .un) := by
  have key : ∀ (i : Nat) (s : Slot), s ≠ .un → (ds.map Slot.val ++ List.replicate (N.length - ds.length) .un)[i]? = some s → ∃ d, ds[i]? = some d ∧ s = .val d := by
    intro i s hs h
    by_cases hi : i < ds.length
    · rw [List.getElem?_append_left (by simpa using hi), List.getElem?_map] at h
      cases e : ds[i]? with
      | none => exact absurd h (by rw [e]; exact nofun)
      | some d => rw [e] at h; cases h; exact ⟨d, rfl, rfl⟩
    · rw [List.getElem?_append_right (by simpa using hi), List.getElem?_replicate] at h
      split at h
      · cases h
        exact absurd rfl hs
      · cases h
  refine ⟨c, .refl H, tb, ?_, fun i d h => ?_, fun i es h => ?_, fun i j es fs p _ h => ?_, fun i v h => ?_, fun i lk c fs h => ?_, fun i j lk lk' c c' fs fs' p _ h => ?_⟩
  · unfold L2.start
    rw [List.length_append, List.length_append, List.length_map, List.length_map, List.length_replicate, List.length_replicate, r.len]
  · obtain ⟨d', h1, h2⟩ := key i (.val d) nofun h
    cases h2
    obtain ⟨v, h3, h4⟩ := r.get h1
    refine ⟨v, ?_, h4⟩
    unfold L2.start
    rw [List.getElem?_append_left (by simpa using (List.getElem?_eq_some_iff.mp h3).1), List.getElem?_map, h3]
    rfl
  · obtain ⟨d', _, h2⟩ := key i (.own es) nofun h
    cases h2
  · obtain ⟨d', _, h2⟩ := key i (.own es) nofun h
    cases h2
  · obtain ⟨d', _, h2⟩ := key i (.raw v) nofun h
    cases h2
  · obtain ⟨d', _, h2⟩ := key i (.obj lk c fs) nofun h
    cases h2
  · obtain ⟨d', _, h2⟩ := key i (.obj lk c fs) nofun h
    cases h2
section
variable {P₀ : Program} {w : World} {K : PySem.W.Frag} {mg : Str → Option Value} {base : Heap}
theorem okD {x qual : Str} {st : Stmt} {f : Addr} {fd : FuncData} {N ps : List Str} {k n m : Nat} {g : DEnv → SRes} (Fn : Fun K x qual st f fd) (S : FnScope N ps (defScope st)) (hn : ps.length = n) (hm : N.length = n + m)
    (hbody : ∀ (cdv : Value) (A : Around) (outer : List Env) (s : Shared) (H : Hp) (E : XK), Room k (A.deeper (envOfC qual (defScope st) s.heap.objs.size f cdv)) →
      PSs (cxOf (L2.CX P₀ w) P₀ w K mg base N qual (defScope st) f cdv A outer s H E) (defBody st) (tsD K mg (fun cls d _ H => E cls d H) g)) :
    FnOk P₀ w K mg base (L2.CX P₀ w) (k + 1) f fd ps (spD K mg n (defD n m g)) := by
  refine Fn.okX S (fun vs H Q E h => h.1.trans hn.symm) (fun cdv A outer s H vs Q E hr h => ⟨_, hbody cdv A outer s H E hr, ?_⟩)
  obtain ⟨hl, F, ds, c, tb, r, o⟩ := h
  have hd : ds.length = n := by rw [← r.len]; exact hl
  have e0 := env_start (N := N) c tb r (by omega)
  have em : N.length - ds.length = m := by omega
  rw [em] at e0
  refine ⟨H, F, _, e0, ?_⟩
  unfold defD at o
  rw [if_pos hd] at o
  cases q : g (ds.map .val ++ List.replicate m .un) with
  | nx δ' =>
    rw [q] at o
    exact fun σ' F' H' E' x => o .non F' H' ⟨x.f, E'.b, E'.c, x.n⟩ .non
  | ret d =>
    rw [q] at o
    exact fun v F' H' c' b' x r' => o v F' H' ⟨x.f, b', c', x.n⟩ r'
  | exc nm δ' =>
    rw [q] at o
    exact fun C σ' F' H' m' E' x => o C F' H' m' ⟨x.f, E'.b, E'.c, x.n⟩
  | brk δ' =>
    rw [q] at o
    exact o.elim
  | cont δ' =>
    rw [q] at o
    exact o.elim
  | stuck =>
    rw [q] at o
    exact o.elim
  | retO c2 fs2 d2 =>
    rw [q] at o
    exact o.elim
  | retE d2 δ2 =>
    rw [q] at o
    exact o.elim
theorem callable {x : Str} {f : Addr} {fd : FuncData} {ps : List Str} {j n : Nat} {G : List P → Res P} (hm : mg x = some (.ref f)) (hk : PySem.W.keepIn K (.ref f) = true) (hb : Binds K fd ps []) (F : FnOk P₀ w K mg base (L2.CX P₀ w) j f fd ps (spD K mg n G)) (len : ∀ ds, G ds ≠ .stuck → ds.length = n) :
    Callable P₀ w K mg base x j n G := ⟨⟨f, fd, ps, hm, hk, hb, F⟩, len⟩
end
section
variable {X : Cx} {W : WX} {x : Str} {p pos : Pos} {e : Expr} {es : List Expr} {fl : DE (List P)} {j k n : Nat} {G : List P → Res P}
theorem px_call (C : Callable X.prog X.w X.K X.mg X.base x j n G) (hr : Room k X.A) (hg : Gl X x) (tk : Takes X W) (ha : PA X (e :: es) (taD X.K X.mg W fl)) (hjk : j ≤ k := by decide) (hdb : (x == ("__debug__" : Str)) = false := by decide)
    (he : starEach (e :: es) X.env = (false, eval e X.env) :: starEach es X.env := by rfl) (hpl : (backTo pos (starEach es X.env)).any (·.1) = false := by rfl) : PE X (.Call (.Name x p) (e :: es) [] pos) (teD X.K X.mg W (dCall G fl)) := by
  obtain ⟨⟨f, fd, ps, hm, hk, hb, F⟩, len⟩ := C
  refine PEi (pe_callS F (hr.mono hjk) hg hm hk hb (fun σ => passAt tk σ) ha hdb he hpl) fun σ H Q ⟨B, F0, δ, E, o⟩ => ?_
  obtain ⟨x1, s1, k1⟩ := outE_bind o
  refine taD.then E x1 s1 fun ds vs F1 H1 e1 X1 r1 => ?_
  have o1 := (k1 ds e1).up X1
  refine ⟨by rw [r1.len]; exact len ds fun z => by rw [z] at o1; exact o1, F1, ds, X1.c, (E.up X1).tbsH, r1, ?_⟩
  cases q : G ds with
  | ok d => rw [q] at o1; exact o1
  | exc nm => rw [q] at o1; exact o1
  | stuck => rw [q] at o1; exact o1.elim
/-! str of an int -/
theorem px_toStr {a : Expr} {f : DE P} (hg : Gl X "str") (hm : X.mg "str" = none) (ha : PE X a (teB X.K X.mg W f)) (hs : starEach [a] X.env = (false, eval a X.env) :: starEach [] X.env := by rfl) : PE X (.Call (.Name "str" p) [a] [] pos) (teD X.K X.mg W (dUn pStr f)) :=
  PEi (pe_callTy call_str_int hg hm PyProof.Rows.boot_str (pa_cons ha pa_nil hs) (he := hs)) fun _ _ _ q => one_b (fun σ F H v d Q c hv o => by
  unfold pStr at o
  split at o
  · split at o
    · rename_i i hi
      exact ⟨i, by rw [int_of hv], hi, o _ F H (.refl c) (.str _)⟩
    · exact o.elim
  · exact o.elim) q
end

/-! ### the law's own def, and the end -/
/-- the law's promise: at each script it hands back True -/
def spLawD (K : PySem.W.Frag) (n : Nat) : Sp := fun vs H Q _ => ∃ (a : Addr) (ns : List Int), vs = [.ref a] ∧ SqL K H a (ns.map V.int) ∧ ns.length ≤ n ∧ TabsIn H ∧ ∀ H', Q (.bl true) H'
def scriptD (ns : List Int) : P := .dict [(.none, .list (ns.map PyData.int))]
theorem lawOk {P₀ : Program} {w : World} {K : PySem.W.Frag} {mg : Str → Option Value} {base : Heap} {j n : Nat} {f : Addr} {fd : FuncData} {ps : List Str} {G : List P → Res P} (F : FnOk P₀ w K mg base (L2.CX P₀ w) j f fd ps (spD K mg 1 G)) (h : ∀ ns : List Int, ns.length ≤ n → G [scriptD ns] = .ok (.bool true)) :
    FnOk P₀ w K mg base (L2.CX P₀ w) j f fd ps (spLawD K n) := F.imp fun vs H Q E ⟨a, ns, e, hs, hl, tb, k⟩ => by
  subst e
  refine ⟨rfl, H, [scriptD ns], .refl H, tb, .cons (.scr hs) .nil, ?_⟩
  rw [h ns hl]
  intro v F' H' x r
  cases r
  exact k H'
theorem noX {P₀ : Program} {w : World} {H : Hp} {s : Shared} {e : Value} {s' : Shared} (h : L2.CX P₀ w [] H s (fun _ _ _ => False) e s') : False := by
  rcases h with ⟨_, _, _, _, _, _, _, _, _, _, _, _, no⟩
  exact no
theorem walkD {l : PySem.W.OpenLaw} {most room : Nat} {prog : Program} {names : List Str} {XP : (Str → Option Value) → Heap → Prop} {YP : World → Heap → Prop} {d : DefRec} {K : Params → PySem.W.Frag} {par : Str}
    (hn : l.most = some most) (hle : most ≤ sizeLine) (plain : d.params.defaults = []) (wide : Room room callerA) (told : ∀ (w : World) (h : Heap), YP w h → (K w.params).In h)
    (F : ∀ (w : World) (mg : Str → Option Value) (fa : Addr) (h : Heap), (K w.params).In h → h.Ns mainGlobals mg → mg d.name = some (.ref fa) → ∃ fd : FuncData, (∀ (s : Shared) (u : Value), BindsTo s fd ⟨[u], []⟩ [(par, u)]) ∧ ∀ base : Heap, (K w.params).In base → base.Ns mainGlobals mg → FnOk l.prog w (K w.params) mg base (L2.CX l.prog w) room fa fd [par] (@spLawD ⟨[]⟩ (K w.params) most)) :
    PySem.W.WalkO prog names XP YP l.row.toRowW d [] (fun f vs => PySem.call f vs) :=
  L2.walk_of (n := most) (k := room) (x := par) (CX := fun w => L2.CX l.prog w) (sp := fun w => @spLawD ⟨[]⟩ (K w.params) most) hn hle plain wide told F (fun _ _ a ns hl _ hS => ⟨a, ns, rfl, hS, hl, (fun _ hp => nomatch hp), fun _ => rfl⟩) fun _ _ _ _ _ z => noX z
end DL
namespace DL
open PySem L2 PyProof.Rows
variable [LTab]
/-! a body's exceptions; constants of the module -/
section
variable {P₀ : Program} {w : World} {K : PySem.W.Frag} {mg : Str → Option Value} {base : Heap} {N : List Str} {qual : Str} {sc : Scope} {f : Addr} {cdv : Value} {A : Around} {outer : List Env} {s : Shared} {H : Hp} {E : XK}
theorem tkD : Takes (cxOf (L2.CX P₀ w) P₀ w K mg base N qual sc f cdv A outer s H E) (fun cls d _ H => E cls d H) := takes_of rfl rfl rfl rfl
theorem hpD : PassesOwn (model P₀ w) (cxOf (L2.CX P₀ w) P₀ w K mg base N qual sc f cdv A outer s H E).A (cxOf (L2.CX P₀ w) P₀ w K mg base N qual sc f cdv A outer s H E).env (cxOf (L2.CX P₀ w) P₀ w K mg base N qual sc f cdv A outer s H E).xe := passes_of rfl
end
structure GConst (K : PySem.W.Frag) (mg : Str → Option Value) (x : Str) (d : P) : Prop where
  ex : ∃ v u, mg x = some u ∧ RelV v u ∧ ∀ F, Rp K F v d
theorem px_globC {X : Cx} {W : WX} {x : Str} {d : P} {pos : Pos} (hg : Gl X x) (c : GConst X.K X.mg x d) (hd : (x == ("__debug__" : Str)) = false := by decide) : PE X (.Name x pos) (teD X.K X.mg W (dC d)) := by
  obtain ⟨v, u, h1, h2, h3⟩ := c.ex
  exact px_glob hg h1 h2 h3 hd
theorem gconst_int {K : PySem.W.Frag} {mg : Str → Option Value} {x : Str} {i : Int} {t : Tok} (h : mg x = some (.int i t)) : GConst K mg x (.int i) := ⟨.int i, _, h, ⟨t, rfl⟩, fun _ => .int i⟩
theorem gconst_str {K : PySem.W.Frag} {mg : Str → Option Value} {x : Str} {i : Str} {t : Tok} (h : mg x = some (.str i t)) : GConst K mg x (.str i) := ⟨.str i, _, h, ⟨t, rfl⟩, fun _ => .str i⟩
theorem gconst_tup {K : PySem.W.Frag} {mg : Str → Option Value} {x : Str} {a : Addr} {ns : List Int} {dd : Option Addr} {its : Array Value} {n : Nat} {sl : Array (Option Value)} (h : mg x = some (.ref a)) (o : K.lookup a = some ⟨.type "tuple", dd, .seq its n, sl⟩) (hz : its.size ≤ sizeLine) (r : Vals (ns.map V.int) its.toList) :
    GConst K mg x (.tuple (ns.map PyData.int)) := ⟨.ref a, _, h, rfl, fun F => .tup (.inr ⟨_, its, n, o, rfl, rfl, hz, r⟩) (.of_ints ns)⟩
end DL

set_option Elab.async false
set_option linter.all false
set_option maxRecDepth 100000
set_option maxHeartbeats 4000000
/-! so often as one likes -/
namespace DL
open PySem L2
variable [LTab]
def pRep : P → P → Res P
  | .tuple a, .int k => if a ≠ [] ∧ 2 ≤ k ∧ k ≤ 1000 ∧ a.length ≤ 1000 then .ok (.tuple (List.replicate k.toNat a).flatten) else .stuck
  | _, _ => .stuck
def pRepL : P → P → Res (List P)
  | .list a, .int k => if k < 10000 ∧ -10000 < k ∧ a.length * k.toNat ≤ lim then .ok (List.replicate k.toNat a).flatten else .stuck
  | _, _ => .stuck
section
variable {X : Cx} {W : WX} {a b : Expr} {f g : DE P} {pos : Pos}
theorem od_rep : OpD X W pRep (rRepT X.K) := fun σ F H x y d e Q c hx hy o => by
  unfold pRep at o
  split at o
  · split at o
    · rename_i k hz
      obtain ⟨p, vs, rfl, h1, h2⟩ := hx.tup
      refine ⟨p, k, vs, rfl, int_of hy, c.sqT h1, fun z => hz.1 ?_, hz.2.1, hz.2.2.1, by rw [h2.len]; exact hz.2.2.2, fun t ht => ?_⟩
      · subst z
        cases h2
        rfl
      · exact o _ _ _ (.new c ht) (.tup (.of upd_same) ((h2.rep _).up (.new (c.none ht))))
    · exact o.elim
  · exact o.elim
theorem px_rep (ha : PE X a (teB X.K X.mg W f)) (hb : PE X b (teB X.K X.mg W g)) : PE X (.BinOp a .Mult b pos) (teD X.K X.mg W (dOp pRep f g)) := px_bin op_repT od_rep ha hb
theorem od_repL : OpDL X W pRepL rRep := fun σ F H x y d e Q c hx hy o => by
  unfold pRepL at o
  split at o
  · split at o
    · rename_i k hz
      obtain ⟨p, vs, rfl, h1, h2⟩ := hx.lst c
      exact ⟨p, k, vs, rfl, int_of hy, h1, by omega, by omega, by rw [lim_eq, h2.len]; exact hz.2.2, fun t ht => o t _ F _ (.newH c ht) ht (c.none ht) upd_same (h2.rep _)⟩
    · exact o.elim
  · exact o.elim
theorem pl_rep (ha : PE X a (teB X.K X.mg W f)) (hb : PE X b (teB X.K X.mg W g)) : PE X (.BinOp a .Mult b pos) (teL X.K X.mg W (dOp pRepL f g)) := px_binL op_rep od_repL ha hb
end
end DL

set_option Elab.async false
set_option linter.all false
set_option maxRecDepth 100000
set_option maxHeartbeats 4000000
/-! tuples by a step -/
namespace DL
open PySem L2 PyProof.Rows
variable [LTab]
/-- the places of a slice with a step -/
def stepIx (n : Nat) (lo hi : Option Int) (k : Int) : List Nat :=
  (List.range (Builtin.Slice.slicePlaces (Builtin.Slice.sliceAdjust lo hi k (n : Int)).1 (Builtin.Slice.sliceAdjust lo hi k (n : Int)).2 k)).map fun (m : Nat) => ((Builtin.Slice.sliceAdjust lo hi k (n : Int)).1 + (m : Int) * k).toNat
def stepV {α : Type} (xs : List α) (lo hi : Option Int) (k : Int) : List α := (stepIx xs.length lo hi k).filterMap fun i => xs[i]?
def pStep (d : P) (lo hi st : Option Int) : Res P := match d, st with
  | .tuple ds, some k => if k ≠ 0 ∧ k ≠ 1 ∧ (stepV ds lo hi k).length ≤ lim then .ok (.tuple (stepV ds lo hi k)) else .stuck
  | _, _ => .stuck
def dStep (f : DE P) (l u s : DE (Option Int)) : DE P := fun δ => (f δ).bind fun x => (l δ).bind fun a => (u δ).bind fun b => (s δ).bind fun c => pStep x a b c
theorem vals_pick {xs : List V} {us : List Value} (h : Vals xs us) : ∀ is : List Nat, Vals (is.filterMap fun i => xs[i]?) (is.filterMap fun i => us[i]?)
  | [] => .nil
  | i :: is => by
    rw [List.filterMap_cons, List.filterMap_cons]
    cases e : xs[i]? with
    | some x =>
      obtain ⟨u, hu, r⟩ := h.get e
      rw [hu]
      exact .cons r (vals_pick h is)
    | none =>
      have hi : us[i]? = none := List.getElem?_eq_none (by rw [← h.length]; exact List.getElem?_eq_none_iff.mp e)
      rw [hi]
      exact vals_pick h is
theorem rp_pick {K : PySem.W.Frag} {F : Hp} {vs : List V} {ds : List P} (h : RpAll K F vs ds) : ∀ is : List Nat, RpAll K F (is.filterMap fun i => vs[i]?) (is.filterMap fun i => ds[i]?)
  | [] => .nil
  | i :: is => by
    rw [List.filterMap_cons, List.filterMap_cons]
    cases e : ds[i]? with
    | some d =>
      obtain ⟨v, hv, r⟩ := h.get e
      rw [hv]
      exact .cons r (rp_pick h is)
    | none =>
      have hi : vs[i]? = none := List.getElem?_eq_none (by rw [h.len]; exact List.getElem?_eq_none_iff.mp e)
      rw [hi]
      exact rp_pick h is
section
variable {prog : Program} {w : World} {A : Around} {E : Value → Shared → Prop} {s : Shared}
theorem applied_step {sl : Addr} {vl vu vs : Value} {lo hi : Option Int} {k : Int} {n : Nat} {Q : Int × Int × Nat → Shared → Prop} (hs : s.heap.IsSliceOf sl vl vu vs) (pl : IsPart vl lo) (pu : IsPart vu hi) (ps : IsPart vs (some k)) (hk : k ≠ 0)
    (h : Q ((Builtin.Slice.sliceAdjust lo hi k (n : Int)).1, k, Builtin.Slice.slicePlaces (Builtin.Slice.sliceAdjust lo hi k (n : Int)).1 (Builtin.Slice.sliceAdjust lo hi k (n : Int)).2 k) s) : wpAny (model prog w) A (Builtin.Slice.sliceApplied (.ref sl) (pure (n : Int))) Q E s := by
  obtain ⟨os, at_, isS, flds⟩ := id hs
  unfold Builtin.Slice.sliceApplied Builtin.Slice.sliceFields
  refine wpAny_bind (wpAny_bind (wpAny_field at_ flds (x := vl) rfl (wpAny_bind (wpAny_field at_ flds (x := vu) rfl (wpAny_bind (wpAny_field at_ flds (x := vs) rfl (wpAny_pure ?_)))))))
  refine wpAny_bind (HT.slicePart_ ps ?_)
  show wpAny _ _ (if (k == 0) = true then _ else _) _ _ s
  rw [if_neg (by simpa using hk)]
  refine wpAny_bind (HT.slicePart_ pl (wpAny_bind (HT.slicePart_ pu (wpAny_bind (wpAny_pure ?_)))))
  exact wpAny_pure h
theorem getItem_tuple_step {t sl : Addr} {items : List Value} {vl vu vs : Value} {lo hi : Option Int} {k : Int} {Q : Value → Shared → Prop} (ht : IsTup s.heap t items.toArray) (hs : s.heap.IsSliceOf sl vl vu vs) (pl : IsPart vl lo) (pu : IsPart vu hi) (ps : IsPart vs (some k)) (hk : k ≠ 0) (hk1 : k ≠ 1)
    (hz : (stepV items lo hi k).length ≤ sizeLine) (h : Q (.ref s.heap.objs.size) { s with heap := s.heap.push { cls := .type "tuple", data := .seq (stepV items lo hi k).toArray } }) : wpAny (model prog w) A (getItem (.ref t) (.ref sl)) Q E s := by
  have fits : sizeOk (.seq (stepV items lo hi k).toArray) := by
    show (stepV items lo hi k).toArray.size ≤ sizeLine
    rw [List.size_toArray]
    exact hz
  obtain ⟨os, at_, isS, flds⟩ := id hs
  unfold getItem
  try with_reducible refine wpAny_holding ?_
  first | refine wpAny_bind (wpAny_pure ?_) | skip
  refine wpAny_bind (wpAny_sequenceKey ht.typeIs (by decide) ?_)
  refine wpAny_bind (wpAny_callSpecial?_slot (name := Str.ofString "__getitem__") ht.typeIs PyProof.Rows.slot_tuple_getitem (wpAny_call_entry PyProof.Rows.slot_tuple_getitem ht.typeIs PyProof.Rows.entry_tuple_getitem ?_ (PyProof.Rows.args_tuple_getitem _ _)))
  show wpAny _ _ (Builtin.Tuple.tupleItemsOf (.ref t) >>= _) _ _ s
  refine wpAny_bind (tupleItemsOf_ ht (wpAny_bind (wpAny_typeOf (show s.TypeIs (.ref sl) "slice" from ⟨os, at_, isS⟩) ?_)))
  rw [if_pos (by decide)]
  refine wpAny_bind (applied_step hs pl pu ps hk ?_)
  have other : ¬ (((Builtin.Slice.sliceAdjust lo hi k (items.toArray.size : Int)).1 == 0 && k == 1 && Builtin.Slice.slicePlaces (Builtin.Slice.sliceAdjust lo hi k (items.toArray.size : Int)).1 (Builtin.Slice.sliceAdjust lo hi k (items.toArray.size : Int)).2 k == items.toArray.size) = true) := by
    intro q
    rw [Bool.and_eq_true, Bool.and_eq_true] at q
    exact hk1 (eq_of_beq q.1.2)
  show wpAny _ _ (if ((Builtin.Slice.sliceAdjust lo hi k (items.toArray.size : Int)).1 == 0 && k == 1 && Builtin.Slice.slicePlaces (Builtin.Slice.sliceAdjust lo hi k (items.toArray.size : Int)).1 (Builtin.Slice.sliceAdjust lo hi k (items.toArray.size : Int)).2 k == items.toArray.size) = true then _ else _) _ _ s
  rw [if_neg other]
  have same : ((List.range (Builtin.Slice.slicePlaces (Builtin.Slice.sliceAdjust lo hi k (items.toArray.size : Int)).1 (Builtin.Slice.sliceAdjust lo hi k (items.toArray.size : Int)).2 k)).filterMap fun (m : Nat) => items.toArray[((Builtin.Slice.sliceAdjust lo hi k (items.toArray.size : Int)).1 + (m : Int) * k).toNat]?) = stepV items lo hi k := by
    unfold stepV stepIx
    rw [List.filterMap_map, List.size_toArray]
    refine congrArg (fun f => List.filterMap f _) (funext fun m => ?_)
    rw [List.getElem?_toArray]
    rfl
  rw [same]
  first
    | exact wpAny_bind (m := Builtin.Tuple.tupleExact _) (wpAny_newObj_type (wpAny_pure ⟨_, rfl, wpAny_pure h⟩) fits)
    | exact wpAny_bind (m := Builtin.Tuple.tupleExact _) (wpAny_newObj_type (wpAny_bind (wpAny_pure (wpAny_pure ⟨_, rfl, wpAny_pure h⟩))) fits)
    | exact wpAny_bind (wpAny_bind (m := Builtin.Tuple.tupleExact _) (wpAny_newObj_type (wpAny_pure (wpAny_pure ⟨_, rfl, wpAny_pure h⟩)) fits))
    | exact wpAny_bind (wpAny_bind (m := Builtin.Tuple.tupleExact _) (wpAny_newObj_type (wpAny_pure ⟨_, rfl, wpAny_pure h⟩) fits))
end
def tStepT (K : PySem.W.Frag) (te : TE) (tl th ts : TO) : TE := fun σ H Q => te σ H fun x H1 => tl σ H1 fun l H2 => th σ H2 fun u H3 => ts σ H3 fun c H4 => ∃ a xs k, x = .ref a ∧ SqT K H4 a xs ∧ c = some k ∧ k ≠ 0 ∧ k ≠ 1 ∧ (stepV xs l u k).length ≤ sizeLine ∧ ∀ p, H4 p = none → Q (.ref p) (upd H4 p (.tup (stepV xs l u k)))
section
variable {X : Cx} {e st : Expr} {te : TE} {lo hi : Option Expr} {tl th ts : TO} {pos p2 : Pos}
theorem pe_stepT (he : PE X e te) (hl : PO X lo tl) (hu : PO X hi th) (hs : PO X (some st) ts) : PE X (.Subscript e (.Slice lo hi (some st) p2) pos) (tStepT X.K te tl th ts) := by
  refine ⟨fun pins s σ H Q I0 after => ?_⟩
  refine Subscript_ (thn (he.run pins s σ H _ I0 after) fun v s1 ⟨x, H1, I1, r1, q1⟩ => ?_)
  refine wpAny_Slice (thn (hl.run pins s1 σ H1 _ I1 q1) fun vl s2 ⟨l, H2, I2, pl, q2⟩ => thn (hu.run pins s2 σ H2 _ I2 q2) fun vu s3 ⟨u, H3, I3, pu, q3⟩ => thn (hs.run pins s3 σ H3 _ I3 q3) fun vs s4 ⟨c, H4, I4, ps, q4⟩ => ?_)
  obtain ⟨a, xs, k, ex, hx, ec, hk, hk1, hz, q⟩ := q4
  subst ex ec
  cases r1
  have I5 : Inv X pins σ H4 { s4 with heap := s4.heap.push { cls := .type "slice", data := .fields #[vl, vu, vs] } } := I4.kept (t' := s4.toks) fun _ _ z => Heap.get?_push_of_some _ z
  obtain ⟨els, tie, is, _⟩ := I5.tuple hx
  have hlen : els.length = xs.length := tie.length.symm
  have picked : Vals (stepV xs l u k) (stepV els l u k) := by
    unfold stepV
    rw [hlen]
    exact vals_pick tie _
  have hz2 : (stepV els l u k).length ≤ sizeLine := by rw [← picked.length]; exact hz
  show wpAny (model X.prog X.w) X.A (subscriptTail e (.Slice lo hi (some st) p2) (.ref a) (.ref s4.heap.objs.size)) (EP X pins σ Q) X.xe { s4 with heap := s4.heap.push { cls := .type "slice", data := .fields #[vl, vu, vs] } }
  refine tail_any (ops := [.ref a, .ref s4.heap.objs.size]) is.typeIs PyProof.Rows.slot_tuple_getitem.lookup ?_ (by with_unfolding_all rfl)
  refine getItem_tuple_step is (Heap.IsSliceOf.new ..) pl pu ps hk hk1 hz2 ?_
  refine ⟨.ref _, _, I5.laid (t' := s4.toks) (o := .tup (stepV xs l u k)) (fun _ _ z => Heap.get?_push_of_some _ z) (Nat.le_refl _) ?_, rfl, q _ (I5.hok.fresh (Nat.le_refl _))⟩
  exact ⟨hz, _, picked, IsTup.new _ _⟩
end
section
variable {X : Cx} {W : WX} {a st : Expr} {l u : Option Expr} {f : DE P} {lf uf sf : DE (Option Int)} {pos p2 : Pos}
theorem px_step (ha : PE X a (teB X.K X.mg W f)) (hl : PO X l (toD X.K X.mg W lf)) (hu : PO X u (toD X.K X.mg W uf)) (hs : PO X (some st) (toD X.K X.mg W sf)) : PE X (.Subscript a (.Slice l u (some st) p2) pos) (teD X.K X.mg W (dStep f lf uf sf)) :=
  PEi (pe_stepT ha hl hu hs) fun σ H Q ⟨B, F, δ, E, o⟩ => by
  obtain ⟨x1, s1, k1⟩ := outE_bind o
  refine teB.then E x1 s1 fun d v F1 H1 e1 X1 r1 => ?_
  obtain ⟨x2, s2, k2⟩ := outE_bind (k1 d e1)
  refine toD.then (E.up X1) (fun n h => (x2 n h).up X1) s2 fun lo F2 H2 e2 X2 => ?_
  obtain ⟨x3, s3, k3⟩ := outE_bind (k2 lo e2)
  refine toD.then ((E.up X1).up X2) (fun n h => (x3 n h).up (X1.trans X2)) s3 fun hi F3 H3 e3 X3 => ?_
  obtain ⟨x4, s4, k4⟩ := outE_bind (k3 hi e3)
  refine toD.then (((E.up X1).up X2).up X3) (fun n h => (x4 n h).up ((X1.trans X2).trans X3)) s4 fun c F4 H4 e4 X4 => ?_
  have o4 := (k4 c e4).up (((X1.trans X2).trans X3).trans X4)
  have r4 := ((r1.up X2).up X3).up X4
  unfold pStep at o4
  split at o4
  · rename_i ds k
    split at o4
    · rename_i hz
      obtain ⟨p, vs, rfl, h1, h2⟩ := r4.tup
      have picked : RpAll X.K F4 (stepV vs lo hi k) (stepV ds lo hi k) := by
        unfold stepV
        rw [h2.len]
        exact rp_pick h2 _
      exact ⟨p, vs, k, rfl, X4.c.sqT h1, rfl, hz.1, hz.2.1, by rw [lim_eq, picked.len]; exact hz.2.2, fun t ht => o4 _ _ _ (.new X4.c ht) (.tup (.of upd_same) (picked.up (.new (X4.c.none ht))))⟩
    · exact o4.elim
  · exact o4.elim
end
end DL

set_option Elab.async false
set_option linter.all false
set_option maxRecDepth 100000
set_option maxHeartbeats 4000000
/-! refusals: raised, caught, asked for their class -/
namespace DL
open PySem L2 PyProof.Rows
variable [LTab]
/-- whether a refusal of class n is one of class c -/
def isaD (n c : Str) : Bool := n == c || c == "EchoError" || c == "ValueError"
/-- a class of refusals -/
structure ExOk (K : PySem.W.Frag) (mg : Str → Option Value) (n : Str) : Prop where
  ex : ∃ C, mg n = some (.ref C) ∧ PySem.W.excIn K C [.type "ValueError", .type "Exception", .type "BaseException", .type "object"] "ValueError.__new__" = true ∧ PySem.W.keepIn K (.ref C) = true ∧ PySem.W.subIn K (.ref C) (.type "BaseException") = some true ∧ PySem.W.typeIn K (.ref C) = some (.type "type")
def sRaise (n : Str) : DEnv → SRes := fun δ => .exc n δ
theorem sx_raise {X : Cx} {W : WX} {n m : Str} {j : Nat} {p p2 pos pos' : Pos} (hc : X.calm = true) (tk : Takes X W) (x : ExOk X.K X.mg n) (hg : Gl X n) (hdb : (n == ("__debug__" : Str)) = false := by decide) :
    PS X (.Raise (some (.Call (.Name n p) [.Constant (.str m) j p2] [] pos)) none pos') (tsD X.K X.mg W (sRaise n)) := by
  obtain ⟨C, h1, h2, h3, h4, h5⟩ := x.ex
  exact PSi (ps_raise hc tk (pmk_own PySem.F.excBase_ValueError h2 h1 h3 (raises_own h4 h5) hg hdb)) fun D σ H ⟨B, F, δ, E, o⟩ => o C σ F H h1 E .refl
/-- what an except clause that names c makes of refusals of these classes -/
structure CatOk (K : PySem.W.Frag) (mg : Str → Option Value) (c : Str) (known : List Str) : Prop where
  ex : ∃ D, mg c = some (.ref D) ∧ ∀ n ∈ known, ∃ C, mg n = some (.ref C) ∧ PySem.W.exmOne K (.ref C) (.ref D) = some (isaD n c)
theorem all_nil {P : Str → Prop} : ∀ n ∈ ([] : List Str), P n := fun _ h => nomatch h
theorem all_cons {P : Str → Prop} {a : Str} {l : List Str} (h : P a) (t : ∀ n ∈ l, P n) : ∀ n ∈ a :: l, P n := fun n hn => by
  rcases List.mem_cons.mp hn with e | e
  · rw [e]
    exact h
  · exact t n e
/-- no refusal leaves it -/
def still : SRes → SRes
  | .exc _ _ => .stuck
  | r => r
theorem outS_still {K : PySem.W.Frag} {mg : Str → Option Value} {W W' : WX} {D : Ends} {B F : Hp} {r : SRes} (o : OutS K mg W D B F (still r)) : OutS K mg W' D B F r := by
  cases r with
  | exc n δ => exact o.elim
  | nx δ => exact o
  | brk δ => exact o
  | cont δ => exact o
  | ret d => exact o
  | stuck => exact o
  | retO c fs d => exact o
  | retE d δ' => exact o
def sTry (c : Str) (known : List Str) (body suite : DEnv → SRes) : DEnv → SRes := fun δ => match body δ with
  | .exc n δ' => if n ∈ known then (if isaD n c = true then still (suite δ') else .exc n δ') else .stuck
  | r => r
section
variable {X : Cx} {W : WX} {c x : Str} {known : List Str} {body suite : List Stmt} {b₀ : Stmt} {np pos pos' : Pos} {gb : DEnv → SRes}
theorem sx_try {gs : DEnv → SRes} (hs : X.stack = X.env :: X.outer) (hf : X.env.frame = some X.env.locals) (k : CatOk X.K X.mg c known) (hg : Gl X c) (tk : Takes X W)
    (hb : ∀ (W : WX) (pn : List (Addr × Obj)) (xe : Value → Shared → Prop), Takes (X.tr pn xe) W → PassesOwn (model X.prog X.w) X.A X.env xe → PSs (X.tr pn xe) body (tsD X.K X.mg W gb))
    (hsu : ∀ (a : Addr) (oe : Obj) (pn : List (Addr × Obj)), PSs (X.suite a ((a, oe) :: pn)) (b₀ :: suite) (tsD X.K X.mg (fun _ _ _ _ => False) gs)) (hdb : (c == ("__debug__" : Str)) = false := by decide) :
    PS X (.Try body [.ExceptHandler (some (.Name c np)) none (b₀ :: suite) pos'] [] [] pos) (tsD X.K X.mg W (sTry c known gb gs)) := by
  obtain ⟨D0, hD, hk⟩ := k.ex
  refine PSi (ps_try_only (tb := fun W => tsD X.K X.mg W gb) (ts := fun _ _ _ => tsD X.K X.mg (fun _ _ _ _ => False) gs) (Wout := W) hs hf ⟨hg, hdb, .inl hD⟩ tk hb fun a oe _ _ pn _ _ => hsu a oe pn) fun D σ H ⟨B, F, δ, E, o⟩ => ?_
  refine ⟨B, F, δ, E, ?_⟩
  unfold sTry at o
  cases r : gb δ with
  | exc n δ' =>
    rw [r] at o
    dsimp only at o
    split at o
    · rename_i hn
      intro C σ' F' H' m' E' x'
      obtain ⟨C', m2, hm⟩ := hk n hn
      have e : C' = C := by
        rw [m2] at m'
        exact Value.ref.inj (Option.some.inj m')
      subst e
      refine ⟨_, hm, fun hb1 a _ => ?_, fun hb0 => ?_⟩
      · rw [if_pos hb1] at o
        exact ⟨B, F', δ', E', outS_still (W := W) (o.up x')⟩
      · rw [if_neg (by rw [hb0]; exact Bool.false_ne_true)] at o
        exact o _ σ' F' H' m2 E' x'
    · exact o.elim
  | nx δ' => rw [r] at o; exact o
  | brk δ' => rw [r] at o; exact o
  | cont δ' => rw [r] at o; exact o
  | ret d => rw [r] at o; exact o
  | stuck => rw [r] at o; exact o
  | retO c fs d => rw [r] at o; exact o
  | retE d δ' => rw [r] at o; exact o
end
/-! except .. as e -/
/-- the name is let go -/
def unE (i : Nat) : SRes → SRes
  | .nx δ => .nx (δ.set i .un)
  | .brk δ => .brk (δ.set i .un)
  | .cont δ => .cont (δ.set i .un)
  | .ret d => .ret d
  | .retE d δ => .retE d (δ.set i .un)
  | _ => .stuck
open Classical in
/-- what it is, where it is the same at each address -/
noncomputable def anyA (f : Addr → SRes) : SRes := if h : ∃ r, ∀ a, f a = r then h.choose else .stuck
theorem anyA_const {f : Addr → SRes} {r : SRes} (h : ∀ a, f a = r) : anyA f = r := by
  unfold anyA
  have e : ∃ r, ∀ a, f a = r := ⟨r, h⟩
  rw [dif_pos e, ← e.choose_spec 0, h 0]
theorem anyA_at {f : Addr → SRes} (h : anyA f ≠ .stuck) (a : Addr) : f a = anyA f := by
  unfold anyA at h ⊢
  split at h
  · rename_i e
    rw [dif_pos e]
    exact e.choose_spec a
  · exact absurd rfl h
noncomputable def sTryAs (c : Str) (i : Nat) (known : List Str) (body : DEnv → SRes) (suite : Addr → Str → DEnv → SRes) : DEnv → SRes := fun δ => match body δ with
  | .exc n δ' => if n ∈ known then (if isaD n c = true then anyA fun a => unE i (suite a n (δ'.set i (.raw (.ref a)))) else .exc n δ') else .stuck
  | r => r
theorem EnvOk.setRaw {K : PySem.W.Frag} {B F H : Hp} {σ : L2.St} {δ : DEnv} (E : EnvOk K B F H σ δ) (i : Nat) (v : V) : EnvOk K B F H (σ.set i (some v)) (δ.set i (.raw v)) := by
  have at_ : ∀ {j : Nat} {s : Slot}, s ≠ .raw v → (δ.set i (.raw v))[j]? = some s → j ≠ i ∧ δ[j]? = some s := fun {j s} hs h => by
    rw [List.getElem?_set] at h
    by_cases e : i = j
    · rw [if_pos e] at h
      split at h
      · cases h
        exact absurd rfl hs
      · cases h
    · rw [if_neg e] at h
      exact ⟨fun z => e z.symm, h⟩
  refine ⟨E.c, E.b, E.tbs, by rw [List.length_set, List.length_set]; exact E.len, fun j d h => ?_, fun j ds h => ?_, fun j k ds es p hne h1 h2 h3 => ?_, fun j u h => ?_, fun j lk c fs h => ?_, fun j k lk lk' c c' fs fs' p hne h1 h2 h3 => ?_⟩
  · obtain ⟨hne, h⟩ := at_ (s := .val d) nofun h
    rw [List.getElem?_set_ne (Ne.symm hne)]
    exact E.val j d h
  · obtain ⟨hne, h⟩ := at_ (s := .own ds) nofun h
    rw [List.getElem?_set_ne (Ne.symm hne)]
    exact E.own j ds h
  · obtain ⟨n1, h1⟩ := at_ (s := .own ds) nofun h1
    obtain ⟨n2, h2⟩ := at_ (s := .own es) nofun h2
    rw [List.getElem?_set_ne (Ne.symm n1)] at h3
    rw [List.getElem?_set_ne (Ne.symm n2)]
    exact E.apart j k ds es p hne h1 h2 h3
  · rw [List.getElem?_set] at h ⊢
    by_cases e : i = j
    · rw [if_pos e] at h ⊢
      rw [E.len]
      split at h
      · rename_i hl
        rw [if_pos hl]
        cases h
        rfl
      · cases h
    · rw [if_neg e] at h ⊢
      exact E.raw j u h
  · obtain ⟨hne, h⟩ := at_ (s := .obj lk c fs) nofun h
    rw [List.getElem?_set_ne (Ne.symm hne)]
    exact E.obj j lk c fs h
  · obtain ⟨n1, h1⟩ := at_ (s := .obj lk c fs) nofun h1
    obtain ⟨n2, h2⟩ := at_ (s := .obj lk' c' fs') nofun h2
    rw [List.getElem?_set_ne (Ne.symm n1)] at h3
    rw [List.getElem?_set_ne (Ne.symm n2)]
    exact E.far j k lk lk' c c' fs fs' p hne h1 h2 h3
theorem EnvOk.setUn {K : PySem.W.Frag} {B F H : Hp} {σ : L2.St} {δ : DEnv} (E : EnvOk K B F H σ δ) (i : Nat) : EnvOk K B F H (σ.set i none) (δ.set i .un) := by
  have at_ : ∀ {j : Nat} {s : Slot}, s ≠ .un → (δ.set i .un)[j]? = some s → j ≠ i ∧ δ[j]? = some s := fun {j s} hs h => by
    rw [List.getElem?_set] at h
    by_cases e : i = j
    · rw [if_pos e] at h
      split at h
      · cases h
        exact absurd rfl hs
      · cases h
    · rw [if_neg e] at h
      exact ⟨fun z => e z.symm, h⟩
  refine ⟨E.c, E.b, E.tbs, by rw [List.length_set, List.length_set]; exact E.len, fun j d h => ?_, fun j ds h => ?_, fun j k ds es p hne h1 h2 h3 => ?_, fun j u h => ?_, fun j lk c fs h => ?_, fun j k lk lk' c c' fs fs' p hne h1 h2 h3 => ?_⟩
  · obtain ⟨hne, h⟩ := at_ (s := .val d) nofun h
    rw [List.getElem?_set_ne (Ne.symm hne)]
    exact E.val j d h
  · obtain ⟨hne, h⟩ := at_ (s := .own ds) nofun h
    rw [List.getElem?_set_ne (Ne.symm hne)]
    exact E.own j ds h
  · obtain ⟨n1, h1⟩ := at_ (s := .own ds) nofun h1
    obtain ⟨n2, h2⟩ := at_ (s := .own es) nofun h2
    rw [List.getElem?_set_ne (Ne.symm n1)] at h3
    rw [List.getElem?_set_ne (Ne.symm n2)]
    exact E.apart j k ds es p hne h1 h2 h3
  · obtain ⟨hne, h⟩ := at_ (s := .raw u) nofun h
    rw [List.getElem?_set_ne (Ne.symm hne)]
    exact E.raw j u h
  · obtain ⟨hne, h⟩ := at_ (s := .obj lk c fs) nofun h
    rw [List.getElem?_set_ne (Ne.symm hne)]
    exact E.obj j lk c fs h
  · obtain ⟨n1, h1⟩ := at_ (s := .obj lk c fs) nofun h1
    obtain ⟨n2, h2⟩ := at_ (s := .obj lk' c' fs') nofun h2
    rw [List.getElem?_set_ne (Ne.symm n1)] at h3
    rw [List.getElem?_set_ne (Ne.symm n2)]
    exact E.far j k lk lk' c c' fs fs' p hne h1 h2 h3
section
variable {X : Cx} {W : WX} {c x : Str} {i : Nat} {known : List Str} {body suite : List Stmt} {b₀ : Stmt} {np pos pos' : Pos} {gb : DEnv → SRes} {gs : Addr → Str → DEnv → SRes}
theorem sx_tryAs (hs : X.stack = X.env :: X.outer) (hf : X.env.frame = some X.env.locals) (hN : X.N.Nodup) (hi : X.N[i]? = some x) (hln : X.env.kindOf x = some .local) (k : CatOk X.K X.mg c known) (hg : Gl X c) (tk : Takes X W)
    (hb : ∀ (W : WX) (pn : List (Addr × Obj)) (xe : Value → Shared → Prop), Takes (X.tr pn xe) W → PassesOwn (model X.prog X.w) X.A X.env xe → PSs (X.tr pn xe) body (tsD X.K X.mg W gb))
    (hsu : ∀ (n : Str) (C a : Addr) (oe : Obj) (pn : List (Addr × Obj)), n ∈ known → X.mg n = some (.ref C) → Zc (.ref C) none oe → (∃ vs, oe.data = .fields vs) → PSs (X.suite a ((a, oe) :: pn)) (b₀ :: suite) (tsD X.K X.mg (fun _ _ _ _ => False) (gs a n))) (hdb : (c == ("__debug__" : Str)) = false := by decide) :
    PS X (.Try body [.ExceptHandler (some (.Name c np)) (some x) (b₀ :: suite) pos'] [] [] pos) (tsD X.K X.mg W (sTryAs c i known gb gs)) := by
  obtain ⟨D0, hD, hk⟩ := k.ex
  refine PSi (ps_try_as (tb := fun W => tsD X.K X.mg W gb) (ts := fun a cls d => fun D σ H => ∃ n C, n ∈ known ∧ X.mg n = some (.ref C) ∧ cls = .ref C ∧ d = none ∧ tsD X.K X.mg (fun _ _ _ _ => False) (gs a n) D σ H) (Wout := W) hs hf hN hi hln ⟨hg, hdb, .inl hD⟩ tk hb fun a oe cls d pn hz hfl => ⟨fun pins s σ H D I ⟨n, C, hn, m1, ec, ed, q⟩ => ?_⟩) fun D σ H ⟨B, F, δ, E, o⟩ => ?_
  · subst ec ed
    exact (hsu n C a oe pn hn m1 hz hfl).run pins s σ H D I q
  refine ⟨B, F, δ, E, ?_⟩
  unfold sTryAs at o
  cases r : gb δ with
  | exc n δ' =>
    rw [r] at o
    dsimp only at o
    split at o
    · rename_i hn
      intro C σ' F' H' m' E' x'
      obtain ⟨C', m2, hm⟩ := hk n hn
      have e : C' = C := by
        rw [m2] at m'
        exact Value.ref.inj (Option.some.inj m')
      subst e
      refine ⟨_, hm, fun hb1 a ha => ?_, fun hb0 => ?_⟩
      · rw [if_pos hb1] at o
        have ne : (anyA fun a => unE i (gs a n (δ'.set i (.raw (.ref a))))) ≠ .stuck := fun z => by
          rw [z] at o
          exact o
        rw [← anyA_at ne a] at o
        have o := o.up x'
        refine ⟨n, C', hn, m2, rfl, rfl, B, F', _, E'.setRaw i (.ref a), ?_⟩
        cases r2 : gs a n (δ'.set i (.raw (.ref a))) with
        | exc n2 δ2 => rw [r2] at o; exact o.elim
        | nx δ2 => rw [r2] at o; exact fun σ2 F2 H2 E2 x2 => o _ F2 H2 (E2.setUn i) x2
        | brk δ2 => rw [r2] at o; exact fun σ2 F2 H2 E2 x2 => o _ F2 H2 (E2.setUn i) x2
        | cont δ2 => rw [r2] at o; exact fun σ2 F2 H2 E2 x2 => o _ F2 H2 (E2.setUn i) x2
        | ret d => rw [r2] at o; exact o
        | stuck => rw [r2] at o; exact o
        | retO c fs d => rw [r2] at o; exact o.elim
        | retE d δ2 => rw [r2] at o; exact fun v σ2 F2 H2 E2 x2 rv => o v _ F2 H2 (E2.setUn i) x2 rv
      · rw [if_neg (by rw [hb0]; exact Bool.false_ne_true)] at o
        exact o _ σ' F' H' m2 E' x'
    · exact o.elim
  | nx δ' => rw [r] at o; exact o
  | brk δ' => rw [r] at o; exact o
  | cont δ' => rw [r] at o; exact o
  | ret d => rw [r] at o; exact o
  | stuck => rw [r] at o; exact o
  | retO c fs d => rw [r] at o; exact o
  | retE d δ' => rw [r] at o; exact o
end
/-- isinstance(e, c), e the refusal at hand -/
def dIsE (a : Addr) (i : Nat) (n c : Str) : DE P := fun δ => match δ[i]? with
  | some (.raw (.ref b)) => if b = a then .ok (.bool (isaD n c)) else .stuck
  | _ => .stuck
structure IsOk (K : PySem.W.Frag) (mg : Str → Option Value) (c n : Str) : Prop where
  ex : ∃ C D, mg n = some (.ref C) ∧ mg c = some (.ref D) ∧ ExcC K C ∧ PySem.W.kitOne K (.ref C) (.ref D) = some (isaD n c)
structure IsVE (K : PySem.W.Frag) (mg : Str → Option Value) (n : Str) : Prop where
  ex : ∃ C, mg n = some (.ref C) ∧ ExcC K C ∧ PySem.W.kitOne K (.ref C) (.type "ValueError") = some true
section
variable {X : Cx} {W : WX} {a C : Addr} {oe : Obj} {pn : List (Addr × Obj)} {i : Nat} {x n c : Str} {p p1 p2 pos : Pos}
theorem px_isE0 {v : V} {cv : Value} (hC : ExcC X.K C) (hz : Zc (.ref C) none oe) (hf : ∃ vs, oe.data = .fields vs) (hN : X.N[i]? = some x) (hv : Vis X.env.scope x) (hg : Gl X "isinstance") (hm : X.mg "isinstance" = none)
    (hc : PE (X.suite a ((a, oe) :: pn)) (.Name c p2) (tC v)) (he : ∀ u, RelV v u → u = cv) (hk : PySem.W.kitOne X.K (.ref C) cv = some (isaD n c)) (hd : (x == ("__debug__" : Str)) = false) (hcd : (x == ("__classdict__" : Str)) = false)
    (hs1 : starEach [.Name x p1, .Name c p2] (X.suite a ((a, oe) :: pn)).env = (false, eval (.Name x p1) (X.suite a ((a, oe) :: pn)).env) :: starEach [.Name c p2] (X.suite a ((a, oe) :: pn)).env) (hs2 : starEach [.Name c p2] (X.suite a ((a, oe) :: pn)).env = (false, eval (.Name c p2) (X.suite a ((a, oe) :: pn)).env) :: starEach [] (X.suite a ((a, oe) :: pn)).env) (hpl : (backTo pos (starEach [.Name c p2] (X.suite a ((a, oe) :: pn)).env)).any (·.1) = false) :
    PE (X.suite a ((a, oe) :: pn)) (.Call (.Name "isinstance" p) [.Name x p1, .Name c p2] [] pos) (teD X.K X.mg W (dIsE a i n c)) :=
  PEi (pe_callB (call_isE hC hz hf) hg hm PyProof.Rows.boot_isinstance (pa_cons (pe_var (X := X.suite a ((a, oe) :: pn)) hN hv hd hcd) (pa_cons hc pa_nil hs2) hs1) (he := hs1) (hpl := hpl)) fun σ H Q ⟨B, F, δ, E, o⟩ => by
  unfold dIsE at o
  split at o
  · rename_i b h
    split at o
    · rename_i e
      subst e
      exact ⟨.ref b, E.raw i _ h, v, cv, isaD n c, rfl, he, hk, o _ F H (.refl E.c) (.bl _)⟩
    · exact o.elim
  · exact o.elim
theorem px_isE (k : IsOk X.K X.mg c n) (hn : X.mg n = some (.ref C)) (hz : Zc (.ref C) none oe) (hf : ∃ vs, oe.data = .fields vs) (hN : X.N[i]? = some x) (hv : Vis X.env.scope x) (hg : Gl X "isinstance") (hm : X.mg "isinstance" = none) (hgc : Gl X c) (hd : (x == ("__debug__" : Str)) = false := by decide) (hcd : (x == ("__classdict__" : Str)) = false := by decide) (hdc : (c == ("__debug__" : Str)) = false := by decide)
    (hs1 : starEach [.Name x p1, .Name c p2] (X.suite a ((a, oe) :: pn)).env = (false, eval (.Name x p1) (X.suite a ((a, oe) :: pn)).env) :: starEach [.Name c p2] (X.suite a ((a, oe) :: pn)).env := by rfl) (hs2 : starEach [.Name c p2] (X.suite a ((a, oe) :: pn)).env = (false, eval (.Name c p2) (X.suite a ((a, oe) :: pn)).env) :: starEach [] (X.suite a ((a, oe) :: pn)).env := by rfl) (hpl : (backTo pos (starEach [.Name c p2] (X.suite a ((a, oe) :: pn)).env)).any (·.1) = false := by rfl) :
    PE (X.suite a ((a, oe) :: pn)) (.Call (.Name "isinstance" p) [.Name x p1, .Name c p2] [] pos) (teD X.K X.mg W (dIsE a i n c)) := by
  obtain ⟨C', D, m1, m2, hC, hk⟩ := k.ex
  have e : C' = C := by
    rw [m1] at hn
    exact Value.ref.inj (Option.some.inj hn)
  subst e
  exact px_isE0 (v := .ref D) hC hz hf hN hv hg hm (pe_glob (X := X.suite a ((a, oe) :: pn)) hgc m2 rfl hdc) (fun u r => by cases r; rfl) hk hd hcd hs1 hs2 hpl
theorem px_isVE (k : IsVE X.K X.mg n) (hn : X.mg n = some (.ref C)) (hz : Zc (.ref C) none oe) (hf : ∃ vs, oe.data = .fields vs) (hN : X.N[i]? = some x) (hv : Vis X.env.scope x) (hg : Gl X "isinstance") (hm : X.mg "isinstance" = none) (hgc : Gl X "ValueError") (hmc : X.mg "ValueError" = none) (hd : (x == ("__debug__" : Str)) = false := by decide) (hcd : (x == ("__classdict__" : Str)) = false := by decide)
    (hs1 : starEach [.Name x p1, .Name "ValueError" p2] (X.suite a ((a, oe) :: pn)).env = (false, eval (.Name x p1) (X.suite a ((a, oe) :: pn)).env) :: starEach [.Name "ValueError" p2] (X.suite a ((a, oe) :: pn)).env := by rfl) (hs2 : starEach [.Name "ValueError" p2] (X.suite a ((a, oe) :: pn)).env = (false, eval (.Name "ValueError" p2) (X.suite a ((a, oe) :: pn)).env) :: starEach [] (X.suite a ((a, oe) :: pn)).env := by rfl) (hpl : (backTo pos (starEach [.Name "ValueError" p2] (X.suite a ((a, oe) :: pn)).env)).any (·.1) = false := by rfl) :
    PE (X.suite a ((a, oe) :: pn)) (.Call (.Name "isinstance" p) [.Name x p1, .Name "ValueError" p2] [] pos) (teD X.K X.mg W (dIsE a i n "ValueError")) := by
  obtain ⟨C', m1, hC, hk⟩ := k.ex
  have e : C' = C := by
    rw [m1] at hn
    exact Value.ref.inj (Option.some.inj hn)
  subst e
  refine px_isE0 (v := .ty "ValueError") hC hz hf hN hv hg hm (pe_bltn (X := X.suite a ((a, oe) :: pn)) hgc hmc (u := .type "ValueError") (by kernel_rfl) rfl) (fun u r => by cases r; rfl) ?_ hd hcd hs1 hs2 hpl
  rw [hk]
  have : isaD n "ValueError" = true := by
    unfold isaD
    simp
  rw [this]
end
end DL

set_option Elab.async false
set_option linter.all false
set_option maxRecDepth 100000
set_option maxHeartbeats 4000000
/-! a, b = a list of two -/
namespace DL
open PySem L2 PyProof.Rows
variable [LTab]
def bL (i j : Nat) : Bd := fun d δ => match d with
  | .list [a, b] => .ok ((δ.set i (.val a)).set j (.val b))
  | _ => .stuck
def sPairL (i j : Nat) (f : DE P) : DEnv → SRes := fun δ => ofR δ (f δ) fun d => match d with
  | .list [a, b] => .nx ((δ.set i (.val a)).set j (.val b))
  | _ => .stuck
section
variable {X : Cx} {W : WX} {e : Expr} {f : DE P} {pos : Pos}
theorem gx_pairL {i j : Nat} {x y : Str} {k : Nat} {p1 p2 : Pos} (hc : X.calm = true) (hN : X.N.Nodup) (hi : X.N[i]? = some x) (hx : Loc X.env.scope x) (hj : X.N[j]? = some y) (hy : Loc X.env.scope y)
    (hf : X.fn x = true ∨ X.env.scope.names.lookup x = some .local := by first | exact .inl rfl | exact .inr rfl | assumption) (hf2 : X.fn y = true ∨ X.env.scope.names.lookup y = some .local := by first | exact .inl rfl | exact .inr rfl | assumption) : PG X (.Tuple [.Name x p1, .Name y p2] k pos) (tgD X.K (bL i j) [i, j]) :=
  PGi (pg_unl (n := 2) hc (pgs_cons (pg_name hN hi hx hf) (pgs_cons (pg_name hN hj hy hf2) pgs_nil))) fun v σ H Q ⟨B, F, δ, d, E, r, o⟩ => by
    unfold bL at o
    split at o
    · rename_i δ' q
      split at q
      · rename_i d1 d2
        cases q
        cases r with
        | lst h1 h2 =>
          cases h2 with
          | cons r1 h2 =>
            cases h2 with
            | cons r2 h2 =>
              cases h2
              refine ⟨_, _, rfl, SqL.of (E.c.k _ _ h1), rfl, _, _, rfl, _, _, rfl, rfl, o _ ((E.set i r1).set j r2) fun vs h => ?_⟩
              rw [wipe_set (h j (by simp)), wipe_set (h i (by simp))]
      · cases q
    · exact o.elim
theorem sx_pairL {i j : Nat} {x y : Str} {k : Nat} {p1 p2 p3 : Pos} (hc : X.calm = true) (hN : X.N.Nodup) (hi : X.N[i]? = some x) (hx : Loc X.env.scope x) (hj : X.N[j]? = some y) (hy : Loc X.env.scope y) (he : PE X e (teD X.K X.mg W f))
    (hf : X.fn x = true ∨ X.env.scope.names.lookup x = some .local := by first | exact .inl rfl | exact .inr rfl | assumption) (hf2 : X.fn y = true ∨ X.env.scope.names.lookup y = some .local := by first | exact .inl rfl | exact .inr rfl | assumption)
    (hs : swapsWithSole [.Tuple [.Name x p1, .Name y p2] k p3] e pos.line X.env = pure false := by rfl) (hw : swappedStores [.Tuple [.Name x p1, .Name y p2] k p3] e X.env = pure none := by rfl)
    (h1 : (assignEach [.Tuple [.Name x p1, .Name y p2] k p3] X.env).map (·.2) = [assign (.Tuple [.Name x p1, .Name y p2] k p3) X.env] := by rfl) :
    PS X (.Assign [.Tuple [.Name x p1, .Name y p2] k p3] e pos) (tsD X.K X.mg W (sPairL i j f)) := PSi (ps_asg he (gx_pairL hc hN hi hx hj hy hf hf2) hs hw h1) fun D σ H ⟨B, F, δ, E, o⟩ => by
  obtain ⟨x1, s1, k1⟩ := outS_of E o
  refine teD.then E x1 s1 fun d v F1 H1 e1 X1 r1 => ?_
  have o1 := k1 d e1
  refine ⟨B, F1, δ, d, E.up X1, r1, ?_⟩
  unfold bL
  split at o1
  · exact fun σ' E' _ => o1 σ' F1 H1 E' (E.sext X1)
  · exact o1.elim
end
end DL

set_option Elab.async false
set_option linter.all false
set_option maxRecDepth 100000
set_option maxHeartbeats 4000000
/-! so often a tuple, the number ahead; a tuple once, or not at all -/
namespace L2
open PySem PySem.Spec PyProof.Rows
theorem int_mul_tup (a : Int) (t : Tok) (l : Addr) (items : Array Value) (n : Nat) (dd : Option Addr) (sl : Array (Option Value)) :
    Meets (Builtin.«int.__mul__» ⟨[.int a t, .ref l], []⟩) (fun _ R s => s.heap.get? l = some { cls := .type "tuple", dict := dd, data := .seq items n, slots := sl } ∧ R (.ok (.ret Value.notImplemented)) s) :=
  .of_wp fun prog w A R s h => by
    obtain ⟨hp, g, d, tk, os⟩ := s
    obtain ⟨hl, after⟩ := h
    wp_walk using PySem.AutoSeq1.wpAny_loadPart' hl
    exact ⟨_, rfl, after⟩
theorem tup_mul_self (l : Addr) (items : Array Value) (n : Nat) (dd : Option Addr) (sl : Array (Option Value)) (x : Int) (u : Tok) (c0 : (decide (x < -(2 ^ 63)) || decide (x ≥ 2 ^ 63)) = false) (c1 : (items.isEmpty || x == 1) = true) :
    Meets (Builtin.«tuple.__mul__» ⟨[.ref l, .int x u], []⟩) (fun _ R s => s.heap.get? l = some { cls := .type "tuple", dict := dd, data := .seq items n, slots := sl } ∧ R (.ok (.ret (Value.ref l))) s) :=
  .of_wp fun prog w A R s h => by
    obtain ⟨hp, g, d, tk, os⟩ := s
    obtain ⟨hl, after⟩ := h
    have f1 := AutoSeq1.idx_int
    wp_walk using PySem.AutoSeq1.wpAny_loadPart' hl
    repeat (first
      | (refine wpAny_ite_false (decide_eq_false (by rw [c0]; exact Bool.false_ne_true)) ?_; wp_walk using PySem.AutoSeq1.wpAny_loadPart' hl)
      | (refine wpAny_ite_true (decide_eq_true c1) ?_; wp_walk using PySem.AutoSeq1.wpAny_loadPart' hl))
    exact ⟨_, rfl, after⟩
theorem tup_mul_none (l : Addr) (items : Array Value) (n : Nat) (dd : Option Addr) (sl : Array (Option Value)) (x : Int) (u : Tok) (c0 : (decide (x < -(2 ^ 63)) || decide (x ≥ 2 ^ 63)) = false) (c1 : (items.isEmpty || x == 1) = false) (c2 : (decide (x ≤ 0) || items.isEmpty) = true) :
    Meets (Builtin.«tuple.__mul__» ⟨[.ref l, .int x u], []⟩) (fun _ R s => s.heap.get? l = some { cls := .type "tuple", dict := dd, data := .seq items n, slots := sl } ∧ R (.ok (.ret (Value.ref s.heap.objs.size))) { s with heap := s.heap.push { cls := Value.type "tuple", data := Data.seq #[] }, toks := s.toks }) :=
  .of_wp fun prog w A R s h => by
    obtain ⟨hp, g, d, tk, os⟩ := s
    obtain ⟨hl, after⟩ := h
    have f1 := AutoSeq1.idx_int
    have hsz : (#[] : Array Value).size ≤ sizeLine := Nat.zero_le _
    wp_walk using PySem.AutoSeq1.wpAny_loadPart' hl
    repeat (first
      | (refine wpAny_ite_false (decide_eq_false (by rw [c0]; exact Bool.false_ne_true)) ?_; wp_walk using PySem.AutoSeq1.wpAny_loadPart' hl)
      | (refine wpAny_ite_false (decide_eq_false (by rw [c1]; exact Bool.false_ne_true)) ?_; wp_walk using PySem.AutoSeq1.wpAny_loadPart' hl)
      | (refine wpAny_ite_true (decide_eq_true c2) ?_; wp_walk using PySem.AutoSeq1.wpAny_loadPart' hl)
      | (refine wpAny_ite_false (decide_eq_false (Nat.not_lt.mpr hsz)) ?_; wp_walk using PySem.AutoSeq1.wpAny_loadPart' hl))
    exact ⟨_, rfl, after⟩
end L2
namespace L2
open PySem PySem.Spec PyProof.Rows
def rRepA (K : PySem.W.Frag) : R2 := fun x y H Q => ∃ l k xs, x = .ref l ∧ y = .int k ∧ SqT K H l xs ∧ xs ≠ [] ∧ -1000 ≤ k ∧ k ≤ 1000 ∧ xs.length ≤ 1000 ∧ (k = 1 → Q (.ref l) H) ∧ (k ≠ 1 → ∀ p, H p = none → Q (.ref p) (upd H p (.tup (List.replicate k.toNat xs).flatten)))
def rRepI (K : PySem.W.Frag) : R2 := fun x y H Q => ∃ l k xs, x = .int k ∧ y = .ref l ∧ SqT K H l xs ∧ xs ≠ [] ∧ 2 ≤ k ∧ k ≤ 1000 ∧ xs.length ≤ 1000 ∧ ∀ p, H p = none → Q (.ref p) (upd H p (.tup (List.replicate k.toNat xs).flatten))
section
variable {X : Cx}
theorem op_repA : OpR X (binaryOp .Mult) (rRepA X.K) := by
  intro pins s σ H x y v u Q I rx ry h
  obtain ⟨l, k, xs, ex, ey, hT, hne, h1, h2, hz, q1, q2⟩ := h
  by_cases two : 2 ≤ k
  · exact op_repT pins s σ H x y v u Q I rx ry ⟨l, k, xs, ex, ey, hT, hne, two, h2, hz, q2 (by omega)⟩
  subst ex ey
  cases rx
  obtain ⟨t, rfl⟩ := ry
  obtain ⟨els, tie, ⟨⟨cls, dd, data, sl⟩, at_, isT, n, dat⟩, _⟩ := I.tuple hT
  simp only at isT dat
  subst isT dat
  have some_ : els.toArray.isEmpty = false := by
    cases els with
    | nil =>
      cases tie
      exact absurd rfl hne
    | cons a b => rfl
  have c0 : (decide (k < -(2 ^ 63)) || decide (k ≥ 2 ^ 63)) = false := by
    rw [decide_eq_false (by omega), decide_eq_false (by omega)] <;> rfl
  by_cases one : k = 1
  · subst one
    refine wpAny_binaryOp_repeat_ref (T := "tuple") (U := "int") (by decide) ⟨_, at_, rfl⟩ (fun s' => typeIs_int s' 1 t) noFill_tuple_mul F.fills_int_mul F.slot_int_rmul repeat_tuple F.slot_int_index.lookup
      (call_meets F.slot_int_rmul (typeIs_int s 1 t) F.entry_int_rmul (F.args_int_rmul_2 _ _) (int_rmul_tuple 1 t l els.toArray n dd sl)
        ⟨at_, rfl, ⟨_, at_, rfl⟩, call_meets F.slot_tuple_mul ⟨_, at_, rfl⟩ F.entry_tuple_mul (F.args_tuple_mul_2 _ _) (tup_mul_self l els.toArray n dd sl 1 t c0 (by rw [some_]; rfl)) ⟨at_, ?_⟩⟩)
    exact ⟨.ref l, H, I, rfl, q1 rfl⟩
  · refine wpAny_binaryOp_repeat_ref (T := "tuple") (U := "int") (by decide) ⟨_, at_, rfl⟩ (fun s' => typeIs_int s' k t) noFill_tuple_mul F.fills_int_mul F.slot_int_rmul repeat_tuple F.slot_int_index.lookup
      (call_meets F.slot_int_rmul (typeIs_int s k t) F.entry_int_rmul (F.args_int_rmul_2 _ _) (int_rmul_tuple k t l els.toArray n dd sl)
        ⟨at_, rfl, ⟨_, at_, rfl⟩, call_meets F.slot_tuple_mul ⟨_, at_, rfl⟩ F.entry_tuple_mul (F.args_tuple_mul_2 _ _) (tup_mul_none l els.toArray n dd sl k t c0 (by rw [some_, Bool.false_or]; exact beq_eq_false_iff_ne.mpr one) (by rw [decide_eq_true (by omega)]; rfl)) ⟨at_, ?_⟩⟩)
    have q3 := q2 one
    rw [show k.toNat = 0 by omega] at q3
    refine ⟨.ref s.heap.objs.size, _, I.laid (t' := s.toks) (o := .tup (List.replicate 0 xs).flatten) (fun _ _ z => Heap.get?_push_of_some _ z) (Nat.le_refl _) ?_, rfl, q3 _ (I.hok.fresh (Nat.le_refl _))⟩
    exact ⟨Nat.zero_le _, _, .nil, IsTup.new _ _⟩
theorem op_repI : OpR X (binaryOp .Mult) (rRepI X.K) := by
  intro pins s σ H x y v u Q I rx ry h
  obtain ⟨l, k, xs, rfl, rfl, hT, hne, h1, h2, hz, q⟩ := h
  cases ry
  obtain ⟨t, rfl⟩ := rx
  obtain ⟨els, tie, ⟨⟨cls, dd, data, sl⟩, at_, isT, n, dat⟩, _⟩ := I.tuple hT
  simp only at isT dat
  subst isT dat
  have same : els.length = xs.length := tie.length.symm
  have some_ : els.toArray.isEmpty = false := by
    cases els with
    | nil =>
      cases tie
      exact absurd rfl hne
    | cons a b => rfl
  have c0 : (decide (k < -(2 ^ 63)) || decide (k ≥ 2 ^ 63)) = false := by
    rw [decide_eq_false (by omega), decide_eq_false (by omega)] <;> rfl
  have many : ((els.toArray.size : Nat) : Int) * k ≤ 1000000 := by
    rw [List.size_toArray, same]
    have a1 : ((xs.length : Nat) : Int) * k ≤ 1000 * k := Int.mul_le_mul_of_nonneg_right (by omega) (by omega)
    omega
  have flen : (List.replicate k.toNat els).flatten.length ≤ sizeLine := by
    rw [PyProof.Rows.lm_len_rep_flat, same, sizeLine_eq]
    have a1 : k.toNat * xs.length ≤ 1000 * 1000 := Nat.mul_le_mul (by omega) hz
    omega
  refine lm_binaryOp_repeat_right (T := "tuple") (U := "int") (by decide) (fun s' => typeIs_int s' k t) ⟨_, at_, rfl⟩ F.fills_int_mul noFill_tuple_mul F.slot_int_mul lm_noRepeat_int repeat_tuple F.slot_int_index.lookup
    (call_meets F.slot_int_mul (typeIs_int s k t) F.entry_int_mul (F.args_int_mul_2 _ _) (int_mul_tup k t l els.toArray n dd sl)
      ⟨at_, rfl, ⟨_, at_, rfl⟩, call_meets F.slot_tuple_mul ⟨_, at_, rfl⟩ F.entry_tuple_mul (F.args_tuple_mul_2 _ _) (tuple_mulW l els.toArray n dd sl k t c0 (by rw [some_, Bool.false_or]; exact beq_eq_false_iff_ne.mpr (by omega)) (by rw [some_, Bool.or_false]; exact decide_eq_false (by omega)) (by omega) (by
        unfold Builtin.Tuple.tupleTooMany
        rw [sizeLine_eq]
        exact decide_eq_false (by omega)) (by rw [size_rep, List.size_toArray]; exact flen)) ⟨at_, ?_⟩⟩)
  rw [size_rep]
  refine ⟨.ref s.heap.objs.size, _, I.laid (t' := s.toks) (o := .tup (List.replicate k.toNat xs).flatten) (fun _ _ z => Heap.get?_push_of_some _ z) (Nat.le_refl _) ?_, rfl, q _ (I.hok.fresh (Nat.le_refl _))⟩
  refine ⟨?_, _, tie.rep k.toNat, IsTup.new _ _⟩
  rw [PyProof.Rows.lm_len_rep_flat, sizeLine_eq]
  have a1 : k.toNat * xs.length ≤ 1000 * 1000 := Nat.mul_le_mul (by omega) hz
  omega
end
end L2
namespace DL
open PySem L2
variable [LTab]
def pRepA : P → P → Res P
  | .tuple a, .int k => if a ≠ [] ∧ -1000 ≤ k ∧ k ≤ 1000 ∧ a.length ≤ 1000 then .ok (.tuple (List.replicate k.toNat a).flatten) else .stuck
  | _, _ => .stuck
def pRepI : P → P → Res P
  | .int k, .tuple a => if a ≠ [] ∧ 2 ≤ k ∧ k ≤ 1000 ∧ a.length ≤ 1000 then .ok (.tuple (List.replicate k.toNat a).flatten) else .stuck
  | _, _ => .stuck
section
variable {X : Cx} {W : WX} {a b : Expr} {f g : DE P} {pos : Pos}
theorem od_repA : OpD X W pRepA (rRepA X.K) := fun σ F H x y d e Q c hx hy o => by
  unfold pRepA at o
  split at o
  · split at o
    · rename_i k hz
      obtain ⟨p, vs, rfl, h1, h2⟩ := hx.tup
      refine ⟨p, k, vs, rfl, int_of hy, c.sqT h1, fun z => hz.1 ?_, hz.2.1, hz.2.2.1, by rw [h2.len]; exact hz.2.2.2, fun one => ?_, fun _ t ht => ?_⟩
      · subst z
        cases h2
        rfl
      · subst one
        exact o _ F H (.refl c) (.tup h1 (by
          have := h2.rep 1
          simpa using h2))
      · exact o _ _ _ (.new c ht) (.tup (.of upd_same) ((h2.rep _).up (.new (c.none ht))))
    · exact o.elim
  · exact o.elim
theorem px_repA (ha : PE X a (teB X.K X.mg W f)) (hb : PE X b (teB X.K X.mg W g)) : PE X (.BinOp a .Mult b pos) (teD X.K X.mg W (dOp pRepA f g)) := px_bin op_repA od_repA ha hb
theorem od_repI : OpD X W pRepI (rRepI X.K) := fun σ F H x y d e Q c hx hy o => by
  unfold pRepI at o
  split at o
  · split at o
    · rename_i k a hz
      obtain ⟨p, vs, rfl, h1, h2⟩ := hy.tup
      refine ⟨p, k, vs, int_of hx, rfl, c.sqT h1, fun z => hz.1 ?_, hz.2.1, hz.2.2.1, by rw [h2.len]; exact hz.2.2.2, fun t ht => ?_⟩
      · subst z
        cases h2
        rfl
      · exact o _ _ _ (.new c ht) (.tup (.of upd_same) ((h2.rep _).up (.new (c.none ht))))
    · exact o.elim
  · exact o.elim
theorem px_repI (ha : PE X a (teB X.K X.mg W f)) (hb : PE X b (teB X.K X.mg W g)) : PE X (.BinOp a .Mult b pos) (teD X.K X.mg W (dOp pRepI f g)) := px_bin op_repI od_repI ha hb
end
end DL
namespace DL
open PySem L2
variable [LTab]
theorem ps_void {X : Cx} {ss : List Stmt} {W : WX} : PSs X ss (tsD X.K X.mg W fun _ => .stuck) := ⟨fun _ _ _ _ _ _ ⟨_, _, _, _, o⟩ => o.elim⟩
end DL

set_option Elab.async false
set_option linter.all false
set_option maxRecDepth 100000
set_option maxHeartbeats 4000000
/-! texts: join -/
namespace DL
open PySem L2
variable [LTab]
theorem rp_strs {K : PySem.W.Frag} {F : Hp} : ∀ {vs : List V} {ys : List Str}, RpAll K F vs (ys.map PyData.str) → vs = ys.map V.str
  | [], [], _ => rfl
  | _ :: _, [], h => nomatch h
  | [], _ :: _, h => nomatch h
  | v :: vs, y :: ys, h => by
    rw [List.map_cons] at h
    cases h with
    | cons r t =>
      cases r
      rw [rp_strs t, List.map_cons]
def pJoin : P → P → Res P
  | .str a, .list ds => match dStrs ds with
    | some ys => if (ys.map (·.length)).sum + ys.length * a.length ≤ lim then .ok (.str (Txt.join a ys)) else .stuck
    | none => .stuck
  | _, _ => .stuck
def needStr (d : P) (k : Res P) : Res P := match d with
  | .str _ => k
  | _ => .stuck
/-- a text's method on one thing -/
def dStrM (op : P → P → Res P) (f g : DE P) : DE P := fun δ => (f δ).bind fun x => needStr x ((g δ).bind fun y => op x y)
section
variable {X : Cx} {W : WX} {a e : Expr} {f g : DE P} {apos pos : Pos}
theorem px_join (ha : PE X a (teB X.K X.mg W f)) (he : PE X e (teB X.K X.mg W g)) (hs : starEach [e] X.env = [(false, eval e X.env)] := by rfl) (hbase : attributeBase a "join" X.env (eval a X.env) = eval a X.env := by rfl) (hline : (apos.endLine == pos.line) = true := by rfl) :
    PE X (.Call (.Attribute a "join" apos) [e] [] pos) (teD X.K X.mg W (dStrM pJoin f g)) :=
  PEi (pe_join ha he hs hbase hline) fun σ H Q ⟨B, F, δ, E, o⟩ => by
  obtain ⟨x1, s1, k1⟩ := outE_bind o
  refine teB.then E x1 s1 fun d v F1 H1 e1 X1 r1 => ?_
  have o1 := k1 d e1
  have isS : ∃ z, d = .str z := by
    unfold needStr at o1
    split at o1
    · exact ⟨_, rfl⟩
    · exact o1.elim
  obtain ⟨z, rfl⟩ := isS
  obtain ⟨x2, s2, k2⟩ := outE_bind (show OutE X.K X.mg W σ F H ((g δ).bind fun y => pJoin (.str z) y) Q from o1)
  refine ⟨⟨z, str_of r1⟩, ?_⟩
  refine teB.then (E.up X1) (fun n h => (x2 n h).up X1) s2 fun d2 u F2 H2 e2 X2 r2 => ?_
  have o3 := (k2 d2 e2).up (X1.trans X2)
  unfold pJoin at o3
  split at o3
  · rename_i z' ds heq
    split at o3
    · rename_i ys hy
      split at o3
      · rename_i hz
        obtain ⟨p, vs, rfl, h1, h2⟩ := r2.lst X2.c
        rw [strs_eq hy] at h2
        have ev := rp_strs h2
        subst ev
        cases heq
        exact ⟨_, p, ys, str_of r1, rfl, .inl (.of h1), hz, o3 _ F2 H2 (.refl X2.c) (.str _)⟩
      · exact o3.elim
    · exact o3.elim
  · exact o3.elim
end
end DL

set_option Elab.async false
set_option linter.all false
set_option maxRecDepth 100000
set_option maxHeartbeats 4000000
/-! objects: fields, a dict with int keys in a field, methods -/
namespace DL
open PySem L2 PyProof.Rows
variable [LTab]
section
variable {K : PySem.W.Frag} {B F H : Hp} {lk : Lk}
theorem Flds.get {f : Str} {d : P} : ∀ {gs : List (Str × V)} {fs : List (Str × P)}, Flds K B F H lk gs fs → fs.lookup f = some d → ∃ v, gs.lookup f = some v ∧ FldE K B F H lk v d
  | _, _, .nil, h => nomatch h
  | _, _, .cons (n := n) (v := v) h t, e => by
    rw [List.lookup_cons] at e ⊢
    cases q : f == n with
    | true =>
      rw [q] at e
      cases e
      exact ⟨v, rfl, h⟩
    | false =>
      rw [q] at e
      exact Flds.get t e
theorem lookup_none {f : Str} : ∀ {gs : List (Str × V)}, (∀ n v, (n, v) ∈ gs → n ∈ aNames) → f ∉ aNames → gs.lookup f = none
  | [], _, _ => rfl
  | (n, v) :: gs, h, hf => by
    rw [List.lookup_cons]
    have e : (f == n) = false := beq_eq_false_iff_ne.mpr fun z => hf (z ▸ h n v List.mem_cons_self)
    rw [e]
    exact lookup_none (fun m u hm => h m u (List.mem_cons_of_mem _ hm)) hf
end
def fldOf (fs : List (Str × P)) (f : Str) : Res P := match fs.lookup f with
  | some (.dict _) => .stuck
  | some d => .ok d
  | none => .stuck
/-- o.f, o a name -/
def dFld (i : Nat) (f : Str) : DE P := fun δ => match δ[i]? with
  | some (.obj _ _ fs) => fldOf fs f
  | _ => .stuck
def lookP : List (P × P) → Int → Option P
  | [], _ => none
  | (.int i, d) :: ms, k => if i = k then some d else lookP ms k
  | _ :: ms, k => lookP ms k
def putP : List (P × P) → Int → P → List (P × P)
  | [], k, d => [(.int k, d)]
  | (.int i, e) :: ms, k, d => if i = k then (.int i, d) :: ms else (.int i, e) :: putP ms k d
  | x :: ms, k, d => x :: putP ms k d
def dictOf (fs : List (Str × P)) (f : Str) : Option (List (P × P)) := match fs.lookup f with
  | some (.dict ms) => some ms
  | _ => none
def getK (ms : List (P × P)) (k : P) : Res P := match k with
  | .int j => (match lookP ms j with
    | some d => .ok d
    | none => .stuck)
  | _ => .stuck
/-- o.f[k] -/
def dDGet (i : Nat) (f : Str) (fk : DE P) : DE P := fun δ => match δ[i]? with
  | some (.obj _ _ fs) => (match dictOf fs f with
    | some ms => (fk δ).bind fun k => getK ms k
    | none => .stuck)
  | _ => .stuck
/-- list(o.f), o not locked -/
def dKeys (i : Nat) (f : Str) : DE (List P) := fun δ => match δ[i]? with
  | some (.obj (.free _) _ fs) => (match dictOf fs f with
    | some ms => .ok (ms.map (·.1))
    | none => .stuck)
  | _ => .stuck
/-- len(o.f), o not locked -/
def dDLen (i : Nat) (f : Str) : DE P := fun δ => match δ[i]? with
  | some (.obj (.free _) _ fs) => (match dictOf fs f with
    | some ms => .ok (.int ms.length)
    | none => .stuck)
  | _ => .stuck
theorem dictOf_ok {fs : List (Str × P)} {f : Str} {ms : List (P × P)} (h : dictOf fs f = some ms) : fs.lookup f = some (.dict ms) := by
  unfold dictOf at h
  split at h
  · rename_i e
    cases h
    exact e
  · cases h
section
variable {K : PySem.W.Frag} {F : Hp}
theorem RpKv.look : ∀ {kvs : List (Key × V)} {ms : List (P × P)} {k : Int} {d : P}, RpKv K F kvs ms → lookP ms k = some d → ∃ v, valV kvs (Sum.inl k : Key) = some v ∧ Rp K F v d
  | _, _, _, _, .nil, h => nomatch h
  | _, _, k, d, .cons (i := i) h t, e => by
    unfold lookP at e
    by_cases q : i = k
    · subst q
      rw [if_pos rfl] at e
      cases e
      exact ⟨_, valV_pos rfl, h⟩
    · rw [if_neg q] at e
      obtain ⟨v, h1, h2⟩ := RpKv.look t e
      exact ⟨v, (valV_neg (fun z => q (Sum.inl.inj z))).trans h1, h2⟩
theorem RpKv.keys : ∀ {kvs : List (Key × V)} {ms : List (P × P)}, RpKv K F kvs ms → RpAll K F (kvs.map fun kv => kV kv.1) (ms.map (·.1))
  | _, _, .nil => .nil
  | _, _, .cons h t => .cons (.int _) (RpKv.keys t)
theorem RpKv.len : ∀ {kvs : List (Key × V)} {ms : List (P × P)}, RpKv K F kvs ms → kvs.length = ms.length
  | _, _, .nil => rfl
  | _, _, .cons h t => by rw [List.length_cons, List.length_cons, RpKv.len t]
theorem RpKv.keyAt : ∀ {kvs : List (Key × V)} {ms : List (P × P)} {i : Nat} {k : Key} {v : V}, RpKv K F kvs ms → kvs[i]? = some (k, v) → ∃ j d, k = Sum.inl j ∧ (ms.map (·.1))[i]? = some d ∧ d = .int j
  | _, _, _, _, _, .nil, h => by simp at h
  | _, _, 0, _, _, .cons h t, e => by
    simp at e
    exact ⟨_, _, e.1.symm, rfl, rfl⟩
  | _, _, i + 1, k, v, .cons h t, e => by
    obtain ⟨j, d, h1, h2, h3⟩ := RpKv.keyAt (i := i) (k := k) (v := v) t (by simpa using e)
    exact ⟨j, d, h1, by simpa using h2, h3⟩
/-- dict keys are all unlike, as the machine has them -/
theorem putK_id {k : Key} {v : V} : ∀ {kvs : List (Key × V)}, (∀ kv ∈ kvs, kv.1 ≠ k) → kvs.map (fun kv => if kv.1 = k then (kv.1, v) else kv) = kvs
  | [], _ => rfl
  | p :: kvs, h => by
    rw [List.map_cons, if_neg (h p List.mem_cons_self), putK_id fun kv hm => h kv (List.mem_cons_of_mem _ hm)]
theorem putK_cons_eq {k : Key} {v w : V} {kvs : List (Key × V)} (h : ∀ kv ∈ kvs, kv.1 ≠ k) : putK ((k, w) :: kvs) k v = (k, v) :: kvs := by
  unfold putK
  rw [if_pos (by simp), List.map_cons, if_pos rfl, putK_id h]
theorem putK_cons_ne {k l : Key} {v w : V} {kvs : List (Key × V)} (h : l ≠ k) : putK ((l, w) :: kvs) k v = (l, w) :: putK kvs k v := by
  unfold putK
  rw [List.any_cons, decide_eq_false h, Bool.false_or]
  split
  · rw [List.map_cons, if_neg h]
  · rfl
def noDup : List (P × P) → Prop
  | [] => True
  | (.int i, _) :: ms => (∀ p ∈ ms, p.1 ≠ .int i) ∧ noDup ms
  | _ :: ms => noDup ms
theorem RpKv.key_ne : ∀ {kvs : List (Key × V)} {ms : List (P × P)} {k : Int}, RpKv K F kvs ms → (∀ p ∈ ms, p.1 ≠ .int k) → ∀ kv ∈ kvs, kv.1 ≠ (Sum.inl k : Key)
  | _, _, _, .nil, _, _, h => nomatch h
  | _, _, k, .cons (i := i) (d := d) h t, hn, kv, hm => by
    rcases List.mem_cons.mp hm with e | e
    · subst e
      intro z
      exact hn (.int i, d) List.mem_cons_self (by rw [Sum.inl.inj z])
    · exact RpKv.key_ne t (fun p hp => hn p (List.mem_cons_of_mem _ hp)) kv e
theorem RpKv.put {k : Int} {v : V} {d : P} (r : Rp K F v d) : ∀ {kvs : List (Key × V)} {ms : List (P × P)}, RpKv K F kvs ms → noDup ms → RpKv K F (putK kvs (Sum.inl k) v) (putP ms k d)
  | _, _, .nil, _ => .cons r .nil
  | _, _, .cons (i := i) h t, nd => by
    unfold putP
    unfold noDup at nd
    by_cases q : i = k
    · subst q
      rw [if_pos rfl, putK_cons_eq (t.key_ne nd.1)]
      exact .cons r t
    · rw [if_neg q, putK_cons_ne (fun z => q (Sum.inl.inj z))]
      exact .cons h (RpKv.put r t nd.2)
end
open Classical in
/-- whether the keys are unlike -/
noncomputable def okD' (ms : List (P × P)) : Bool := decide (noDup ms ∧ ms.length < 1000)
open Classical in
theorem okD'_iff {ms : List (P × P)} : okD' ms = true ↔ noDup ms ∧ ms.length < 1000 := by
  unfold okD'
  exact decide_eq_true_iff
/-- only that object is at hand -/
def loneB (i : Nat) (δ : DEnv) : Bool := (δ.set i .un).all fun s => match s with
  | .obj .. => false
  | _ => true
theorem lone_of {i : Nat} {δ : DEnv} (h : loneB i δ = true) {j : Nat} {lk : Lk} {c : Str} {fs : List (Str × P)} (hj : δ[j]? = some (.obj lk c fs)) : j = i := by
  by_cases e : j = i
  · exact e
  · have h2 : (δ.set i .un)[j]? = some (.obj lk c fs) := by
      rw [List.getElem?_set_ne (Ne.symm e)]
      exact hj
    have := List.all_eq_true.mp h _ (List.mem_of_getElem? h2)
    cases this
section
variable {X : Cx} {W : WX} {e : Expr} {f : Str} {fk fe : DE P} {x : Str} {p p2 pos : Pos} {i : Nat}
theorem px_fld (hN : X.N[i]? = some x) (hv : Vis X.env.scope x) (hfn : f ∈ aNames := by decide) (hb : attributeBase (.Name x p) f X.env (eval (.Name x p) X.env) = eval (.Name x p) X.env := by rfl) (hd : (x == ("__debug__" : Str)) = false := by decide) (hcd : (x == ("__classdict__" : Str)) = false := by decide) :
    PE X (.Attribute (.Name x p) f pos) (teD X.K X.mg W (dFld i f)) := PEi (pe_fld (pe_var hN hv hd hcd) hb) fun σ H Q ⟨B, F, δ, E, o⟩ => by
  unfold dFld at o
  split at o
  · rename_i lk c fs h
    obtain ⟨a, h1, hO⟩ := E.obj i _ _ _ h
    obtain ⟨C, dx, gs, h2, h3, h4, h5, h6, h7, h8⟩ := hO.ex
    unfold fldOf at o
    split at o
    · exact o.elim
    · rename_i d hnd hl
      obtain ⟨v, hv, hr⟩ := h6.get hl
      cases hr with
      | val hr _ => exact ⟨.ref a, h1, a, C, dx, gs, v, rfl, h3, h7.1, h7.2 f hfn, hv, o v F H (.refl E.c) hr⟩
      | dic _ _ _ => exact (hnd _ rfl).elim
    · exact o.elim
  · exact o.elim
/-- the dict of a field -/
theorem dict_at {σ : L2.St} {B F H : Hp} {δ : DEnv} (E : EnvOk X.K B F H σ δ) {lk : Lk} {c : Str} {fs : List (Str × P)} {ms : List (P × P)} (h : δ[i]? = some (.obj lk c fs)) (hm : dictOf fs f = some ms) (hfn : f ∈ aNames) :
    ∃ a C dx gs m kvs, σ[i]? = some (some (.ref a)) ∧ H a = some (.ins C dx gs) ∧ Cls X.K C ∧ NoAttr X.K C f ∧ gs.lookup f = some (.ref m) ∧ RpKv X.K F kvs ms ∧ F m = none ∧ DicAt B H lk m kvs := by
  obtain ⟨a, h1, hO⟩ := E.obj i _ _ _ h
  obtain ⟨C, dx, gs, h2, h3, h4, h5, h6, h7, h8⟩ := hO.ex
  obtain ⟨v, hv, hr⟩ := h6.get (dictOf_ok hm)
  cases hr with
  | val _ hr => exact (hr _ rfl).elim
  | dic r1 r2 r3 => exact ⟨a, C, dx, gs, _, _, h1, h3, h7.1, h7.2 f hfn, hv, r1, r2, r3⟩
theorem px_dget {k : Nat} (hr : Room k X.A) (hN : X.N[i]? = some x) (hv : Vis X.env.scope x) (hk : PE X e (teD X.K X.mg W fk)) (hfn : f ∈ aNames := by decide) (hs : NoSl e := by exact fun _ _ => rfl) (hb : attributeBase (.Name x p) f X.env (eval (.Name x p) X.env) = eval (.Name x p) X.env := by rfl) (hd : (x == ("__debug__" : Str)) = false := by decide) (hcd : (x == ("__classdict__" : Str)) = false := by decide) :
    PE X (.Subscript (.Attribute (.Name x p) f p2) e pos) (teD X.K X.mg W (dDGet i f fk)) := PEi (pe_dget (hu_of hr) (pe_fld (pe_var hN hv hd hcd) hb) hk hs) fun σ H Q ⟨B, F, δ, E, o⟩ => by
  unfold dDGet at o
  split at o
  · rename_i lk c fs h
    split at o
    · rename_i ms hm
      obtain ⟨a, C, dx, gs, m, kvs, h1, h2, h3, h4, h5, h6, h7, h8⟩ := dict_at E h hm hfn
      refine ⟨.ref a, h1, a, C, dx, gs, .ref m, rfl, h2, h3, h4, h5, ?_⟩
      obtain ⟨x1, s1, k1⟩ := outE_bind o
      refine teD.then E x1 s1 fun d v F1 H1 e1 X1 r1 => ?_
      have o1 := (k1 d e1).up X1
      unfold getK at o1
      split at o1
      · rename_i j
        split at o1
        · rename_i d' hl
          obtain ⟨v', hv1, hv2⟩ := h6.look hl
          cases r1
          have rd : Rd H1 m (.dK kvs) := by
            rcases h8.rd E.b with q | ⟨oo, q⟩
            · exact .inl (X1.h.k _ _ q)
            · exact .inr ⟨oo, X1.h.k _ _ q⟩
          exact ⟨m, v', rfl, .inl ⟨kvs, Sum.inl j, rd, rfl, hv1.symm⟩, o1 v' F1 H1 (.refl X1.c) (hv2.up X1.f)⟩
        · exact o1.elim
      · exact o1.elim
    · exact o.elim
  · exact o.elim
theorem pl_keys (hc : X.calm = true) (hg : Gl X "list") (hm : X.mg "list" = none) (hN : X.N[i]? = some x) (hv : Vis X.env.scope x) (hfn : f ∈ aNames := by decide) (hb : attributeBase (.Name x p) f X.env (eval (.Name x p) X.env) = eval (.Name x p) X.env := by rfl) (hd : (x == ("__debug__" : Str)) = false := by decide) (hcd : (x == ("__classdict__" : Str)) = false := by decide)
    {p3 p4 : Pos} (hs : starEach [.Attribute (.Name x p) f p2] X.env = (false, eval (.Attribute (.Name x p) f p2) X.env) :: starEach [] X.env := by rfl) :
    PE X (.Call (.Name "list" p3) [.Attribute (.Name x p) f p2] [] p4) (teL X.K X.mg W (dKeys i f)) := PEi (pe_callTy (call_list_dK hc) hg hm PyProof.Rows.boot_list (pa_cons (pe_fld (pe_var hN hv hd hcd) hb) pa_nil hs) (he := hs)) fun σ H Q ⟨B, F, δ, E, o⟩ => by
  unfold dKeys at o
  split at o
  · rename_i q0 c fs h
    split at o
    · rename_i ms hms
      obtain ⟨a, C, dx, gs, m, kvs, h1, h2, h3, h4, h5, h6, h7, h8⟩ := dict_at E h hms hfn
      refine ⟨.ref a, h1, a, C, dx, gs, .ref m, rfl, h2, h3, h4, h5, m, kvs, rfl, h8.1, fun q hq => ?_⟩
      exact o q _ F _ (.newH E.c hq) hq (E.c.none hq) upd_same h6.keys
    · exact o.elim
  · exact o.elim
theorem px_dlen (hg : Gl X "len") (hm : X.mg "len" = none) (hN : X.N[i]? = some x) (hv : Vis X.env.scope x) (hfn : f ∈ aNames := by decide) (hb : attributeBase (.Name x p) f X.env (eval (.Name x p) X.env) = eval (.Name x p) X.env := by rfl) (hd : (x == ("__debug__" : Str)) = false := by decide) (hcd : (x == ("__classdict__" : Str)) = false := by decide)
    {p3 p4 : Pos} (hs : starEach [.Attribute (.Name x p) f p2] X.env = (false, eval (.Attribute (.Name x p) f p2) X.env) :: starEach [] X.env := by rfl) :
    PE X (.Call (.Name "len" p3) [.Attribute (.Name x p) f p2] [] p4) (teD X.K X.mg W (dDLen i f)) := PEi (pe_callB call_lenD hg hm PySem.boot_len (pa_cons (pe_fld (pe_var hN hv hd hcd) hb) pa_nil hs) (he := hs)) fun σ H Q ⟨B, F, δ, E, o⟩ => by
  unfold dDLen at o
  split at o
  · rename_i q0 c fs h
    split at o
    · rename_i ms hms
      obtain ⟨a, C, dx, gs, m, kvs, h1, h2, h3, h4, h5, h6, h7, h8⟩ := dict_at E h hms hfn
      refine ⟨.ref a, h1, a, C, dx, gs, .ref m, rfl, h2, h3, h4, h5, m, kvs, rfl, h8.1, ?_⟩
      rw [h6.len]
      exact o _ F H (.refl E.c) (.int _)
    · exact o.elim
  · exact o.elim
end
end DL

set_option Elab.async false
set_option linter.all false
set_option maxRecDepth 100000
set_option maxHeartbeats 4000000
/-! objects: loops over the dict of a field, stores -/
namespace DL
open PySem L2 PyProof.Rows
variable [LTab]
def isDct : HO → Bool
  | .dK _ => true
  | .frz _ (.dK _) => true
  | _ => false
section
variable {K : PySem.W.Frag} {B B' F F' H H' : Hp} {lk lk' : Lk}
theorem DicAt.isD (b : Ex B H) {m : Addr} {kvs : List (Key × V)} (h : DicAt B H lk m kvs) : ∃ o, H m = some o ∧ isDct o = true := by
  rcases h.rd b with q | ⟨o, q⟩
  · exact ⟨_, q, rfl⟩
  · exact ⟨_, q, rfl⟩
/-- where nothing of its dicts changes -/
theorem FldE.chgD (b : Ex B H) (e : Ex F F') (hF : ∀ a o, F a = none → H a = some o → isDct o = true → F' a = none) (hH : ∀ a o, H a = some o → isDct o = true → H' a = some o) (hB : ∀ a o, H a = some o → isDct o = true → B' a = B a) {v : V} {d : P} (h : FldE K B F H lk v d) : FldE K B' F' H' lk v d := by
  cases h with
  | val h1 h2 => exact .val (h1.up e) h2
  | dic h1 h2 h3 =>
    obtain ⟨o, h4, h5⟩ := h3.isD b
    refine .dic (h1.up e) (hF _ _ h2 h4 h5) ?_
    cases lk with
    | free q => exact ⟨hH _ _ h3.1 rfl, by rw [hB _ _ h4 h5]; exact h3.2⟩
    | fix q =>
      obtain ⟨u, h6, h7⟩ := h3
      exact ⟨u, by rw [hB _ _ h4 h5]; exact h6, h7⟩
theorem Flds.chgD (b : Ex B H) (e : Ex F F') (hF : ∀ a o, F a = none → H a = some o → isDct o = true → F' a = none) (hH : ∀ a o, H a = some o → isDct o = true → H' a = some o) (hB : ∀ a o, H a = some o → isDct o = true → B' a = B a) : ∀ {gs : List (Str × V)} {fs : List (Str × P)}, Flds K B F H lk gs fs → Flds K B' F' H' lk gs fs
  | _, _, .nil => .nil
  | _, _, .cons h t => .cons (h.chgD b e hF hH hB) (Flds.chgD b e hF hH hB t)
theorem set_at {δ : DEnv} {i j : Nat} {s t : Slot} (h : (δ.set i s)[j]? = some t) : (j = i ∧ t = s) ∨ (j ≠ i ∧ δ[j]? = some t) := by
  by_cases e : j = i
  · subst e
    have hj : j < δ.length := by
      have := (List.getElem?_eq_some_iff.mp h).1
      simpa using this
    rw [List.getElem?_set_self hj] at h
    cases h
    exact .inl ⟨rfl, rfl⟩
  · rw [List.getElem?_set_ne (Ne.symm e)] at h
    exact .inr ⟨e, h⟩
/-- the object at i is another one now, at its place -/
theorem EnvOk.reObj {σ : L2.St} {δ : DEnv} (E : EnvOk K B F H σ δ) {i : Nat} {a : Addr} {lk : Lk} {c c' : Str} {fs fs' : List (Str × P)} (hs : σ[i]? = some (some (.ref a))) (h : δ[i]? = some (.obj lk c fs)) (hc : Ex F' H') (hb : Ex B' H') (ht : TabsIn B') (hf : Ex F F')
    (own : ∀ p vs, H p = some (.lst vs) → F p = none → B p = none → H' p = some (.lst vs) ∧ F' p = none ∧ B' p = none) (ho : ObjE K B' F' H' lk' c' fs' a)
    (oth : ∀ j p lk2 c2 fs2, j ≠ i → δ[j]? = some (.obj lk2 c2 fs2) → p ≠ a → ObjE K B F H lk2 c2 fs2 p → ObjE K B' F' H' lk2 c2 fs2 p) : EnvOk K B' F' H' σ (δ.set i (.obj lk' c' fs')) := by
  refine ⟨hc, hb, ht, by rw [List.length_set]; exact E.len, fun j d q => ?_, fun j ds q => ?_, fun j k ds es p hjk q1 q2 q3 => ?_, fun j v q => ?_, fun j l2 c2 fs2 q => ?_, fun j k l2 l3 c2 c3 f2 f3 p hjk q1 q2 q3 => ?_⟩
  · rcases set_at q with ⟨_, z⟩ | ⟨_, z⟩
    · cases z
    · obtain ⟨v, h1, h2⟩ := E.val j d z
      exact ⟨v, h1, h2.up hf⟩
  · rcases set_at q with ⟨_, z⟩ | ⟨_, z⟩
    · cases z
    · obtain ⟨p, vs, h1, h2, h3, h4, h5⟩ := E.own j ds z
      obtain ⟨a1, a2, a3⟩ := own p vs h2 h4 h5
      exact ⟨p, vs, h1, a1, h3.up hf, a2, a3⟩
  · rcases set_at q1 with ⟨_, z⟩ | ⟨_, z⟩
    · cases z
    · rcases set_at q2 with ⟨_, z2⟩ | ⟨_, z2⟩
      · cases z2
      · exact E.apart j k ds es p hjk z z2 q3
  · rcases set_at q with ⟨_, z⟩ | ⟨_, z⟩
    · cases z
    · exact E.raw j v z
  · rcases set_at q with ⟨e1, z⟩ | ⟨e1, z⟩
    · cases z
      subst e1
      exact ⟨a, hs, ho⟩
    · obtain ⟨p, h1, h2⟩ := E.obj j l2 c2 fs2 z
      have hp : p ≠ a := fun e => by
        subst e
        exact E.far i j _ _ _ _ _ _ p (Ne.symm e1) h z hs h1
      exact ⟨p, h1, oth j p l2 c2 fs2 e1 z hp h2⟩
  · have key : ∀ {j : Nat} {l2 : Lk} {c2 : Str} {f2 : List (Str × P)}, (δ.set i (.obj lk' c' fs'))[j]? = some (.obj l2 c2 f2) → ∃ l4 c4 f4, δ[j]? = some (.obj l4 c4 f4) := fun {j l2 c2 f2} q => by
      rcases set_at q with ⟨e1, z⟩ | ⟨e1, z⟩
      · subst e1
        exact ⟨_, _, _, h⟩
      · exact ⟨_, _, _, z⟩
    obtain ⟨l4, c4, f4, z1⟩ := key q1
    obtain ⟨l5, c5, f5, z2⟩ := key q2
    exact E.far j k l4 l5 c4 c5 f4 f5 p hjk z1 z2 q3
end
open Classical in
/-- the heap that stands while the dict at m is walked -/
noncomputable def lockB (B H : Hp) (a m : Addr) (gs : List (Str × V)) (od : Obj) (kvs : List (Key × V)) : Hp := fun b => if b = a then H a else if b = m then some (.frz od (.dK kvs)) else if (∃ ks, H b = some (.dK ks)) ∧ ∃ n, (n, V.ref b) ∈ gs then H b else B b
section
variable {K : PySem.W.Frag} {B F F' H H' : Hp} {a m : Addr} {gs : List (Str × V)} {fs : List (Str × P)} {od : Obj} {kvs : List (Key × V)} {q : Option Addr}
theorem lockB_a : lockB B H a m gs od kvs a = H a := if_pos rfl
theorem lockB_m (h : m ≠ a) : lockB B H a m gs od kvs m = some (.frz od (.dK kvs)) := by
  unfold lockB
  rw [if_neg h, if_pos rfl]
theorem lockB_d {b : Addr} {ks : List (Key × V)} {n : Str} (h1 : b ≠ a) (h2 : b ≠ m) (h3 : H b = some (.dK ks)) (h4 : (n, V.ref b) ∈ gs) : lockB B H a m gs od kvs b = H b := by
  unfold lockB
  rw [if_neg h1, if_neg h2, if_pos ⟨⟨ks, h3⟩, n, h4⟩]
theorem lockB_o {b : Addr} (h1 : b ≠ a) (h2 : b ≠ m) (h3 : ∀ ks, H b ≠ some (.dK ks)) : lockB B H a m gs od kvs b = B b := by
  unfold lockB
  rw [if_neg h1, if_neg h2, if_neg fun ⟨⟨ks, z⟩, _⟩ => h3 ks z]
theorem lockB_of (b : Ex B H) (hBa : B a = none) (hBm : B m = none) {x : Addr} {o : HO} (h : B x = some o) (n : isTb o = false) : lockB B H a m gs od kvs x = some o := by
  unfold lockB
  have h1 : x ≠ a := fun z => by rw [z, hBa] at h; cases h
  have h2 : x ≠ m := fun z => by rw [z, hBm] at h; cases h
  rw [if_neg h1, if_neg h2]
  split
  · exact b.k _ _ h n
  · exact h
theorem lockB_so (b : Ex B H) (hBa : B a = none) (hBm : B m = none) {x : Addr} {o : HO} (h : B x = some o) : lockB B H a m gs od kvs x ≠ none := by
  unfold lockB
  have h1 : x ≠ a := fun z => by rw [z, hBa] at h; cases h
  have h2 : x ≠ m := fun z => by rw [z, hBm] at h; cases h
  rw [if_neg h1, if_neg h2]
  split
  · exact b.so _ _ h
  · rw [h]
    nofun
theorem lockB_ex (b : Ex B H) (hBa : B a = none) (hBm : B m = none) : Ex B (lockB B H a m gs od kvs) := by
  refine ⟨fun x o h n => lockB_of b hBa hBm h n, fun P q hm z => ?_, fun x o h => lockB_so b hBa hBm h⟩
  obtain ⟨ps', hp, _, _⟩ := b.tb P q hm z
  obtain ⟨ps, z1, z2, z3⟩ := z
  have h1 : P ≠ a := fun z => by rw [z, hBa] at z1; cases z1
  have h2 : P ≠ m := fun z => by rw [z, hBm] at z1; cases z1
  refine ⟨ps, by rw [lockB_o h1 h2 fun ks z => by rw [hp] at z; cases z]; exact z1, z2, fun pos cv hc => ?_⟩
  obtain ⟨c, c1, c2⟩ := z3 pos cv hc
  exact ⟨c, c1, lockB_of b hBa hBm c2 rfl⟩
theorem lock_ex (b : Ex B H) (hBa : B a = none) (hBm : B m = none) {C dx : Addr} {gs' : List (Str × V)} (hHa : H a = some (.ins C dx gs')) (hHm : H m = some (.dK kvs)) (hma : m ≠ a) : Ex (lockB B H a m gs od kvs) (upd H m (.frz od (.dK kvs))) := by
  have sp : ∀ {x : Addr} {o : HO}, lockB B H a m gs od kvs x = some o → (x = a ∧ o = .ins C dx gs') ∨ (x = m ∧ o = .frz od (.dK kvs)) ∨ (x ≠ m ∧ ((∃ ks, H x = some (.dK ks) ∧ o = .dK ks) ∨ B x = some o)) := fun {x o} h => by
    unfold lockB at h
    by_cases h1 : x = a
    · subst h1
      rw [if_pos rfl, hHa] at h
      cases h
      exact .inl ⟨rfl, rfl⟩
    · rw [if_neg h1] at h
      by_cases h2 : x = m
      · rw [if_pos h2] at h
        cases h
        exact .inr (.inl ⟨h2, rfl⟩)
      · rw [if_neg h2] at h
        split at h
        · rename_i z
          obtain ⟨⟨ks, hk⟩, _⟩ := z
          rw [hk] at h
          cases h
          exact .inr (.inr ⟨h2, .inl ⟨ks, hk, rfl⟩⟩)
        · exact .inr (.inr ⟨h2, .inr h⟩)
  refine ⟨fun x o h n => ?_, fun P q hm z => ?_, fun x o h => ?_⟩
  · rcases sp h with ⟨rfl, rfl⟩ | ⟨rfl, rfl⟩ | ⟨h2, ⟨ks, hk, rfl⟩ | hb⟩
    · rw [upd_ne (Ne.symm hma)]
      exact hHa
    · exact upd_same
    · rw [upd_ne h2]
      exact hk
    · rw [upd_ne h2]
      exact b.k _ _ hb n
  · obtain ⟨ps, z1, z2, z3⟩ := z
    refine (b.mut (o := .frz od (.dK kvs)) hBm (.of hHm nofun)).tb P q hm ⟨ps, ?_, z2, fun pos cv hc => ?_⟩
    · rcases sp z1 with ⟨_, e⟩ | ⟨_, e⟩ | ⟨h2, ⟨ks, hk, e⟩ | hb⟩
      · cases e
      · cases e
      · cases e
      · exact hb
    · obtain ⟨c, c1, c2⟩ := z3 pos cv hc
      refine ⟨c, c1, ?_⟩
      rcases sp c2 with ⟨_, e⟩ | ⟨_, e⟩ | ⟨h2, ⟨ks, hk, e⟩ | hb⟩
      · cases e
      · cases e
      · cases e
      · exact hb
  · rcases sp h with ⟨rfl, rfl⟩ | ⟨rfl, rfl⟩ | ⟨h2, ⟨ks, hk, rfl⟩ | hb⟩
    · rw [upd_ne (Ne.symm hma), hHa]
      nofun
    · rw [upd_same]
      nofun
    · rw [upd_ne h2, hk]
      nofun
    · rw [upd_ne h2]
      exact b.so _ _ hb
theorem Flds.lock (hm : H m = some (.dK kvs)) (hma : m ≠ a) (ha : ∀ ks, H a ≠ some (.dK ks)) (q' : Option Addr) : ∀ {ls : List (Str × V)} {es : List (Str × P)}, Flds K B F H (.free q) ls es → (∀ n v, (n, v) ∈ ls → (n, v) ∈ gs) → Flds K (lockB B H a m gs od kvs) F (upd H m (.frz od (.dK kvs))) (.fix q') ls es
  | _, _, .nil, _ => .nil
  | _, _, .cons (n := n) (v := v) h t, hs => by
    refine .cons ?_ (Flds.lock hm hma ha q' t fun n v hv => hs n v (List.mem_cons_of_mem _ hv))
    cases h with
    | val h1 h2 => exact .val h1 h2
    | dic h1 h2 h3 =>
      rename_i b ks ms
      refine .dic h1 h2 ?_
      by_cases e : b = m
      · subst e
        have h4 := h3.1
        rw [hm] at h4
        cases h4
        exact ⟨_, lockB_m hma, .inr ⟨od, rfl⟩⟩
      · have hba : b ≠ a := fun z => ha ks (z ▸ h3.1)
        exact ⟨_, (lockB_d hba e h3.1 (hs n _ List.mem_cons_self)).trans h3.1, .inl rfl⟩
theorem Flds.unlock (hm : H m = some (.dK kvs)) (hma : m ≠ a) (ha : ∀ ks, H a ≠ some (.dK ks)) (hb' : Ex (lockB B H a m gs od kvs) H') (hf : Ex F F') (hn : ∀ p, F p = none → lockB B H a m gs od kvs p ≠ none → F' p = none) : ∀ {ls : List (Str × V)} {es : List (Str × P)}, Flds K B F H (.free q) ls es → (∀ n v, (n, v) ∈ ls → (n, v) ∈ gs) → Flds K B F' (upd H' m (.dK kvs)) (.free q) ls es
  | _, _, .nil, _ => .nil
  | _, _, .cons (n := n) (v := v) h t, hs => by
    refine .cons ?_ (Flds.unlock hm hma ha hb' hf hn t fun n v hv => hs n v (List.mem_cons_of_mem _ hv))
    cases h with
    | val h1 h2 => exact .val (h1.up hf) h2
    | dic h1 h2 h3 =>
      rename_i b ks ms
      by_cases e : b = m
      · subst e
        have h4 := h3.1
        rw [hm] at h4
        cases h4
        exact .dic (h1.up hf) (hn _ h2 (by rw [lockB_m hma]; nofun)) ⟨upd_same, h3.2⟩
      · have hba : b ≠ a := fun z => ha ks (z ▸ h3.1)
        have h5 := (lockB_d (B := B) (od := od) (kvs := kvs) hba e h3.1 (hs n _ List.mem_cons_self)).trans h3.1
        exact .dic (h1.up hf) (hn _ h2 (by rw [h5]; nofun)) ⟨by rw [upd_ne e]; exact hb'.k _ _ h5, h3.2⟩
end
open Classical in
/-- for k in o.f: what it comes to, the same wherever o stands -/
noncomputable def sKeysFor (i : Nat) (f : Str) (bd : Bd) (g : DEnv → SRes) : DEnv → SRes := fun δ => match δ[i]? with
  | some (.obj (.free q) c fs) => (match dictOf fs f with
    | some ms => if h : loneB i δ = true ∧ ∃ δe, (loneB i δe = true ∧ i < δe.length) ∧ ∀ a, forGo bd g (ms.map (·.1)) (δ.set i (.obj (.fix (some a)) c fs)) = .nx (δe.set i (.obj (.fix (some a)) c fs)) then .nx (h.2.choose.set i (.obj (.free q) c fs)) else .stuck
    | none => .stuck)
  | _ => .stuck
theorem keysFor_is {i : Nat} {f : Str} {bd : Bd} {g : DEnv → SRes} {δ δe : DEnv} {q : Option Addr} {c : Str} {fs : List (Str × P)} {ms : List (P × P)} (h : δ[i]? = some (.obj (.free q) c fs)) (hm : dictOf fs f = some ms) (hl : loneB i δ = true) (hl2 : loneB i δe = true) (hle : i < δe.length)
    (hr : ∀ a, forGo bd g (ms.map (·.1)) (δ.set i (.obj (.fix (some a)) c fs)) = .nx (δe.set i (.obj (.fix (some a)) c fs))) : sKeysFor i f bd g δ = .nx (δe.set i (.obj (.free q) c fs)) := by
  unfold sKeysFor
  rw [h]
  dsimp only
  rw [hm]
  have e : loneB i δ = true ∧ ∃ δe, (loneB i δe = true ∧ i < δe.length) ∧ ∀ a, forGo bd g (ms.map (·.1)) (δ.set i (.obj (.fix (some a)) c fs)) = .nx (δe.set i (.obj (.fix (some a)) c fs)) := ⟨hl, δe, ⟨hl2, hle⟩, hr⟩
  dsimp only
  rw [dif_pos e]
  have z := (e.2.choose_spec.2 0).symm.trans (hr 0)
  have z2 : e.2.choose.set i (.obj (.fix (some 0)) c fs) = δe.set i (.obj (.fix (some 0)) c fs) := SRes.nx.inj z
  have z3 := congrArg (fun l => List.set l i (Slot.obj (.free q) c fs)) z2
  simp only [List.set_set] at z3
  rw [z3]
section
variable {X : Cx} {W : WX} {f x : Str} {p p2 pos : Pos} {i : Nat} {tg : Expr} {body : List Stmt} {bd : Bd} {ix : List Nat} {g : DEnv → SRes}
theorem loneB_set {i : Nat} {δ : DEnv} {s : Slot} : loneB i (δ.set i s) = loneB i δ := by
  unfold loneB
  rw [List.set_set]
theorem sx_keysEnd {X : Cx} {W : WX} {i : Nat} {D : Ends} {B F H F' H' : Hp} {σ σ' : L2.St} {δ δe : DEnv} {a C dx m : Addr} {gs : List (Str × V)} {kvs : List (Key × V)} {od : Obj} {q : Option Addr} {c : Str} {fs : List (Str × P)} (E : EnvOk X.K B F H σ δ) (h1 : σ[i]? = some (some (.ref a))) (h : δ[i]? = some (.obj (.free q) c fs)) (hl : loneB i δ = true) (hl2 : loneB i δe = true) (hi : i < δe.length)
    (h2 : PySem.W.nsIn X.K mainGlobals c = some (some (.ref C))) (h3 : H a = some (.ins C dx gs)) (h4 : F a = none) (h5 : FixAt B (.free q) a (.ins C dx gs)) (h6 : Flds X.K B F H (.free q) gs fs) (h7 : ClsA X.K C) (h8 : ∀ n v, (n, v) ∈ gs → n ∈ aNames) (hHm : H m = some (.dK kvs)) (hBm : B m = none) (r2 : F m = none) (hma : m ≠ a) (hnd : ∀ ks, H a ≠ some (.dK ks)) (hBa : B a = none)
    (o : OutS X.K X.mg W D B F (.nx (δe.set i (.obj (.free q) c fs)))) (E' : EnvOk X.K (lockB B H a m gs od kvs) F' H' σ' (δe.set i (.obj (.fix (some a)) c fs))) (x' : SExt (lockB B H a m gs od kvs) F F') : H' m = some (.frz od (.dK kvs)) ∧ D.nx σ' (upd H' m (.dK kvs)) := by
  have H'm := E'.b.k _ _ (lockB_m (B := B) (H := H) (gs := gs) (od := od) (kvs := kvs) hma)
  refine ⟨H'm, ?_⟩
  have H'a : H' a = some (.ins C dx gs) := E'.b.k _ _ (lockB_a.trans h3)
  have F'm : F' m = none := x'.n _ r2 (by rw [lockB_m hma]; nofun)
  have F'a : F' a = none := x'.n _ h4 (by rw [lockB_a, h3]; nofun)
  have sx : SExt B F F' := ⟨x'.f, fun p z1 z2 => x'.n p z1 fun z => by
    cases e : B p with
    | none => exact z2 e
    | some u => exact absurd z (lockB_so E.b hBa hBm e)⟩
  have hsl : (δe.set i (.obj (.fix (some a)) c fs))[i]? = some (.obj (.fix (some a)) c fs) := List.getElem?_set_self hi
  obtain ⟨b, g1, g2⟩ := E'.obj i _ _ _ hsl
  obtain ⟨C', dx', gs', g3, g4, g5, g6, _⟩ := g2.ex
  have eb : b = a := g6.2 a rfl
  subst eb
  have E2 : EnvOk X.K B F' (upd H' m (.dK kvs)) σ' ((δe.set i (.obj (.fix (some b)) c fs)).set i (.obj (.free q) c fs)) := by
    refine E'.reObj g1 hsl (E'.c.mut F'm (.of H'm nofun)) (((lockB_ex E.b hBa hBm).trans E'.b).mut hBm (.of H'm nofun)) E.tbs (.refl F') (fun p vs z1 z2 z3 => ?_) ⟨⟨C, dx, gs, h2, by rw [upd_ne (Ne.symm hma)]; exact H'a, F'a, h5, h6.unlock hHm hma hnd E'.b x'.f x'.n fun _ _ z => z, h7, h8⟩⟩ fun j p l2 c2 f2 hj z _ _ => absurd (lone_of (by rw [loneB_set]; exact hl2) z) hj
    · have e2 : p ≠ m := fun e => by rw [e, H'm] at z1; cases z1
      refine ⟨by rw [upd_ne e2]; exact z1, z2, ?_⟩
      cases e : B p with
      | none => rfl
      | some u => exact absurd z3 (lockB_so E.b hBa hBm e)
  rw [List.set_set] at E2
  exact o σ' F' _ E2 sx
theorem sx_keysFor (hp : PassesOwn (model X.prog X.w) X.A X.env X.xe) (hc : X.calm = true) (hN : X.N[i]? = some x) (hv : Vis X.env.scope x) (hg : PG X tg (tgD X.K bd ix)) (hb : PSs X body (tsD X.K X.mg W g)) (hfn : f ∈ aNames := by decide) (hba : attributeBase (.Name x p) f X.env (eval (.Name x p) X.env) = eval (.Name x p) X.env := by rfl) (hd : (x == ("__debug__" : Str)) = false := by decide) (hcd : (x == ("__classdict__" : Str)) = false := by decide)
    (hs : ∀ y, foldedSetIterable (.Attribute (.Name x p) f p2) X.env y = pure y := by intro _; rfl) : PS X (.For tg (.Attribute (.Name x p) f p2) body [] pos) (tsD X.K X.mg W (sKeysFor i f bd g)) :=
  PSi (ps_lock (ps_for hp hc (pi_keys (pe_fld (pe_var hN hv hd hcd) hba)) hg hb hs)) fun D σ H ⟨B, F, δ, E, o⟩ => by
  unfold sKeysFor at o
  split at o
  · rename_i q c fs h
    split at o
    · rename_i ms hms
      split at o
      · rename_i hh
        obtain ⟨hl, hex⟩ := hh
        have hsp := hex.choose_spec
        generalize hex.choose = δe at o hsp
        obtain ⟨⟨hl2, hle⟩, hr⟩ := hsp
        obtain ⟨a, h1, hO⟩ := E.obj i _ _ _ h
        obtain ⟨C, dx, gs, h2, h3, h4, h5, h6, h7, h8⟩ := hO.ex
        obtain ⟨v, hv1, hv2⟩ := h6.get (dictOf_ok hms)
        have hmem : ∃ n, (n, v) ∈ gs := by
          have : ∀ {ls : List (Str × V)}, ls.lookup f = some v → ∃ n, (n, v) ∈ ls := by
            intro ls
            induction ls with
            | nil => intro z; cases z
            | cons y ls ih =>
              intro z
              obtain ⟨n, u⟩ := y
              rw [List.lookup_cons] at z
              split at z
              · cases z
                exact ⟨n, List.mem_cons_self⟩
              · obtain ⟨n2, z2⟩ := ih z
                exact ⟨n2, List.mem_cons_of_mem _ z2⟩
          exact this hv1
        cases hv2 with
        | val _ z => exact (z _ rfl).elim
        | dic r1 r2 r3 =>
          rename_i m kvs
          have hHm : H m = some (.dK kvs) := r3.1
          have hma : m ≠ a := fun z => by rw [z, h3] at hHm; cases hHm
          have hnd : ∀ ks, H a ≠ some (.dK ks) := fun ks z => by rw [h3] at z; cases z
          have hBa : B a = none := h5.1
          have hBm : B m = none := r3.2
          refine ⟨m, .dK kvs, hHm, trivial, fun od => ?_⟩
          have H1a : upd H m (.frz od (.dK kvs)) a = some (.ins C dx gs) := by rw [upd_ne (Ne.symm hma)]; exact h3
          have E1 : EnvOk X.K (lockB B H a m gs od kvs) F (upd H m (.frz od (.dK kvs))) σ (δ.set i (.obj (.fix (some a)) c fs)) := by
            refine E.reObj h1 h (E.c.mut r2 (.of hHm nofun)) (lock_ex E.b hBa hBm h3 hHm hma) (E.tbs.up (lockB_ex E.b hBa hBm)) (.refl F) (fun b vs z1 z2 z3 => ?_) ⟨⟨C, dx, gs, h2, H1a, h4, ⟨lockB_a.trans h3, fun b z => (Option.some.inj z)⟩, h6.lock hHm hma hnd _ fun _ _ z => z, h7, h8⟩⟩ fun j b l2 c2 f2 hj z _ _ => absurd (lone_of hl z) hj
            · have e1 : b ≠ a := fun e => by rw [e, h3] at z1; cases z1
              have e2 : b ≠ m := fun e => by rw [e, hHm] at z1; cases z1
              exact ⟨by rw [upd_ne e2]; exact z1, z2, by rw [lockB_o e1 e2 fun ks z => by rw [z1] at z; cases z]; exact z3⟩
          refine ⟨.ref a, h1, a, C, dx, gs, .ref m, rfl, H1a, h7.1, h7.2 f hfn, hv1, m, od, rfl, .inl ⟨kvs, upd_same, ?_⟩⟩
          refine for_it walk_keys (fun j σ' H' => ∃ F' δ', EnvOk X.K (lockB B H a m gs od kvs) F' H' σ' δ' ∧ SExt (lockB B H a m gs od kvs) F F' ∧ forGo bd g ((ms.map (·.1)).drop j) δ' = .nx (δe.set i (.obj (.fix (some a)) c fs))) ?_ ?_ ?_ ?_
          · exact ⟨F, _, E1, .refl, by rw [List.drop_zero]; exact hr a⟩
          · rintro j σ' H' hj ⟨F', δ', E', _, _⟩
            exact E'.b.k _ _ (lockB_m hma)
          · rintro j y σ' Hi Hi' hj ⟨F', δ', E', x', hg'⟩ ⟨rfl, k, w, hk, rfl⟩
            obtain ⟨t, d, rfl, hd1, rfl⟩ := r1.keyAt hk
            have hdrop : (ms.map (·.1)).drop j = .int t :: (ms.map (·.1)).drop (j + 1) := by
              obtain ⟨z1, z2⟩ := List.getElem?_eq_some_iff.mp hd1
              rw [List.drop_eq_getElem_cons z1]; rw [z2]
            rw [hdrop] at hg'
            unfold forGo at hg'
            refine ⟨_, F', δ', .int t, E', .int t, ?_⟩
            cases hb1 : bd (.int t) δ' with
            | ok δ1 =>
              rw [hb1] at hg'
              intro σ2 E2 _
              refine ⟨_, F', δ1, E2, ?_⟩
              simp only at hg'
              cases hg1 : g δ1 with
              | nx δ2 =>
                rw [hg1] at hg'
                exact fun σ3 F3 H3 E3 x3 => ⟨F3, δ2, E3, x'.trans x3, hg'⟩
              | cont δ2 =>
                rw [hg1] at hg'
                exact fun σ3 F3 H3 E3 x3 => ⟨F3, δ2, E3, x'.trans x3, hg'⟩
              | brk δ2 =>
                rw [hg1] at hg'
                cases hg'
                exact fun σ3 F3 H3 E3 x3 => sx_keysEnd E h1 h hl hl2 hle h2 h3 h4 h5 h6 h7 h8 hHm hBm r2 hma hnd hBa o E3 (x'.trans x3)
              | ret d2 => rw [hg1] at hg'; cases hg'
              | retO c2 f2 d2 => rw [hg1] at hg'; cases hg'
              | retE d2 δ2 => rw [hg1] at hg'; cases hg'
              | exc n δ2 => rw [hg1] at hg'; cases hg'
              | stuck => rw [hg1] at hg'; cases hg'
            | exc n => rw [hb1] at hg'; cases hg'
            | stuck => rw [hb1] at hg'; cases hg'
          · rintro σ' H' ⟨F', δ', E', x', hg'⟩
            rw [r1.len, show ms.length = (ms.map (·.1)).length by rw [List.length_map], List.drop_length] at hg'
            cases hg'
            exact sx_keysEnd E h1 h hl hl2 hle h2 h3 h4 h5 h6 h7 h8 hHm hBm r2 hma hnd hBa o E' x'
      · exact o.elim
    · exact o.elim
  · exact o.elim
end
end DL

set_option Elab.async false
set_option linter.all false
set_option maxRecDepth 100000
set_option maxHeartbeats 4000000
/-! objects: stores, methods, making, handing back -/
namespace DL
open PySem L2 PyProof.Rows
variable [LTab]
def putFP (f : Str) (d : P) : List (Str × P) → List (Str × P)
  | [] => [(f, d)]
  | (g, x) :: r => if g = f then (g, d) :: r else (g, x) :: putFP f d r
def isDP : P → Bool
  | .dict _ => true
  | _ => false
def onlyD (f : Str) : List (Str × P) → Bool
  | [] => false
  | (g, x) :: r => if g = f then r.all fun y => !isDP y.2 else !isDP x && onlyD f r
theorem not_dict {d : P} (h : isDP d = false) (ms : List (P × P)) : d ≠ .dict ms := fun e => by
  rw [e] at h
  cases h
section
variable {K : PySem.W.Frag} {B F H : Hp} {lk : Lk}
theorem Flds.put {f : Str} {v : V} {d : P} (r : FldE K B F H lk v d) : ∀ {gs : List (Str × V)} {fs : List (Str × P)}, Flds K B F H lk gs fs → Flds K B F H lk (putF f v gs) (putFP f d fs)
  | _, _, .nil => .cons r .nil
  | _, _, .cons (n := n) h t => by
    unfold putF putFP
    by_cases e : n = f
    · rw [if_pos e, if_pos e]
      exact .cons r t
    · rw [if_neg e, if_neg e]
      exact .cons h (Flds.put r t)
theorem mem_putF {f : Str} {v : V} {n : Str} {u : V} : ∀ {gs : List (Str × V)}, (n, u) ∈ putF f v gs → n = f ∨ ∃ w, (n, w) ∈ gs
  | [], h => by
    rw [show putF f v [] = [(f, v)] from rfl, List.mem_singleton] at h
    exact .inl (congrArg Prod.fst h)
  | (g, x) :: gs, h => by
    unfold putF at h
    by_cases e : g = f
    · rw [if_pos e] at h
      rcases List.mem_cons.mp h with z | z
      · exact .inl ((congrArg Prod.fst z).trans e)
      · exact .inr ⟨u, List.mem_cons_of_mem _ z⟩
    · rw [if_neg e] at h
      rcases List.mem_cons.mp h with z | z
      · exact .inr ⟨x, by rw [show n = g from congrArg Prod.fst z]; exact List.mem_cons_self⟩
      · rcases mem_putF z with z | ⟨w, z⟩
        · exact .inl z
        · exact .inr ⟨w, List.mem_cons_of_mem _ z⟩
theorem Flds.length : ∀ {gs : List (Str × V)} {fs : List (Str × P)}, Flds K B F H lk gs fs → gs.length = fs.length
  | _, _, .nil => rfl
  | _, _, .cons h t => by rw [List.length_cons, List.length_cons, Flds.length t]
/-- no dict among them: whatever the heap -/
theorem Flds.plain {B' H' : Hp} {lk' : Lk} : ∀ {gs : List (Str × V)} {fs : List (Str × P)}, Flds K B F H lk gs fs → fs.all (fun y => !isDP y.2) = true → Flds K B' F H' lk' gs fs
  | _, _, .nil, _ => .nil
  | _, _, .cons (d := d) h t, e => by
    rw [List.all_cons, Bool.and_eq_true] at e
    refine .cons ?_ (Flds.plain t e.2)
    cases h with
    | val h1 h2 => exact .val h1 h2
    | dic _ _ _ => cases e.1
/-- the only dict is another one now -/
theorem Flds.redict {H' : Hp} {q : Option Addr} {f : Str} {m : Addr} {ks : List (Key × V)} {ms : List (P × P)} (hm : H' m = some (.dK ks)) (hB : B m = none) (hF : F m = none) (r : RpKv K F ks ms) : ∀ {gs : List (Str × V)} {fs : List (Str × P)}, Flds K B F H (.free q) gs fs → gs.lookup f = some (.ref m) → onlyD f fs = true → Flds K B F H' (.free q) gs (putFP f (.dict ms) fs)
  | _, _, .nil, _, e => by cases e
  | _, _, .cons (n := n) (v := v) (d := d) h t, hg, e => by
    unfold onlyD at e
    unfold putFP
    rw [List.lookup_cons] at hg
    by_cases z : n = f
    · rw [if_pos z] at e ⊢
      have zb : (f == n) = true := beq_iff_eq.mpr z.symm
      rw [zb] at hg
      cases hg
      exact .cons (.dic r hF ⟨hm, hB⟩) (t.plain e)
    · rw [if_neg z, Bool.and_eq_true] at e
      rw [if_neg z]
      have zb : (f == n) = false := beq_eq_false_iff_ne.mpr fun w => z w.symm
      rw [zb] at hg
      refine .cons ?_ (Flds.redict hm hB hF r t hg e.2)
      cases h with
      | val h1 h2 => exact .val h1 h2
      | dic _ _ _ => cases e.1
end
/-- o.f[k] = e -/
noncomputable def sDPut (i : Nat) (f : Str) (fk fv : DE P) : DEnv → SRes := fun δ => ofR δ (fv δ) fun d => match δ[i]? with
  | some (.obj (.free q) c fs) => (match dictOf fs f with
    | some ms => ofR δ (fk δ) fun k => (match k with
      | .int j => if okD' ms = true ∧ loneB i δ = true ∧ onlyD f fs = true then .nx (δ.set i (.obj (.free q) c (putFP f (.dict (putP ms j d)) fs))) else .stuck
      | _ => .stuck)
    | none => .stuck)
  | _ => .stuck
/-- o.f = e, e no dict -/
def sFldSet (i : Nat) (f : Str) (fv : DE P) : DEnv → SRes := fun δ => ofR δ (fv δ) fun d => match δ[i]? with
  | some (.obj (.free q) c fs) => if isDP d = false ∧ fs.length < 100 then .nx (δ.set i (.obj (.free q) c (putFP f d fs))) else .stuck
  | _ => .stuck
/-- o.f = {} -/
def sFldNew (i : Nat) (f : Str) : DEnv → SRes := fun δ => match δ[i]? with
  | some (.obj (.free q) c fs) => if fs.length < 100 ∧ fs.all (fun y => !isDP y.2) = true then .nx (δ.set i (.obj (.free q) c (putFP f (.dict []) fs))) else .stuck
  | _ => .stuck
section
variable {X : Cx} {W : WX} {f x : Str} {p p2 pos pos' : Pos} {i : Nat} {e ek : Expr} {fk fv : DE P}
theorem sx_dput {k : Nat} (hr : Room k X.A) (hN : X.N[i]? = some x) (hv : Vis X.env.scope x) (hk : PE X ek (teD X.K X.mg W fk)) (he : PE X e (teD X.K X.mg W fv)) (hfn : f ∈ aNames := by decide) (hb : attributeBase (.Name x p) f X.env (eval (.Name x p) X.env) = eval (.Name x p) X.env := by rfl) (hd : (x == ("__debug__" : Str)) = false := by decide) (hcd : (x == ("__classdict__" : Str)) = false := by decide)
    (hs : swapsWith e (some (.Subscript (.Attribute (.Name x p) f p2) ek pos')) pos.line X.env = pure false := by rfl) :
    PS X (.Assign [.Subscript (.Attribute (.Name x p) f p2) ek pos'] e pos) (tsD X.K X.mg W (sDPut i f fk fv)) := PSi (ps_dput (hu_of hr) (pe_fld (pe_var hN hv hd hcd) hb) hk he hs) fun D σ H ⟨B, F, δ, E, o⟩ => by
  obtain ⟨x1, s1, k1⟩ := outS_of E o
  refine teD.then E x1 s1 fun d v F1 H1 e1 X1 r1 => ?_
  have E1 := E.up X1
  have o1 := (k1 d e1).up (E.sext X1)
  split at o1
  · rename_i q c fs h
    split at o1
    · rename_i ms hms
      obtain ⟨a, C, dx, gs, m, kvs, h1, h2, h3, h4, h5, h6, h7, h8⟩ := dict_at E1 h hms hfn
      refine ⟨.ref a, h1, a, C, dx, gs, .ref m, rfl, h2, h3, h4, h5, ?_⟩
      obtain ⟨x2, s2, k2⟩ := outS_of E1 o1
      refine teD.then E1 x2 s2 fun k u F2 H2 e2 X2 r2 => ?_
      have E2 := E1.up X2
      have o2 := (k2 k e2).up (E1.sext X2)
      split at o2
      · rename_i j
        split at o2
        · rename_i hok
          obtain ⟨hok, hlone, honly⟩ := hok
          have hok : noDup ms ∧ ms.length < 1000 := okD'_iff.mp hok
          cases r2
          obtain ⟨a', C', dx', gs', m', kvs', g1, g2, g3, g4, g5, g6, g7, g8⟩ := dict_at E2 h hms hfn
          have ea : a' = a := by
            rw [g1] at h1
            exact V.ref.inj (Option.some.inj (Option.some.inj h1))
          subst ea
          have hH2 := X2.h.k _ _ h2
          rw [g2] at hH2
          cases hH2
          rw [g5] at h5
          cases h5
          have hkl : kvs'.length < sizeLine := by rw [g6.len, lim_eq]; exact Nat.lt_of_lt_of_le hok.2 (by decide)
          refine ⟨m, _, rfl, DPut.k (k := Sum.inl j) g8.1 hkl, ?_⟩
          have hma : m ≠ a' := fun z => by rw [z] at g8; have := g8.1; rw [g2] at this; cases this
          refine o2 σ F2 _ ?_ .refl
          obtain ⟨b, j1, j2⟩ := E2.obj i _ _ _ h
          rw [g1] at j1
          cases j1
          obtain ⟨C3, dx3, gs3, j3, j4, j5, j6, j7, j8, j9⟩ := j2.ex
          rw [g2] at j4
          cases j4
          refine E2.reObj g1 h (E2.c.mut g7 (.of g8.1 nofun)) (E2.b.mut g8.2 (.of g8.1 nofun)) E2.tbs (.refl F2) (fun b vs z1 z2 z3 => ⟨?_, z2, z3⟩) ⟨⟨C, dx, gs, j3, ?_, j5, j6, ?_, j8, j9⟩⟩ fun j b l2 c2 f2 hj z _ _ => absurd (lone_of hlone z) hj
          · have : b ≠ m := fun e => by rw [e, g8.1] at z1; cases z1
            rw [upd_ne this]
            exact z1
          · rw [upd_ne (Ne.symm hma)]
            exact g2
          · exact j7.redict upd_same g8.2 g7 (g6.put (r1.up X2.f) hok.1) g5 honly
        · exact o2.elim
      · exact o2.elim
    · exact o1.elim
  · exact o1.elim
/-- the object at i has another field's thing, its heap place changed -/
theorem EnvOk.refld {K : PySem.W.Frag} {B F H : Hp} {σ : L2.St} {δ : DEnv} (E : EnvOk K B F H σ δ) {a : Addr} {q : Option Addr} {c f : Str} {fs : List (Str × P)} {C dx : Addr} {gs : List (Str × V)} {v : V} {d : P} (hs : σ[i]? = some (some (.ref a))) (h : δ[i]? = some (.obj (.free q) c fs)) (hO : ObjE K B F H (.free q) c fs a) (ha : H a = some (.ins C dx gs)) (hfn : f ∈ aNames) (r : FldE K B F (upd H a (.ins C dx (putF f v gs))) (.free q) v d) :
    EnvOk K B F (upd H a (.ins C dx (putF f v gs))) σ (δ.set i (.obj (.free q) c (putFP f d fs))) := by
  obtain ⟨C3, dx3, gs3, j3, j4, j5, j6, j7, j8, j9⟩ := hO.ex
  rw [ha] at j4
  cases j4
  have keep : ∀ b o, H b = some o → isDct o = true → upd H a (.ins C dx (putF f v gs)) b = some o := fun b o z zd => by
    have : b ≠ a := fun e => by
      rw [e, ha] at z
      cases z
      cases zd
    rw [upd_ne this]
    exact z
  refine E.reObj hs h (E.c.mut j5 (.of ha nofun)) (E.b.mut j6.1 (.of ha nofun)) E.tbs (.refl F) (fun b vs z1 z2 z3 => ⟨?_, z2, z3⟩) ⟨⟨C, dx, _, j3, upd_same, j5, j6, (j7.chgD E.b (.refl F) (fun _ _ z _ _ => z) keep fun _ _ _ _ => rfl).put r, j8, fun n u hn => ?_⟩⟩ fun j b l2 c2 f2 hj z hba z2 => ?_
  · have : b ≠ a := fun e => by rw [e, ha] at z1; cases z1
    rw [upd_ne this]
    exact z1
  · rcases mem_putF hn with z | ⟨w, z⟩
    · rw [z]
      exact hfn
    · exact j9 n w z
  · obtain ⟨C4, dx4, gs4, y3, y4, y5, y6, y7, y8⟩ := z2.ex
    exact ⟨⟨C4, dx4, gs4, y3, by rw [upd_ne hba]; exact y4, y5, y6, y7.chgD E.b (.refl F) (fun _ _ z _ _ => z) keep fun _ _ _ _ => rfl, y8⟩⟩
theorem sx_fldset (hN : X.N[i]? = some x) (hv : Vis X.env.scope x) (he : PE X e (teD X.K X.mg W fv)) (hfn : f ∈ aNames := by decide) (hd : (x == ("__debug__" : Str)) = false := by decide) (hcd : (x == ("__classdict__" : Str)) = false := by decide)
    (hs : swapsWith e (some (.Attribute (.Name x p) f pos')) pos.line X.env = pure false := by rfl) :
    PS X (.Assign [.Attribute (.Name x p) f pos'] e pos) (tsD X.K X.mg W (sFldSet i f fv)) := PSi (ps_fld (pe_var hN hv hd hcd) he hs) fun D σ H ⟨B, F, δ, E, o⟩ => by
  obtain ⟨x1, s1, k1⟩ := outS_of E o
  refine teD.then E x1 s1 fun d v F1 H1 e1 X1 r1 => ?_
  have E1 := E.up X1
  have o1 := (k1 d e1).up (E.sext X1)
  split at o1
  · rename_i q c fs h
    split at o1
    · rename_i hdz
      obtain ⟨a, h1, hO⟩ := E1.obj i _ _ _ h
      obtain ⟨C, dx, gs, h2, h3, h4, h5, h6, h7, h8⟩ := hO.ex
      refine ⟨.ref a, h1, a, C, dx, gs, rfl, h3, h7.1, h7.2 f hfn, by rw [h6.length]; omega, ?_⟩
      exact o1 σ F1 _ (E1.refld h1 h hO h3 hfn (.val r1 (not_dict hdz.1))) .refl
    · exact o1.elim
  · exact o1.elim
theorem sx_fldnew (hN : X.N[i]? = some x) (hv : Vis X.env.scope x) (hfn : f ∈ aNames := by decide) (hd : (x == ("__debug__" : Str)) = false := by decide) (hcd : (x == ("__classdict__" : Str)) = false := by decide) {p3 : Pos}
    (hs : swapsWith (.Dict [] [] p3) (some (.Attribute (.Name x p) f pos')) pos.line X.env = pure false := by rfl) :
    PS X (.Assign [.Attribute (.Name x p) f pos'] (.Dict [] [] p3) pos) (tsD X.K X.mg W (sFldNew i f)) := PSi (ps_fld (pe_var hN hv hd hcd) pe_dnewK hs) fun D σ H ⟨B, F, δ, E, o⟩ => by
  unfold sFldNew at o
  split at o
  · rename_i q c fs h
    split at o
    · rename_i hz
      intro m hm
      have X1 : Ext F H F (upd H m (.dK [])) := .newH E.c hm
      have E1 := E.up X1
      obtain ⟨a, h1, hO⟩ := E1.obj i _ _ _ h
      obtain ⟨C, dx, gs, h2, h3, h4, h5, h6, h7, h8⟩ := hO.ex
      refine ⟨.ref a, h1, a, C, dx, gs, rfl, h3, h7.1, h7.2 f hfn, by rw [h6.length]; omega, ?_⟩
      have hma : m ≠ a := fun z => by rw [← z, upd_same] at h3; cases h3
      exact o σ F _ (E1.refld h1 h hO h3 hfn (.dic .nil (E.c.none hm) ⟨by rw [upd_ne hma]; exact upd_same, E.b.none hm⟩)) .refl
    · exact o.elim
  · exact o.elim
end
end DL

set_option Elab.async false
set_option linter.all false
set_option maxRecDepth 100000
set_option maxHeartbeats 4000000
/-! objects: methods, making, handing back -/
namespace DL
open PySem L2 PyProof.Rows
variable [LTab]
theorem noXs {P₀ : Program} {w : World} {l : List Env} {H : Hp} {s : Shared} {e : Value} {s' : Shared} (h : L2.CX P₀ w l H s (fun _ _ _ => False) e s') : False := by
  rcases h with ⟨_, _, _, _, _, _, _, _, _, _, _, _, no⟩
  exact no
theorem passNo {X : Cx} : Passes (L2.CX X.prog X.w) X (fun _ _ _ => False) := fun _ _ _ _ _ _ _ c => (noXs c).elim
/-! ### promises -/
/-- a method that changes nothing -/
def spR (K : PySem.W.Frag) (mg : Str → Option Value) (n : Nat) (c : Str) (G : List (Str × P) → List P → Res P) : Sp := fun vs H Q E => ∃ a us, vs = .ref a :: us ∧ us.length = n ∧ ∃ F fs ds, Ex F H ∧ TabsIn H ∧ ObjE K H F H (.fix none) c fs a ∧ RpAll K F us ds ∧ OutF K mg F H (G fs ds) Q E
inductive MRes where
  | ok (d : P) (fs : List (Str × P)) | exc (n : Str) (fs : List (Str × P)) | stuck
def OutM (K : PySem.W.Frag) (mg : Str → Option Value) (B F : Hp) (a : Addr) (c : Str) (r : MRes) (Q : VK) (E : XK) : Prop := match r with
  | .ok d fs => ∀ v F' H', Ex F' H' → Ex B H' → SExt B F F' → ObjE K B F' H' (.free (some a)) c fs a → Rp K F' v d → Q v H'
  | .exc n fs => ∀ C F' H', mg n = some (.ref C) → Ex F' H' → Ex B H' → SExt B F F' → ObjE K B F' H' (.free (some a)) c fs a → E (.ref C) none H'
  | .stuck => False
/-- a method that changes its object -/
def spM (K : PySem.W.Frag) (mg : Str → Option Value) (n : Nat) (c : Str) (G : List (Str × P) → List P → MRes) : Sp := fun vs H Q E => ∃ a us, vs = .ref a :: us ∧ us.length = n ∧ ∃ B F fs ds, Ex F H ∧ Ex B H ∧ TabsIn B ∧ ObjE K B F H (.free (some a)) c fs a ∧ RpAll K F us ds ∧ OutM K mg B F a c (G fs ds) Q E
inductive ORes where
  | ok (c : Str) (fs : List (Str × P)) (d : Option P) | stuck
/-- a def that hands back an object of its own -/
def spO (K : PySem.W.Frag) (n : Nat) (G : List P → ORes) : Sp := fun vs H Q _ => vs.length = n ∧ ∃ F ds, Ex F H ∧ TabsIn H ∧ RpAll K F vs ds ∧ match G ds with
  | .ok c fs d => ∀ v p F' H', Ext F H F' H' → ObjE K H F' H' (.free none) c fs p → RetAt F' H' K v p d → Q v H'
  | .stuck => False
/-! ### what the bodies come to -/
def methR (n m : Nat) (c : Str) (g : DEnv → SRes) (fs : List (Str × P)) (ds : List P) : Res P := if ds.length = n then resOf (g (.obj (.fix none) c fs :: (ds.map .val ++ List.replicate m .un))) else .stuck
def atM (a : Addr) (c : Str) (δ : DEnv) (k : List (Str × P) → MRes) : MRes := match δ[(0 : Nat)]? with
  | some (.obj (.free (some b)) c' fs) => if b = a ∧ c' = c then k fs else .stuck
  | _ => .stuck
def outM (a : Addr) (c : Str) : SRes → MRes
  | .retE d δ => atM a c δ fun fs => .ok d fs
  | .nx δ => atM a c δ fun fs => .ok .none fs
  | .exc n δ => atM a c δ fun fs => .exc n fs
  | _ => .stuck
open Classical in
noncomputable def methM (n m : Nat) (c : Str) (g : DEnv → SRes) (fs : List (Str × P)) (ds : List P) : MRes :=
  if ds.length = n then (if h : ∃ r, ∀ a, outM a c (g (.obj (.free (some a)) c fs :: (ds.map .val ++ List.replicate m .un))) = r then h.choose else .stuck) else .stuck
theorem methM_is {n m : Nat} {c : Str} {g : DEnv → SRes} {fs : List (Str × P)} {ds : List P} {r : MRes} (hn : ds.length = n) (h : ∀ a, outM a c (g (.obj (.free (some a)) c fs :: (ds.map .val ++ List.replicate m .un))) = r) : methM n m c g fs ds = r := by
  unfold methM
  have e : ∃ r, ∀ a, outM a c (g (.obj (.free (some a)) c fs :: (ds.map .val ++ List.replicate m .un))) = r := ⟨r, h⟩
  rw [if_pos hn, dif_pos e, ← e.choose_spec 0, h 0]
def funcO (n m : Nat) (g : DEnv → SRes) (ds : List P) : ORes := if ds.length = n then (match g (ds.map .val ++ List.replicate m .un) with
  | .retO c fs d => .ok c fs d
  | _ => .stuck) else .stuck
def sRetE (f : DE P) : DEnv → SRes := fun δ => ofR δ (f δ) fun d => .retE d δ
/-- the first name is an object -/
theorem env_startM {K : PySem.W.Frag} {B F H : Hp} {N : List Str} {us : List V} {ds : List P} {a : Addr} {lk : Lk} {c : Str} {fs : List (Str × P)} (hc : Ex F H) (hb : Ex B H) (tb : TabsIn B) (hO : ObjE K B F H lk c fs a) (r : RpAll K F us ds) (hz : us.length + 1 ≤ N.length) :
    EnvOk K B F H (L2.start N (.ref a :: us)) (.obj lk c fs :: (ds.map .val ++ List.replicate (N.length - 1 - ds.length) .un)) := by
  obtain ⟨x, N', rfl⟩ : ∃ x N', N = x :: N' := by
    cases N with
    | nil => simp at hz
    | cons x N' => exact ⟨x, N', rfl⟩
  have hz' : us.length ≤ N'.length := by simpa using hz
  have E0 := env_start (K := K) (F := F) (H := H) (N := N') hc (tb.up hb) r hz'
  have es : L2.start (x :: N') (.ref a :: us) = some (.ref a) :: L2.start N' us := by
    unfold L2.start
    rw [List.map_cons, List.cons_append, List.length_cons, List.length_cons, Nat.add_sub_add_right]
  rw [es, show (x :: N').length - 1 = N'.length from rfl]
  have tail : ∀ {i : Nat} {s : Slot}, s ≠ .un → (ds.map Slot.val ++ List.replicate (N'.length - ds.length) .un)[i]? = some s → ∃ d, s = .val d := by
    intro i s hs h
    have hm := List.mem_of_getElem? h
    rcases List.mem_append.mp hm with q | q
    · obtain ⟨d, _, e⟩ := List.mem_map.mp q
      exact ⟨d, e.symm⟩
    · exact absurd (List.eq_of_mem_replicate q) hs
  refine ⟨hc, hb, tb, by rw [List.length_cons, List.length_cons, E0.len], fun i d h => ?_, fun i es h => ?_, fun i j es fs' p _ h => ?_, fun i v h => ?_, fun i l2 c2 f2 h => ?_, fun i j l2 l3 c2 c3 f2 f3 p hij h1 h2 => ?_⟩
  · cases i with
    | zero => cases h
    | succ i => exact E0.val i d h
  · cases i with
    | zero => cases h
    | succ i =>
      obtain ⟨d, e⟩ := tail (s := .own es) nofun h
      cases e
  · cases i with
    | zero => cases h
    | succ i =>
      obtain ⟨d, e⟩ := tail (s := .own es) nofun h
      cases e
  · cases i with
    | zero => cases h
    | succ i => exact E0.raw i v h
  · cases i with
    | zero =>
      cases h
      exact ⟨a, rfl, hO⟩
    | succ i =>
      obtain ⟨d, e⟩ := tail (s := .obj l2 c2 f2) nofun h
      cases e
  · cases i with
    | zero =>
      cases j with
      | zero => exact absurd rfl hij
      | succ j =>
        obtain ⟨d, e⟩ := tail (s := .obj l3 c3 f3) nofun h2
        cases e
    | succ i =>
      obtain ⟨d, e⟩ := tail (s := .obj l2 c2 f2) nofun h1
      cases e
section
variable {P₀ : Program} {w : World} {K : PySem.W.Frag} {mg : Str → Option Value} {base : Heap}
theorem okR {x qual : Str} {st : Stmt} {f : Addr} {fd : FuncData} {N ps : List Str} {k n m : Nat} {c : Str} {g : DEnv → SRes} (Fn : Fun K x qual st f fd) (S : FnScope N ps (defScope st)) (hn : ps.length = n + 1) (hm : N.length = n + 1 + m)
    (hbody : ∀ (cdv : Value) (A : Around) (outer : List Env) (s : Shared) (H : Hp) (E : XK), Room k (A.deeper (envOfC qual (defScope st) s.heap.objs.size f cdv)) →
      PSs (cxOf (L2.CX P₀ w) P₀ w K mg base N qual (defScope st) f cdv A outer s H E) (defBody st) (tsD K mg (fun cls d _ H => E cls d H) g)) :
    FnOk P₀ w K mg base (L2.CX P₀ w) (k + 1) f fd ps (spR K mg n c (methR n m c g)) := by
  refine Fn.okX S (fun vs H Q E ⟨a, us, e, hl, _⟩ => by rw [e, List.length_cons, hl, hn]) (fun cdv A outer s H vs Q E hr h => ⟨_, hbody cdv A outer s H E hr, ?_⟩)
  obtain ⟨a, us, rfl, hl, F, fs, ds, hc, tb, hO, r, o⟩ := h
  have hd : ds.length = n := by rw [← r.len]; exact hl
  have e0 := env_startM (N := N) hc (.refl H) tb hO r (by omega)
  have em : N.length - 1 - ds.length = m := by omega
  rw [em] at e0
  refine ⟨H, F, _, e0, ?_⟩
  unfold methR at o
  rw [if_pos hd] at o
  cases q : g (.obj (.fix none) c fs :: (ds.map .val ++ List.replicate m .un)) with
  | nx δ' =>
    rw [q] at o
    exact fun σ' F' H' E' x => o .non F' H' ⟨x.f, E'.b, E'.c, x.n⟩ .non
  | ret d =>
    rw [q] at o
    exact fun v F' H' c' b' x r' => o v F' H' ⟨x.f, b', c', x.n⟩ r'
  | exc nm δ' =>
    rw [q] at o
    exact fun C σ' F' H' m' E' x => o C F' H' m' ⟨x.f, E'.b, E'.c, x.n⟩
  | brk δ' => rw [q] at o; exact o.elim
  | cont δ' => rw [q] at o; exact o.elim
  | stuck => rw [q] at o; exact o.elim
  | retO c2 fs2 d2 => rw [q] at o; exact o.elim
  | retE d2 δ2 => rw [q] at o; exact o.elim
theorem atM_of {B F H : Hp} {a : Addr} {c : Str} {σ : L2.St} {δ : DEnv} {k : List (Str × P) → MRes} (E : EnvOk K B F H σ δ) (h : atM a c δ k ≠ .stuck) : ∃ fs, atM a c δ k = k fs ∧ ObjE K B F H (.free (some a)) c fs a := by
  unfold atM at h ⊢
  split at h
  · rename_i b c' fs q
    split at h
    · rename_i z
      obtain ⟨rfl, rfl⟩ := z
      obtain ⟨p, _, hO⟩ := E.obj 0 _ _ _ q
      have hp : p = b := by
        obtain ⟨C, dx, gs, _, _, _, hfx, _⟩ := hO.ex
        exact hfx.2 b rfl
      subst hp
      exact ⟨fs, if_pos ⟨rfl, rfl⟩, hO⟩
    · exact absurd rfl h
  · exact absurd rfl h
theorem okM {x qual : Str} {st : Stmt} {f : Addr} {fd : FuncData} {N ps : List Str} {k n m : Nat} {c : Str} {g : DEnv → SRes} (Fn : Fun K x qual st f fd) (S : FnScope N ps (defScope st)) (hn : ps.length = n + 1) (hm : N.length = n + 1 + m)
    (hbody : ∀ (cdv : Value) (A : Around) (outer : List Env) (s : Shared) (H : Hp) (E : XK), Room k (A.deeper (envOfC qual (defScope st) s.heap.objs.size f cdv)) →
      PSs (cxOf (L2.CX P₀ w) P₀ w K mg base N qual (defScope st) f cdv A outer s H E) (defBody st) (tsD K mg (fun cls d _ H => E cls d H) g)) :
    FnOk P₀ w K mg base (L2.CX P₀ w) (k + 1) f fd ps (spM K mg n c (methM n m c g)) := by
  refine Fn.okX S (fun vs H Q E ⟨a, us, e, hl, _⟩ => by rw [e, List.length_cons, hl, hn]) (fun cdv A outer s H vs Q E hr h => ⟨_, hbody cdv A outer s H E hr, ?_⟩)
  obtain ⟨a, us, rfl, hl, B, F, fs, ds, hc, hb, tb, hO, r, o⟩ := h
  have hd : ds.length = n := by rw [← r.len]; exact hl
  have e0 := env_startM (N := N) hc hb tb hO r (by omega)
  have em : N.length - 1 - ds.length = m := by omega
  rw [em] at e0
  refine ⟨B, F, _, e0, ?_⟩
  unfold methM at o
  rw [if_pos hd] at o
  split at o
  · rename_i hx
    rw [← hx.choose_spec a] at o
    have ns : ∀ {r : MRes}, OutM K mg B F a c r Q E → r ≠ .stuck := fun o z => by rw [z] at o; exact o
    cases q : g (.obj (.free (some a)) c fs :: (ds.map .val ++ List.replicate m .un)) with
    | nx δ' =>
      rw [q] at o
      intro σ' F' H' E' x
      obtain ⟨fs2, e2, h2⟩ := atM_of E' (ns (show OutM K mg B F a c (atM a c δ' _) Q E from o))
      have o2 : OutM K mg B F a c (.ok .none fs2) Q E := by
        have o3 : OutM K mg B F a c (atM a c δ' fun fs => .ok .none fs) Q E := o
        rw [e2] at o3
        exact o3
      exact o2 .non F' H' E'.c E'.b x h2 .non
    | retE d δ' =>
      rw [q] at o
      intro v σ' F' H' E' x rv
      obtain ⟨fs2, e2, h2⟩ := atM_of E' (ns (show OutM K mg B F a c (atM a c δ' _) Q E from o))
      have o2 : OutM K mg B F a c (.ok d fs2) Q E := by
        have o3 : OutM K mg B F a c (atM a c δ' fun fs => .ok d fs) Q E := o
        rw [e2] at o3
        exact o3
      exact o2 v F' H' E'.c E'.b x h2 rv
    | exc nm δ' =>
      rw [q] at o
      intro C σ' F' H' m' E' x
      obtain ⟨fs2, e2, h2⟩ := atM_of E' (ns (show OutM K mg B F a c (atM a c δ' _) Q E from o))
      have o2 : OutM K mg B F a c (.exc nm fs2) Q E := by
        have o3 : OutM K mg B F a c (atM a c δ' fun fs => .exc nm fs) Q E := o
        rw [e2] at o3
        exact o3
      exact o2 C F' H' m' E'.c E'.b x h2
    | ret d => rw [q] at o; exact o.elim
    | brk δ' => rw [q] at o; exact o.elim
    | cont δ' => rw [q] at o; exact o.elim
    | stuck => rw [q] at o; exact o.elim
    | retO c2 fs2 d2 => rw [q] at o; exact o.elim
  · exact o.elim
theorem okO {x qual : Str} {st : Stmt} {f : Addr} {fd : FuncData} {N ps : List Str} {k n m : Nat} {g : DEnv → SRes} (Fn : Fun K x qual st f fd) (S : FnScope N ps (defScope st)) (hn : ps.length = n) (hm : N.length = n + m)
    (hbody : ∀ (cdv : Value) (A : Around) (outer : List Env) (s : Shared) (H : Hp) (E : XK), Room k (A.deeper (envOfC qual (defScope st) s.heap.objs.size f cdv)) →
      PSs (cxOf (L2.CX P₀ w) P₀ w K mg base N qual (defScope st) f cdv A outer s H E) (defBody st) (tsD K mg (fun cls d _ H => E cls d H) g)) :
    FnOk P₀ w K mg base (L2.CX P₀ w) (k + 1) f fd ps (spO K n (funcO n m g)) := by
  refine Fn.okX S (fun vs H Q E h => h.1.trans hn.symm) (fun cdv A outer s H vs Q E hr h => ⟨_, hbody cdv A outer s H E hr, ?_⟩)
  obtain ⟨hl, F, ds, c, tb, r, o⟩ := h
  have hd : ds.length = n := by rw [← r.len]; exact hl
  have e0 := env_start (N := N) c tb r (by omega)
  have em : N.length - ds.length = m := by omega
  rw [em] at e0
  refine ⟨H, F, _, e0, ?_⟩
  unfold funcO at o
  rw [if_pos hd] at o
  cases q : g (ds.map .val ++ List.replicate m .un) with
  | retO c2 fs2 d2 =>
    rw [q] at o
    exact fun v p F' H' c' b' x hO hR => o v p F' H' ⟨x.f, b', c', x.n⟩ hO hR
  | nx δ' => rw [q] at o; exact o.elim
  | ret d => rw [q] at o; exact o.elim
  | exc nm δ' => rw [q] at o; exact o.elim
  | brk δ' => rw [q] at o; exact o.elim
  | cont δ' => rw [q] at o; exact o.elim
  | stuck => rw [q] at o; exact o.elim
  | retE d2 δ2 => rw [q] at o; exact o.elim
end
structure MethOk (P₀ : Program) (w : World) (K : PySem.W.Frag) (mg : Str → Option Value) (base : Heap) (c m : Str) (j : Nat) (sp : Sp) : Prop where
  ex : ∃ C f fd ps, PySem.W.nsIn K mainGlobals c = some (some (.ref C)) ∧ Cls K C ∧ Meth K C m f ∧ Binds K fd ps [] ∧ FnOk P₀ w K mg base (L2.CX P₀ w) j f fd ps sp
structure MakeOk (P₀ : Program) (w : World) (K : PySem.W.Frag) (mg : Str → Option Value) (base : Heap) (c : Str) (j : Nat) (sp : Sp) : Prop where
  ex : ∃ C f fd ps, PySem.W.nsIn K mainGlobals c = some (some (.ref C)) ∧ mg c = some (.ref C) ∧ ClsA K C ∧ Mk K C f ∧ Binds K fd ps [] ∧ FnOk P₀ w K mg base (L2.CX P₀ w) j f fd ps sp
structure CallS (P₀ : Program) (w : World) (K : PySem.W.Frag) (mg : Str → Option Value) (base : Heap) (x : Str) (j : Nat) (sp : Sp) : Prop where
  ex : ∃ (f : Addr) (fd : FuncData) (ps : List Str), mg x = some (.ref f) ∧ PySem.W.keepIn K (.ref f) = true ∧ Binds K fd ps [] ∧ FnOk P₀ w K mg base (L2.CX P₀ w) j f fd ps sp
/-- o.m(..), nothing changes -/
def dMethR (i : Nat) (c : Str) (n : Nat) (G : List (Str × P) → List P → Res P) (fl : DE (List P)) : DE P := fun δ => match δ[i]? with
  | some (.obj _ c' fs) => if c' = c then (fl δ).bind fun ds => if ds.length = n then (G fs ds).mute else .stuck else .stuck
  | _ => .stuck
/-- x = o.m(..), o changes -/
def sMethM (j i : Nat) (c : Str) (n : Nat) (G : List (Str × P) → List P → MRes) (fl : DE (List P)) : DEnv → SRes := fun δ => match δ[i]? with
  | some (.obj (.free q) c' fs) => if c' = c ∧ (fs.all (fun y => !isDP y.2) = true ∨ loneB i δ = true) then ofR δ (fl δ) fun ds => if ds.length = n then (match G fs ds with
    | .ok d fs' => .nx ((δ.set i (.obj (.free q) c fs')).set j (.val d))
    | _ => .stuck) else .stuck else .stuck
  | _ => .stuck
/-- x = C(..) -/
def sMake (i : Nat) (c : Str) (n : Nat) (G : List (Str × P) → List P → MRes) (fl : DE (List P)) : DEnv → SRes := fun δ => ofR δ (fl δ) fun ds => if ds.length = n then (match G [] ds with
  | .ok .none fs => .nx (δ.set i (.obj (.free none) c fs))
  | _ => .stuck) else .stuck
/-- return (o, e) -/
def sRetO (i : Nat) (f : DE P) : DEnv → SRes := fun δ => match δ[i]? with
  | some (.obj (.free _) c fs) => ofR δ (f δ) fun d => .retO c fs (some d)
  | _ => .stuck
/-- o, x = f(..) -/
def sPairO (i j n : Nat) (G : List P → ORes) (fl : DE (List P)) : DEnv → SRes := fun δ => ofR δ (fl δ) fun ds => if ds.length = n then (match G ds with
  | .ok c fs (some d) => .nx ((δ.set i (.obj (.free none) c fs)).set j (.val d))
  | _ => .stuck) else .stuck
/-- f(..)[1] -/
def dSecond (n : Nat) (G : List P → ORes) (fl : DE (List P)) : DE P := fun δ => (fl δ).bind fun ds => if ds.length = n then (match G ds with
  | .ok _ _ (some d) => .ok d
  | _ => .stuck) else .stuck
theorem ObjE.any {K : PySem.W.Frag} {B B' F H : Hp} {q q' : Option Addr} {c : Str} {fs : List (Str × P)} {p : Addr} (h : ObjE K B F H (.free q) c fs p) (hb : ∀ b, B b = none → B' b = none) (hq : ∀ a, q' = some a → p = a) : ObjE K B' F H (.free q') c fs p := by
  obtain ⟨C, dx, gs, h1, h2, h3, h4, h5, h6⟩ := h.ex
  have fl : ∀ {gs : List (Str × V)} {fs : List (Str × P)}, Flds K B F H (.free q) gs fs → Flds K B' F H (.free q') gs fs := by
    intro gs fs z
    induction z with
    | nil => exact .nil
    | cons z _ ih =>
      refine .cons ?_ ih
      cases z with
      | val z1 z2 => exact .val z1 z2
      | dic z1 z2 z3 => exact .dic z1 z2 ⟨z3.1, hb _ z3.2⟩
  exact ⟨⟨C, dx, gs, h1, h2, h3, ⟨hb _ h4.1, hq⟩, fl h5, h6⟩⟩
/-- nothing of it changes while it is read -/
theorem ObjE.fixH {K : PySem.W.Frag} {B F H : Hp} {lk : Lk} {c : Str} {fs : List (Str × P)} {p : Addr} (b : Ex B H) (h : ObjE K B F H lk c fs p) : ObjE K H F H (.fix none) c fs p := by
  obtain ⟨C, dx, gs, h1, h2, h3, h4, h5, h6⟩ := h.ex
  have fl : ∀ {gs : List (Str × V)} {fs : List (Str × P)}, Flds K B F H lk gs fs → Flds K H F H (.fix none) gs fs := by
    intro gs fs z
    induction z with
    | nil => exact .nil
    | cons z _ ih =>
      refine .cons ?_ ih
      cases z with
      | val z1 z2 => exact .val z1 z2
      | dic z1 z2 z3 =>
        refine .dic z1 z2 ?_
        rcases z3.rd b with z | ⟨o, z⟩
        · exact ⟨_, z, .inl rfl⟩
        · exact ⟨_, z, .inr ⟨o, rfl⟩⟩
  exact ⟨⟨C, dx, gs, h1, h2, h3, ⟨h2, fun _ z => nomatch z⟩, fl h5, h6⟩⟩
/-- a name gets an object that no other name has -/
theorem EnvOk.setObj {K : PySem.W.Frag} {B F H : Hp} {σ : L2.St} {δ : DEnv} (E : EnvOk K B F H σ δ) (i : Nat) {p : Addr} {lk : Lk} {c : Str} {fs : List (Str × P)} (hO : ObjE K B F H lk c fs p) (ap : ∀ (j : Nat) (l2 : Lk) (c2 : Str) (f2 : List (Str × P)), δ[j]? = some (Slot.obj l2 c2 f2) → σ[j]? ≠ some (some (V.ref p))) : EnvOk K B F H (σ.set i (some (.ref p))) (δ.set i (.obj lk c fs)) := by
  have sl : ∀ {j : Nat}, j = i → ∀ {s : Slot}, (δ.set i (.obj lk c fs))[j]? = some s → (σ.set i (some (.ref p)))[j]? = some (some (.ref p)) := fun {j} e {s} h => by
    subst e
    have hj : j < δ.length := by
      have := (List.getElem?_eq_some_iff.mp h).1
      simpa using this
    exact List.getElem?_set_self (by rw [E.len]; exact hj)
  have so : ∀ {j : Nat}, j ≠ i → (σ.set i (some (.ref p)))[j]? = σ[j]? := fun {j} e => List.getElem?_set_ne (Ne.symm e)
  refine ⟨E.c, E.b, E.tbs, by rw [List.length_set, List.length_set]; exact E.len, fun j d q => ?_, fun j ds q => ?_, fun j k ds es p hjk q1 q2 q3 => ?_, fun j v q => ?_, fun j l2 c2 fs2 q => ?_, fun j k l2 l3 c2 c3 f2 f3 p' hjk q1 q2 q3 => ?_⟩
  · rcases set_at q with ⟨_, z⟩ | ⟨e, z⟩
    · cases z
    · rw [so e]
      exact E.val j d z
  · rcases set_at q with ⟨_, z⟩ | ⟨e, z⟩
    · cases z
    · rw [so e]
      exact E.own j ds z
  · rcases set_at q1 with ⟨_, z⟩ | ⟨e1, z⟩
    · cases z
    · rcases set_at q2 with ⟨_, z2⟩ | ⟨e2, z2⟩
      · cases z2
      · rw [so e1] at q3
        rw [so e2]
        exact E.apart j k ds es p hjk z z2 q3
  · rcases set_at q with ⟨_, z⟩ | ⟨e, z⟩
    · cases z
    · rw [so e]
      exact E.raw j v z
  · rcases set_at q with ⟨e, z⟩ | ⟨e, z⟩
    · cases z
      exact ⟨p, sl e q, hO⟩
    · rw [so e]
      exact E.obj j l2 c2 fs2 z
  · rcases set_at q1 with ⟨e1, z1⟩ | ⟨e1, z1⟩
    · rcases set_at q2 with ⟨e2, z2⟩ | ⟨e2, z2⟩
      · exact absurd (e1.trans e2.symm) hjk
      · rw [sl e1 q1] at q3
        cases q3
        rw [so e2]
        exact ap k _ _ _ z2
    · rw [so e1] at q3
      rcases set_at q2 with ⟨e2, z2⟩ | ⟨e2, z2⟩
      · rw [sl e2 q2]
        intro z
        cases z
        exact ap j _ _ _ z1 q3
      · rw [so e2]
        exact E.far j k l2 l3 c2 c3 f2 f3 p' hjk z1 z2 q3
theorem EnvOk.newO {K : PySem.W.Frag} {B F H : Hp} {σ : L2.St} {δ : DEnv} (E : EnvOk K B F H σ δ) {p : Addr} (h : H p = none) (j : Nat) (l2 : Lk) (c2 : Str) (f2 : List (Str × P)) (hj : δ[j]? = some (.obj l2 c2 f2)) : σ[j]? ≠ some (some (.ref p)) := fun z => by
  obtain ⟨q, h1, h2⟩ := E.obj j _ _ _ hj
  rw [h1] at z
  cases z
  obtain ⟨C, dx, gs, _, h3, _⟩ := h2.ex
  rw [h] at h3
  cases h3
section
variable {X : Cx} {W : WX} {x y m c : Str} {i j k jm n : Nat} {p apos pos ypos xpos : Pos} {e : Expr} {es : List Expr} {fl : DE (List P)} {f : DE P}
theorem ms_lookup {gs : List (Str × V)} (h8 : ∀ n v, (n, v) ∈ gs → n ∈ aNames) (hma : m ∉ aNames) : gs.lookup m = none := lookup_none h8 hma
theorem px_methR {pl : Sem Bool} {G : List (Str × P) → List P → Res P} (M : MethOk X.prog X.w X.K X.mg X.base c m jm (spR X.K X.mg n c G)) (hr : Room k X.A) (hN : X.N[i]? = some x) (hv : Vis X.env.scope x) (ha : PA X (e :: es) (taD X.K X.mg W fl)) (hjk : jm ≤ k := by decide) (hma : m ∉ aNames := by decide) (hd : (x == ("__debug__" : Str)) = false := by decide) (hcd : (x == ("__classdict__" : Str)) = false := by decide)
    (hst : starEach (e :: es) X.env = (false, eval e X.env) :: starEach es X.env := by rfl) (hpl : (backTo pos (starEach es X.env)).any (·.1) = false := by rfl)
    (ht : eval (.Call (.Attribute (.Name x xpos) m apos) (e :: es) [] pos) X.env = (do
      let ov ← eval (.Name x xpos) X.env
      standAt apos.atName
      let (f, first) ← holding [ov] (getMethod ov m pl)
      callWith pos f first (backTo pos (starEach (e :: es) X.env)) (backToKw pos (keywordEach [] X.env))) := by rfl) :
    PE X (.Call (.Attribute (.Name x xpos) m apos) (e :: es) [] pos) (teD X.K X.mg W (dMethR i c n G fl)) := by
  obtain ⟨C, g, fd, ps, m1, m2, m3, m4, m5⟩ := M.ex
  refine PEi (pe_meth (pl := pl) (pe_var hN hv hd hcd) m2 m3 m5 (hr.mono hjk) m4 .nil passNo ha hst hpl ht) fun σ H Q ⟨B, F, δ, E, o⟩ => ?_
  unfold dMethR at o
  split at o
  · rename_i lk c' fs h
    split at o
    · rename_i hc
      subst hc
      obtain ⟨a, h1, hO⟩ := E.obj i _ _ _ h
      obtain ⟨C', dx, gs, h2, h3, h4, h5, h6, h7, h8⟩ := hO.ex
      rw [m1] at h2
      cases h2
      refine ⟨.ref a, h1, a, dx, gs, rfl, h3, ms_lookup h8 hma, ?_⟩
      obtain ⟨x1, s1, k1⟩ := outE_bind o
      refine taD.then E x1 s1 fun ds vs F1 H1 e1 X1 r1 => ?_
      have o1 := (k1 ds e1).up X1
      split at o1
      · rename_i hlen
        have E1 := E.up X1
        obtain ⟨a', j1, hO1⟩ := E1.obj i _ _ _ h
        rw [h1] at j1
        cases j1
        refine ⟨a, vs ++ [], rfl, by rw [List.append_nil, r1.len, hlen], F1, fs, ds, X1.c, E1.tbsH, hO1.fixH E1.b, by rw [List.append_nil]; exact r1, ?_⟩
        cases q : G fs ds with
        | ok d => rw [q] at o1; exact o1
        | exc nm => rw [q] at o1; exact o1.elim
        | stuck => rw [q] at o1; exact o1.elim
      · exact o1.elim
    · exact o.elim
  · exact o.elim
open Classical in
/-- what a method call leaves as it is: all but its object -/
noncomputable def cutB (B H : Hp) (a : Addr) (gs : List (Str × V)) (dd : Prop) : Hp := fun b => if b = a ∨ (dd ∧ (∃ ks, H b = some (.dK ks)) ∧ (∃ n, (n, V.ref b) ∈ gs) ∧ B b = none) then none else H b
theorem cut_ex {B H : Hp} {a : Addr} {gs : List (Str × V)} {dd : Prop} : Ex (cutB B H a gs dd) H := .of fun b o h => by
  unfold cutB at h
  split at h
  · cases h
  · exact h
theorem noTbD {o : HO} (h : isDct o = true) : isTb o = false := by
  cases o <;> first | rfl | cases h
theorem cut_a {B H : Hp} {a : Addr} {gs : List (Str × V)} {dd : Prop} : cutB B H a gs dd a = none := if_pos (.inl rfl)
theorem cut_o {B H : Hp} {a : Addr} {gs : List (Str × V)} {dd : Prop} {b : Addr} (h1 : b ≠ a) (h2 : ¬ (dd ∧ (∃ ks, H b = some (.dK ks)) ∧ (∃ n, (n, V.ref b) ∈ gs) ∧ B b = none)) : cutB B H a gs dd b = H b := if_neg fun z => z.elim h1 h2
theorem cut_in {B H : Hp} {a : Addr} {gs : List (Str × V)} {dd : Prop} {C dx : Addr} {gs' : List (Str × V)} (b : Ex B H) (hBa : B a = none) (hHa : H a = some (.ins C dx gs')) : Ex B (cutB B H a gs dd) := by
  have same : ∀ x, B x ≠ none → cutB B H a gs dd x = H x := fun x h => cut_o (fun e => h (by rw [e]; exact hBa)) fun w => h w.2.2.2
  have tbl : ∀ {x : Addr} {o : HO}, H x = some o → (∀ ks, o ≠ .dK ks) → (∀ C dx gs, o ≠ .ins C dx gs) → cutB B H a gs dd x = some o := fun {x o} h h1 h2 => by
    rw [cut_o (fun e => by rw [e, hHa] at h; exact h2 _ _ _ (Option.some.inj h).symm) fun w => by
      obtain ⟨ks, w2⟩ := w.2.1
      rw [h] at w2
      exact h1 _ (Option.some.inj w2)]
    exact h
  refine ⟨fun x o h n => ?_, fun P q hm z => ?_, fun x o h => ?_⟩
  · rw [same x (by rw [h]; nofun)]
    exact b.k _ _ h n
  · obtain ⟨ps, z1, z2, z3⟩ := b.tb P q hm z
    exact ⟨ps, tbl z1 nofun nofun, z2, fun pos cv hc => let ⟨c, c1, c2⟩ := z3 pos cv hc; ⟨c, c1, tbl c2 nofun nofun⟩⟩
  · rw [same x (by rw [h]; nofun)]
    exact b.so _ _ h
theorem sx_methM {pl : Sem Bool} {G : List (Str × P) → List P → MRes} (M : MethOk X.prog X.w X.K X.mg X.base c m jm (spM X.K X.mg n c G)) (hr : Room k X.A) (hNd : X.N.Nodup) (hN : X.N[i]? = some x) (hv : Vis X.env.scope x) (hj : X.N[j]? = some y) (hy : Loc X.env.scope y) (ha : PA X (e :: es) (taD X.K X.mg W fl)) (hjk : jm ≤ k := by decide) (hma : m ∉ aNames := by decide) (hd : (x == ("__debug__" : Str)) = false := by decide) (hcd : (x == ("__classdict__" : Str)) = false := by decide)
    (hst : starEach (e :: es) X.env = (false, eval e X.env) :: starEach es X.env := by rfl) (hpl : (backTo p (starEach es X.env)).any (·.1) = false := by rfl)
    (ht : eval (.Call (.Attribute (.Name x xpos) m apos) (e :: es) [] p) X.env = (do
      let ov ← eval (.Name x xpos) X.env
      standAt apos.atName
      let (f, first) ← holding [ov] (getMethod ov m pl)
      callWith p f first (backTo p (starEach (e :: es) X.env)) (backToKw p (keywordEach [] X.env))) := by rfl)
    (hs : swapsWith (.Call (.Attribute (.Name x xpos) m apos) (e :: es) [] p) (some (.Name y ypos)) pos.line X.env = pure false := by rfl) (hf : X.fn y = true ∨ X.env.scope.names.lookup y = some .local := by first | exact .inl rfl | exact .inr rfl | assumption) :
    PS X (.Assign [.Name y ypos] (.Call (.Attribute (.Name x xpos) m apos) (e :: es) [] p) pos) (tsD X.K X.mg W (sMethM j i c n G fl)) := by
  obtain ⟨C, g, fd, ps, m1, m2, m3, m4, m5⟩ := M.ex
  refine PSi (ps_set hNd hj hy (pe_meth (pl := pl) (pe_var hN hv hd hcd) m2 m3 m5 (hr.mono hjk) m4 .nil passNo ha hst hpl ht) hs hf) fun D σ H ⟨B, F, δ, E, o⟩ => ?_
  unfold sMethM at o
  split at o
  · rename_i q c' fs h
    split at o
    · rename_i hc
      obtain ⟨rfl, hdd⟩ := hc
      obtain ⟨a, h1, hO⟩ := E.obj i _ _ _ h
      obtain ⟨C', dx, gs, h2, h3, h4, h5, h6, h7, h8⟩ := hO.ex
      rw [m1] at h2
      cases h2
      refine ⟨.ref a, h1, a, dx, gs, rfl, h3, ms_lookup h8 hma, ?_⟩
      obtain ⟨x1, s1, k1⟩ := outS_of E o
      refine taD.then E x1 s1 fun ds vs F1 H1 e1 X1 r1 => ?_
      have E1 := E.up X1
      have o1 := (k1 ds e1).up (E.sext X1)
      split at o1
      · rename_i hlen
        obtain ⟨a', j1, hO1⟩ := E1.obj i _ _ _ h
        rw [h1] at j1
        cases j1
        obtain ⟨C2, dx2, gs2, g2, g3, g4, g5, g6, g7, g8⟩ := hO1.ex
        have hdk : ∀ b ks, H1 b = some (.dK ks) → b ≠ a := fun b ks z e => by rw [e, g3] at z; cases z
        refine ⟨a, vs ++ [], rfl, by rw [List.append_nil, r1.len, hlen], cutB B H1 a gs2 (fs.all (fun y => !isDP y.2) = false), F1, fs, ds, X1.c, cut_ex, E1.tbs.up (cut_in E1.b g5.1 g3), ?_, by rw [List.append_nil]; exact r1, ?_⟩
        · have fl2 : ∀ {ls : List (Str × V)} {es : List (Str × P)}, (∀ z ∈ ls, z ∈ gs2) → (∀ z ∈ es, z ∈ fs) → Flds X.K B F1 H1 (.free q) ls es → Flds X.K (cutB B H1 a gs2 (fs.all (fun y => !isDP y.2) = false)) F1 H1 (.free (some a)) ls es := by
            intro ls es zs ze z
            induction z with
            | nil => exact .nil
            | cons z _ ih =>
              refine .cons ?_ (ih (fun w hw => zs w (List.mem_cons_of_mem _ hw)) fun w hw => ze w (List.mem_cons_of_mem _ hw))
              cases z with
              | val z1 z2 => exact .val z1 z2
              | dic z1 z2 z3 =>
                refine .dic z1 z2 ⟨z3.1, if_pos (.inr ⟨?_, ⟨_, z3.1⟩, ⟨_, zs _ List.mem_cons_self⟩, z3.2⟩)⟩
                have hin := ze _ List.mem_cons_self
                cases hall : fs.all (fun y => !isDP y.2) with
                | false => rfl
                | true => exact nomatch (show (false = true) from List.all_eq_true.mp hall _ hin)
          exact ⟨⟨C2, dx2, gs2, g2, g3, g4, ⟨cut_a, fun b z => Option.some.inj z⟩, fl2 (fun _ z => z) (fun _ z => z) g6, g7, g8⟩⟩
        · cases qG : G fs ds with
          | exc nm fs2 => rw [qG] at o1; exact o1.elim
          | stuck => rw [qG] at o1; exact o1.elim
          | ok d fs2 =>
            rw [qG] at o1
            intro v F' H' c3 b' x' hO' rv
            have bB : Ex B (cutB B H1 a gs2 (fs.all (fun y => !isDP y.2) = false)) := cut_in E1.b g5.1 g3
            have E2 : EnvOk X.K B F' H' σ (δ.set i (.obj (.free q) c' fs2)) := by
              refine E1.reObj h1 h c3 (bB.trans b') E1.tbs x'.f (fun b ws z1 z2 z3 => ?_) (hO'.any (fun b z => ?_) g5.2) fun j2 b l2 c2 f2 hj2 z hba hOb => ?_
              · have hb1 : b ≠ a := fun e => by rw [e, g3] at z1; cases z1
                have ec := cut_o (B := B) (H := H1) (gs := gs2) (dd := fs.all (fun y => !isDP y.2) = false) hb1 fun w => by
                  obtain ⟨ks, w2⟩ := w.2.1
                  rw [z1] at w2
                  cases w2
                exact ⟨b'.k _ _ (ec.trans z1), x'.n _ z2 (by rw [ec, z1]; nofun), z3⟩
              · cases e : B b with
                | none => rfl
                | some u => exact absurd z (bB.so _ _ e)
              · rcases hdd with hdd | hdd
                · obtain ⟨C4, dx4, gs4, y3, y4, y5, y6, y7, y8⟩ := hOb.ex
                  have ec : ∀ {t : Addr}, t ≠ a → cutB B H1 a gs2 (fs.all (fun y => !isDP y.2) = false) t = H1 t := fun {t} ht => cut_o ht fun w => by rw [hdd] at w; exact nomatch w.1
                  have dk : ∀ t o, H1 t = some o → isDct o = true → t ≠ a := fun t o w wd e => by
                    rw [e, g3] at w
                    cases w
                    cases wd
                  exact ⟨⟨C4, dx4, gs4, y3, b'.k _ _ ((ec hba).trans y4), x'.n _ y5 (by rw [ec hba, y4]; nofun), y6, y7.chgD E1.b x'.f (fun t o w1 w2 w3 => x'.n _ w1 (by rw [ec (dk t o w2 w3), w2]; nofun)) (fun t o w2 w3 => b'.k _ _ ((ec (dk t o w2 w3)).trans w2) (noTbD w3)) fun _ _ _ _ => rfl, y8⟩⟩
                · exact absurd (lone_of hdd z) hj2
            refine o1 _ F' H' (E2.set j rv) ⟨x'.f, fun b w1 w2 => x'.n b w1 fun w3 => ?_⟩
            cases e : B b with
            | none => exact w2 e
            | some u => exact absurd w3 (bB.so _ _ e)
      · exact o1.elim
    · exact o.elim
  · exact o.elim
theorem sx_make {G : List (Str × P) → List P → MRes} (M : MakeOk X.prog X.w X.K X.mg X.base c jm (spM X.K X.mg n c G)) (hr : Room k X.A) (hNd : X.N.Nodup) (hg : Gl X c) (hj : X.N[i]? = some y) (hy : Loc X.env.scope y) (ha : PA X (e :: es) (taD X.K X.mg W fl)) (hjk : jm + 1 ≤ k := by decide) (hdb : (c == ("__debug__" : Str)) = false := by decide) (he : starEach (e :: es) X.env = (false, eval e X.env) :: starEach es X.env := by rfl) (hpl : (backTo pos (starEach es X.env)).any (·.1) = false := by rfl) {pos2 : Pos}
    (hs : swapsWith (.Call (.Name c p) (e :: es) [] pos) (some (.Name y ypos)) pos2.line X.env = pure false := by rfl) (hf : X.fn y = true ∨ X.env.scope.names.lookup y = some .local := by first | exact .inl rfl | exact .inr rfl | assumption) :
    PS X (.Assign [.Name y ypos] (.Call (.Name c p) (e :: es) [] pos) pos2) (tsD X.K X.mg W (sMake i c n G fl)) := by
  obtain ⟨C, g, fd, ps, m1, m1', m2, m3, m4, m5⟩ := M.ex
  refine PSi (ps_set hNd hj hy (pe_make m3 m5 (hr.mono hjk) hg m1' m4 .nil passNo ha hdb he hpl) hs hf) fun D σ H ⟨B, F, δ, E, o⟩ => ?_
  obtain ⟨x1, s1, k1⟩ := outS_of E o
  refine taD.then E x1 s1 fun ds vs F1 H1 e1 X1 r1 => ?_
  have E1 := E.up X1
  have o1 := (k1 ds e1).up (E.sext X1)
  split at o1
  · rename_i hlen
    intro a dx ha hdx hne
    have up1 : Ex H1 (upd (upd H1 dx (.own a)) a (.ins C dx [])) := (Ex.new hdx).trans (.new (by rw [upd_ne hne.symm]; exact ha))
    refine ⟨a, vs ++ [], rfl, by rw [List.append_nil, r1.len, hlen], H1, F1, [], ds, X1.c.trans up1, up1, E1.tbsH, ⟨⟨C, dx, [], m1, upd_same, X1.c.none ha, ⟨ha, fun b z => Option.some.inj z⟩, .nil, m2, fun _ _ z => nomatch z⟩⟩, by rw [List.append_nil]; exact r1, ?_⟩
    cases qG : G [] ds with
    | exc nm fs2 => rw [qG] at o1; exact o1.elim
    | stuck => rw [qG] at o1; exact o1.elim
    | ok d fs2 =>
      rw [qG] at o1
      intro v F' H' c' b' x' hO' rv
      cases d with
      | none =>
        cases rv
        refine ⟨rfl, ?_⟩
        have E2 := E1.up (F' := F') (H' := H') ⟨x'.f, b', c', x'.n⟩
        refine o1 _ F' H' (E2.setObj i (hO'.any (fun b z => ?_) fun _ z => nomatch z) (E1.newO ha)) ⟨x'.f, fun b w1 w2 => x'.n b w1 fun w3 => w2 (E1.b.none w3)⟩
        exact E1.b.none z
      | _ => exact o1.elim
  · exact o1.elim
theorem sx_retO {kt : Nat} {tpos : Pos} (hN : X.N[i]? = some x) (hv : Vis X.env.scope x) (he : PE X e (teD X.K X.mg W f)) (hd : (x == ("__debug__" : Str)) = false := by decide) (hcd : (x == ("__classdict__" : Str)) = false := by decide) (hs1 : starEach [.Name x xpos, e] X.env = (false, eval (.Name x xpos) X.env) :: starEach [e] X.env := by rfl) (hs2 : starEach [e] X.env = (false, eval e X.env) :: starEach [] X.env := by rfl) :
    PS X (.Return (some (.Tuple [.Name x xpos, e] kt tpos)) pos) (tsD X.K X.mg W (sRetO i f)) := PSi (ps_ret (pe_tup (pa_cons (pe_var hN hv hd hcd) (pa_cons he pa_nil hs2) hs1))) fun D σ H ⟨B, F, δ, E, o⟩ => by
  unfold sRetO at o
  split at o
  · rename_i q c fs h
    obtain ⟨x1, s1, k1⟩ := outS_of E o
    obtain ⟨a, h1, hO⟩ := E.obj i _ _ _ h
    refine ⟨.ref a, h1, ?_⟩
    refine teD.then E x1 s1 fun d v F1 H1 e1 X1 r1 => ?_
    have E1 := E.up X1
    have o1 := (k1 d e1).up (E.sext X1)
    obtain ⟨a', j1, hO1⟩ := E1.obj i _ _ _ h
    rw [h1] at j1
    cases j1
    refine ⟨by show 2 ≤ sizeLine; decide, fun t ht => ?_⟩
    have hO2 : ObjE X.K B F1 H1 (.free none) c fs a := hO1.any (fun _ z => z) fun _ z => nomatch z
    refine o1 (.ref t) a F1 _ (X1.c.mut (X1.c.none ht) (.none ht)) (E1.b.mut (E1.b.none ht) (.none ht)) .refl (hO2.chg E1.b (.refl F1) (fun _ _ z _ _ => z) fun b u z _ => ?_) ⟨t, v, rfl, upd_same, r1⟩
    rw [upd_ne (ne_of_none z ht)]
    exact z
  · exact o.elim
theorem sx_pairO {G : List P → ORes} {k2 : Nat} {p1 p2 p3 p4 cpos : Pos} {fn : Str} (M : CallS X.prog X.w X.K X.mg X.base fn jm (spO X.K n G)) (hr : Room k X.A) (hg : Gl X fn) (tk : Takes X W) (hc : X.calm = true) (hNd : X.N.Nodup) (hi : X.N[i]? = some x) (hx : Loc X.env.scope x) (hj : X.N[j]? = some y) (hy : Loc X.env.scope y) (ha : PA X (e :: es) (taD X.K X.mg W fl)) (hjk : jm ≤ k := by decide) (hdb : (fn == ("__debug__" : Str)) = false := by decide)
    (he : starEach (e :: es) X.env = (false, eval e X.env) :: starEach es X.env := by rfl) (hpl : (backTo cpos (starEach es X.env)).any (·.1) = false := by rfl)
    (hf : X.fn x = true ∨ X.env.scope.names.lookup x = some .local := by first | exact .inl rfl | exact .inr rfl | assumption) (hf2 : X.fn y = true ∨ X.env.scope.names.lookup y = some .local := by first | exact .inl rfl | exact .inr rfl | assumption)
    (hs : swapsWithSole [.Tuple [.Name x p1, .Name y p2] k2 p3] (.Call (.Name fn p4) (e :: es) [] cpos) pos.line X.env = pure false := by rfl) (hw : swappedStores [.Tuple [.Name x p1, .Name y p2] k2 p3] (.Call (.Name fn p4) (e :: es) [] cpos) X.env = pure none := by rfl)
    (h1 : (assignEach [.Tuple [.Name x p1, .Name y p2] k2 p3] X.env).map (·.2) = [assign (.Tuple [.Name x p1, .Name y p2] k2 p3) X.env] := by rfl) :
    PS X (.Assign [.Tuple [.Name x p1, .Name y p2] k2 p3] (.Call (.Name fn p4) (e :: es) [] cpos) pos) (tsD X.K X.mg W (sPairO i j n G fl)) := by
  obtain ⟨g, fd, ps, m1, m2, m3, m4⟩ := M.ex
  refine PSi (ps_asg (pe_callS m4 (hr.mono hjk) hg m1 m2 m3 (fun σ => passAt tk σ) ha hdb he hpl) (pg_tup (n := 2) hc (pgs_cons (pg_name hNd hi hx hf) (pgs_cons (pg_name hNd hj hy hf2) pgs_nil))) hs hw h1) fun D σ H ⟨B, F, δ, E, o⟩ => ?_
  obtain ⟨x1, s1, k1⟩ := outS_of E o
  refine taD.then E x1 s1 fun ds vs F1 H1 e1 X1 r1 => ?_
  have E1 := E.up X1
  have o1 := (k1 ds e1).up (E.sext X1)
  split at o1
  · rename_i hlen
    refine ⟨by rw [r1.len, hlen], F1, ds, X1.c, (E.up X1).tbsH, r1, ?_⟩
    cases qG : G ds with
    | stuck => rw [qG] at o1; exact o1.elim
    | ok c fs d =>
      rw [qG] at o1
      cases d with
      | none => exact o1.elim
      | some d =>
        intro v p F' H' X2 hO hR
        obtain ⟨t, u, rfl, ht, ru⟩ := hR
        refine ⟨t, _, rfl, .of ht, rfl, _, _, rfl, _, _, rfl, rfl, ?_⟩
        have E2 := E1.up X2
        have hp : H1 p = none := by
          obtain ⟨C, dx, gs, _, _, _, h5, _⟩ := hO.ex
          exact h5.1
        have hO2 : ObjE X.K B F' H' (.free none) c fs p := hO.any (fun b z => E1.b.none z) fun _ z => nomatch z
        exact o1 _ F' H' ((E2.setObj i hO2 (E1.newO hp)).set j ru) (E1.sext X2)
  · exact o1.elim
theorem px_second {G : List P → ORes} {p4 cpos : Pos} {ik : Nat} {ipos : Pos} {fn : Str} (M : CallS X.prog X.w X.K X.mg X.base fn jm (spO X.K n G)) (hr : Room k X.A) (hg : Gl X fn) (tk : Takes X W) (ha : PA X (e :: es) (taD X.K X.mg W fl)) (hjk : jm ≤ k := by decide) (hdb : (fn == ("__debug__" : Str)) = false := by decide)
    (he : starEach (e :: es) X.env = (false, eval e X.env) :: starEach es X.env := by rfl) (hpl : (backTo cpos (starEach es X.env)).any (·.1) = false := by rfl) :
    PE X (.Subscript (.Call (.Name fn p4) (e :: es) [] cpos) (.Constant (.int 1) ik ipos) pos) (teD X.K X.mg W (dSecond n G fl)) := by
  obtain ⟨g, fd, ps, m1, m2, m3, m4⟩ := M.ex
  refine PEi (pe_ix ix_seq (pe_callS m4 (hr.mono hjk) hg m1 m2 m3 (fun σ => passAt tk σ) ha hdb he hpl) pe_int (fun _ _ => rfl)) fun σ H Q ⟨B, F, δ, E, o⟩ => ?_
  obtain ⟨x1, s1, k1⟩ := outE_bind o
  refine taD.then E x1 s1 fun ds vs F1 H1 e1 X1 r1 => ?_
  have o1 := (k1 ds e1).up X1
  split at o1
  · rename_i hlen
    refine ⟨by rw [r1.len, hlen], F1, ds, X1.c, (E.up X1).tbsH, r1, ?_⟩
    cases qG : G ds with
    | stuck => rw [qG] at o1; exact o1.elim
    | ok c fs d =>
      rw [qG] at o1
      cases d with
      | none => exact o1.elim
      | some d =>
        intro v p F' H' X2 hO hR
        obtain ⟨t, u, rfl, ht, ru⟩ := hR
        exact .inr (.inl ⟨t, _, 1, u, rfl, rfl, .of ht, rfl, o1 u F' H' X2 ru⟩)
  · exact o1.elim
end
section
variable {X : Cx} {W : WX} {e : Expr} {f : DE P} {pos : Pos}
theorem sx_retE (he : PE X e (teD X.K X.mg W f)) : PS X (.Return (some e) pos) (tsD X.K X.mg W (sRetE f)) := PSi (ps_ret he) fun D σ H ⟨B, F, δ, E, o⟩ => by
  obtain ⟨x1, s1, k1⟩ := outS_of E o
  exact teD.then E x1 s1 fun d v F1 H1 e1 X1 r1 => k1 d e1 v σ F1 H1 (E.up X1) (E.sext X1) r1
end
end DL

set_option Elab.async false
set_option linter.all false
set_option maxRecDepth 100000
set_option maxHeartbeats 4000000
/-! sorted of whole numbers -/
namespace Srt2
open PySem PyProof.Rows Srt SrtO
section
variable {prog : Program} {w : World} {A : Around} {E : Value → Shared → Prop} {s : Shared}
/-- what stands in a tuple, laid in a new list -/
theorem collect_tup {l : Addr} {vs : List Value} {Q : List Value → Shared → Prop} {o : Obj} {n : Nat} (ho : s.heap.get? l = some o) (hc : o.cls = .type "tuple") (hd : o.data = .seq vs.toArray n) (hz : vs.length ≤ sizeLine)
    (h : Q vs { s with heap := (s.heap.push (seqObj "list" #[] 0)).update s.heap.objs.size (Obj.mapSeq (· ++ vs.toArray)) }) :
    wpAny (model prog w) A (collect (.ref l)) Q E s := by
  unfold collect
  refine wpAny_bind (wpAny_runValue (codeAny_builtin entry_proto_collect' ?_))
  refine wpAny_bind (wpAny_newList (wpAny_pure ⟨Code.quiet_builtin _ (by decide +kernel), codeAny_builtin entry_list_iadd' ?_⟩))
  show wpAny _ _ (Builtin.List.listExtendWith (.ref s.heap.objs.size) (.ref l) (.ref s.heap.objs.size)) _ _ { s with heap := s.heap.push (seqObj "list" #[] 0) }
  unfold Builtin.List.listExtendWith
  have k : (s.heap.push (seqObj "list" #[] 0)).get? l = some o := Heap.get?_push_of_some _ ho
  refine wpAny_bind (wpAny_typeOf (T := "tuple") ⟨o, k, hc⟩ ?_)
  have isT : (Value.type "tuple" == Value.type "tuple") = true := by rfl
  rw [if_pos (by rw [isT]; simp)]
  refine wpAny_bind (listItems_at k hd ?_)
  refine wpAny_bind (listItems_at (xs := #[]) (n := 0) (Heap.get?_push_size _ rfl) rfl ?_)
  rw [if_neg (by simp)]
  refine wpAny_bind (listUpdate_at (xs := #[]) (n := 0) (Heap.get?_push_size _ rfl) rfl (wpAny_pure ?_) (Nat.zero_le _) (by simpa using Nat.le_succ_of_le hz))
  refine wpAny_bind (wpAny_load (get?_update_seq (Heap.get?_push_size _ rfl) _) ?_)
  show wpAny _ _ (pure ((#[] : Array Value) ++ vs.toArray).toList) Q E _
  rw [show ((#[] : Array Value) ++ vs.toArray).toList = vs by simp]
  exact wpAny_pure h
/-- sorted of a tuple -/
theorem sorted_tup {l : Addr} {vs : List Value} {ltv : Value → Value → Bool} {Q : Value → Shared → Prop} {o : Obj} {n : Nat} (O : Swo ltv) (ho : s.heap.get? l = some o) (hc : o.cls = .type "tuple") (hd : o.data = .seq vs.toArray n) (hz : vs.length ≤ sizeLine)
    (hS : 2 ≤ vs.length → ∀ (h₁ : Heap) (a : Addr), SortableO prog w A.in1.in1 { s with heap := h₁ } a vs ltv)
    (h : ∀ out : List Value, Srtd ltv out → Stb ltv out vs → Q (.ref (s.heap.objs.size + 1)) { s with heap := sortedAll s.heap vs out.toArray }) :
    wpAny (model prog w) A (call (.builtin "sorted") [.ref l]) Q E s := by
  refine Calls.call_function_entry kind_sorted plain_sorted entry_sorted (args_sorted1 _) ?_
  unfold Builtin.«sorted»
  refine wpAny_bind (m := checkCount "sorted" 1 1 _) (wpAny_pure (wpAny_bind (collect_tup ho hc hd hz (wpAny_bind (wpAny_newList ?_ hz)))))
  have sz : ((s.heap.push (seqObj "list" #[] 0)).update s.heap.objs.size (Obj.mapSeq (· ++ vs.toArray))).objs.size = s.heap.objs.size + 1 := by
    rw [Heap.size_update, size_push']
  have at1 : (((s.heap.push (seqObj "list" #[] 0)).update s.heap.objs.size (Obj.mapSeq (· ++ vs.toArray))).push (seqObj "list" vs.toArray 0)).get? (s.heap.objs.size + 1) = some (seqObj "list" vs.toArray 0) := by
    rw [← sz]
    exact Heap.get?_push_size _ rfl
  show wpAny _ _ _ _ _ { s with heap := ((s.heap.push (seqObj "list" #[] 0)).update s.heap.objs.size (Obj.mapSeq (· ++ vs.toArray))).push (seqObj "list" vs.toArray 0) }
  rw [sz]
  exact wpAny_bind (wpAny_holding (wpAny_call_entry slot_list_sort ⟨_, at1, rfl⟩ entry_list_sort (list_sort_ord O at1 hz (fun h2 => hS h2 _ _) fun out hs hb => ⟨_, rfl, wpAny_pure ⟨_, rfl, h out hs hb⟩⟩) (args_list_sort _)))
end
end Srt2
namespace L2
open PySem PySem.Spec PyProof.Rows
variable {X : Cx}
theorem cr_sortedT' : CallR X (.builtin "sorted") (fun vs H Q => ∃ (a : Addr) (ns : List Int), vs = [V.ref a] ∧ SqT X.K H a (ns.map V.int) ∧
  ∀ (ns' : List Int) (p : Addr), ns'.Perm ns → ns'.Pairwise (· ≤ ·) → H p = none → Q (.ref p) (upd H p (.lst (ns'.map V.int)))) := by
  intro pins s σ H vs us Q I r h
  obtain ⟨a, ns, rfl, hs, q⟩ := h
  obtain ⟨its, rv, ⟨o, ho, hc, n, hd⟩, hz⟩ := I.tuple hs
  rw [Vals.ref1 r]
  have hi := rv.ints
  refine Srt2.sorted_tup SrtO.swo_int ho hc hd (by rw [← rv.length]; exact hz) (fun h2 h₁ a' => SrtO.ints_sortable hi h2) fun out h1 h2 => ?_
  obtain ⟨k1, k2, k3⟩ := SrtO.ints_out hi h1 h2
  obtain ⟨ep, at2⟩ := PyProof.Rows.sortedAll_at s.heap its out.toArray
  have few : ((out.map SrtO.iv).map V.int).length ≤ sizeLine := by
    rw [List.length_map, k2.length_eq, ← List.length_map (f := V.int)]
    exact hz
  exact ⟨.ref _, upd H (s.heap.objs.size + 1) (.lst ((out.map SrtO.iv).map V.int)), I.laid (t' := s.toks) (fun _ _ => PyProof.Rows.sortedAll_old) (Nat.le_succ _) ⟨few, out, ep, vals_of_ints k1, at2⟩, rfl, q _ _ k2 k3 (I.hok.fresh (Nat.le_succ _))⟩
end L2
namespace DL
open PySem L2
variable [LTab]
theorem rp_int_list {K : PySem.W.Frag} {F : Hp} : ∀ (ns : List Int), RpAll K F (ns.map V.int) (ns.map PyData.int)
  | [] => .nil
  | n :: ns => .cons (.int n) (rp_int_list ns)
theorem sort_unique {xs ys : List Int} (h : xs.Perm ys) (h1 : xs.Pairwise (· ≤ ·)) (h2 : ys.Pairwise (· ≤ ·)) : xs = ys :=
  h.eq_of_pairwise (fun _ _ _ _ a b => Int.le_antisymm a b) h1 h2
def sortI (ns : List Int) : List Int := ns.mergeSort (fun a b => decide (a ≤ b))
theorem sortI_perm (ns : List Int) : (sortI ns).Perm ns := List.mergeSort_perm ns _
theorem sortI_sorted (ns : List Int) : (sortI ns).Pairwise (· ≤ ·) := by
  have h := List.pairwise_mergeSort (le := fun a b : Int => decide (a ≤ b)) (fun a b c h1 h2 => by
    rw [decide_eq_true_iff] at *
    omega) (fun a b => by
    rw [Bool.or_eq_true, decide_eq_true_iff, decide_eq_true_iff]
    omega) ns
  exact h.imp fun h => of_decide_eq_true h
def pSorted : P → Res (List P)
  | .list ds => match dInts ds with
    | some ns => .ok ((sortI ns).map PyData.int)
    | none => .stuck
  | .tuple ds => match dInts ds with
    | some ns => .ok ((sortI ns).map PyData.int)
    | none => .stuck
  | _ => .stuck
section
variable {X : Cx} {W : WX} {a : Expr} {f : DE P} {p pos : Pos}
theorem pl_sorted (hg : Gl X "sorted") (hm : X.mg "sorted" = none) (ha : PE X a (teB X.K X.mg W f)) (hs : starEach [a] X.env = (false, eval a X.env) :: starEach [] X.env := by rfl) : PE X (.Call (.Name "sorted" p) [a] [] pos) (teL X.K X.mg W (dUn pSorted f)) :=
  PEi (pe_callB (CallR.or cr_sortedI cr_sortedT') hg hm PyProof.Rows.boot_sorted (pa_cons ha pa_nil hs) (he := hs)) fun _ _ _ q => one_bL (fun σ F H v d Q c hv o => by
  unfold pSorted at o
  split at o
  · split at o
    · rename_i ns hn
      obtain ⟨p, vs, rfl, h1, h2⟩ := hv.lst c
      rw [ints_eq hn] at h2
      rw [h2.ints] at h1
      refine .inl ⟨p, ns, rfl, .of h1, fun ns' p' k1 k2 hq => ?_⟩
      rw [sort_unique (k1.trans (sortI_perm ns).symm) k2 (sortI_sorted ns)] at *
      exact o p' _ F _ (.newH c hq) hq (c.none hq) upd_same (rp_int_list _)
    · exact o.elim
  · split at o
    · rename_i ns hn
      obtain ⟨p, vs, rfl, h1, h2⟩ := hv.tup
      rw [ints_eq hn] at h2
      rw [h2.ints] at h1
      refine .inr ⟨p, ns, rfl, c.sqT h1, fun ns' p' k1 k2 hq => ?_⟩
      rw [sort_unique (k1.trans (sortI_perm ns).symm) k2 (sortI_sorted ns)] at *
      exact o p' _ F _ (.newH c hq) hq (c.none hq) upd_same (rp_int_list _)
    · exact o.elim
  · exact o.elim) q
end
end DL

set_option Elab.async false
set_option linter.all false
set_option maxRecDepth 100000
set_option maxHeartbeats 4000000
/-! an empty dict, as a thing; it is no whole number -/
namespace PySem.Ne2
open PySem PySem.W SeqAt
section
variable {prog : Program} {w : World} {A : Around} {E : Value → Shared → Prop} {s : Shared}
theorem dict_ne_declines {a : Addr} {b : Int} {t : Tok} {Q : Value → Shared → Prop} (ha : s.TypeIs (.ref a) "dict") (h : Q .notImplemented s) :
    wpAny (model prog w) A (call (.builtin "dict.__ne__") [.ref a, .int b t]) Q E s := by
  refine wpAny_call_entry PySem.F.slot_dict_ne ha PySem.F.entry_dict_ne ?_ (PySem.F.args_dict_ne_2 _ _)
  show wpAny _ _ (Builtin.Dict.dictSlotArgs "__ne__" ⟨[.ref a, .int b t], []⟩ >>= _) _ _ s
  refine wpAny_bind ?_
  unfold Builtin.Dict.dictSlotArgs
  refine wpAny_bind (wpAny_notOrdered_dict ha ?_)
  show wpAny _ _ (pure (Value.ref a, Value.int b t)) _ _ s
  refine wpAny_pure ?_
  refine wpAny_bind (wpAny_isInstance (T := "int") (typeIs_int s b t) PySem.F.sub_int_dict ?_)
  simp only [Bool.not_false, if_true]
  wp_walk
  exact ⟨_, rfl, h⟩
theorem int_ne_declines {a : Addr} {b : Int} {t : Tok} {Q : Value → Shared → Prop} {o : Obj} {es : Array DictEntry} {n : Nat} (ho : s.heap.get? a = some o) (hc : o.cls = .type "dict") (hd : o.data = .dict es n) (h : Q .notImplemented s) :
    wpAny (model prog w) A (call (.builtin "int.__ne__") [.int b t, .ref a]) Q E s := by
  refine wpAny_call_entry F.slot_int_ne (typeIs_int s b t) F.entry_int_ne ?_ (F.args_int_ne_2 _ _)
  obtain ⟨hp, g, d, tk, os⟩ := s
  wp_walk using wpAny_loadPart' ho, wpAny_load ho
  rw [hd]
  wp_walk
  exact ⟨_, rfl, h⟩
end
end PySem.Ne2
namespace L2
open PySem PySem.Spec PyProof.Rows PySem.W
theorem op_neDI {X : Cx} (hu : X.A.units + 64 < cLine) : OpR X (compareOp .NotEq) (fun x y H Q => ∃ a i, x = V.ref a ∧ y = V.int i ∧ H a = some (.dK []) ∧ Q (.bl true) H) := by
  intro pins s σ H x y v u Q I rx ry h
  obtain ⟨a, i, rfl, rfl, ea, q⟩ := h
  obtain rfl : v = Value.ref a := rx
  obtain ⟨t, rfl⟩ : ∃ t, u = Value.int i t := ry
  obtain ⟨_, ya, va, ra, da⟩ := (show ObjOk X.prog X.w H s.heap a (.dK []) from I.hok a _ ea)
  have ty := da.typeIs
  obtain ⟨o, es, ep, ho, hx, hd, _⟩ := da
  have hc : o.cls = .type "dict" := by
    obtain ⟨o', ho', hc'⟩ := ty
    rw [ho] at ho'
    cases ho'
    exact hc'
  refine SeqAt.rc_ne_decline_or (k := false) ty (typeIs_int s i t) (by decide) PySem.F.sub_int_dict PySem.F.slot_dict_ne PySem.F.slot_int_ne_refl
    (fun _ hq => Ne2.dict_ne_declines ty hq) (fun _ hq => Ne2.int_ne_declines ho hc hd hq) (fun _ hq => wpAny_of_eq (rfl : isSame (.ref a) (.int i t) = pure false) hq) (.inr (by omega)) ?_
  exact fin_bl I q rfl
end L2
namespace DL
open PySem L2
variable [LTab]
/-- x != y, the left one an empty dict, too -/
def pNeE : P → P → Res P
  | .dict [], .int _ => .ok (.bool true)
  | d, e => pNe d e
section
variable {X : Cx} {W : WX} {a b : Expr} {f g : DE P} {pos : Pos}
theorem od_neE : OpD X W pNeE (fun x y H Q => rNeD X.K x y H Q ∨ ∃ a i, x = V.ref a ∧ y = V.int i ∧ H a = some (.dK []) ∧ Q (.bl true) H) := fun σ F H x y d e Q c hx hy o => by
  unfold pNeE at o
  split at o
  · have h1 := hx.rp (fun _ => nofun)
    cases h1 with
    | emp h1 => exact .inr ⟨_, _, rfl, int_of hy, c.k _ _ h1, o _ F H (.refl c) (.bl true)⟩
  · exact .inl (od_ne σ F H x y d e Q c hx hy o)
theorem px_neE {k : Nat} (hr : Room k X.A) (ha : PE X a (teB X.K X.mg W f)) (hb : PE X b (teB X.K X.mg W g)) : PE X (.Compare a [.NotEq] [b] pos) (teD X.K X.mg W (dOp pNeE f g)) := px_cmpR (.or (op_neD hr.units) (op_neDI hr.units)) od_neE ha hb (nomark _)
theorem pt_neE {k : Nat} (hr : Room k X.A) (ha : PE X a (teB X.K X.mg W f)) (hb : PE X b (teB X.K X.mg W g)) : PT X (.Compare a [.NotEq] [b] pos) (teT X.K X.mg W (dT (dOp pNeE f g))) := pt_cR (.or (op_neD hr.units) (op_neDI hr.units)) od_neE ha hb (nomark _)
theorem px_emp : PE X (.Dict [] [] pos) (teD X.K X.mg W (dC (.dict []))) := PEi pe_dnewK fun σ H Q ⟨B, F, δ, E, o⟩ p hp => o _ _ _ (.new E.c hp) (.emp upd_same)
end
end DL

set_option Elab.async false
set_option linter.all false
set_option maxRecDepth 100000
set_option maxHeartbeats 4000000
/-! expressions that change an object: what comes of them stands in a retE -/
namespace DL
open PySem L2 PyProof.Rows
variable [LTab]
section
variable (K : PySem.W.Frag) (mg : Str → Option Value) (W : WX)
def OutX (σ : L2.St) (B F : Hp) (r : SRes) (Q : VK) : Prop := match r with
  | .retE d δ' => ∀ v F' H', EnvOk K B F' H' σ δ' → SExt B F F' → Rp K F' v d → Q v H'
  | .exc n δ' => ∀ C F' H', mg n = some (.ref C) → EnvOk K B F' H' σ δ' → SExt B F F' → W (.ref C) none σ H'
  | _ => False
def teX (f : DEnv → SRes) : TE := fun σ H Q => ∃ B F δ, EnvOk K B F H σ δ ∧ OutX K mg W σ B F (f δ) Q
end
section
variable {K : PySem.W.Frag} {mg : Str → Option Value} {W : WX} {B F F1 H : Hp} {σ : L2.St} {δ : DEnv} {Q : VK}
theorem OutX.up {r : SRes} (h : OutX K mg W σ B F r Q) (e : SExt B F F1) : OutX K mg W σ B F1 r Q := by
  cases r with
  | retE d δ' => exact fun v F' H' E x => h v F' H' E (e.trans x)
  | exc n δ' => exact fun C F' H' m E x => h C F' H' m E (e.trans x)
  | nx δ' => exact h.elim
  | brk δ' => exact h.elim
  | cont δ' => exact h.elim
  | ret d => exact h.elim
  | stuck => exact h.elim
  | retO c fs d => exact h.elim
theorem outX_of {α : Type} {r : Res α} {k : α → SRes} (E : EnvOk K B F H σ δ) (o : OutX K mg W σ B F (ofR δ r k) Q) : (∀ n, r = .exc n → XcW mg W σ F H n) ∧ (r = .stuck → False) ∧ ∀ d, r = .ok d → OutX K mg W σ B F (k d) Q := by
  cases r with
  | ok d => exact ⟨nofun, nofun, fun d' e => by cases e; exact o⟩
  | exc n => exact ⟨fun n' e => by
      cases e
      exact fun C F' H' m X => o C F' H' m (E.up X) (E.sext X), nofun, nofun⟩
  | stuck => exact o.elim
end
/-- what is left as it is: all but the object itself -/
noncomputable def offB (H : Hp) (a : Addr) : Hp := cutB H H a [] False
theorem off_ex {H : Hp} {a : Addr} : Ex (offB H a) H := cut_ex
theorem cut_in' {B H : Hp} {a : Addr} {C dx : Addr} {gs' : List (Str × V)} (b : Ex B H) (hBa : B a = none) (hHa : H a = some (.ins C dx gs')) : Ex B (offB H a) := by
  have same : ∀ {x : Addr} {o : HO}, H x = some o → (∀ C dx gs, o ≠ .ins C dx gs) → offB H a x = some o := fun {x o} h h2 => by
    refine (cut_o (fun e => ?_) fun z => z.1).trans h
    rw [e, hHa] at h
    exact h2 _ _ _ (Option.some.inj h).symm
  have ne : ∀ x, B x ≠ none → x ≠ a := fun x h e => h (by rw [e]; exact hBa)
  refine ⟨fun x o h n => (cut_o (ne x (by rw [h]; nofun)) fun z => z.1).trans (b.k _ _ h n), fun P q hm z => ?_, fun x o h => ?_⟩
  · obtain ⟨ps, z1, z2, z3⟩ := b.tb P q hm z
    exact ⟨ps, same z1 nofun, z2, fun pos cv hc => let ⟨c, c1, c2⟩ := z3 pos cv hc; ⟨c, c1, same c2 nofun⟩⟩
  · rw [show offB H a x = H x from cut_o (ne x (by rw [h]; nofun)) fun z => z.1]
    exact b.so _ _ h
theorem off_a {H : Hp} {a : Addr} : offB H a a = none := cut_a
theorem off_o {H : Hp} {a b : Addr} (h : b ≠ a) : offB H a b = H b := cut_o h fun z => z.1
/-- the outcome of a call that may change the object at a name -/
def outG (δ : DEnv) (i : Nat) (q : Option Addr) (c : Str) : MRes → SRes
  | .ok d fs' => .retE d (δ.set i (.obj (.free q) c fs'))
  | .exc nm fs' => .exc nm (δ.set i (.obj (.free q) c fs'))
  | .stuck => .stuck
def noDs (fs : List (Str × P)) : Bool := fs.all fun y => !isDP y.2
/-- o.m(..), f(o, ..), o may change -/
def eMeth (i : Nat) (c : Str) (n : Nat) (G : List (Str × P) → List P → MRes) (fl : DE (List P)) : DEnv → SRes := fun δ => match δ[i]? with
  | some (.obj (.free q) c' fs) => if c' = c ∧ noDs fs = true then ofR δ (fl δ) fun ds => if ds.length = n then outG δ i q c (G fs ds) else .stuck else .stuck
  | _ => .stuck
section
variable {K : PySem.W.Frag} {mg : Str → Option Value} {W : WX} {B F H : Hp} {σ : L2.St} {δ : DEnv} {Q : VK}
theorem fld_off {q : Option Addr} {a : Addr} {fs : List (Str × P)} (hn : noDs fs = true) : ∀ {ls : List (Str × V)} {es : List (Str × P)}, (∀ z ∈ es, z ∈ fs) → Flds K B F H (.free q) ls es → Flds K (offB H a) F H (.free (some a)) ls es := by
  intro ls es ze z
  induction z with
  | nil => exact .nil
  | cons z _ ih =>
    refine .cons ?_ (ih fun w hw => ze w (List.mem_cons_of_mem _ hw))
    cases z with
    | val z1 z2 => exact .val z1 z2
    | dic z1 z2 z3 => exact nomatch (show (false = true) from List.all_eq_true.mp hn _ (ze _ List.mem_cons_self))
/-- behind a call that has the object -/
theorem EnvOk.afterM {i : Nat} {a : Addr} {q : Option Addr} {c : Str} {fs fs2 : List (Str × P)} {F' H' : Hp} (E : EnvOk K B F H σ δ) (h1 : σ[i]? = some (some (.ref a))) (h : δ[i]? = some (.obj (.free q) c fs)) (c3 : Ex F' H') (b' : Ex (offB H a) H') (x' : SExt (offB H a) F F') (hO' : ObjE K (offB H a) F' H' (.free (some a)) c fs2 a) :
    EnvOk K B F' H' σ (δ.set i (.obj (.free q) c fs2)) ∧ SExt B F F' := by
  obtain ⟨a', j1, hO1⟩ := E.obj i _ _ _ h
  rw [h1] at j1
  cases j1
  obtain ⟨C2, dx2, gs2, g2, g3, g4, g5, g6, g7, g8⟩ := hO1.ex
  have bB : Ex B (offB H a) := cut_in' E.b g5.1 g3
  refine ⟨E.reObj h1 h c3 (bB.trans b') E.tbs x'.f (fun b ws z1 z2 z3 => ?_) (hO'.any (fun b z => ?_) g5.2) fun j2 b l2 c2 f2 hj2 z hba hOb => ?_, ⟨x'.f, fun b w1 w2 => x'.n b w1 fun w3 => ?_⟩⟩
  · have hb1 : b ≠ a := fun e => by rw [e, g3] at z1; cases z1
    exact ⟨b'.k _ _ ((off_o hb1).trans z1), x'.n _ z2 (by rw [off_o hb1, z1]; nofun), z3⟩
  · cases e : B b with
    | none => rfl
    | some u => exact absurd z (bB.so _ _ e)
  · obtain ⟨C4, dx4, gs4, y3, y4, y5, y6, y7, y8⟩ := hOb.ex
    have dk : ∀ t o, H t = some o → isDct o = true → t ≠ a := fun t o w wd e => by
      rw [e, g3] at w
      cases w
      cases wd
    exact ⟨⟨C4, dx4, gs4, y3, b'.k _ _ ((off_o hba).trans y4), x'.n _ y5 (by rw [off_o hba, y4]; nofun), y6, y7.chgD E.b x'.f (fun t o w1 w2 w3 => x'.n _ w1 (by rw [off_o (dk t o w2 w3), w2]; nofun)) (fun t o w2 w3 => b'.k _ _ ((off_o (dk t o w2 w3)).trans w2) (noTbD w3)) fun _ _ _ _ => rfl, y8⟩⟩
  · cases e : B b with
    | none => exact w2 e
    | some u => exact absurd w3 (bB.so _ _ e)
theorem spM_of {i n : Nat} {a : Addr} {q : Option Addr} {c : Str} {fs : List (Str × P)} {G : List (Str × P) → List P → MRes} {vs : List V} {ds : List P} (E : EnvOk K B F H σ δ) (h1 : σ[i]? = some (some (.ref a))) (h : δ[i]? = some (.obj (.free q) c fs)) (hn : noDs fs = true) (r1 : RpAll K F vs ds) (hlen : ds.length = n)
    (o : OutX K mg W σ B F (outG δ i q c (G fs ds)) Q) : spM K mg n c G (.ref a :: vs) H Q (WE W σ) := by
  obtain ⟨a', j1, hO1⟩ := E.obj i _ _ _ h
  rw [h1] at j1
  cases j1
  obtain ⟨C2, dx2, gs2, g2, g3, g4, g5, g6, g7, g8⟩ := hO1.ex
  refine ⟨a, vs, rfl, by rw [r1.len, hlen], offB H a, F, fs, ds, E.c, off_ex, E.tbs.up (cut_in' E.b g5.1 g3), ⟨⟨C2, dx2, gs2, g2, g3, g4, ⟨off_a, fun b z => Option.some.inj z⟩, fld_off hn (fun _ z => z) g6, g7, g8⟩⟩, r1, ?_⟩
  cases qG : G fs ds with
  | stuck => rw [qG] at o; exact o.elim
  | ok d fs2 =>
    rw [qG] at o
    intro v F' H' c3 b' x' hO' rv
    obtain ⟨E2, s2⟩ := E.afterM h1 h c3 b' x' hO'
    exact o v F' H' E2 s2 rv
  | exc nm fs2 =>
    rw [qG] at o
    intro C F' H' m' c3 b' x' hO'
    obtain ⟨E2, s2⟩ := E.afterM h1 h c3 b' x' hO'
    exact o C F' H' m' E2 s2
end
end DL
namespace L2
open PySem PySem.Spec PyProof.Rows
section
variable {X : Cx} {CX : CXT} {k : Nat} {f C : Addr} {fd : FuncData} {ps : List Str} {sp : Sp} {E : L2.St → XK} {x m : Str} {p pos apos : Pos} {e o : Expr} {es : List Expr} {ta : TE} {t : TA}
def tMethS (m : Str) (C : Addr) (sp : Sp) (E : L2.St → XK) (ta : TE) (t : TA) : TE := fun σ H Q => ta σ H fun x H1 => ∃ a dx fs, x = .ref a ∧ H1 a = some (.ins C dx fs) ∧ fs.lookup m = none ∧ t σ H1 fun vs H2 => sp (x :: vs) H2 Q (E σ)
theorem pe_methS {pl : Sem Bool} (he : PE X o ta) (c : Cls X.K C) (hm : Meth X.K C m f) (Fn : FnOk X.prog X.w X.K X.mg X.base CX k f fd ps sp) (hr : Room k X.A) (hb : Binds X.K fd ps []) (hx : ∀ σ, PassesAt CX X σ (E σ)) (ha : PA X (e :: es) t)
    (hst : starEach (e :: es) X.env = (false, eval e X.env) :: starEach es X.env := by rfl) (hpl : (backTo pos (starEach es X.env)).any (·.1) = false := by rfl)
    (ht : eval (.Call (.Attribute o m apos) (e :: es) [] pos) X.env = (do
      let ov ← eval o X.env
      standAt apos.atName
      let (f, first) ← holding [ov] (getMethod ov m pl)
      callWith pos f first (backTo pos (starEach (e :: es) X.env)) (backToKw pos (keywordEach [] X.env))) := by rfl) :
    PE X (.Call (.Attribute o m apos) (e :: es) [] pos) (tMethS m C sp E ta t) := ⟨fun pins s σ H Q I h => by
  refine PySem.W.methodCall_KW (pl := pl) (thn (he.run pins s σ H _ I h) fun u s1 ⟨x, H1, I1, rx, a, dx, fs, ex, ea, l, q⟩ => ?_) ht
  subst ex
  cases rx
  exact getmeth_ok I1 ea c hm l (PySem.W.callWith_K (first := [.ref a]) (h₀ := X.base) I.ok.mod.kin hm.kp (thn (ha.run pos pins s1 σ H1 _ I1 q) fun us s2 ⟨vs, H2, I2, r, q2⟩ => ⟨I2.kIn, run_fnS (us := .ref a :: us) (vs := .ref a :: vs) Fn hr hb (hx σ) I2 (.cons rfl r) q2⟩) hst hpl)⟩
theorem pe_methS0 {pl : Sem Bool} (he : PE X o ta) (c : Cls X.K C) (hm : Meth X.K C m f) (Fn : FnOk X.prog X.w X.K X.mg X.base CX k f fd ps sp) (hr : Room k X.A) (hb : Binds X.K fd ps []) (hx : ∀ σ, PassesAt CX X σ (E σ))
    (ht : eval (.Call (.Attribute o m apos) [] [] pos) X.env = (do
      let ov ← eval o X.env
      standAt apos.atName
      let (f, first) ← holding [ov] (getMethod ov m pl)
      callWith pos f first (backTo pos (starEach [] X.env)) (backToKw pos (keywordEach [] X.env))) := by rfl) :
    PE X (.Call (.Attribute o m apos) [] [] pos) (tMethS m C sp E ta tNil) := ⟨fun pins s σ H Q I h => by
  refine PySem.W.methodCall_KW (pl := pl) (thn (he.run pins s σ H _ I h) fun u s1 ⟨x, H1, I1, rx, a, dx, fs, ex, ea, l, q⟩ => ?_) ht
  subst ex
  cases rx
  exact getmeth_ok I1 ea c hm l (PySem.W.callWith_K0 (first := [.ref a]) I1.kIn hm.kp (run_fnS (us := [.ref a]) (vs := [.ref a]) Fn hr hb (hx σ) I1 (.cons rfl .nil) q))⟩
end
end L2

set_option Elab.async false
set_option linter.all false
set_option maxRecDepth 100000
set_option maxHeartbeats 4000000
/-! objects: calls that change them, as values; defs that take them -/
namespace DL
open PySem L2 PyProof.Rows
variable [LTab]
section
variable {X : Cx} {W : WX} {i n k jm : Nat} {x c m fn : Str} {xpos apos p pos : Pos} {e : Expr} {es : List Expr} {fl : DE (List P)}
theorem px_methX {pl : Sem Bool} {G : List (Str × P) → List P → MRes} (M : MethOk X.prog X.w X.K X.mg X.base c m jm (spM X.K X.mg n c G)) (hr : Room k X.A) (tk : Takes X W) (hN : X.N[i]? = some x) (hv : Vis X.env.scope x) (ha : PA X (e :: es) (taD X.K X.mg W fl)) (hjk : jm ≤ k := by decide) (hma : m ∉ aNames := by decide) (hd : (x == ("__debug__" : Str)) = false := by decide) (hcd : (x == ("__classdict__" : Str)) = false := by decide)
    (hst : starEach (e :: es) X.env = (false, eval e X.env) :: starEach es X.env := by rfl) (hpl : (backTo pos (starEach es X.env)).any (·.1) = false := by rfl)
    (ht : eval (.Call (.Attribute (.Name x xpos) m apos) (e :: es) [] pos) X.env = (do
      let ov ← eval (.Name x xpos) X.env
      standAt apos.atName
      let (f, first) ← holding [ov] (getMethod ov m pl)
      callWith pos f first (backTo pos (starEach (e :: es) X.env)) (backToKw pos (keywordEach [] X.env))) := by rfl) :
    PE X (.Call (.Attribute (.Name x xpos) m apos) (e :: es) [] pos) (teX X.K X.mg W (eMeth i c n G fl)) := by
  obtain ⟨C, g, fd, ps, m1, m2, m3, m4, m5⟩ := M.ex
  refine PEi (pe_methS (pl := pl) (pe_var hN hv hd hcd) m2 m3 m5 (hr.mono hjk) m4 (fun σ => passAt tk σ) ha hst hpl ht) fun σ H Q ⟨B, F, δ, E, o⟩ => ?_
  unfold eMeth at o
  split at o
  · rename_i q c' fs h
    split at o
    · rename_i hc
      obtain ⟨rfl, hn⟩ := hc
      obtain ⟨a, h1, hO⟩ := E.obj i _ _ _ h
      obtain ⟨C', dx, gs, h2, h3, h4, h5, h6, h7, h8⟩ := hO.ex
      rw [m1] at h2
      cases h2
      refine ⟨.ref a, h1, a, dx, gs, rfl, h3, ms_lookup h8 hma, ?_⟩
      obtain ⟨x1, s1, k1⟩ := outX_of E o
      refine taD.then E x1 s1 fun ds vs F1 H1 e1 X1 r1 => ?_
      have o1 := (k1 ds e1).up (E.sext X1)
      split at o1
      · rename_i hlen
        exact spM_of (E.up X1) h1 h hn r1 hlen o1
      · exact o1.elim
    · exact o.elim
  · exact o.elim
theorem px_methX0 {pl : Sem Bool} {G : List (Str × P) → List P → MRes} (M : MethOk X.prog X.w X.K X.mg X.base c m jm (spM X.K X.mg 0 c G)) (hr : Room k X.A) (tk : Takes X W) (hN : X.N[i]? = some x) (hv : Vis X.env.scope x) (hjk : jm ≤ k := by decide) (hma : m ∉ aNames := by decide) (hd : (x == ("__debug__" : Str)) = false := by decide) (hcd : (x == ("__classdict__" : Str)) = false := by decide)
    (ht : eval (.Call (.Attribute (.Name x xpos) m apos) [] [] pos) X.env = (do
      let ov ← eval (.Name x xpos) X.env
      standAt apos.atName
      let (f, first) ← holding [ov] (getMethod ov m pl)
      callWith pos f first (backTo pos (starEach [] X.env)) (backToKw pos (keywordEach [] X.env))) := by rfl) :
    PE X (.Call (.Attribute (.Name x xpos) m apos) [] [] pos) (teX X.K X.mg W (eMeth i c 0 G aNil)) := by
  obtain ⟨C, g, fd, ps, m1, m2, m3, m4, m5⟩ := M.ex
  refine PEi (pe_methS0 (pl := pl) (pe_var hN hv hd hcd) m2 m3 m5 (hr.mono hjk) m4 (fun σ => passAt tk σ) ht) fun σ H Q ⟨B, F, δ, E, o⟩ => ?_
  unfold eMeth at o
  split at o
  · rename_i q c' fs h
    split at o
    · rename_i hc
      obtain ⟨rfl, hn⟩ := hc
      obtain ⟨a, h1, hO⟩ := E.obj i _ _ _ h
      obtain ⟨C', dx, gs, h2, h3, h4, h5, h6, h7, h8⟩ := hO.ex
      rw [m1] at h2
      cases h2
      refine ⟨.ref a, h1, a, dx, gs, rfl, h3, ms_lookup h8 hma, ?_⟩
      exact spM_of E h1 h hn .nil rfl o
    · exact o.elim
  · exact o.elim
/-- f(o, ..), f changes o -/
theorem px_funX {G : List (Str × P) → List P → MRes} (M : CallS X.prog X.w X.K X.mg X.base fn jm (spM X.K X.mg n c G)) (hr : Room k X.A) (hg : Gl X fn) (tk : Takes X W) (hN : X.N[i]? = some x) (hv : Vis X.env.scope x) (ha : PA X es (taD X.K X.mg W fl)) (hjk : jm ≤ k := by decide) (hdb : (fn == ("__debug__" : Str)) = false := by decide) (hd : (x == ("__debug__" : Str)) = false := by decide) (hcd : (x == ("__classdict__" : Str)) = false := by decide)
    (he : starEach (.Name x xpos :: es) X.env = (false, eval (.Name x xpos) X.env) :: starEach es X.env := by rfl) (hpl : (backTo pos (starEach es X.env)).any (·.1) = false := by rfl) :
    PE X (.Call (.Name fn p) (.Name x xpos :: es) [] pos) (teX X.K X.mg W (eMeth i c n G fl)) := by
  obtain ⟨g, fd, ps, m1, m2, m3, m4⟩ := M.ex
  refine PEi (pe_callS m4 (hr.mono hjk) hg m1 m2 m3 (fun σ => passAt tk σ) (pa_cons (pe_var hN hv hd hcd) ha he) hdb he hpl) fun σ H Q ⟨B, F, δ, E, o⟩ => ?_
  unfold eMeth at o
  split at o
  · rename_i q c' fs h
    split at o
    · rename_i hc
      obtain ⟨rfl, hn⟩ := hc
      obtain ⟨a, h1, hO⟩ := E.obj i _ _ _ h
      refine ⟨.ref a, h1, ?_⟩
      obtain ⟨x1, s1, k1⟩ := outX_of E o
      refine taD.then E x1 s1 fun ds vs F1 H1 e1 X1 r1 => ?_
      have o1 := (k1 ds e1).up (E.sext X1)
      split at o1
      · rename_i hlen
        exact spM_of (E.up X1) h1 h hn r1 hlen o1
      · exact o1.elim
    · exact o.elim
  · exact o.elim
/-- o.m(), nothing changes -/
theorem px_meth0R {pl : Sem Bool} {G : List (Str × P) → List P → Res P} (M : MethOk X.prog X.w X.K X.mg X.base c m jm (spR X.K X.mg 0 c G)) (hr : Room k X.A) (hN : X.N[i]? = some x) (hv : Vis X.env.scope x) (hjk : jm ≤ k := by decide) (hma : m ∉ aNames := by decide) (hd : (x == ("__debug__" : Str)) = false := by decide) (hcd : (x == ("__classdict__" : Str)) = false := by decide)
    (ht : eval (.Call (.Attribute (.Name x xpos) m apos) [] [] pos) X.env = (do
      let ov ← eval (.Name x xpos) X.env
      standAt apos.atName
      let (f, first) ← holding [ov] (getMethod ov m pl)
      callWith pos f first (backTo pos (starEach [] X.env)) (backToKw pos (keywordEach [] X.env))) := by rfl) :
    PE X (.Call (.Attribute (.Name x xpos) m apos) [] [] pos) (teD X.K X.mg W (dMethR i c 0 G aNil)) := by
  obtain ⟨C, g, fd, ps, m1, m2, m3, m4, m5⟩ := M.ex
  refine PEi (pe_meth0 (pl := pl) (pe_var hN hv hd hcd) m2 m3 m5 (hr.mono hjk) m4 .nil passNo ht) fun σ H Q ⟨B, F, δ, E, o⟩ => ?_
  unfold dMethR at o
  split at o
  · rename_i lk c' fs h
    split at o
    · rename_i hc
      subst hc
      obtain ⟨a, h1, hO⟩ := E.obj i _ _ _ h
      obtain ⟨C', dx, gs, h2, h3, h4, h5, h6, h7, h8⟩ := hO.ex
      rw [m1] at h2
      cases h2
      refine ⟨.ref a, h1, a, dx, gs, rfl, h3, ms_lookup h8 hma, ?_⟩
      refine ⟨a, [], rfl, rfl, F, fs, [], E.c, E.tbsH, hO.fixH E.b, .nil, ?_⟩
      have o1 : OutE X.K X.mg W σ F H (G fs []).mute Q := o
      cases q : G fs [] with
      | ok d => rw [q] at o1; exact o1
      | exc nm => rw [q] at o1; exact o1.elim
      | stuck => rw [q] at o1; exact o1.elim
    · exact o.elim
  · exact o.elim
/-- f(o, ..), nothing changes -/
theorem px_funR {G : List (Str × P) → List P → Res P} (M : CallS X.prog X.w X.K X.mg X.base fn jm (spR X.K X.mg n c G)) (hr : Room k X.A) (hg : Gl X fn) (tk : Takes X W) (hN : X.N[i]? = some x) (hv : Vis X.env.scope x) (ha : PA X es (taD X.K X.mg W fl)) (hjk : jm ≤ k := by decide) (hdb : (fn == ("__debug__" : Str)) = false := by decide) (hd : (x == ("__debug__" : Str)) = false := by decide) (hcd : (x == ("__classdict__" : Str)) = false := by decide)
    (he : starEach (.Name x xpos :: es) X.env = (false, eval (.Name x xpos) X.env) :: starEach es X.env := by rfl) (hpl : (backTo pos (starEach es X.env)).any (·.1) = false := by rfl) :
    PE X (.Call (.Name fn p) (.Name x xpos :: es) [] pos) (teD X.K X.mg W (dMethR i c n G fl)) := by
  obtain ⟨g, fd, ps, m1, m2, m3, m4⟩ := M.ex
  refine PEi (pe_callS m4 (hr.mono hjk) hg m1 m2 m3 (fun σ => passAt tk σ) (pa_cons (pe_var hN hv hd hcd) ha he) hdb he hpl) fun σ H Q ⟨B, F, δ, E, o⟩ => ?_
  unfold dMethR at o
  split at o
  · rename_i lk c' fs h
    split at o
    · rename_i hc
      subst hc
      obtain ⟨a, h1, hO⟩ := E.obj i _ _ _ h
      refine ⟨.ref a, h1, ?_⟩
      obtain ⟨x1, s1, k1⟩ := outE_bind o
      refine taD.then E x1 s1 fun ds vs F1 H1 e1 X1 r1 => ?_
      have o1 := (k1 ds e1).up X1
      split at o1
      · rename_i hlen
        have E1 := E.up X1
        obtain ⟨a', j1, hO1⟩ := E1.obj i _ _ _ h
        rw [h1] at j1
        cases j1
        refine ⟨a, vs, rfl, by rw [r1.len, hlen], F1, fs, ds, X1.c, E1.tbsH, hO1.fixH E1.b, r1, ?_⟩
        cases q : G fs ds with
        | ok d => rw [q] at o1; exact o1
        | exc nm => rw [q] at o1; exact o1.elim
        | stuck => rw [q] at o1; exact o1.elim
      · exact o1.elim
    · exact o.elim
  · exact o.elim
/-- return e, e a value that changes an object -/
def sRetX (f : DEnv → SRes) : DEnv → SRes := fun δ => match f δ with
  | .retE d δ' => .retE d δ'
  | .exc n δ' => .exc n δ'
  | _ => .stuck
theorem sx_retX {f : DEnv → SRes} (he : PE X e (teX X.K X.mg W f)) : PS X (.Return (some e) pos) (tsD X.K X.mg W (sRetX f)) := PSi (ps_ret he) fun D σ H ⟨B, F, δ, E, o⟩ => by
  refine ⟨B, F, δ, E, ?_⟩
  unfold sRetX at o
  cases q : f δ with
  | retE d δ' => rw [q] at o; exact fun v F' H' E' x' rv => o v σ F' H' E' x' rv
  | exc n δ' => rw [q] at o; exact fun C F' H' m' E' x' => o C σ F' H' m' E' x'
  | nx δ' => rw [q] at o; exact o.elim
  | brk δ' => rw [q] at o; exact o.elim
  | cont δ' => rw [q] at o; exact o.elim
  | ret d => rw [q] at o; exact o.elim
  | stuck => rw [q] at o; exact o.elim
  | retO c fs d => rw [q] at o; exact o.elim
/-- if e != x: .., e a value that changes an object -/
def sIfNe (f : DEnv → SRes) (g : DE P) (h1 h2 : DEnv → SRes) : DEnv → SRes := fun δ => match f δ with
  | .retE d δ' => ofR δ' ((g δ').bind fun e => (pNe d e).bind truthOf) fun b => if b = true then h1 δ' else h2 δ'
  | .exc n δ' => .exc n δ'
  | _ => .stuck
end
end DL
namespace DL
open PySem L2 PyProof.Rows
variable [LTab]
theorem ofR_bind {α β : Type} {δ : DEnv} {r : Res α} {k : α → Res β} {h : β → SRes} : ofR δ (r.bind k) h = ofR δ r fun a => ofR δ (k a) h := by cases r <;> rfl
section
variable {X : Cx} {W : WX} {a b : Expr} {f h1 h2 : DEnv → SRes} {g : DE P} {p pos : Pos} {s1 s2 : List Stmt} {k : Nat}
theorem sx_ifNe (hr : Room k X.A) (ha : PE X a (teX X.K X.mg W f)) (hb : PE X b (teB X.K X.mg W g)) (hs1 : PSs X s1 (tsD X.K X.mg W h1)) (hs2 : PSs X s2 (tsD X.K X.mg W h2)) : PS X (.If (.Compare a [.NotEq] [b] p) s1 s2 pos) (tsD X.K X.mg W (sIfNe f g h1 h2)) :=
  PSi (ps_if (pt_cmpR (op_neD hr.units) ha hb (nomark _)) hs1 hs2) fun D σ H ⟨B, F, δ, E, o⟩ => by
  refine ⟨B, F, δ, E, ?_⟩
  unfold sIfNe at o
  cases q : f δ with
  | retE d δ' =>
    rw [q] at o
    intro v F' H' E' x' rv
    have o : OutS X.K X.mg W D B F (ofR δ' ((g δ').bind fun e => (pNe d e).bind truthOf) fun b => if b = true then h1 δ' else h2 δ') := o
    rw [ofR_bind] at o
    have o := o.up x'
    obtain ⟨x1, t1, k1⟩ := outS_of E' o
    refine teB.then E' x1 t1 fun d2 u F1 H1 e1 X1 r1 => ?_
    have E1 := E'.up X1
    have o1 := (k1 d2 e1).up (E'.sext X1)
    rw [ofR_bind] at o1
    obtain ⟨x2, t2, k2⟩ := outS_of E1 o1
    refine od_ne (W := W) σ F1 H1 v u d d2 _ X1.c ((show RpB X.K F' H' v d from .inl rv).up X1) r1 ?_
    cases r : pNe d d2 with
    | ok y =>
      intro v2 F2 H2 X2 r2
      have E2 := E1.up X2
      have o2 := (k2 y r).up (E1.sext X2)
      cases t : truthOf y with
      | ok z =>
        rw [t] at o2
        cases truth_ok t
        cases r2
        refine ⟨z, rfl, ?_⟩
        cases z with
        | true => exact ⟨B, F2, δ', E2, o2⟩
        | false => exact ⟨B, F2, δ', E2, o2⟩
      | exc n => cases y <;> cases t
      | stuck => rw [t] at o2; exact o2.elim
    | exc n => exact x2 n r
    | stuck => exact (t2 r).elim
  | exc n δ' => rw [q] at o; exact fun C F' H' m' E' x' => o C σ F' H' m' E' x'
  | nx δ' => rw [q] at o; exact o.elim
  | brk δ' => rw [q] at o; exact o.elim
  | cont δ' => rw [q] at o; exact o.elim
  | ret d => rw [q] at o; exact o.elim
  | stuck => rw [q] at o; exact o.elim
  | retO c fs d => rw [q] at o; exact o.elim
end
end DL

set_option Elab.async false
set_option linter.all false
set_option maxRecDepth 100000
set_option maxHeartbeats 4000000
/-! a tuple of truths: which one; isinstance of a refusal, several classes; tuple(range) -/
namespace L2
open PySem PySem.Spec PyProof.Rows
/-- a tuple as it was just laid -/
def FzT (H : Hp) (p : Addr) (xs : List V) : Prop := ∃ o : Obj, H p = some (.frz o (.tup xs)) ∧ o.cls = .type "tuple" ∧ o.dict = none
section
variable {X : Cx}
theorem FzT.at {pins : List (Addr × Obj)} {σ : L2.St} {H : Hp} {s : Shared} {p : Addr} {xs : List V} (I : Inv X pins σ H s) (h : FzT H p xs) : ∃ (its : List Value) (n : Nat) (sl : Array (Option Value)), Vals xs its ∧ s.heap.get? p = some { cls := .type "tuple", dict := none, data := .seq its.toArray n, slots := sl } := by
  obtain ⟨o, ho, hc, hd⟩ := h
  obtain ⟨g1, z, its, r, o', g2, c2, n, d2⟩ := I.hok p _ ho
  rw [g1] at g2
  cases g2
  obtain ⟨oc, od, dt, sl⟩ := o
  dsimp only at hc hd d2
  subst hc hd d2
  exact ⟨its, n, sl, r, g1⟩
theorem ty_fzT : TyOk X "tuple" (fun x H => ∃ p xs, x = .ref p ∧ FzT H p xs) := by
  intro pins σ H s x v I rx ⟨p, xs, e, h⟩
  subst e
  cases rx
  obtain ⟨its, n, sl, _, g⟩ := h.at I
  exact ⟨⟨_, g, rfl⟩, fun a e => by
    cases e
    exact ⟨_, g, rfl⟩⟩
theorem vals_bools : ∀ {bs : List Bool} {its : List Value}, Vals (bs.map V.bl) its → its = bs.map Value.bool
  | [], _, h => by cases h; rfl
  | b :: bs, _, h => by
    rw [List.map_cons] at h
    cases h with
    | cons r t =>
      rw [vals_bools t, List.map_cons]
      rw [show _ = Value.bool b from r]
theorem flat_bools (bs : List Bool) : (bs.map V.bl).all flatV = true := by
  rw [List.all_map]
  exact List.all_eq_true.mpr fun _ _ => rfl
/-- t.count(True) -/
theorem mt_tcountB : MtR X "tuple.count" (fun x xs H Q => ∃ p, ∃ bs : List Bool, x = .ref p ∧ xs = [.bl true] ∧ FzT H p (bs.map V.bl) ∧ Q (.int (bs.count true : Nat)) H) := by
  intro pins s σ H x xs v us Q I rx rs h
  obtain ⟨p, bs, rfl, rfl, hf, q⟩ := h
  cases rx
  obtain ⟨u, rfl, ru⟩ := rs.one
  cases ru
  obtain ⟨its, n, sl, r, ho⟩ := hf.at I
  have e := vals_bools r
  refine call_meets PySem.F.slot_tuple_count ⟨_, ho, rfl⟩ PySem.F.entry_tuple_count (PySem.F.args_tuple_count_2 _ _) (SeqAt.tuple_countAt p its.toArray n none sl (.bool true) (eqU (.bl true)))
    ⟨ho, fun w hw => mem_eqAt (x := .bl true) (v := .bool true) rfl rfl r (flat_bools bs) w (by simpa using hw), ?_⟩
  have ec : its.toArray.toList.countP (eqU (.bl true)) = bs.count true := by
    rw [List.toList_toArray, e, List.countP_map]
    rfl
  refine ⟨.int (bs.count true : Nat), H, I.tok _, ⟨s.toks, ?_⟩, q⟩
  show Value.int ((its.toArray.toList.countP (eqU (.bl true)) : Nat) : Int) s.toks = Value.int ((bs.count true : Nat) : Int) s.toks
  rw [ec]
/-- t.index(True) -/
theorem mt_tindexB : MtR X "tuple.index" (fun x xs H Q => ∃ p, ∃ bs : List Bool, x = .ref p ∧ xs = [.bl true] ∧ FzT H p (bs.map V.bl) ∧ true ∈ bs ∧ Q (.int (bs.idxOf true : Nat)) H) := by
  intro pins s σ H x xs v us Q I rx rs h
  obtain ⟨p, bs, rfl, rfl, hf, hm, q⟩ := h
  cases rx
  obtain ⟨u, rfl, ru⟩ := rs.one
  cases ru
  obtain ⟨its, n, sl, r, ho⟩ := hf.at I
  have e := vals_bools r
  have hj : bs.idxOf true < bs.length := List.idxOf_lt_length_of_mem hm
  have hl : its.toArray.size = bs.length := by rw [List.size_toArray, e, List.length_map]
  have at' : ∀ (m : Nat) (hm : m < its.toArray.size), its.toArray[m] = Value.bool (bs[m]'(by rw [← hl]; exact hm)) := fun m hm => by
    subst e
    simp
  refine call_meets PySem.F.slot_tuple_index ⟨_, ho, rfl⟩ PySem.F.entry_tuple_index (PySem.F.args_tuple_index_2 _ _) (TI.tuple_indexAt p its.toArray n none sl (.bool true) (eqU (.bl true)) (bs.idxOf true) (by rw [hl]; exact hj) ?_ ?_)
    ⟨ho, fun w hw => mem_eqAt (x := .bl true) (v := .bool true) rfl rfl r (flat_bools bs) w (by simpa using hw), ⟨.int (bs.idxOf true : Nat), H, I.tok _, ⟨_, rfl⟩, q⟩⟩
  · rw [at']
    show (bs[bs.idxOf true] == true) = true
    simp
  · intro m hm hmj
    rw [at']
    show (bs[m]'_ == true) = false
    have := List.not_of_lt_findIdx (p := fun b => b == true) (xs := bs) (i := m) hmj
    simpa using this
/-- (x, y, ..), as it is laid -/
def tTupF (t : TA) : TE := fun σ H Q => t σ H fun xs H1 => xs.length ≤ sizeLine ∧ ∀ p H2, H1 p = none → (∃ o, H2 = upd H1 p (.frz o (.tup xs))) → FzT H2 p xs → Q (.ref p) H2
theorem pe_tupF {es : List Expr} {pos : Pos} {t : TA} {x1} (h : PA X es t) : PE X (.Tuple es x1 pos) (tTupF t) := by
  refine ⟨fun pins s σ H Q I hq => wpAny_Tuple_spliced (thn (h.run pos pins s σ H _ I hq) fun us s1 ⟨xs, H1, I1, r, z, q⟩ => ⟨by rw [← r.length]; exact z, ?_⟩)⟩
  have hf : H1 s1.heap.objs.size = none := I1.hok.fresh (Nat.le_refl _)
  have g := Heap.get?_push_size s1.heap (o := seqObj "tuple" us.toArray 0) rfl
  refine ⟨.ref s1.heap.objs.size, upd H1 s1.heap.objs.size (.frz (seqObj "tuple" us.toArray 0) (.tup xs)), I1.laid (t' := s1.toks) (fun b u e => Heap.get?_push_of_some _ e) (Nat.le_refl _) ⟨g, z, us, r, ⟨_, g, rfl, _, rfl⟩⟩, rfl, q _ _ hf ⟨_, rfl⟩ ⟨_, upd_same, rfl, rfl⟩⟩
/-- isinstance(e, (c1, c2)), e the refusal at hand -/
theorem call_isET {a D : Addr} {oe : Obj} {pn : List (Addr × Obj)} (C : ExcC X.K D) (hz : Zc (.ref D) none oe) (hf : ∃ vs, oe.data = .fields vs) : CallR (X.suite a ((a, oe) :: pn)) (.builtin "isinstance")
    (fun xs H Q => ∃ (tp D1 D2 : Addr) (b : Bool), xs = [.ref a, .ref tp] ∧ H tp = some (.tup [.ref D1, .ref D2]) ∧ PySem.W.kitAny X.K (.ref D) [.ref D1, .ref D2] = some b ∧ Q (.bl b) H) := by
  intro pins s σ H xs us Q I r h
  obtain ⟨tp, D1, D2, b, rfl, hT, e, q⟩ := h
  obtain ⟨u1, u2, rfl, r1, r2⟩ := vals2 r
  cases r1
  cases r2
  obtain ⟨hget, _⟩ := I.pin (a, oe) (List.mem_append.mpr (.inl List.mem_cons_self))
  obtain ⟨vs, hv⟩ := hf
  have J : PySem.W.InstAt s.heap a oe D none := by
    obtain ⟨oc, od, oda, osl⟩ := oe
    obtain ⟨h1, h2⟩ := hz
    dsimp only at h1 h2 hv
    subst h1 h2 hv
    exact ⟨hget, rfl, rfl, trivial⟩
  obtain ⟨_, its, rv, o, h1, h2, n, h3⟩ := (show ObjOk X.prog X.w H s.heap tp (.tup [.ref D1, .ref D2]) from I.hok tp _ hT)
  have e3 : its = [.ref D1, .ref D2] := by
    obtain ⟨w1, w2, rfl, y1, y2⟩ := vals2 rv
    cases y1
    cases y2
    rfl
  subst e3
  obtain ⟨oc, od, dt, sl⟩ := o
  simp only at h2 h3
  subst h2 h3
  exact PySem.W.kia_tup (PySem.W.handS_kitx_exc C.hg C.hk C.hs C.hd C.ha C.hn C.ht C.hm) I.kIn J h1 e (fun z => nomatch z) fun tk => ⟨.bl b, H, I.kept (t' := tk) fun _ _ z => z, rfl, q⟩
end
end L2
namespace DL
open PySem L2 PyProof.Rows
variable [LTab]
/-- isinstance(e, (c1, c2)), e the refusal at hand -/
def dIsE2 (a : Addr) (i : Nat) (n c1 c2 : Str) : DE P := fun δ => match δ[i]? with
  | some (.raw (.ref b)) => if b = a then .ok (.bool (isaD n c1 || isaD n c2)) else .stuck
  | _ => .stuck
section
variable {X : Cx} {W : WX} {a C : Addr} {oe : Obj} {pn : List (Addr × Obj)} {i : Nat} {x n c1 c2 : Str} {p p1 p2 p3 p4 pos : Pos} {k2 : Nat}
theorem px_isE2 (k : IsOk X.K X.mg c1 n) (k' : IsOk X.K X.mg c2 n) (hn : X.mg n = some (.ref C)) (hz : Zc (.ref C) none oe) (hf : ∃ vs, oe.data = .fields vs) (hN : X.N[i]? = some x) (hv : Vis X.env.scope x) (hg : Gl X "isinstance") (hm : X.mg "isinstance" = none) (hgc : Gl X c1) (hgc2 : Gl X c2) (hd : (x == ("__debug__" : Str)) = false := by decide) (hcd : (x == ("__classdict__" : Str)) = false := by decide) (hdc : (c1 == ("__debug__" : Str)) = false := by decide) (hdc2 : (c2 == ("__debug__" : Str)) = false := by decide)
    (hs1 : starEach [.Name x p1, .Tuple [.Name c1 p2, .Name c2 p3] k2 p4] (X.suite a ((a, oe) :: pn)).env = (false, eval (.Name x p1) (X.suite a ((a, oe) :: pn)).env) :: starEach [.Tuple [.Name c1 p2, .Name c2 p3] k2 p4] (X.suite a ((a, oe) :: pn)).env := by rfl)
    (hs2 : starEach [.Tuple [.Name c1 p2, .Name c2 p3] k2 p4] (X.suite a ((a, oe) :: pn)).env = (false, eval (.Tuple [.Name c1 p2, .Name c2 p3] k2 p4) (X.suite a ((a, oe) :: pn)).env) :: starEach [] (X.suite a ((a, oe) :: pn)).env := by rfl)
    (hs3 : starEach [.Name c1 p2, .Name c2 p3] (X.suite a ((a, oe) :: pn)).env = (false, eval (.Name c1 p2) (X.suite a ((a, oe) :: pn)).env) :: starEach [.Name c2 p3] (X.suite a ((a, oe) :: pn)).env := by rfl)
    (hs4 : starEach [.Name c2 p3] (X.suite a ((a, oe) :: pn)).env = (false, eval (.Name c2 p3) (X.suite a ((a, oe) :: pn)).env) :: starEach [] (X.suite a ((a, oe) :: pn)).env := by rfl)
    (hpl : (backTo pos (starEach [.Tuple [.Name c1 p2, .Name c2 p3] k2 p4] (X.suite a ((a, oe) :: pn)).env)).any (·.1) = false := by rfl) :
    PE (X.suite a ((a, oe) :: pn)) (.Call (.Name "isinstance" p) [.Name x p1, .Tuple [.Name c1 p2, .Name c2 p3] k2 p4] [] pos) (teD X.K X.mg W (dIsE2 a i n c1 c2)) := by
  obtain ⟨C', D1, m1, m2, hC, hk⟩ := k.ex
  have e : C' = C := by
    rw [m1] at hn
    exact Value.ref.inj (Option.some.inj hn)
  subst e
  obtain ⟨C2, D2, m1', m2', hC2, hk2⟩ := k'.ex
  have e : C2 = C' := by
    rw [m1'] at m1
    exact Value.ref.inj (Option.some.inj m1)
  subst e
  refine PEi (pe_callB (call_isET hC hz hf) hg hm PyProof.Rows.boot_isinstance (pa_cons (pe_var (X := X.suite a ((a, oe) :: pn)) hN hv hd hcd) (pa_cons (pe_tup (pa_cons (pe_glob (X := X.suite a ((a, oe) :: pn)) (v := .ref D1) hgc m2 rfl hdc) (pa_cons (pe_glob (X := X.suite a ((a, oe) :: pn)) (v := .ref D2) hgc2 m2' rfl hdc2) pa_nil hs4) hs3)) pa_nil hs2) hs1) (he := hs1) (hpl := hpl)) fun σ H Q ⟨B, F, δ, E, o⟩ => ?_
  unfold dIsE2 at o
  split at o
  · rename_i b h
    split at o
    · rename_i e
      subst e
      refine ⟨.ref b, E.raw i _ h, by show 2 ≤ sizeLine; decide, fun tp htp => ⟨tp, D1, D2, isaD n c1 || isaD n c2, rfl, upd_same, ?_, o _ F _ (.newH E.c htp) (.bl _)⟩⟩
      unfold PySem.W.kitAny
      rw [hk]
      cases isaD n c1 with
      | true => rfl
      | false =>
        unfold PySem.W.kitAny
        show (match PySem.W.kitOne X.K (.ref C2) (.ref D2) with | some true => some true | some false => PySem.W.kitAny X.K (.ref C2) [] | none => none) = _
        rw [hk2]
        cases isaD n c2 <;> rfl
    · exact o.elim
  · exact o.elim
end
/-- tuple(range(n)) -/
def pTupRg : P → Res P
  | .int n => if 0 ≤ n ∧ n ≤ 1000 then .ok (.tuple ((List.range n.toNat).map fun i => .int (i : Nat))) else .stuck
  | _ => .stuck
section
variable {X : Cx} {W : WX} {a : Expr} {f : DE P} {p p2 pos pos2 : Pos}
theorem px_tupRg (hc : X.calm = true) (hg : Gl X "tuple") (hm : X.mg "tuple" = none) (hg2 : Gl X "range") (hm2 : X.mg "range" = none) (ha : PE X a (teB X.K X.mg W f)) (hs : starEach [a] X.env = (false, eval a X.env) :: starEach [] X.env := by rfl) (hs2 : starEach [.Call (.Name "range" p2) [a] [] pos2] X.env = (false, eval (.Call (.Name "range" p2) [a] [] pos2) X.env) :: starEach [] X.env := by rfl) : PE X (.Call (.Name "tuple" p) [.Call (.Name "range" p2) [a] [] pos2] [] pos) (teD X.K X.mg W (dUn pTupRg f)) :=
  PEi (pe_tupRg hc hg hm (prg_1 hg2 hm2 ha hs) hs2) fun σ H Q ⟨B, F0, δ, E, o⟩ => by
  obtain ⟨x1, t1, k1⟩ := outE_bind (show OutE X.K X.mg W σ F0 H ((f δ).bind pTupRg) Q from o)
  refine teB.then E x1 t1 fun d v F H e1 X1 hv => ?_
  have o := (k1 d e1).up X1
  have c := X1.c
  unfold pTupRg at o
  split at o
  · split at o
    · rename_i n hn
      refine ⟨n, by rw [int_of hv], .of_le (by omega) (by omega) (by omega) (by omega), fun q hq => ?_⟩
      have e : rgV 0 n = ((List.range n.toNat).map fun i => ((i : Nat) : Int)).map V.int := by
        unfold rgV
        rw [List.map_map, Int.sub_zero]
        refine List.map_congr_left fun i _ => ?_
        show V.int (0 + (i : Int)) = V.int (i : Int)
        rw [Int.zero_add]
      rw [e]
      have e2 : ((List.range n.toNat).map fun i => PyData.int (i : Nat)) = ((List.range n.toNat).map fun i => ((i : Nat) : Int)).map PyData.int := by
        rw [List.map_map]
        rfl
      rw [e2] at o
      exact o _ _ _ (.new c hq) (.tup (.of upd_same) ((RpAll.of_ints _)))
    · exact o.elim
  · exact o.elim
end
end DL
namespace DL
open PySem L2 PyProof.Rows
variable [LTab]
/-- a name that gets something that is not looked at any more -/
theorem EnvOk.setHid {K : PySem.W.Frag} {B F H : Hp} {σ : L2.St} {δ : DEnv} (E : EnvOk K B F H σ δ) (i : Nat) (x : Option V) : EnvOk K B F H (σ.set i x) (δ.set i .un) := by
  have at_ : ∀ {j : Nat} {s : Slot}, s ≠ .un → (δ.set i .un)[j]? = some s → j ≠ i ∧ δ[j]? = some s := fun {j s} hs h => by
    rw [List.getElem?_set] at h
    by_cases e : i = j
    · rw [if_pos e] at h
      split at h
      · cases h
        exact absurd rfl hs
      · cases h
    · rw [if_neg e] at h
      exact ⟨fun z => e z.symm, h⟩
  have ne_ : ∀ {j : Nat}, j ≠ i → (σ.set i x)[j]? = σ[j]? := fun h => List.getElem?_set_ne (Ne.symm h)
  refine ⟨E.c, E.b, E.tbs, by rw [List.length_set, List.length_set]; exact E.len, fun j d h => ?_, fun j ds h => ?_, fun j k ds es p hne h1 h2 h3 => ?_, fun j u h => ?_, fun j lk c fs h => ?_, fun j k lk lk' c c' fs fs' p hne h1 h2 h3 => ?_⟩
  · obtain ⟨hne, h⟩ := at_ (s := .val d) nofun h
    rw [ne_ hne]
    exact E.val j d h
  · obtain ⟨hne, h⟩ := at_ (s := .own ds) nofun h
    rw [ne_ hne]
    exact E.own j ds h
  · obtain ⟨n1, h1⟩ := at_ (s := .own ds) nofun h1
    obtain ⟨n2, h2⟩ := at_ (s := .own es) nofun h2
    rw [ne_ n1] at h3
    rw [ne_ n2]
    exact E.apart j k ds es p hne h1 h2 h3
  · obtain ⟨hne, h⟩ := at_ (s := .raw u) nofun h
    rw [ne_ hne]
    exact E.raw j u h
  · obtain ⟨hne, h⟩ := at_ (s := .obj lk c fs) nofun h
    rw [ne_ hne]
    exact E.obj j lk c fs h
  · obtain ⟨n1, h1⟩ := at_ (s := .obj lk c fs) nofun h1
    obtain ⟨n2, h2⟩ := at_ (s := .obj lk' c' fs') nofun h2
    rw [ne_ n1] at h3
    rw [ne_ n2]
    exact E.far j k lk lk' c c' fs fs' p hne h1 h2 h3
/-- y = (t, u, ..); if y.count(True) != 1: return a; return (b, c, ..)[y.index(True)] -/
def sPick (j : Nat) (fl : DE (List P)) (t0 : Str) (fl2 : DE (List P)) : DEnv → SRes := fun δ => ofR δ (fl δ) fun ds => match dBools ds with
  | some bs => if bs.length ≤ 1000 ∧ j < δ.length then (if bs.count true = 1 then ofR (δ.set j .un) (fl2 (δ.set j .un)) fun es => (match es[bs.idxOf true]? with | some d => if es.length ≤ 1000 then .retE d (δ.set j .un) else .stuck | none => .stuck) else .retE (.str t0) (δ.set j .un)) else .stuck
  | none => .stuck
section
variable {X : Cx} {W : WX} {j : Nat} {y t0 : Str} {es ts : List Expr} {fl fl2 : DE (List P)} {k1 k2 c1 c2 c3 c4 : Nat} {a1 a2 a3 a4 a5 a6 a7 a8 a9 b1 b2 b3 b4 b5 b6 b7 d1 d2 d3 : Pos}
theorem sx_pick (hNd : X.N.Nodup) (hj : X.N[j]? = some y) (hy : Loc X.env.scope y) (hv : Vis X.env.scope y) (ha : PA X es (taD X.K X.mg W fl)) (hb : PA X ts (taD X.K X.mg W fl2)) (hd : (y == ("__debug__" : Str)) = false := by decide) (hcd : (y == ("__classdict__" : Str)) = false := by decide)
    (hs : swapsWith (.Tuple es k1 a1) (some (.Name y a2)) a3.line X.env = pure false := by rfl) (hf : X.fn y = true ∨ X.env.scope.names.lookup y = some .local := by first | exact .inl rfl | exact .inr rfl | assumption)
    (n1 : attributeBase (.Name y a4) "count" X.env (eval (.Name y a4) X.env) = eval (.Name y a4) X.env := by rfl) (n2 : (a5.endLine == a7.line) = true := by rfl) (n3 : starEach [.Constant (.bool true) c1 a6] X.env = (false, eval (.Constant (.bool true) c1 a6) X.env) :: starEach [] X.env := by rfl)
    (m1 : attributeBase (.Name y b4) "index" X.env (eval (.Name y b4) X.env) = eval (.Name y b4) X.env := by rfl) (m2 : (b5.endLine == b7.line) = true := by rfl) (m3 : starEach [.Constant (.bool true) c4 b6] X.env = (false, eval (.Constant (.bool true) c4 b6) X.env) :: starEach [] X.env := by rfl) :
    PSs X [.Assign [.Name y a2] (.Tuple es k1 a1) a3,
      .If (.Compare (.Call (.Attribute (.Name y a4) "count" a5) [.Constant (.bool true) c1 a6] [] a7) [.NotEq] [.Constant (.int 1) c2 a8] a9) [.Return (some (.Constant (.str t0) c3 d1)) d2] [] d3,
      .Return (some (.Subscript (.Tuple ts k2 b1) (.Call (.Attribute (.Name y b4) "index" b5) [.Constant (.bool true) c4 b6] [] b7) b2)) b3] (tsD X.K X.mg W (sPick j fl t0 fl2)) := by
  refine PSsi (pss_cons (ps_set hNd hj hy (pe_tupF ha) hs hf) (pss_cons (ps_if (pt_cmpR op_ne (pe_mG ty_fzT PySem.F.plainAttrs_tuple PySem.F.slot_tuple_count PySem.F.type_tuple_count mt_tcountB (pe_var hj hv hd hcd) (pa_cons pe_bl pa_nil n3) n1 (by rfl) n2 n3 (by rfl)) pe_int (nomark _)) (pss_cons (ps_ret pe_str) pss_nil) pss_nil)
    (pss_cons (ps_ret (pe_ix ix_seq (pe_tup hb) (pe_mG ty_fzT PySem.F.plainAttrs_tuple PySem.F.slot_tuple_index PySem.F.type_tuple_index mt_tindexB (pe_var hj hv hd hcd) (pa_cons pe_bl pa_nil m3) m1 (by rfl) m2 m3 (by rfl)) (fun _ _ => rfl))) pss_nil))) fun D σ H ⟨B, F, δ, E, o⟩ => ?_
  obtain ⟨x1, t1, kk⟩ := outS_of E o
  refine taD.then E x1 t1 fun ds vs F1 H1 e1 X1 r1 => ?_
  have E1 := E.up X1
  have o1 := (kk ds e1).up (E.sext X1)
  cases hb2 : dBools ds with
  | none => rw [hb2] at o1; exact o1.elim
  | some bs =>
    rw [hb2] at o1
    dsimp only at o1
    rw [bools_eq hb2] at r1
    have e3 := r1.bools
    subst e3
    split at o1
    · rename_i hl
      obtain ⟨hl, hjl⟩ := hl
      refine ⟨by rw [List.length_map]; exact Nat.le_trans hl (by decide), fun p H2 hp ⟨oT, e4⟩ hF => ?_⟩
      have X2 : Ext F1 H1 F1 H2 := by
        rw [e4]
        exact .newH X1.c hp
      have E2 := (E1.up X2).setHid j (some (.ref p))
      have hσ : (σ.set j (some (.ref p)))[j]? = some (some (.ref p)) := List.getElem?_set_self (by rw [E.len]; exact hjl)
      refine ⟨.ref p, hσ, ⟨p, _, rfl, hF⟩, p, bs, rfl, rfl, hF, rfl, ?_⟩
      by_cases hc : bs.count true = 1
      · rw [if_pos hc] at o1
        refine ⟨false, ?_, ?_⟩
        · rw [hc]
          rfl
        · have hm : true ∈ bs := List.count_pos_iff.mp (by omega)
          obtain ⟨x2, t2, kk2⟩ := outS_of E2 (o1.up (E1.sext X2))
          refine taD.then E2 x2 t2 fun ds2 vs2 F3 H3 e5 X3 r3 => ?_
          have E3 := E2.up X3
          have o3 := (kk2 ds2 e5).up (E2.sext X3)
          cases hd2 : ds2[bs.idxOf true]? with
          | none => rw [hd2] at o3; exact o3.elim
          | some d2 =>
            rw [hd2] at o3
            dsimp only at o3
            split at o3
            · rename_i hl2
              obtain ⟨v2, hv2, rv2⟩ := r3.get hd2
              refine ⟨by rw [r3.len]; exact Nat.le_trans hl2 (by decide), fun q hq => ?_⟩
              have X4 : Ext F3 H3 F3 (upd H3 q (.tup vs2)) := .newH X3.c hq
              have hF4 : FzT (upd H3 q (.tup vs2)) p (bs.map V.bl) := by
                obtain ⟨oo, h1, h2, h3⟩ := hF
                exact ⟨oo, X4.h.k _ _ (X3.h.k _ _ h1), h2, h3⟩
              refine ⟨.ref p, hσ, ⟨p, _, rfl, hF4⟩, p, bs, rfl, rfl, hF4, hm, .inr (.inl ⟨q, vs2, _, v2, rfl, rfl, .of upd_same, atI_nat hv2, ?_⟩)⟩
              exact o3 v2 _ F3 _ (E3.up X4) (E3.sext X4) rv2
            · exact o3.elim
      · rw [if_neg hc] at o1
        refine ⟨true, ?_, ?_⟩
        · rw [decide_eq_false fun z => hc (by
            have := V.int.inj z
            omega)]
          rfl
        · exact (o1.up (E1.sext X2)) (.str t0) _ F1 H2 E2 .refl (.str t0)
    · exact o1.elim
end
end DL

set_option Elab.async false
set_option linter.all false
set_option maxRecDepth 100000
set_option maxHeartbeats 4000000
/-! a lambda is made: what then stands -/
namespace DL
open PySem PySem.Spec PyProof.Rows L2 LamX
variable [LTab]
/-- the table at P tells one code object more, at c -/
theorem tabEx {H : Hp} {P c : Addr} {q : Str} {ps : Array Value} {pos : Pos} (hP : H P = some (.tbl ps)) (ht : TriplesOk ps.toList) (ha : ∀ (pos : Pos) (cv : Value), codeAmong pos ps.toList = some cv → ∃ c, cv = .ref c ∧ H c = some (CodeO c q)) (hc : H c = none) (hu : ∀ p ∈ LTab.tabs, p.1 = P → p.2 = q) :
    Ex H (upd (upd H P (.tbl (ps ++ #[rawInt pos.line, rawInt pos.col, .ref c]))) c (CodeO c q)) := by
  have keep : ∀ b o, H b = some o → isTb o = false → upd (upd H P (.tbl (ps ++ #[rawInt pos.line, rawInt pos.col, .ref c]))) c (CodeO c q) b = some o := fun b o e n => by
    rw [upd_ne (ne_of_none e hc), upd_ne fun z => ?_]
    · exact e
    · rw [z, hP] at e
      cases e
      cases n
  refine ⟨keep, fun P' q' hm z => ?_, fun b o e => ?_⟩
  · by_cases hb : P' = P
    · subst hb
      have eq : q' = q := hu _ hm rfl
      subst eq
      have eL : (ps ++ #[rawInt pos.line, rawInt pos.col, .ref c]).toList = ps.toList ++ [rawInt pos.line, rawInt pos.col, .ref c] := by simp
      refine ⟨_, by rw [upd_ne (ne_of_none hP hc), upd_same], by rw [eL]; exact PySem.TriplesOk_snoc _ _ _ _ ht, fun p' cv hcv => ?_⟩
      rw [eL] at hcv
      rcases among_app _ ht hcv with y | y
      · obtain ⟨c0, e1, e2⟩ := ha p' cv y
        exact ⟨c0, e1, keep _ _ e2 rfl⟩
      · exact ⟨c, y, upd_same⟩
    · obtain ⟨ps', a1, a2, a3⟩ := z
      refine ⟨ps', by rw [upd_ne (ne_of_none a1 hc), upd_ne hb]; exact a1, a2, fun p' cv hcv => ?_⟩
      obtain ⟨c0, e1, e2⟩ := a3 p' cv hcv
      exact ⟨c0, e1, keep _ _ e2 rfl⟩
  · rw [upd_ne (ne_of_none e hc)]
    by_cases hb : b = P
    · rw [hb, upd_same]
      nofun
    · rw [upd_ne hb, e]
      nofun
section
variable {X : Cx} {pins : List (Addr × Obj)} {σ : L2.St} {H : Hp} {s : Shared}
theorem lam_make3 {c P : Addr} {params : Arguments} {body : Expr} {scope : Scope} {pos : Pos} {E : Value → Shared → Prop} {Q : Value → Shared → Prop} (I : Inv X pins σ H s) (TB : TabB X.base X.mg c P) (hcode : X.env.code = .ref c)
    (hu : ∀ p ∈ LTab.tabs, p.1 = P → p.2 = X.env.qual ++ "<lambda>") (hT : TabS H P (X.env.qual ++ "<lambda>")) (hdef : defaultsOf params X.env = ([], [])) (hfree : ∀ y ∈ scope.names, y.2 = .free → ∃ c, X.env.cells.lookup y.1 = some c)
    (h : ∀ (f c' : Addr) (pm ctv : Value) (H1 : Hp) (s' : Shared), Inv X pins σ H1 s' → Ex H H1 → s'.heap.get? f = some (PySem.W.kla_obj "<lambda>" (X.env.qual ++ "<lambda>") params body scope (cloFrom X.env.cells scope.names []) pm c' ctv) → H1 f = none → f ∉ frs X.stack → H1 c' = some (CodeO c' (X.env.qual ++ "<lambda>")) → Q (.ref f) s') :
    wpAny (model X.prog X.w) X.A (eval (.Lambda params body scope pos) X.env) Q E s := by
  obtain ⟨ps, hP, ht, ha⟩ := hT
  have bP : s.heap.BuiltinsAt X.mg P := TB.bm.keeps I.bk
  have hP' : s.heap.get? P = some { cls := .none, data := .fields ps } := I.hok P _ hP
  have nofr : ∀ f, s.heap.objs.size ≤ f → f ∉ frs X.stack := fun f hf z => (List.mem_cons.mp (I.stkSub _ z)).elim (fun e => Nat.lt_irrefl _ (Nat.lt_of_lt_of_le (show f < _ by rw [e]; exact I.lt) hf)) (I.nofs hf)
  refine PySem.W.kla_eval hdef ?_
  cases hc : codeAmong pos ps.toList with
  | some cv =>
    obtain ⟨c', rfl, hco⟩ := ha pos cv hc
    exact PySem.W.kla_makeFunctionHit (mg := X.mg) (c := c) (P := P) (ps := ps) (closure_ok hfree) I.ok.glob (I.mod.glob.keeps I.bk) hcode (TB.code.keeps I.bk) hP' ht hc bP fun ctv h' tk hx hsz =>
      h h'.objs.size c' ((X.mg "__name__").getD .none) ctv H _ (I.kept (t' := tk) fun b o e => Heap.get?_push_of_some _ (hx b o e)) (.refl H) (Heap.get?_push_size _ rfl) (I.hok.fresh hsz) (nofr _ hsz) hco
  | none =>
    refine PySem.W.kla_makeFunction (mg := X.mg) (c := c) (P := P) (ps := ps) (closure_ok hfree) I.ok.glob (I.mod.glob.keeps I.bk) hcode (TB.code.keeps I.bk) hP' ht hc TB.gP bP fun c' ctv h' tk hx hge hlt hrec htb => ?_
    obtain ⟨_, oc, vs, t, e2, hoc, hd, hv⟩ := hrec
    cases e2
    have hsz : s.heap.objs.size ≤ h'.objs.size := Nat.le_trans hge (Nat.le_of_lt hlt)
    refine h h'.objs.size c' ((X.mg "__name__").getD .none) ctv _ _ (inv_table (q := X.env.qual ++ "<lambda>") (t' := tk) (more := #[rawInt pos.line, rawInt pos.col, .ref c']) I hP (fun b o hb e => Heap.get?_push_of_some _ (hx b o hb e)) (Heap.get?_push_of_some _ htb) hge ⟨oc, vs, t, Heap.get?_push_of_some _ hoc, hd, hv⟩)
      (tabEx hP ht ha (I.hok.fresh hge) hu) (Heap.get?_push_size _ rfl) ?_ (nofr _ hsz) upd_same
    rw [upd_ne (Nat.ne_of_gt hlt), upd_ne (Nat.ne_of_gt (Nat.lt_of_lt_of_le (Heap.lt_size hP') hsz))]
    exact I.hok.fresh hsz
end
end DL
namespace DL
open PySem PySem.Spec PyProof.Rows L2 LamX
variable [LTab]
section
variable {X : Cx} {pins : List (Addr × Obj)} {σ : L2.St} {H : Hp} {s : Shared}
/-- x(), in the def that got the lambda; what is let out is told with that def's names -/
theorem pe_actS {CXg : CXT} {Eg : XK} {Ng : List Str} {qg : Str} {sg : Scope} {g f c' : Addr} {cdg pm ctv : Value} {params : Arguments} {body : Expr} {scope : Scope} {k i : Nat} {a : Str} {pn : List (Addr × Obj)} {xe : Value → Shared → Prop} {W : WX} {tb : XK → TE} {p1 p2 : Pos}
    (I : Inv X pins σ H s) (L : LamS X.env.scope scope) (hf : s.heap.get? f = some (PySem.W.kla_obj "<lambda>" (X.env.qual ++ "<lambda>") params body scope (cloFrom X.env.cells scope.names []) pm c' ctv)) (hfn : H f = none) (hfr : f ∉ frs X.stack)
    (hbind : bindArgs (PySem.W.kla_fn "<lambda>" (X.env.qual ++ "<lambda>") params body scope (cloFrom X.env.cells scope.names []) pm (.ref c') ctv) ⟨[], []⟩ = pure [])
    (tk : Takes ((cxOf CXg X.prog X.w X.K X.mg X.base Ng qg sg g cdg X.A X.stack s H Eg).tr pn xe) W) (hr : Room (k + 1) (X.A.deeper (envOfC qg sg s.heap.objs.size g cdg)))
    (hbody : ∀ (E : XK) (A : Around) (outer : List Env) (s : Shared) (H : Hp), Room k (A.deeper (lamEnv X scope s.heap.objs.size f c')) → PE (lamCx X A outer s H E scope f c') body (tb E))
    (hN : Ng[i]? = some a) (hv : Vis sg a) (hd : (a == ("__debug__" : Str)) = false := by decide) (hcd : (a == ("__classdict__" : Str)) = false := by decide) :
    PE ((cxOf CXg X.prog X.w X.K X.mg X.base Ng qg sg g cdg X.A X.stack s H Eg).tr pn xe) (.Call (.Name a p1) [] [] p2)
      (fun σZ HZ Q => σZ[i]? = some (some (.ref f)) ∧ HZ c' = some (CodeO c' (X.env.qual ++ "<lambda>")) ∧ ∃ E : XK, (∀ cls d H', E cls d H' → W cls d σZ H') ∧ tb E σ HZ Q) := by
  refine ⟨fun pinsZ sZ σZ HZ Q IZ ⟨hs, hc, E, hW, ht⟩ => ?_⟩
  refine wpAny_Call_Name_kw (thn ((pe_var (pos := p1) (i := i) hN hv hd hcd).run pinsZ sZ σZ HZ (fun v H1 => v = .ref f ∧ H1 = HZ) IZ ⟨.ref f, hs, rfl, rfl⟩) fun u s1 ⟨v, H1, I1, r1, ev, eH⟩ => ?_)
  subst ev
  rw [eH] at I1
  cases r1
  have at1 : s1.heap.get? f = some (PySem.W.kla_obj "<lambda>" (X.env.qual ++ "<lambda>") params body scope (cloFrom X.env.cells scope.names []) pm c' ctv) := I1.base.keep f _ hf hfn hfr (fun z => nomatch (show f ∈ ([] : List Addr) from z))
  obtain ⟨⟨oc, vs, t, hoc, hdc, hvc⟩, _, _⟩ := I1.hok c' _ hc
  refine PySem.W.callWith_F0 ⟨_, _, _, _, at1⟩ (wpAny_call (codeAny_mono (show codeAny (model X.prog X.w) (X.A.deeper (envOfC qg sg s.heap.objs.size g cdg)) (.call (.ref f) ⟨[], []⟩) (CR (L2.CX X.prog X.w) (envOfC qg sg s.heap.objs.size g cdg :: X.stack) X.prog X.w HZ s1 Q E) s1 from ?_) fun r s' hq => ?_))
  · refine PySem.W.kla_callFunE hr.depth at1 rfl L.co L.gen rfl ⟨c', oc, vs, t, rfl, hoc, hdc, hvc⟩ ?_
    rw [hbind]
    refine wpAny_pure (wpAny_newFunctionEnv (fun y hy => (L.own y hy).2) (fun y hy => absurd hy (by simp)) (fun h₁ hns hsb => ⟨I1.nolimit.fresh _ hsb, ?_⟩) L.kind)
    show codeAny _ _ (.expr body (lamEnv X scope s1.heap.objs.size f c')) _ _
    have J : Inv (lamCx X (X.A.deeper (envOfC qg sg s.heap.objs.size g cdg)) (envOfC qg sg s.heap.objs.size g cdg :: X.stack) s1 HZ E scope f c') [] σ HZ { s1 with heap := h₁, toks := s1.toks + ([] : List (Str × Value)).length } :=
      lam_start2 I L I1.env0 hr.hd (show Un (frs X.stack) [] H HZ s.heap s1.heap from I1.base) hns fun b o e => hsb.extBut b o (Nat.ne_of_lt (Heap.lt_size e)) (Heap.get?_push_of_some _ e)
    refine PySem.W.kla_codeExpr (wpAny_mono ((hbody E _ _ s1 HZ (hr.deeper _)).run [] _ _ HZ Q J ht) (fun v s' ⟨w', H', J', rv, q⟩ => ⟨w', H', J'.os, J'.bare, J'.base, J'.hok, rv, q⟩) fun e s' hq => hq)
  · cases r with
    | error e => exact tk e s' (XE.of_call I1 hW hq)
    | ok fl =>
      cases fl with
      | ret u => exact I1.after hq
      | next => exact False.elim hq
      | brk => exact False.elim hq
      | cont => exact False.elim hq
end
end DL

set_option Elab.async false
set_option linter.all false
set_option maxRecDepth 100000
set_option maxHeartbeats 4000000
/-! a def that gets a lambda and a number: try: x(); return False / except c as e: .. -/
namespace DL
open PySem PySem.Spec PyProof.Rows L2 LamX
variable [LTab]
theorem emEx {H : Hp} : Ex (fun _ => none) H := ⟨(fun _ _ z => nomatch z), (fun _ _ _ ⟨_, z, _⟩ => nomatch z), (fun _ _ z => nomatch z)⟩
/-- the number handed over, the refusal at hand -/
def dTk (kd : Int) (a : Addr) : DEnv := [.un, .val (.int kd), .raw (.ref a), .un]
theorem envTk {K : PySem.W.Frag} {H : Hp} {f a : Addr} {kd : Int} (tb : TabsIn H) : EnvOk K H (fun _ => none) H [some (.ref f), some (.int kd), some (.ref a), none] (dTk kd a) := by
  have at_ : ∀ {i : Nat} {s : Slot}, (dTk kd a)[i]? = some s → (s = .un) ∨ (i = 1 ∧ s = .val (.int kd)) ∨ (i = 2 ∧ s = .raw (.ref a)) := fun {i s} h => by
    unfold dTk at h
    match i, h with
    | 0, h => cases h; exact .inl rfl
    | 1, h => cases h; exact .inr (.inl ⟨rfl, rfl⟩)
    | 2, h => cases h; exact .inr (.inr ⟨rfl, rfl⟩)
    | 3, h => cases h; exact .inl rfl
    | n + 4, h => simp at h
  refine ⟨emEx, .refl H, tb, rfl, fun i d h => ?_, fun i es h => ?_, fun i j es fs p _ h => ?_, fun i v h => ?_, fun i lk c fs h => ?_, fun i j lk lk' c c' fs fs' p _ h => ?_⟩
  · rcases at_ h with e | ⟨rfl, e⟩ | ⟨_, e⟩
    · cases e
    · cases e
      exact ⟨.int kd, rfl, .int kd⟩
    · cases e
  · rcases at_ h with e | ⟨_, e⟩ | ⟨_, e⟩ <;> cases e
  · rcases at_ h with e | ⟨_, e⟩ | ⟨_, e⟩ <;> cases e
  · rcases at_ h with e | ⟨_, e⟩ | ⟨rfl, e⟩
    · cases e
    · cases e
    · cases e
      rfl
  · rcases at_ h with e | ⟨_, e⟩ | ⟨_, e⟩ <;> cases e
  · rcases at_ h with e | ⟨_, e⟩ | ⟨_, e⟩ <;> cases e
/-- what it then hands back -/
def refE (K : PySem.W.Frag) (mg : Str → Option Value) (known : List Str) (c : Str) (gs : Addr → Str → DEnv → SRes) (kd : Int) (Q : VK) : XK := fun cls d H' => d = none ∧ TabsIn H' ∧ ∃ n C b, n ∈ known ∧ mg n = some (.ref C) ∧ cls = .ref C ∧ isaD n c = true ∧ (∀ a', gs a' n (dTk kd a') = .ret (.bool b)) ∧ ∀ H'', Ex H' H'' → Q (.bl b) H''
section
variable {Z : Cx}
theorem taker_body {a y c : Str} {f c' : Addr} {q : Str} {kd : Int} {known : List Str} {tb : XK → Hp → VK → Prop} {gs : Addr → Str → DEnv → SRes} {b₀ : Stmt} {suite : List Stmt} {j : Nat} {p1 p2 p3 p5 p6 p7 p8 np : Pos} {H1 : Hp} {Q : VK}
    (hs : Z.stack = Z.env :: Z.outer) (hf : Z.env.frame = some Z.env.locals) (hN : Z.N.Nodup) (hl : Z.N.length = 4) (hi : Z.N[2]? = some y) (hln : Z.env.kindOf y = some .local) (k : CatOk Z.K Z.mg c known) (hg : Gl Z c) (tk : Takes Z (fun _ _ _ _ => False)) (hdb : (c == ("__debug__" : Str)) = false)
    (hsw : ∀ (pn : List (Addr × Obj)) (xe : Value → Shared → Prop), swapsWith (.Call (.Name a p1) [] [] p2) none p3.line (Z.tr pn xe).env = pure false)
    (act : ∀ (W : WX) (pn : List (Addr × Obj)) (xe : Value → Shared → Prop), Takes (Z.tr pn xe) W → PE (Z.tr pn xe) (.Call (.Name a p1) [] [] p2) (fun σZ HZ Q => σZ[0]? = some (some (.ref f)) ∧ HZ c' = some (CodeO c' q) ∧ ∃ E : XK, (∀ cls d H', E cls d H' → W cls d σZ H') ∧ tb E HZ Q))
    (hsu : ∀ (n : Str) (C a : Addr) (oe : Obj) (pn : List (Addr × Obj)), n ∈ known → Z.mg n = some (.ref C) → Zc (.ref C) none oe → (∃ vs, oe.data = .fields vs) → PSs (Z.suite a ((a, oe) :: pn)) (b₀ :: suite) (tsD Z.K Z.mg (fun _ _ _ _ => False) (gs a n)))
    (hc : H1 c' = some (CodeO c' q)) (ht : tb (refE Z.K Z.mg known c gs kd Q) H1 (fun _ H' => Q (.bl false) H')) :
    ∃ t, PSs Z [.Try [.Expr (.Call (.Name a p1) [] [] p2) p3, .Return (some (.Constant (.bool false) j p5)) p6] [.ExceptHandler (some (.Name c np)) (some y) (b₀ :: suite) p7] [] [] p8] t ∧ t { nx := fun _ H' => Q .non H', rt := Q } (L2.start Z.N [.ref f, .int kd]) H1 := by
  obtain ⟨D0, hD, hk⟩ := k.ex
  refine ⟨_, pss_one (ps_try_as (tb := fun W => fun D σ H => σ[0]? = some (some (.ref f)) ∧ H c' = some (CodeO c' q) ∧ ∃ E : XK, (∀ cls d H', E cls d H' → W cls d σ H') ∧ tb E H (fun _ H' => D.rt (.bl false) H')) (ts := fun a cls d => fun D σ H => ∃ n C, n ∈ known ∧ Z.mg n = some (.ref C) ∧ cls = .ref C ∧ d = none ∧ tsD Z.K Z.mg (fun _ _ _ _ => False) (gs a n) D σ H) (Wout := fun _ _ _ _ => False)
    hs hf hN hi hln ⟨hg, hdb, .inl hD⟩ tk (fun W pn xe tk' _ => ?_) fun a oe cls d pn hz hfl => ⟨fun pins s σ H D I ⟨n, C, hn, m1, ec, ed, q⟩ => ?_⟩), ?_⟩
  · exact PSsi (pss_cons (ps_expr (act W pn xe tk') (hsw pn xe)) (pss_cons (ps_ret pe_bl) pss_nil)) fun D σ H h => h
  · subst ec ed
    exact (hsu n C a oe pn hn m1 hz hfl).run pins s σ H D I q
  · obtain ⟨n0, n1, n2, n3, eN⟩ : ∃ n0 n1 n2 n3, Z.N = [n0, n1, n2, n3] := by
      match hh : Z.N, hl with
      | [n0, n1, n2, n3], _ => exact ⟨n0, n1, n2, n3, rfl⟩
    have es : L2.start Z.N [.ref f, .int kd] = [some (.ref f), some (.int kd), none, none] := by
      rw [eN]
      rfl
    rw [es]
    refine ⟨rfl, hc, refE Z.K Z.mg known c gs kd Q, fun cls d H' ⟨ed, tbs, n, C, b, hn, m1, ec, is, hb, hQ⟩ => ?_, ht⟩
    subst ec ed
    obtain ⟨C', m2, hm⟩ := hk n hn
    have e : C' = C := by
      rw [m2] at m1
      exact Value.ref.inj (Option.some.inj m1)
    subst e
    refine ⟨_, hm, fun _ a' _ => ⟨n, C', hn, m2, rfl, rfl, H', _, dTk kd a', envTk tbs, ?_⟩, fun h0 => ?_⟩
    · rw [hb a']
      exact fun v F' H'' _ b' _ rv => by
        cases rv
        exact hQ H'' b'
    · rw [is] at h0
      cases h0
end
end DL

set_option Elab.async false
set_option linter.all false
set_option maxRecDepth 100000
set_option maxHeartbeats 4000000
/-! x(lambda: e, number): a def that tells whether e is refused, as the number says -/
namespace DL
open PySem PySem.Spec PyProof.Rows L2 LamX
variable [LTab]
open Classical in
noncomputable def dRefused (known : List Str) (c : Str) (gs : Addr → Str → DEnv → SRes) (kd : Int) (fb : DE P) : DE P := fun δ => match fb δ with
  | .ok _ => .ok (.bool false)
  | .exc n => if h : n ∈ known ∧ isaD n c = true ∧ ∃ b, ∀ a', gs a' n (dTk kd a') = .ret (.bool b) then .ok (.bool h.2.2.choose) else .stuck
  | .stuck => .stuck
/-- a def that gets a lambda and a number -/
structure Taker (K : PySem.W.Frag) (mg : Str → Option Value) (x a kn : Str) (st : Stmt) : Prop where
  ex : ∃ (g : Addr) (fd : FuncData), mg x = some (.ref g) ∧ Fun K x x st g fd ∧ L2.Binds K fd [a, kn] []
/-- the handler's suite of a body that is one try -/
def hSuite : List Stmt → List Stmt
  | [.Try _ [.ExceptHandler _ _ s _] _ _ _] => s
  | _ => []
section
variable {X : Cx} {W : WX}
theorem tkL {A : Around} {outer : List Env} {s : Shared} {H : Hp} {E : XK} {scope : Scope} {f c' : Addr} : Takes (lamCx X A outer s H E scope f c') (fun cls d _ H => E cls d H) := takes_of rfl rfl rfl rfl
theorem px_refused {x a kn y y2 c : Str} {cM P : Addr} {st : Stmt} {Ng : List Str} {k j ji : Nat} {kd : Int} {known : List Str} {gs : Addr → Str → DEnv → SRes} {fb : DE PyData} {params : Arguments} {lbody : Expr} {scope : Scope} {b₀ : Stmt} {suite : List Stmt} {p lpos ipos pos p1 p2 p3 p5 p6 p7 p8 np : Pos}
    (hg : Gl X x) (C : Taker X.K X.mg x a kn st) (Sg : FnScope Ng [a, kn] (defScope st))
    (hbd : defBody st = [.Try [.Expr (.Call (.Name a p1) [] [] p2) p3, .Return (some (.Constant (.bool false) j p5)) p6] [.ExceptHandler (some (.Name c np)) (some y) (b₀ :: suite) p7] [] [] p8])
    (hNg : Ng = [a, kn, y, y2]) (hnd : Ng.Nodup) (hva : Vis (defScope st) a) (hvy : (defScope st).names.lookup y = some .local) (hvc : (defScope st).names.lookup c = some .globalImplicit) (hdc : (c == ("__debug__" : Str)) = false) (hC : CatOk X.K X.mg c known)
    (hsw : ∀ Z : Cx, swapsWith (.Call (.Name a p1) [] [] p2) none p3.line Z.env = pure false)
    (hsu : ∀ (g : Addr) (cdv : Value) (A : Around) (outer : List Env) (s : Shared) (H : Hp), Room (k + 1) (A.deeper (envOfC x (defScope st) s.heap.objs.size g cdv)) → ∀ (n : Str) (C e : Addr) (oe : Obj) (pn : List (Addr × Obj)), n ∈ known → X.mg n = some (.ref C) → Zc (.ref C) none oe → (∃ vs, oe.data = .fields vs) →
      PSs ((cxOf (L2.CX X.prog X.w) X.prog X.w X.K X.mg X.base Ng x (defScope st) g cdv A outer s H (fun _ _ _ => False)).suite e ((e, oe) :: pn)) (b₀ :: suite) (tsD X.K X.mg (fun _ _ _ _ => False) (gs e n)))
    (TB : TabB X.base X.mg cM P) (hcode : X.env.code = .ref cM) (hmT : (P, X.env.qual ++ "<lambda>") ∈ LTab.tabs) (hu : ∀ p ∈ LTab.tabs, p.1 = P → p.2 = X.env.qual ++ "<lambda>") (hr : Room (k + 2) X.A) (L : LamS X.env.scope scope) (hdef : defaultsOf params X.env = ([], []))
    (hbind : ∀ (q : Str) (cl : List (Str × Addr)) (pm cv ctv : Value), bindArgs (PySem.W.kla_fn "<lambda>" q params lbody scope cl pm cv ctv) ⟨[], []⟩ = pure [])
    (hbody : ∀ (A : Around) (outer : List Env) (s : Shared) (H : Hp) (E : XK) (f c' : Addr), Room k (A.deeper (lamEnv X scope s.heap.objs.size f c')) → PE (lamCx X A outer s H E scope f c') lbody (teD X.K X.mg (fun cls d _ H' => E cls d H') fb))
    (hdb : (x == ("__debug__" : Str)) = false := by decide) (hd : (a == ("__debug__" : Str)) = false := by decide) (hcd : (a == ("__classdict__" : Str)) = false := by decide) :
    PE X (.Call (.Name x p) [.Lambda params lbody scope lpos, .Constant (.int kd) ji ipos] [] pos) (teD X.K X.mg W (dRefused known c gs kd fb)) := by
  obtain ⟨g, fd, hm, F, hb⟩ := C.ex
  obtain ⟨oc, od, kV, doc, pm, an, cdv, ct, osl, rfl, lk, hcg⟩ := F.ex
  have hk := F.kp
  rw [hbd] at lk hb
  refine ⟨fun pins s σ H Q I h => ?_⟩
  obtain ⟨B, F0, δ, E0, o⟩ := h
  refine wpAny_Call_Name_kw (ld_glob I hg hm ?_ hdb)
  refine PySem.W.callWith_K (h₀ := X.base) I.ok.mod.kin hk ?_ (by rfl) (by rfl)
  show wpAny _ _ (spliced ((false, eval (.Lambda params lbody scope lpos) X.env) :: (false, eval (.Constant (.int kd) ji ipos) X.env) :: backTo pos (starEach [] X.env))) _ _ s
  refine Calls.spliced_cons (lam_make3 I TB hcode hu (E0.tbsH _ hmT) hdef (L.has I.ok) fun f c' pm' ctv H1 s1 I1 eX hf hfn hfr hco => ?_)
  refine Calls.spliced_cons (wpAny_Constant_int ?_)
  have I2 := I1.tok (s1.toks + 1)
  refine Calls.spliced_nil ⟨I2.kIn, ?_⟩
  have e1 : Ext F0 H F0 H1 := ⟨.refl F0, eX, E0.c.trans eX, fun p h _ => h⟩
  have E1 := E0.up e1
  have hT1 : TabsIn H1 := E1.tbsH
  refine wpAny_call (codeAny_mono (show codeAny (model X.prog X.w) X.A (.call (.ref g) ⟨[.ref f, _], []⟩) (CR (L2.CX X.prog X.w) X.stack X.prog X.w H1 { s1 with toks := s1.toks + 1 } Q (fun _ _ _ => False)) { s1 with toks := s1.toks + 1 } from ?_) fun r s2 hq => ?_)
  · refine run_ofS (N := Ng) (ps := [a, kn]) (us := [.ref f, _]) (vs := [.ref f, .int kd]) lk hcg Sg hr I2.env0 (hb _ [.ref f, _] I2.kIn rfl) (.cons rfl (.cons ⟨_, rfl⟩ .nil)) rfl fun hr' => ?_
    refine taker_body (Z := cxOf (L2.CX X.prog X.w) X.prog X.w X.K X.mg X.base Ng x (defScope st) g cdv X.A X.stack { s1 with toks := s1.toks + 1 } H1 (fun _ _ _ => False)) (known := known) (gs := gs) (tb := fun E H' Q' => teD X.K X.mg (fun cls d _ H' => E cls d H') fb σ H' Q') rfl rfl hnd (by rw [show (cxOf _ _ _ _ _ _ Ng _ _ _ _ _ _ _ _ _).N = Ng from rfl, hNg]; rfl) (by rw [show (cxOf _ _ _ _ _ _ Ng _ _ _ _ _ _ _ _ _).N = Ng from rfl, hNg]; rfl) hvy hC hvc LamX.takes0 hdc (fun pn xe => hsw _) (fun W' pn xe tk => ?_) (fun n C a' oe pn h1 h2 h3 h4 => hsu _ _ _ _ _ _ hr' n C a' oe pn h1 h2 h3 h4) hco ?_
    · exact pe_actS (i := 0) (tb := fun E => teD X.K X.mg (fun cls d _ H' => E cls d H') fb) I2 L hf hfn hfr (hbind _ _ _ _ _) tk hr' (fun E A outer s H hr2 => hbody A outer s H E f c' hr2) (by rw [hNg]; rfl) hva hd hcd
    · refine ⟨B, F0, δ, E1, ?_⟩
      unfold dRefused at o
      cases r : fb δ with
      | ok d =>
        rw [r] at o
        exact fun v F' H' x _ => o (.bl false) F' H' (e1.trans x) (.bl false)
      | exc n =>
        rw [r] at o
        dsimp only at o
        split at o
        · rename_i hh
          exact fun C F' H' m x => ⟨rfl, (E1.up x).tbsH, n, C, _, hh.1, m, rfl, hh.2.1, hh.2.2.choose_spec, fun H'' x2 => o (.bl _) F' H'' ⟨(e1.trans x).f, (e1.trans x).h.trans x2, (e1.trans x).c.trans x2, fun p h1 h2 => (e1.trans x).n p h1 h2⟩ (.bl _)⟩
        · exact o.elim
      | stuck =>
        rw [r] at o
        exact o.elim
  · cases r with
    | error e => exact (noXs hq).elim
    | ok fl =>
      cases fl with
      | ret u => exact I2.after hq
      | next => exact False.elim hq
      | brk => exact False.elim hq
      | cont => exact False.elim hq
end
end DL

set_option Elab.async false
set_option linter.all false
set_option maxRecDepth 100000
set_option maxHeartbeats 4000000
/-! a list of truths: how many, which one -/
namespace L2
open PySem PySem.Spec PyProof.Rows
section
variable {X : Cx}
theorem ty_L : TyOk X "list" (fun x H => ∃ p xs, x = .ref p ∧ SqL X.K H p xs) := by
  intro pins σ H s x v I rx ⟨p, xs, e, h⟩
  subst e
  cases rx
  obtain ⟨its, rv, ⟨⟨cls, dd, data, sl⟩, n, ho, hc, hdn, hd⟩, hlen⟩ := I.list h
  simp only at hc hdn
  subst hc hdn
  exact ⟨⟨_, ho, rfl⟩, fun a e => by
    cases e
    exact ⟨_, ho, rfl⟩⟩
/-- l.count(True) -/
theorem mt_lcountB : MtR X "list.count" (fun x xs H Q => ∃ p, ∃ bs : List Bool, x = .ref p ∧ xs = [.bl true] ∧ SqL X.K H p (bs.map V.bl) ∧ Q (.int (bs.count true : Nat)) H) := by
  intro pins s σ H x xs v us Q I rx rs h
  obtain ⟨p, bs, rfl, rfl, hf, q⟩ := h
  cases rx
  obtain ⟨u, rfl, ru⟩ := rs.one
  cases ru
  obtain ⟨its, r, ⟨⟨cls, dd, data, sl⟩, n, ho, hc, hdn, hd⟩, hlen⟩ := I.list hf
  simp only at hc hd
  subst hc hd
  have e := vals_bools r
  refine call_meets PySem.F.slot_list_count ⟨_, ho, rfl⟩ PySem.F.entry_list_count (PySem.F.args_list_count_2 _ _) (SeqAt.list_countAt p its.toArray n dd sl (.bool true) (eqU (.bl true)))
    ⟨ho, fun w hw => mem_eqAt (x := .bl true) (v := .bool true) rfl rfl r (flat_bools bs) w (by simpa using hw), ?_⟩
  have ec : its.toArray.toList.countP (eqU (.bl true)) = bs.count true := by
    rw [List.toList_toArray, e, List.countP_map]
    rfl
  refine ⟨.int (bs.count true : Nat), H, I.tok _, ⟨s.toks, ?_⟩, q⟩
  show Value.int ((its.toArray.toList.countP (eqU (.bl true)) : Nat) : Int) s.toks = Value.int ((bs.count true : Nat) : Int) s.toks
  rw [ec]
/-- l.index(True) -/
theorem mt_lindexB : MtR X "list.index" (fun x xs H Q => ∃ p, ∃ bs : List Bool, x = .ref p ∧ xs = [.bl true] ∧ SqL X.K H p (bs.map V.bl) ∧ true ∈ bs ∧ Q (.int (bs.idxOf true : Nat)) H) := by
  intro pins s σ H x xs v us Q I rx rs ⟨p, bs, e1, e2, hf, hm, q⟩
  have hj : bs.idxOf true < bs.length := List.idxOf_lt_length_of_mem hm
  have hb : bs[bs.idxOf true] = true := by simp
  refine mt_index pins s σ H x xs v us Q I rx rs ⟨p, bs.map V.bl, .bl true, bs.idxOf true, .bl true, e1, e2, hf, rfl, flat_bools bs, ?_, rfl, fun m z hm2 hz => ?_, q⟩
  · rw [List.getElem?_map, List.getElem?_eq_getElem hj, hb]
    rfl
  · rw [List.getElem?_map, List.getElem?_eq_getElem (Nat.lt_trans hm2 hj)] at hz
    cases hz
    have := List.not_of_lt_findIdx (p := fun b => b == true) (xs := bs) (i := m) hm2
    show ((bs[m]'_) == true) = false
    simpa using this
end
end L2
namespace DL
open PySem L2 PyProof.Rows
variable [LTab]
def pCountT : P → Res P
  | .list ds => match dBools ds with | some bs => .ok (.int (bs.count true : Nat)) | none => .stuck
  | _ => .stuck
def pIndexT : P → Res P
  | .list ds => match dBools ds with | some bs => if true ∈ bs then .ok (.int (bs.idxOf true : Nat)) else .stuck | none => .stuck
  | _ => .stuck
theorem RpB.sq {K : PySem.W.Frag} {F H : Hp} {v : V} {ds : List P} {bs : List Bool} (h : RpB K F H v (.list ds)) (c : Ex F H) (hb : dBools ds = some bs) : ∃ p, v = .ref p ∧ SqL K H p (bs.map V.bl) := by
  rw [bools_eq hb] at h
  rcases h with h | ⟨p, vs, ds', e1, e2, e3, e4⟩
  · cases h with
    | lst h1 h2 =>
      have e := h2.bools
      subst e
      exact ⟨_, rfl, .inl (.inl (c.k _ _ h1))⟩
  · cases e2
    have e := e4.bools
    subst e
    exact ⟨_, e1, .inl (.inl e3)⟩
section
variable {X : Cx} {W : WX} {a : Expr} {f : DE P} {c1 : Nat} {a5 a6 a7 : Pos}
theorem px_countT (ha : PE X a (teB X.K X.mg W f)) (n1 : attributeBase a "count" X.env (eval a X.env) = eval a X.env := by rfl) (n2 : (a5.endLine == a7.line) = true := by rfl) (n3 : starEach [.Constant (.bool true) c1 a6] X.env = (false, eval (.Constant (.bool true) c1 a6) X.env) :: starEach [] X.env := by rfl) :
    PE X (.Call (.Attribute a "count" a5) [.Constant (.bool true) c1 a6] [] a7) (teD X.K X.mg W (dUn pCountT f)) :=
  PEi (pe_mG ty_L PySem.F.plainAttrs_list PySem.F.slot_list_count PySem.F.type_list_count mt_lcountB ha (pa_cons pe_bl pa_nil n3) n1 (by rfl) n2 n3 (by rfl)) fun σ H Q ⟨B, F, δ, E, o⟩ => by
  obtain ⟨x1, s1, k1⟩ := outE_bind o
  refine teB.then E x1 s1 fun d v F1 H1 e1 X1 r1 => ?_
  have o1 := (k1 d e1).up X1
  unfold pCountT at o1
  split at o1
  · split at o1
    · rename_i bs hb
      obtain ⟨p, e, hs⟩ := r1.sq X1.c hb
      exact ⟨⟨p, _, e, hs⟩, p, bs, e, rfl, hs, o1 _ F1 H1 (.refl X1.c) (.int _)⟩
    · exact o1.elim
  · exact o1.elim
theorem px_indexT (ha : PE X a (teB X.K X.mg W f)) (n1 : attributeBase a "index" X.env (eval a X.env) = eval a X.env := by rfl) (n2 : (a5.endLine == a7.line) = true := by rfl) (n3 : starEach [.Constant (.bool true) c1 a6] X.env = (false, eval (.Constant (.bool true) c1 a6) X.env) :: starEach [] X.env := by rfl) :
    PE X (.Call (.Attribute a "index" a5) [.Constant (.bool true) c1 a6] [] a7) (teD X.K X.mg W (dUn pIndexT f)) :=
  PEi (pe_mG ty_L PySem.F.plainAttrs_list PySem.F.slot_list_index PySem.F.type_list_index mt_lindexB ha (pa_cons pe_bl pa_nil n3) n1 (by rfl) n2 n3 (by rfl)) fun σ H Q ⟨B, F, δ, E, o⟩ => by
  obtain ⟨x1, s1, k1⟩ := outE_bind o
  refine teB.then E x1 s1 fun d v F1 H1 e1 X1 r1 => ?_
  have o1 := (k1 d e1).up X1
  unfold pIndexT at o1
  split at o1
  · split at o1
    · rename_i bs hb
      split at o1
      · rename_i hm
        obtain ⟨p, e, hs⟩ := r1.sq X1.c hb
        exact ⟨⟨p, _, e, hs⟩, p, bs, e, rfl, hs, hm, o1 _ F1 H1 (.refl X1.c) (.int _)⟩
      · exact o1.elim
    · exact o1.elim
  · exact o1.elim
end
end DL

set_option Elab.async false
set_option linter.all false
set_option maxRecDepth 100000
set_option maxHeartbeats 4000000
/-! a def that makes lambdas: its own code object is known -/
namespace DL
open PySem PySem.Spec L2 PyProof.Rows
variable [LTab]
section
variable {P₀ : Program} {w : World} {K : PySem.W.Frag} {mg : Str → Option Value} {base : Heap}
theorem okDc {x qual : Str} {st : Stmt} {f : Addr} {N ps : List Str} {k n m : Nat} {g : DEnv → SRes} {oc kV doc pm cdv ct : Value} {od an : Option Addr} {osl : Array (Option Value)} (lk : K.lookup f = some ⟨oc, od, .func (PySem.W.fnOf x qual (defArgs st) (defBody st) (defScope st) .none kV doc pm an cdv ct), osl⟩) (hcd : PySem.W.codeIn K cdv qual = true)
    (S : FnScope N ps (defScope st)) (hn : ps.length = n) (hm : N.length = n + m)
    (hbody : ∀ (A : Around) (outer : List Env) (s : Shared) (H : Hp) (E : XK), Room k (A.deeper (envOfC qual (defScope st) s.heap.objs.size f cdv)) →
      PSs (cxOf (L2.CX P₀ w) P₀ w K mg base N qual (defScope st) f cdv A outer s H E) (defBody st) (tsD K mg (fun cls d _ H => E cls d H) g)) :
    FnOk P₀ w K mg base (L2.CX P₀ w) (k + 1) f (PySem.W.fnOf x qual (defArgs st) (defBody st) (defScope st) .none kV doc pm an cdv ct) ps (spD K mg n (defD n m g)) := by
  refine fn_of lk hcd S (fun vs H Q E h => h.1.trans hn.symm) fun A outer s H vs Q E hr h => ⟨_, hbody A outer s H E hr, ?_⟩
  obtain ⟨hl, F, ds, c, tb, r, o⟩ := h
  have hd : ds.length = n := by rw [← r.len]; exact hl
  have e0 := env_start (N := N) c tb r (by omega)
  have em : N.length - ds.length = m := by omega
  rw [em] at e0
  refine ⟨H, F, _, e0, ?_⟩
  unfold defD at o
  rw [if_pos hd] at o
  cases q : g (ds.map .val ++ List.replicate m .un) with
  | nx δ' =>
    rw [q] at o
    exact fun σ' F' H' E' x => o .non F' H' ⟨x.f, E'.b, E'.c, x.n⟩ .non
  | ret d =>
    rw [q] at o
    exact fun v F' H' c' b' x r' => o v F' H' ⟨x.f, b', c', x.n⟩ r'
  | exc nm δ' =>
    rw [q] at o
    exact fun C σ' F' H' m' E' x => o C F' H' m' ⟨x.f, E'.b, E'.c, x.n⟩
  | brk δ' =>
    rw [q] at o
    exact o.elim
  | cont δ' =>
    rw [q] at o
    exact o.elim
  | stuck =>
    rw [q] at o
    exact o.elim
  | retO c2 fs2 d2 =>
    rw [q] at o
    exact o.elim
  | retE d2 δ2 =>
    rw [q] at o
    exact o.elim
end
/-- the end of a law with one def that makes lambdas -/
theorem walkT {l : PySem.W.OpenLaw} {most room : Nat} {prog : Program} {names : List Str} {XP : (Str → Option Value) → Heap → Prop} {YP : World → Heap → Prop} {d : DefRec} {K : Params → PySem.W.Frag} {par q : Str} {dm : DefRec} (xm : Str)
    (hn : l.most = some most) (hle : most ≤ sizeLine) (plain : d.params.defaults = []) (wide : Room room callerA) (told : ∀ (w : World) (h : Heap), YP w h → (K w.params).In h) (hdm : (recsOf prog).find? (fun e => e.name == xm) = some dm) (hnt : ∀ p, PySem.W.noTabs (K p) = true)
    (F : ∀ (w : World) (mg : Str → Option Value) (fa : Addr) (h : Heap), (K w.params).In h → h.Ns mainGlobals mg → mg d.name = some (.ref fa) → ∀ (fm : Addr) (om : Obj) (fdm : FuncData) (c T : Addr), mg xm = some (.ref fm) → h.get? fm = some om → om.data = .func fdm → fdm.code = .ref c →
      ∃ fd : FuncData, (∀ (s : Shared) (u : Value), BindsTo s fd ⟨[u], []⟩ [(par, u)]) ∧
      ∀ base : Heap, (K w.params).In base → base.Ns mainGlobals mg → LamX.TabB base mg c T → FnOk l.prog w (K w.params) mg base (L2.CX l.prog w) room fa fd [par] (@spLawD ⟨[(T, q)]⟩ (K w.params) most)) :
    PySem.W.WalkO prog names XP YP l.row.toRowW d [] (fun f vs => PySem.call f vs) := by
  refine Att.attach_callB hn plain fun w s₀ s₁ mg mb fa o pm cd doc a vs ns G Y ho hd hcd hmg hobj hints hlen hbits hg => ?_
  have KX := told w _ Y
  have en : dm.name = xm := beq_iff_eq.mp (List.find?_some (p := fun e : DefRec => e.name == xm) hdm)
  obtain ⟨fm, om, fdm, c, T, m1, m2, m3, m4, m5, m6⟩ := G.T.tab dm (List.mem_of_find?_eq_some hdm)
  rw [en] at m1
  obtain ⟨fd, hb, hF⟩ := F w mg fa _ KX G.T.g hmg fm om fdm c T m1 m2 m3 m4
  have hP : s₁.heap.get? T = some (PySem.W.tabObj #[]) := by
    obtain ⟨_, g5⟩ := m6
    exact g5
  have nT : (K w.params).lookup T = none := by
    cases e : (K w.params).lookup T with
    | none => rfl
    | some o' =>
      have e2 := KX _ _ e
      rw [hP] at e2
      cases e2
      have h2 := List.all_eq_true.mp (hnt w.params) _ (PySem.W.mem_of_lookupK e)
      exact Bool.noConfusion h2
  refine LamX.law_callTs (cs := [(c, T)]) (sp := @spLawD ⟨[(T, q)]⟩ (K w.params) most) KX G.T.g G.T.b G.T.builtins G.T.nolimit hg (fun p hp => ?_) (fun p hp => ?_) (fun p hp => ?_) G.T.bmain hobj hints (Nat.le_trans hlen hle) wide (fun base h1 h2 h3 => hF base h1 h2 (h3 (c, T) List.mem_cons_self)) hb (fun H hH hS => ⟨a, ns, rfl, hS, hlen, fun p hp => ?_, fun _ => rfl⟩) fun H e s' z => noX z
  · rw [List.mem_singleton.mp hp]; exact hP
  · rw [List.mem_singleton.mp hp]; exact nT
  · rw [List.mem_singleton.mp hp]; exact PySem.W.CodeHd.of m5 m6
  · rw [List.mem_singleton.mp hp]
    exact ⟨#[], hH (c, T) List.mem_cons_self, trivial, fun _ _ z => nomatch z⟩
end DL

set_option Elab.async false
set_option linter.all false
set_option maxRecDepth 100000
set_option maxHeartbeats 4000000
/-! range with a step -/
namespace DL
open PySem L2 PyProof.Rows
variable [LTab]
def stepItems (i c : Int) (n : Nat) : List P := (List.range n).map fun k => .int (i + (k : Nat) * c)
def rangeOf3 : P → P → P → Res (List P)
  | .int i, .int j, .int c => if c ≠ 0 ∧ c.natAbs < 1073741824 ∧ Builtin.Range.small i j c = true ∧ Builtin.Range.rangeSize i j c = ((Builtin.Range.rangeSize i j c).toNat : Nat) then .ok (stepItems i c (Builtin.Range.rangeSize i j c).toNat) else .stuck
  | _, _, _ => .stuck
def iOp3 (op : P → P → P → Res (List P)) (f g h : DE P) : DE (List P) := fun δ => (f δ).bind fun x => (g δ).bind fun y => (h δ).bind fun z => op x y z
section
variable {K : PySem.W.Frag} {F : Hp}
theorem walk_rangeC {lo c : Int} {n : Nat} : Walk (Itc lo c n) n (fun _ => True) (fun i H x H' => H' = H ∧ x = .int (lo + (i : Nat) * c)) :=
  ⟨fun i _ hi _ => hi, fun _ _ => Nat.le_refl _, fun i _ _ _ _ _ y => y⟩
theorem gives_rangeC {lo c : Int} {n : Nat} : Gives K F (Itc lo c n) (stepItems lo c n) := by
  have el : (stepItems lo c n).length = n := by unfold stepItems; rw [List.length_map, List.length_range]
  refine ⟨⟨_, _, by rw [el]; exact walk_rangeC, fun _ _ => trivial, fun i Fi Hi x Hi' hi e1 e2 y => ?_⟩⟩
  obtain ⟨rfl, rfl⟩ := y
  rw [el] at hi
  refine ⟨Fi, .int (lo + (i : Nat) * c), .refl e2, ?_, .int _⟩
  unfold stepItems
  rw [List.getElem?_map, List.getElem?_range hi]
  rfl
end
section
variable {X : Cx} {W : WX} {tg a b c : Expr} {f g h : DE P} {p pos : Pos}
theorem ix_range3 (hg : Gl X "range") (hm : X.mg "range" = none) (ha : PE X a (teB X.K X.mg W f)) (hb : PE X b (teB X.K X.mg W g)) (hc : PE X c (teB X.K X.mg W h)) (hs0 : starEach [a, b, c] X.env = (false, eval a X.env) :: starEach [b, c] X.env := by rfl) (hs1 : starEach [b, c] X.env = (false, eval b X.env) :: starEach [c] X.env := by rfl) (hs2 : starEach [c] X.env = (false, eval c X.env) :: starEach [] X.env := by rfl)
    (hpl : (backTo pos (starEach [b, c] X.env)).any (·.1) = false := by rfl) : PI X tg (.Call (.Name "range" p) [a, b, c] [] pos) (tiD X.K X.mg W (iOp3 rangeOf3 f g h)) :=
  PIi (pi_range3 hg hm (pa_cons ha (pa_cons hb (pa_cons hc pa_nil hs2) hs1) hs0) hs0 hpl) fun σ H R ⟨B, F, δ, E, o⟩ => by
  obtain ⟨x1, s1, k1⟩ := outI_bind o
  refine teB.then E x1 s1 fun d v F1 H1 e1 X1 r1 => ?_
  obtain ⟨x2, s2, k2⟩ := outI_bind (k1 d e1)
  refine teB.then (E.up X1) (fun n h => (x2 n h).up X1) s2 fun d2 v2 F2 H2 e2 X2 r2 => ?_
  obtain ⟨x3, s3, k3⟩ := outI_bind (k2 d2 e2)
  refine teB.then (E.up (X1.trans X2)) (fun n h => (x3 n h).up (X1.trans X2)) s3 fun d3 v3 F3 H3 e3 X3 r3 => ?_
  have o3 := (k3 d3 e3).up ((X1.trans X2).trans X3)
  unfold rangeOf3 at o3
  split at o3
  · split at o3
    · rename_i i j c hn
      exact ⟨i, j, c, _, by rw [int_of r1, int_of r2, int_of r3], hn, o3 _ F3 H3 (.refl X3.c) gives_rangeC⟩
    · exact o3.elim
  · exact o3.elim
end
/-! ints alike, where an exception is at hand -/
def pEqI : P → P → Res P
  | .int a, .int b => .ok (.bool (decide (a = b)))
  | _, _ => .stuck
section
variable {X : Cx} {W : WX} {a b : Expr} {f g : DE P} {pos : Pos}
theorem od_eqI : OpD X W pEqI rEq := fun σ F H x y d e Q c hx hy o => by
  unfold pEqI at o
  split at o
  · rename_i i j
    rw [int_of hx, int_of hy]
    refine ⟨rfl, ?_⟩
    rw [dec_int]
    have e : (i == j) = decide (i = j) := rfl
    rw [e]
    exact o _ F H (.refl c) (.bl _)
  · exact o.elim
theorem px_eqI (ha : PE X a (teB X.K X.mg W f)) (hb : PE X b (teB X.K X.mg W g)) : PE X (.Compare a [.Eq] [b] pos) (teD X.K X.mg W (dOp pEqI f g)) := px_cmpR op_eq od_eqI ha hb (nomark _)
end
end DL

set_option Elab.async false
set_option linter.all false
set_option maxRecDepth 100000
set_option maxHeartbeats 4000000
/-! a slice with a step that may be one -/
namespace DL
open PySem L2 PyProof.Rows
variable [LTab]
section
variable {prog : Program} {w : World} {A : Around} {E : Value → Shared → Prop} {s : Shared}
theorem getItem_tuple_whole {t sl : Addr} {items : List Value} {vl vu vs : Value} {lo hi : Option Int} {k : Int} {Q : Value → Shared → Prop} (ht : IsTup s.heap t items.toArray) (hs : s.heap.IsSliceOf sl vl vu vs) (pl : IsPart vl lo) (pu : IsPart vu hi) (ps : IsPart vs (some k)) (hk : k ≠ 0) (full : ((Builtin.Slice.sliceAdjust lo hi k (items.toArray.size : Int)).1 == 0 && k == 1 && Builtin.Slice.slicePlaces (Builtin.Slice.sliceAdjust lo hi k (items.toArray.size : Int)).1 (Builtin.Slice.sliceAdjust lo hi k (items.toArray.size : Int)).2 k == items.toArray.size) = true)
    (h : Q (.ref t) s) : wpAny (model prog w) A (getItem (.ref t) (.ref sl)) Q E s := by
  obtain ⟨os, at_, isS, flds⟩ := id hs
  unfold getItem
  try with_reducible refine wpAny_holding ?_
  first | refine wpAny_bind (wpAny_pure ?_) | skip
  refine wpAny_bind (wpAny_sequenceKey ht.typeIs (by decide) ?_)
  refine wpAny_bind (wpAny_callSpecial?_slot (name := Str.ofString "__getitem__") ht.typeIs PyProof.Rows.slot_tuple_getitem (wpAny_call_entry PyProof.Rows.slot_tuple_getitem ht.typeIs PyProof.Rows.entry_tuple_getitem ?_ (PyProof.Rows.args_tuple_getitem _ _)))
  show wpAny _ _ (Builtin.Tuple.tupleItemsOf (.ref t) >>= _) _ _ s
  refine wpAny_bind (tupleItemsOf_ ht (wpAny_bind (wpAny_typeOf (show s.TypeIs (.ref sl) "slice" from ⟨os, at_, isS⟩) ?_)))
  rw [if_pos (by decide)]
  refine wpAny_bind (applied_step hs pl pu ps hk ?_)
  show wpAny _ _ (if ((Builtin.Slice.sliceAdjust lo hi k (items.toArray.size : Int)).1 == 0 && k == 1 && Builtin.Slice.slicePlaces (Builtin.Slice.sliceAdjust lo hi k (items.toArray.size : Int)).1 (Builtin.Slice.sliceAdjust lo hi k (items.toArray.size : Int)).2 k == items.toArray.size) = true then _ else _) _ _ s
  rw [if_pos full]
  unfold Builtin.Tuple.tupleIsExact
  refine wpAny_bind (wpAny_bind (wpAny_typeOf ht.typeIs (wpAny_pure ?_)))
  rw [if_pos (by decide)]
  first
    | exact wpAny_bind (wpAny_rule (wpAny_pure ⟨_, rfl, wpAny_pure h⟩))
    | exact wpAny_bind (wpAny_rule (wpAny_bind (wpAny_pure (wpAny_pure ⟨_, rfl, wpAny_pure h⟩))))
    | exact wpAny_bind (wpAny_bind (wpAny_rule (wpAny_pure (wpAny_pure ⟨_, rfl, wpAny_pure h⟩))))
end
/-- the whole of it -/
def fullB (n : Nat) (lo hi : Option Int) (k : Int) : Bool := (Builtin.Slice.sliceAdjust lo hi k (n : Int)).1 == 0 && k == 1 && Builtin.Slice.slicePlaces (Builtin.Slice.sliceAdjust lo hi k (n : Int)).1 (Builtin.Slice.sliceAdjust lo hi k (n : Int)).2 k == n
theorem stepV_full {α : Type} {xs : List α} {lo hi : Option Int} {k : Int} (h : fullB xs.length lo hi k = true) : stepV xs lo hi k = xs := by
  unfold fullB at h
  rw [Bool.and_eq_true, Bool.and_eq_true] at h
  have h1 := eq_of_beq h.1.1
  have h2 := eq_of_beq h.1.2
  have h3 := eq_of_beq h.2
  subst h2
  unfold stepV stepIx
  rw [h3, h1]
  refine List.ext_getElem? fun i => ?_
  have e : ((List.range xs.length).map fun (m : Nat) => ((0 : Int) + (m : Int) * 1).toNat) = List.range xs.length := by
    refine (List.map_congr_left fun m _ => ?_).trans (List.map_id _)
    show ((0 : Int) + (m : Int) * 1).toNat = m
    omega
  rw [e]
  congr 1
  clear e h1 h3 h
  induction xs with
  | nil => rfl
  | cons x xs ih =>
    rw [List.length_cons, List.range_succ_eq_map, List.filterMap_cons, List.filterMap_map]
    show x :: List.filterMap (fun i => xs[i]?) (List.range xs.length) = x :: xs
    rw [ih]
section
variable {prog : Program} {w : World} {A : Around} {E : Value → Shared → Prop} {s : Shared}
theorem getItem_tuple_part {t sl : Addr} {items : List Value} {vl vu vs : Value} {lo hi : Option Int} {k : Int} {Q : Value → Shared → Prop} (ht : IsTup s.heap t items.toArray) (hs : s.heap.IsSliceOf sl vl vu vs) (pl : IsPart vl lo) (pu : IsPart vu hi) (ps : IsPart vs (some k)) (hk : k ≠ 0) (other : ¬ (((Builtin.Slice.sliceAdjust lo hi k (items.toArray.size : Int)).1 == 0 && k == 1 && Builtin.Slice.slicePlaces (Builtin.Slice.sliceAdjust lo hi k (items.toArray.size : Int)).1 (Builtin.Slice.sliceAdjust lo hi k (items.toArray.size : Int)).2 k == items.toArray.size) = true))
    (hz : (stepV items lo hi k).length ≤ sizeLine) (h : Q (.ref s.heap.objs.size) { s with heap := s.heap.push { cls := .type "tuple", data := .seq (stepV items lo hi k).toArray } }) : wpAny (model prog w) A (getItem (.ref t) (.ref sl)) Q E s := by
  have fits : sizeOk (.seq (stepV items lo hi k).toArray) := by
    show (stepV items lo hi k).toArray.size ≤ sizeLine
    rw [List.size_toArray]
    exact hz
  obtain ⟨os, at_, isS, flds⟩ := id hs
  unfold getItem
  try with_reducible refine wpAny_holding ?_
  first | refine wpAny_bind (wpAny_pure ?_) | skip
  refine wpAny_bind (wpAny_sequenceKey ht.typeIs (by decide) ?_)
  refine wpAny_bind (wpAny_callSpecial?_slot (name := Str.ofString "__getitem__") ht.typeIs PyProof.Rows.slot_tuple_getitem (wpAny_call_entry PyProof.Rows.slot_tuple_getitem ht.typeIs PyProof.Rows.entry_tuple_getitem ?_ (PyProof.Rows.args_tuple_getitem _ _)))
  show wpAny _ _ (Builtin.Tuple.tupleItemsOf (.ref t) >>= _) _ _ s
  refine wpAny_bind (tupleItemsOf_ ht (wpAny_bind (wpAny_typeOf (show s.TypeIs (.ref sl) "slice" from ⟨os, at_, isS⟩) ?_)))
  rw [if_pos (by decide)]
  refine wpAny_bind (applied_step hs pl pu ps hk ?_)
  show wpAny _ _ (if ((Builtin.Slice.sliceAdjust lo hi k (items.toArray.size : Int)).1 == 0 && k == 1 && Builtin.Slice.slicePlaces (Builtin.Slice.sliceAdjust lo hi k (items.toArray.size : Int)).1 (Builtin.Slice.sliceAdjust lo hi k (items.toArray.size : Int)).2 k == items.toArray.size) = true then _ else _) _ _ s
  rw [if_neg other]
  have same : ((List.range (Builtin.Slice.slicePlaces (Builtin.Slice.sliceAdjust lo hi k (items.toArray.size : Int)).1 (Builtin.Slice.sliceAdjust lo hi k (items.toArray.size : Int)).2 k)).filterMap fun (m : Nat) => items.toArray[((Builtin.Slice.sliceAdjust lo hi k (items.toArray.size : Int)).1 + (m : Int) * k).toNat]?) = stepV items lo hi k := by
    unfold stepV stepIx
    rw [List.filterMap_map, List.size_toArray]
    refine congrArg (fun f => List.filterMap f _) (funext fun m => ?_)
    rw [List.getElem?_toArray]
    rfl
  rw [same]
  first
    | exact wpAny_bind (m := Builtin.Tuple.tupleExact _) (wpAny_newObj_type (wpAny_pure ⟨_, rfl, wpAny_pure h⟩) fits)
    | exact wpAny_bind (m := Builtin.Tuple.tupleExact _) (wpAny_newObj_type (wpAny_bind (wpAny_pure (wpAny_pure ⟨_, rfl, wpAny_pure h⟩))) fits)
    | exact wpAny_bind (wpAny_bind (m := Builtin.Tuple.tupleExact _) (wpAny_newObj_type (wpAny_pure (wpAny_pure ⟨_, rfl, wpAny_pure h⟩)) fits))
    | exact wpAny_bind (wpAny_bind (m := Builtin.Tuple.tupleExact _) (wpAny_newObj_type (wpAny_pure ⟨_, rfl, wpAny_pure h⟩) fits))
end
def tStepW (K : PySem.W.Frag) (te : TE) (tl th ts : TO) : TE := fun σ H Q => te σ H fun x H1 => tl σ H1 fun l H2 => th σ H2 fun u H3 => ts σ H3 fun c H4 => ∃ a xs k, x = .ref a ∧ SqT K H4 a xs ∧ c = some k ∧ k ≠ 0 ∧ (stepV xs l u k).length ≤ sizeLine ∧ (fullB xs.length l u k = true → Q (.ref a) H4) ∧ (fullB xs.length l u k = false → ∀ p, H4 p = none → Q (.ref p) (upd H4 p (.tup (stepV xs l u k))))
def pStepW (d : P) (lo hi st : Option Int) : Res P := match d, st with
  | .tuple ds, some k => if k ≠ 0 ∧ (stepV ds lo hi k).length ≤ lim then .ok (.tuple (stepV ds lo hi k)) else .stuck
  | _, _ => .stuck
def dStepW (f : DE P) (l u s : DE (Option Int)) : DE P := fun δ => (f δ).bind fun x => (l δ).bind fun a => (u δ).bind fun b => (s δ).bind fun c => pStepW x a b c
section
variable {X : Cx} {e st : Expr} {te : TE} {lo hi : Option Expr} {tl th ts : TO} {pos p2 : Pos}
theorem pe_stepW (he : PE X e te) (hl : PO X lo tl) (hu : PO X hi th) (hs : PO X (some st) ts) : PE X (.Subscript e (.Slice lo hi (some st) p2) pos) (tStepW X.K te tl th ts) := by
  refine ⟨fun pins s σ H Q I0 after => ?_⟩
  refine Subscript_ (thn (he.run pins s σ H _ I0 after) fun v s1 ⟨x, H1, I1, r1, q1⟩ => ?_)
  refine wpAny_Slice (thn (hl.run pins s1 σ H1 _ I1 q1) fun vl s2 ⟨l, H2, I2, pl, q2⟩ => thn (hu.run pins s2 σ H2 _ I2 q2) fun vu s3 ⟨u, H3, I3, pu, q3⟩ => thn (hs.run pins s3 σ H3 _ I3 q3) fun vs s4 ⟨c, H4, I4, ps, q4⟩ => ?_)
  obtain ⟨a, xs, k, ex, hx, ec, hk, hz, qf, q⟩ := q4
  subst ex ec
  cases r1
  have I5 : Inv X pins σ H4 { s4 with heap := s4.heap.push { cls := .type "slice", data := .fields #[vl, vu, vs] } } := I4.kept (t' := s4.toks) fun _ _ z => Heap.get?_push_of_some _ z
  obtain ⟨els, tie, is, _⟩ := I5.tuple hx
  have hlen : els.length = xs.length := tie.length.symm
  have picked : Vals (stepV xs l u k) (stepV els l u k) := by
    unfold stepV
    rw [hlen]
    exact vals_pick tie _
  have hz2 : (stepV els l u k).length ≤ sizeLine := by rw [← picked.length]; exact hz
  show wpAny (model X.prog X.w) X.A (subscriptTail e (.Slice lo hi (some st) p2) (.ref a) (.ref s4.heap.objs.size)) (EP X pins σ Q) X.xe { s4 with heap := s4.heap.push { cls := .type "slice", data := .fields #[vl, vu, vs] } }
  refine tail_any (ops := [.ref a, .ref s4.heap.objs.size]) is.typeIs PyProof.Rows.slot_tuple_getitem.lookup ?_ (by with_unfolding_all rfl)
  cases hfull : fullB xs.length l u k with
  | true =>
    refine getItem_tuple_whole is (Heap.IsSliceOf.new ..) pl pu ps hk (by rw [List.size_toArray, hlen]; exact hfull) ?_
    exact ⟨.ref a, H4, I5, rfl, qf hfull⟩
  | false =>
  refine getItem_tuple_part is (Heap.IsSliceOf.new ..) pl pu ps hk (by
    rw [List.size_toArray, hlen]
    intro z
    have hfull : _ = false := hfull
    unfold fullB at hfull
    rw [z] at hfull
    cases hfull) hz2 ?_
  refine ⟨.ref _, _, I5.laid (t' := s4.toks) (o := .tup (stepV xs l u k)) (fun _ _ z => Heap.get?_push_of_some _ z) (Nat.le_refl _) ?_, rfl, q hfull _ (I5.hok.fresh (Nat.le_refl _))⟩
  exact ⟨hz, _, picked, IsTup.new _ _⟩
end
section
variable {X : Cx} {W : WX} {a st : Expr} {l u : Option Expr} {f : DE P} {lf uf sf : DE (Option Int)} {pos p2 : Pos}
theorem px_stepW (ha : PE X a (teB X.K X.mg W f)) (hl : PO X l (toD X.K X.mg W lf)) (hu : PO X u (toD X.K X.mg W uf)) (hs : PO X (some st) (toD X.K X.mg W sf)) : PE X (.Subscript a (.Slice l u (some st) p2) pos) (teD X.K X.mg W (dStepW f lf uf sf)) :=
  PEi (pe_stepW ha hl hu hs) fun σ H Q ⟨B, F, δ, E, o⟩ => by
  obtain ⟨x1, s1, k1⟩ := outE_bind o
  refine teB.then E x1 s1 fun d v F1 H1 e1 X1 r1 => ?_
  obtain ⟨x2, s2, k2⟩ := outE_bind (k1 d e1)
  refine toD.then (E.up X1) (fun n h => (x2 n h).up X1) s2 fun lo F2 H2 e2 X2 => ?_
  obtain ⟨x3, s3, k3⟩ := outE_bind (k2 lo e2)
  refine toD.then ((E.up X1).up X2) (fun n h => (x3 n h).up (X1.trans X2)) s3 fun hi F3 H3 e3 X3 => ?_
  obtain ⟨x4, s4, k4⟩ := outE_bind (k3 hi e3)
  refine toD.then (((E.up X1).up X2).up X3) (fun n h => (x4 n h).up ((X1.trans X2).trans X3)) s4 fun c F4 H4 e4 X4 => ?_
  have o4 := (k4 c e4).up (((X1.trans X2).trans X3).trans X4)
  have r4 := ((r1.up X2).up X3).up X4
  unfold pStepW at o4
  split at o4
  · rename_i ds k
    split at o4
    · rename_i hz
      obtain ⟨p, vs, rfl, h1, h2⟩ := r4.tup
      have picked : RpAll X.K F4 (stepV vs lo hi k) (stepV ds lo hi k) := by
        unfold stepV
        rw [h2.len]
        exact rp_pick h2 _
      refine ⟨p, vs, k, rfl, X4.c.sqT h1, rfl, hz.1, by rw [lim_eq, picked.len]; exact hz.2, fun hf => ?_, fun _ t ht => o4 _ _ _ (.new X4.c ht) (.tup (.of upd_same) (picked.up (.new (X4.c.none ht))))⟩
      rw [stepV_full hf] at picked
      exact o4 _ F4 _ (.refl X4.c) (.tup h1 picked)
    · exact o4.elim
  · exact o4.elim
end
end DL

set_option Elab.async false
set_option linter.all false
set_option maxRecDepth 100000
set_option maxHeartbeats 4000000
/-! sum of a tuple -/
namespace L2
open PySem PySem.Spec PyProof.Rows
section
variable {X : Cx}
theorem cr_sumT (hc : X.calm = true) : CallR X (.builtin "sum") (fun vs H Q => ∃ (a : Addr) (ns : List Int), vs = [V.ref a] ∧ SqT X.K H a (ns.map V.int) ∧ Q (.int ns.sum) H) := by
  intro pins s σ H vs us Q I r h
  obtain ⟨a, ns, rfl, hs, q⟩ := h
  obtain ⟨its, rv, hl, _⟩ := I.tuple hs
  rw [Vals.ref1 r]
  obtain ⟨xs, e⟩ := rv.ints.allInts.items
  have hn : numsOf (intItems xs).toList = ns := by rw [← e]; exact rv.ints.numsOf
  rw [nums_intItems] at hn
  rw [e] at hl
  refine PySem.W.ktm_sumG (I.ok.hd hc) (xs := xs) (by obtain ⟨o, h1, h2, n, h3⟩ := hl; exact ⟨o, h1, h2, n, h3⟩) fun h' tk t' hk => ?_
  rw [preSum_eq, List.take_of_length_le (by simp), hn]
  exact ⟨.int _, H, I.kept hk, ⟨_, rfl⟩, q⟩
end
end L2
namespace DL
open PySem L2 PyProof.Rows
variable [LTab]
def pSumT : P → Res P
  | .tuple ds => match dInts ds with
    | some ns => .ok (.int ns.sum)
    | none => .stuck
  | _ => .stuck
section
variable {X : Cx} {W : WX} {a : Expr} {f : DE P} {p pos : Pos}
theorem px_sumT (hc : X.calm = true) (hg : Gl X "sum") (hm : X.mg "sum" = none) (ha : PE X a (teB X.K X.mg W f)) (hs : starEach [a] X.env = (false, eval a X.env) :: starEach [] X.env := by rfl) : PE X (.Call (.Name "sum" p) [a] [] pos) (teD X.K X.mg W (dUn pSumT f)) :=
  PEi (pe_callB (cr_sumT hc) hg hm PyProof.Rows.boot_sum (pa_cons ha pa_nil hs) (he := hs)) fun _ _ _ q => one_b (fun σ F H v d Q c hv o => by
  unfold pSumT at o
  split at o
  · split at o
    · rename_i ns hn
      obtain ⟨p, vs, rfl, h1, h2⟩ := hv.tup
      rw [ints_eq hn] at h2
      rw [h2.ints] at h1
      exact ⟨p, ns, rfl, c.sqT h1, o _ F H (.refl c) (.int _)⟩
    · exact o.elim
  · exact o.elim) q
end
end DL

set_option Elab.async false
set_option linter.all false
set_option maxRecDepth 100000
set_option maxHeartbeats 4000000
/-! a comprehension whose element raises, or changes an object -/
namespace L2
open PySem PySem.Spec PyProof.Rows
section
variable {M : Model} {A : Around} {E : Value → Shared → Prop} {s : Shared} {Z : Obj → Prop} {base : Heap} {env : Env} {outer : List Env} {L C e : Addr}
/-- noted at another place (a block's): the frame notes it again -/
theorem looks_elseZ {Q : Unit → Shared → Prop} (hZ : HandSPX.Steady Z) (hA : A.frames = some (env :: outer)) (hL : env.frame = some L) (hh : HandSPX.HeldZ base (env :: outer) e Z C s.heap) (hCL : C ≠ L)
    (hQ : ∀ h', HandSPX.HeldZ base (env :: outer) e Z L h' → s.heap.UpToSlots h' → Q () { s with heap := h' }) : wpAny M A (noteFrame (.ref e) env) Q E s := by
  obtain ⟨b1, b2, b3, oe, vs, T, oT, ts, g1, g2, g3, g4, g5, g6, g7, g8, g9⟩ := hh
  have off : ∀ b, b ≠ T → (s.heap.update T (Obj.mapFields (·.setIfInBounds 3 Value.none))).get? b = s.heap.get? b := fun b hb => Heap.get?_update_other _ _ fun q => hb q.symm
  have nT : ∀ b o, s.heap.get? b = some o → (∀ vs, o.data ≠ .fields vs) → b ≠ T := fun b o hb hn q => hn ts (by
    rw [q, g7] at hb
    rw [← Option.some.inj hb]
    exact g8)
  unfold noteFrame
  simp only [hL]
  refine wpAny_bind (wpAny_field g1 g3 g4 ?_)
  rw [if_pos (by simp)]
  refine wpAny_bind (wpAny_field g7 g8 g9 ?_)
  have hCL' : ¬ ((C : Int) = (L : Int)) := fun q => hCL (Int.ofNat.inj q)
  rw [if_neg (by simpa [rawInt] using hCL')]
  refine wpAny_bind (wpAny_setField g7 g8 (Array.getElem?_eq_some_iff.mp g9).1 ?_)
  refine HandSPX.wpAny_entryZ hZ hA (Heap.FunFrames.of_keeps (fun b o hb hn => ⟨o, by rw [off b (nT b o hb hn)]; exact hb, rfl⟩) b3) hL (by rw [off e g6.symm]; exact g1)
    (fun b o hb => by
      rw [off b fun q => ?_]
      · exact b1 b o hb
      · rw [q, g5] at hb
        cases hb) b2 g3 (Array.getElem?_eq_some_iff.mp g4).1 g2 fun h' hN => ?_
  obtain ⟨y1, y2, y3, y4⟩ := hN
  exact hQ h' ⟨y1, b2, y2, y3⟩ fun b o hb hn => y4 b o (by rw [off b (nT b o hb hn)]; exact hb) hn
theorem wpAny_noteE {ce : Env} {x : Value} {Q : Unit → Shared → Prop} (h : ce.frame = env.frame) (hq : wpAny M A (noteFrame x env) Q E s) : wpAny M A (noteFrame x ce) Q E s := by
  rw [noteFrame_env x h]
  exact hq
end
section
variable {X : Cx} {W : WX} {pins : List (Addr × Obj)} {σ : St} {H : Hp} {s : Shared}
/-- what a block's element lets out comes to what the def lets out -/
theorem blk_takes {scope : Scope} {ce : Env} {fp : List Addr} {pn : List (Addr × Obj)} (hs : X.stack = X.env :: X.outer) (hf : X.env.frame = some X.env.locals) (tk : Takes X W) (I : Inv X pins σ H s) (hcf : ce.frame = X.env.frame) (hC : ce.locals = s.heap.objs.size)
    (hfp : ∀ b ∈ fp, FpOk X pins H b ∧ b < s.heap.objs.size) :
    Takes ((X.blk s H scope ce fp).tr pn (notedBy (model X.prog X.w) X.A ce (CompFails (model X.prog X.w) X.A X.xe ce))) (fun cls d _ H' => W cls d σ H') := by
  rintro u s' ⟨a, B, sI, pZ, σZ, HZ, cls, d, rfl, IZ, nb, up, sky, na, os, ag, w⟩
  have hA : X.A.frames = some (X.env :: X.outer) := by rw [I.ok.frames, hs]
  have cL : ce.locals ≠ X.env.locals := by
    rw [hC]
    exact Nat.ne_of_gt I.lt
  have sky' : Sky B (X.env :: X.outer) a (Zc cls d) ce.locals s'.heap := by rw [← hs]; exact sky
  -- behind the note
  have next : ∀ h1, HandSPX.HeldZ B (X.env :: X.outer) a (Zc cls d) X.env.locals h1 → s'.heap.UpToSlots h1 → CompFails (model X.prog X.w) X.A X.xe ce (.ref a) { s' with heap := h1 } := fun h1 hh up1 => by
    obtain ⟨m, hm, _⟩ := IZ.loc
    have hm1 : h1.Ns ce.locals m := (up.trans up1).ns hm
    refine ⟨m, hm1, fun h2 m2 hn2 hs2 => ?_⟩
    obtain ⟨b1, b2, b3, oe, vs, T, oT, ts, g1, g2, g3, g4, g5, g6, g7, g8, g9⟩ := hh
    obtain ⟨oC, es, ep, hoC, hdC, _⟩ := hm1
    have neC : ∀ {b : Addr} {o : Obj} {ws : Array Value}, h1.get? b = some o → o.data = .fields ws → b ≠ ce.locals := fun {b o ws} q1 q2 e => by
      rw [e, hoC] at q1
      cases q1
      rw [hdC] at q2
      cases q2
    have hB' : ∀ b o, (PySem.W.hideAll B [ce.locals]).get? b = some o → B.get? b = some o ∧ b ≠ ce.locals := fun b o q => by
      refine ⟨PySem.W.of_hideAll _ q, fun e => ?_⟩
      rw [e, PySem.W.hideAll_none _ (by simp)] at q
      cases q
    have hideN : ∀ {b : Addr}, B.get? b = none → (PySem.W.hideAll B [ce.locals]).get? b = none := fun {b} q => by
      cases r : (PySem.W.hideAll B [ce.locals]).get? b with
      | none => rfl
      | some o =>
        have := (hB' b o r).1
        rw [q] at this
        cases this
    have held2 : HandSPX.HeldZ (PySem.W.hideAll B [ce.locals]) (X.env :: X.outer) a (Zc cls d) X.env.locals h2 :=
      ⟨fun b o q => (hs2.2 b (hB' b o q).2).trans (b1 b o (hB' b o q).1), hideN b2, Heap.FunFrames.sameBut hs2 hn2 (funFrames_none b3 fun b hb => hideN (b3.mem hb).1),
        oe, vs, T, oT, ts, (hs2.2 a (neC g1 g3)).trans g1, g2, g3, g4, hideN g5, g6, (hs2.2 T (neC g7 g8)).trans g7, g8, g9⟩
    unfold PySem.passOn
    refine wpAny_bind (wpAny_field ((hs2.2 a (neC g1 g3)).trans g1) g3 g4 ?_)
    rw [if_neg (by simp)]
    have fin : wpAny (model X.prog X.w) X.A (setFlight (.ref a) ce.frame) (fun _ s4 => wpAny (model X.prog X.w) X.A (throw (.ref a) : Sem Value) (fun _ _ => False) X.xe s4) X.xe { s' with heap := h2 } := by
      rw [hcf, hf]
      refine HandSPX.setFlight_onZ held2 fun h3 held3 up3 => wpAny_throw (tk _ _ ?_)
      have hide : ∀ {b : Addr} {o : Obj}, sI.heap.get? b = some o → b ≠ ce.locals → (PySem.W.hideAll sI.heap [ce.locals]).get? b = some o := fun q n => PySem.W.hideAll_get _ q (by simpa using n)
      have back : ∀ {b : Addr} {o : Obj}, (PySem.W.hideAll sI.heap [ce.locals]).get? b = some o → sI.heap.get? b = some o ∧ b ≠ ce.locals := fun {b o} q => by
        refine ⟨PySem.W.of_hideAll _ q, fun e => ?_⟩
        rw [e, PySem.W.hideAll_none _ (by simp)] at q
        cases q
      have old : ∀ {b : Addr} {o : Obj}, s.heap.get? b = some o → b ≠ ce.locals := fun q e => by
        have := Heap.lt_size q
        rw [e, hC] at this
        exact Nat.lt_irrefl _ this
      have freeC : HZ ce.locals = none := IZ.free
      have IX : Inv X pins σ HZ { sI with heap := PySem.W.hideAll sI.heap [ce.locals] } := by
        have Ub : Un (frs X.stack) fp H HZ s.heap sI.heap := IZ.base
        refine I.call' (ch := fp) (show sI.os = s.os from IZ.os) ⟨fun b o q n hb hx => hide (Ub.keep b o q n hb hx) (old q), fun b o q n hb hx => ?_, Ub.free, fun b o q hx => ?_, Ub.tups, Ub.frzs, Ub.tbls⟩ (fun b o q => ?_) IZ.bare
          fun b hb => ⟨(hfp b hb).1.2.2.2.1, (hfp b hb).1.2.1, (hfp b hb).1.2.2.2.2.1, (hfp b hb).1.2.2.2.2.2⟩
        · obtain ⟨sl, q2⟩ := Ub.slot b o q n hb hx
          exact ⟨sl, hide q2 (old q)⟩
        · obtain ⟨o', q2⟩ := Ub.there b o q hx
          exact ⟨o', hide q2 (old q)⟩
        · refine (IZ.hok b o q).stay (fun c v hc r => hide r fun e => ?_) (fun _ r => r) fun _ _ r => r
          rcases hc with hc | hc
          · rw [← hc, e, freeC] at q
            cases q
          · rw [e, freeC] at hc
            cases hc
      refine ⟨a, _, _, pins, σ, HZ, cls, d, rfl, IX, fun b o q hb => ?_, fun b o q hn => ?_, .inr (.inr (by rw [hs]; exact held3)), na, os, ag, w⟩
      · obtain ⟨q1, q2⟩ := back q
        exact PySem.W.hideAll_get _ (nb b o q1 hb) (by simpa using q2)
      · obtain ⟨q1, q2⟩ := back q
        obtain ⟨sl, q3⟩ := (up.trans up1) b o q1 hn
        exact up3 b _ ((hs2.2 b q2).trans q3) hn |>.elim fun sl2 q4 => ⟨sl2, q4⟩
    first
      | exact wpAny_bind (wpAny_pure (wpAny_bind fin))
      | exact wpAny_bind fin
  show wpAny _ _ (noteFrame (.ref a) ce) _ _ _
  refine wpAny_noteE hcf ?_
  rcases sky' with ⟨hB, hn, hl, oe, vs, he, hz, hd, h1⟩ | fl | hh
  · exact HandSPX.look_newZ Zc.steady hA hl hf he hB hn hd h1 hz next
  · exact HandSPX.looks_onZ Zc.steady hA hf fl next
  · exact looks_elseZ Zc.steady hA hf hh cL next
end
end L2

set_option Elab.async false
set_option linter.all false
set_option maxRecDepth 100000
set_option maxHeartbeats 4000000
/-! the block of a comprehension whose element raises, or changes an object -/
namespace L2
open PySem PySem.Spec PyProof.Rows
section
variable {X : Cx}
theorem lcX_core {W : WX} {pins : List (Addr × Obj)} {s : Shared} {σ : St} {H : Hp} {Q : VK} {elt tg iter : Expr} {ifs : List Expr} {scope : Scope} {own : List (Str × Nat)} {pos posI : Pos} {wi : TI} {g : TG} {tt : TT} {te : TE} {use : Option (Value → Sem Unit)} {Qf : Value → Shared → Prop}
    (hst : X.stack = X.env :: X.outer) (hfr : X.env.frame = some X.env.locals) (tk : Takes X W)
    (hc : X.calm = true) (hN : X.N.Nodup) (I : Inv X pins σ H s) (hi : PI X tg iter wi) (okB : BlkOk X.N X.env.scope scope own)
    (hg : ∀ (s : Shared) (H : Hp) (C : Addr) (cl : List (Str × Addr)) (fp : List Addr), PG (X.blk s H scope (compEnvC scope cl C X.env) fp) tg g)
    (ht : ∀ (s : Shared) (H : Hp) (C : Addr) (cl : List (Str × Addr)) (fp : List Addr), PTs (X.blk s H scope (compEnvC scope cl C X.env) fp) ifs tt)
    (he : ∀ (s : Shared) (H : Hp) (C : Addr) (cl : List (Str × Addr)) (fp : List Addr) (pn : List (Addr × Obj)) (xe : Value → Shared → Prop), Takes ((X.blk s H scope (compEnvC scope cl C X.env) fp).tr pn xe) (fun cls d _ H' => W cls d σ H') → PE ((X.blk s H scope (compEnvC scope cl C X.env) fp).tr pn xe) elt te)
    (hfold : ∀ x, foldedSetIterable iter X.env x = pure x) (h : tLc wi g tt te (own.map (·.2)) σ H Q)
    (hend : ∀ D s' m H' ce, Inv X pins σ H' s' → Q (.ref D) H' → s'.heap.Ns (Env.locals ce) m → FpOk X pins H' ce.locals → compEnds (model X.prog X.w) X.A X.xe use Qf (.ref D) ce (.ok .next) s') :
    wpAny (model X.prog X.w) X.A (comprehension (.ListComp elt [⟨tg, iter, ifs, 0⟩] scope pos) scope X.env posI (newList []) false (eval iter X.env) use) Qf X.xe s := by
  have hcells : ∀ y ∈ scope.names, y.2 = .free → ∃ c, X.env.cells.lookup y.1 = some c := fun y hy e => I.ok.has _ (okB.free y hy e)
  refine comprehension_at (use := use) rfl hfold (closure_ok hcells) okB.kind (fun y hy e => (okB.uniq y hy).trans (congrArg some e)) (thn (hi.run pins s σ H _ I h) fun xv sA hx => thn hx fun itv sB hB => ?_)
  obtain ⟨it, fp, tn, J, HB, e, IB, T, tnB, fpB, q⟩ := hB
  subst e
  refine wpAny_newObj_type (newEnv_comp ?_) (Nat.zero_le _)
  generalize hD : sB.heap.objs.size = D
  have freeD : HB D = none := IB.hok.fresh (Nat.le_of_eq hD)
  obtain ⟨M, ⟨n0, w0⟩, turn⟩ := q D freeD
  generalize hsL : ({ sB with heap := sB.heap.push { cls := .type "list", data := .seq ([] : List Value).toArray } } : Shared) = sL
  have eL : sL.heap = sB.heap.push { cls := .type "list", data := .seq ([] : List Value).toArray } := by rw [← hsL]
  have IL : Inv X pins σ (upd HB D (.lst [])) sL := by
    rw [← hsL]
    refine IB.laid (t' := sB.toks) (fun b o r => Heap.get?_push_of_some _ r) (Nat.le_of_eq hD) ⟨Nat.zero_le _, [], 0, .nil, ?_⟩
    rw [← hD]
    exact Heap.get?_push_size _ rfl
  have ltB : ∀ b ∈ fp, b < sB.heap.objs.size := fun b hb => (T.obj _ _ tnB b hb).elim fun o z => Heap.lt_size z.1
  have fpL : ∀ b ∈ fp, FpOk X pins (upd HB D (.lst [])) b ∧ b < sL.heap.objs.size := fun b hb => by
    have z := ltB b hb
    refine ⟨⟨?_, (fpB b hb).2⟩, by rw [eL, Heap.size_push]; exact Nat.lt_succ_of_lt z⟩
    rw [upd_ne (by rw [← hD]; exact Nat.ne_of_lt z)]
    exact (fpB b hb).1
  have tnL : tn 0 sL.heap := T.keep _ _ _ tnB fun b _ o r => by
    rw [eL]
    exact Heap.get?_push_of_some _ r
  have IC := block_start IL okB hN fpL
  generalize hcl : cellsFrom (sL.heap.objs.size + 1) scope.names (cloFrom X.env.cells scope.names []) = cl at IC
  have pg := hg sL (upd HB D (.lst [])) sL.heap.objs.size cl fp
  have pt := ht sL (upd HB D (.lst [])) sL.heap.objs.size cl fp
  have pe := he sL (upd HB D (.lst [])) sL.heap.objs.size cl fp
  show codeAny _ _ (.compStart (.ListComp elt [⟨tg, iter, ifs, 0⟩] scope pos) 0 (.ref it) (.ref D) (compEnvC scope cl sL.heap.objs.size X.env)) (compEnds (model X.prog X.w) X.A X.xe use Qf (.ref D) (compEnvC scope cl sL.heap.objs.size X.env)) { sL with heap := pushCells (sL.heap.push { cls := .type "dict", data := .dict #[] }) scope.names }
  have hnfp : ∀ b ∈ fp, (upd HB D (.lst [])) b = none := fun b hb => (fpL b hb).1.1
  generalize hce : compEnvC scope cl sL.heap.objs.size X.env = ce at IC pg pt pe ⊢
  have ceL : ce.locals = sL.heap.objs.size := by rw [← hce]; rfl
  have ceF : ce.frame = X.env.frame := by rw [← hce]; rfl
  generalize hHL : upd HB D (.lst []) = HL at IL IC pg pt pe w0 hnfp fpL
  generalize hsC : ({ sL with heap := pushCells (sL.heap.push { cls := .type "dict", data := .dict #[] }) scope.names } : Shared) = sC at IC ⊢
  have tnC : tn 0 sC.heap := T.keep _ _ _ tnL fun b _ o r => by
    rw [← hsC]
    exact pushCells_keeps _ _ _ _ (Heap.get?_push_of_some _ r)
  have fpZ : ∀ {σ' : St} {H' : Hp} {s' : Shared}, Inv (X.blk sL HL scope ce fp) [] σ' H' s' → (∀ b ∈ fp, H' b = none) → ∀ b ∈ fp, FpOk (X.blk sL HL scope ce fp) [] H' b := fun {σ' H' s'} I' hn b hb =>
    ⟨hn b hb, (I'.ok.exf b hb).1, I'.ok.exfs b hb, .inl hb, fun x c e => (I'.ok.exf b hb).2 x c e, fun p hp => absurd (show p ∈ ([] : List (Addr × Obj)) ++ [] from hp) (by simp)⟩
  have loop : codeAny (model X.prog X.w) X.A (.compLoop (.ListComp elt [⟨tg, iter, ifs, 0⟩] scope pos) 0 (.ref it) (.ref D) ce) (compEnds (model X.prog X.w) X.A X.xe use Qf (.ref D) ce) sC := by
    refine compLoop_any (fun n s' => ∃ i H', Inv (X.blk sL HL scope ce fp) [] (wipe σ (own.map (·.2))) H' s' ∧ tn i s'.heap ∧ (∀ b ∈ fp, H' b = none) ∧ M i n H') ?_ n0 ⟨0, HL, IC, tnC, hnfp, w0⟩
    rintro n t1 ⟨i, G1, J1, a1, b1, c1⟩
    rcases turn i n G1 c1 with ⟨stop, qq⟩ | ⟨go, Nx, hNx, step⟩
    · refine thnF (T.done (X.blk sL HL scope ce fp) rfl rfl rfl hc i [] t1 _ G1 (fun _ _ => False) J1 (fpZ J1 b1) a1 stop) fun r t2 ⟨er, J2⟩ => ?_
      subst er
      have JX : Inv X pins σ G1 t2 := IL.call' (ch := fp) J2.os J2.base J2.hok J2.bare fun b hb => ⟨(fpL b hb).1.2.2.2.1, (fpL b hb).1.2.1, (fpL b hb).1.2.2.2.2.1, (fpL b hb).1.2.2.2.2.2⟩
      have nC : G1 ce.locals = none := J2.free
      obtain ⟨m, hm, _⟩ := J2.loc
      refine hend D t2 m G1 ce JX qq hm ?_
      rw [ceL] at nC ⊢
      exact IL.fpOk (Nat.le_refl _) nC
    · refine thnF (T.item (X.blk sL HL scope ce fp) rfl rfl rfl hc i [] t1 _ G1 (fun _ _ => False) J1 (fpZ J1 b1) a1 go) fun r t2 ⟨u, er, k2⟩ => ?_
      subst er
      refine thnF k2 fun _ t3 ⟨x, G3, J3, r3, y3, a3, b3⟩ => ?_
      have J3' := J3.pinned (fpZ J3 b3) (T.obj _ _ a3)
      refine thnF (pg.run _ t3 _ G3 x u _ J3' r3 (step x G3 y3)) fun _ t4 ⟨σ4, G4, J4, w4, q4⟩ => ?_
      refine thnF (pt.run _ t4 σ4 G4 _ J4 q4) fun b t5 ⟨G5, J5, q5⟩ => ?_
      have fin : ∀ {s' : Shared} {H' : Hp}, Inv (X.blk sL HL scope ce fp) ([] ++ pinsAt fp t3.heap) σ4 H' s' → Nx H' → ∃ m, m < n ∧ ∃ i H', Inv (X.blk sL HL scope ce fp) [] (wipe σ (own.map (·.2))) H' s' ∧ tn i s'.heap ∧ (∀ b ∈ fp, H' b = none) ∧ M i m H' := fun {s' H'} I' nx => by
        obtain ⟨m', lt, w'⟩ := hNx H' nx
        have pinned : ∀ b ∈ fp, ∀ o, t3.heap.get? b = some o → s'.heap.get? b = some o ∧ H' b = none := fun b hb o r =>
          let z := I'.pin (b, o) (List.mem_append_right _ (List.mem_append_right _ (mem_pinsAt hb r)))
          ⟨z.1, z.2.1⟩
        refine ⟨m', lt, i + 1, H', (I'.unpinned (pins := [])).weak (by rw [← w4, wipe_length]) (fun j v r => ?_), T.keep _ _ _ a3 fun b hb o r => (pinned b hb o r).1, fun b hb => ?_, w'⟩
        · rw [← w4] at r
          exact (wipe_some r).1
        · obtain ⟨o, r, _⟩ := T.obj _ _ a3 b hb
          exact (pinned b hb o r).2
      cases b with
      | false =>
        simp only [Bool.false_eq_true, if_false] at q5 ⊢
        exact fin J5 q5
      | true =>
        simp only [if_true] at q5 ⊢
        refine wpAny_mono ((pe _ _ (blk_takes hst hfr tk IL ceF ceL fpL)).run [] t5 σ4 G5 _ (J5.toTry _) q5) (fun z t6 ⟨yv, G6, J6, r6, acc, hD6, hz6, nx⟩ => ?_) fun x t6 hx => ?_
        · exact app_ok (X := X.blk sL HL scope ce fp) (J6.ofTry J5.ok) hD6 hz6 r6 fun t7 J7 => fin J7 nx
        · refine wpAny_mono hx (fun _ t7 h7 => ?_) (fun _ t7 h7 => ?_)
          · cases use <;> exact h7
          · cases use <;> exact h7
  exact codeAny_compStart_list loop (T.self X.A 0 _ _ _ tnC loop)
theorem pe_lcX {W : WX} {elt tg iter : Expr} {ifs : List Expr} {scope : Scope} {own : List (Str × Nat)} {pos : Pos} {wi : TI} {g : TG} {tt : TT} {te : WX → TE}
    (hst : X.stack = X.env :: X.outer) (hfr : X.env.frame = some X.env.locals) (tk : Takes X W)
    (hc : X.calm = true) (hN : X.N.Nodup) (hi : PI X tg iter wi) (okB : BlkOk X.N X.env.scope scope own)
    (hg : ∀ (s : Shared) (H : Hp) (C : Addr) (cl : List (Str × Addr)) (fp : List Addr), PG (X.blk s H scope (compEnvC scope cl C X.env) fp) tg g)
    (ht : ∀ (s : Shared) (H : Hp) (C : Addr) (cl : List (Str × Addr)) (fp : List Addr), PTs (X.blk s H scope (compEnvC scope cl C X.env) fp) ifs tt)
    (he : ∀ (W' : WX) (s : Shared) (H : Hp) (C : Addr) (cl : List (Str × Addr)) (fp : List Addr) (pn : List (Addr × Obj)) (xe : Value → Shared → Prop), Takes ((X.blk s H scope (compEnvC scope cl C X.env) fp).tr pn xe) W' → PE ((X.blk s H scope (compEnvC scope cl C X.env) fp).tr pn xe) elt (te W'))
    (hfold : ∀ x, foldedSetIterable iter X.env x = pure x := by intro _; rfl) :
    PE X (.ListComp elt [⟨tg, iter, ifs, 0⟩] scope pos) (fun σ H Q => tLc wi g tt (te fun cls d _ H' => W cls d σ H') (own.map (·.2)) σ H Q) := by
  refine ⟨fun pins s σ H Q I h => ?_⟩
  rw [eval_ListComp]
  refine lcX_core (use := none) hst hfr tk hc hN I hi okB hg ht (fun s H C cl fp pn xe => he _ s H C cl fp pn xe) hfold h fun D s' m H' ce I' q hn f => ⟨m, hn, fun h2 sb => ?_⟩
  obtain ⟨f0, f1, f2, f3, f4, f5⟩ := f
  exact ⟨.ref D, H', I'.turned (t' := s'.toks) (fun b o hb r => (sb.2 b hb).trans r) f0 f1 f3 f4 f5, rfl, q⟩
/-- y = [..] in one row -/
theorem ps_setLcX {W : WX} {i : Nat} {y : Str} {py : Pos} {elt tg iter : Expr} {ifs : List Expr} {scope : Scope} {own : List (Str × Nat)} {pos spos : Pos} {wi : TI} {g : TG} {tt : TT} {te : WX → TE}
    (hst : X.stack = X.env :: X.outer) (hfr : X.env.frame = some X.env.locals) (tk : Takes X W)
    (hc : X.calm = true) (hN : X.N.Nodup) (hy : X.N[i]? = some y) (hyl : X.env.scope.names.lookup y = some .local) (hsw : swapsWith (.ListComp elt [⟨tg, iter, ifs, 0⟩] scope pos) (some (.Name y py)) spos.line X.env = pure true) (hi : PI X tg iter wi) (okB : BlkOk X.N X.env.scope scope own)
    (hg : ∀ (s : Shared) (H : Hp) (C : Addr) (cl : List (Str × Addr)) (fp : List Addr), PG (X.blk s H scope (compEnvC scope cl C X.env) fp) tg g)
    (ht : ∀ (s : Shared) (H : Hp) (C : Addr) (cl : List (Str × Addr)) (fp : List Addr), PTs (X.blk s H scope (compEnvC scope cl C X.env) fp) ifs tt)
    (he : ∀ (W' : WX) (s : Shared) (H : Hp) (C : Addr) (cl : List (Str × Addr)) (fp : List Addr) (pn : List (Addr × Obj)) (xe : Value → Shared → Prop), Takes ((X.blk s H scope (compEnvC scope cl C X.env) fp).tr pn xe) W' → PE ((X.blk s H scope (compEnvC scope cl C X.env) fp).tr pn xe) elt (te W'))
    (hfold : ∀ x, foldedSetIterable iter X.env x = pure x := by intro _; rfl) :
    PS X (.Assign [.Name y py] (.ListComp elt [⟨tg, iter, ifs, 0⟩] scope pos) spos) (fun D σ H => tLc wi g tt (te fun cls d _ H' => W cls d σ H') (own.map (·.2)) σ H (fun x H1 => gName i x σ H1 D.nx)) := by
  refine ⟨fun pins s σ H D I h => ?_⟩
  rw [exec_Assign_Name_used _ _ _ _ hsw]
  refine wpAny_bind (wpAny_standAt (wpAny_bind ?_))
  refine wpAny_bind (thn (lcX_core (use := some (assign (.Name y py) X.env)) (Qf := fun _ s' => SP X pins D .next s') hst hfr tk hc hN I hi okB hg ht (fun s H C cl fp pn xe => he _ s H C cl fp pn xe) hfold h fun L s' m H' ce I' q hn f => ?_) fun _ s' hq => wpAny_pure (wpAny_pure hq))
  show wpAny _ _ (assign (.Name y py) X.env (.ref L)) _ _ _
  refine wpAny_assign_Name (store_ok2 (v := V.ref L) I' hN hy (.inl hyl) rfl (fun s2 I2 ⟨a, sb, ha⟩ => ?_) (.inr hyl))
  obtain ⟨f0, f1, f2, f3, f4, f5⟩ := f
  refine ⟨m, hn.sameBut sb (fun e => ?_), fun h3 sb3 => ⟨_, H', I2.turned (t' := s2.toks) (fun b o hb r => (sb3.2 b hb).trans r) f0 f1 f3 f4 f5, q⟩⟩
  rcases ha with z | z
  · exact f1 (e.trans z)
  · exact f4 y a z e.symm
end
end L2

set_option Elab.async false
set_option linter.all false
set_option maxRecDepth 100000
set_option maxHeartbeats 4000000
/-! comprehensions whose element raises, or changes an object: what they come to -/
namespace DL
open PySem L2 PyProof.Rows
variable [LTab]
section
variable {K : PySem.W.Frag} {B B' F F' H H' : Hp} {σ : L2.St} {δ : DEnv}
theorem noL_of {o : HO} (h : isDct o = true) : isL o = false := by
  cases o <;> first | rfl | cases h
theorem ObjE.tr {lk : Lk} {c : Str} {fs : List (Str × P)} {p : Addr} (b : Ex B H) (e : Ex F F') (hF : ∀ a o, F a = none → H a = some o → isL o = false → F' a = none) (hH : ∀ a o, H a = some o → isL o = false → H' a = some o) (hB : ∀ a o, H a = some o → isL o = false → B' a = B a) (h : ObjE K B F H lk c fs p) : ObjE K B' F' H' lk c fs p := by
  obtain ⟨C, dx, gs, h1, h2, h3, h4, h5, h6⟩ := h.ex
  refine ⟨⟨C, dx, gs, h1, hH _ _ h2 rfl, hF _ _ h3 h2 rfl, ?_, h5.chgD b e (fun a o q1 q2 q3 => hF a o q1 q2 (noL_of q3)) (fun a o q1 q2 => hH a o q1 (noL_of q2)) fun a o q1 q2 => hB a o q1 (noL_of q2), h6⟩⟩
  cases lk with
  | free q => exact ⟨(hB _ _ h2 rfl).trans h4.1, h4.2⟩
  | fix q => exact ⟨(hB _ _ h2 rfl).trans h4.1, h4.2⟩
/-- the heaps are other ones, the names the same -/
theorem EnvOk.re (E : EnvOk K B F H σ δ) (hc : Ex F' H') (hb : Ex B' H') (ht : TabsIn B') (hf : Ex F F') (own : ∀ p vs, H p = some (.lst vs) → F p = none → B p = none → H' p = some (.lst vs) ∧ F' p = none ∧ B' p = none)
    (hF : ∀ a o, F a = none → H a = some o → isL o = false → F' a = none) (hH : ∀ a o, H a = some o → isL o = false → H' a = some o) (hB : ∀ a o, H a = some o → isL o = false → B' a = B a) : EnvOk K B' F' H' σ δ :=
  ⟨hc, hb, ht, E.len, fun i d h => let ⟨v, h1, h2⟩ := E.val i d h; ⟨v, h1, h2.up hf⟩,
    fun i ds h => let ⟨p, vs, h1, h2, h3, h4, h5⟩ := E.own i ds h; let ⟨a1, a2, a3⟩ := own p vs h2 h4 h5; ⟨p, vs, h1, a1, h3.up hf, a2, a3⟩, E.apart, E.raw,
    fun i lk c fs h => let ⟨p, h1, h2⟩ := E.obj i lk c fs h; ⟨p, h1, h2.tr E.b hf hF hH hB⟩, E.far⟩
variable {D : Addr} {xs ys : List V}
/-- a new list that no name has, held still -/
theorem EnvOk.hold (E : EnvOk K B F H σ δ) (h : H D = none) : EnvOk K (upd B D (.lst xs)) F (upd H D (.lst xs)) σ δ := by
  have ne : ∀ {a : Addr} {o : HO}, H a = some o → a ≠ D := fun q e => by rw [e, h] at q; cases q
  refine E.re (E.c.mut (E.c.none h) (.none h)) ?_ (E.tbs.up (.new (E.b.none h))) (.refl F) (fun p vs q1 q2 q3 => ⟨by rw [upd_ne (ne q1)]; exact q1, q2, by rw [upd_ne (ne q1)]; exact q3⟩) (fun _ _ q _ _ => q) (fun a o q _ => by rw [upd_ne (ne q)]; exact q) fun a o q _ => upd_ne (ne q)
  exact (E.b.mut (E.b.none h) (.none h)).put upd_same
theorem ex_less {G G' : Hp} (b : Ex (upd G D (.lst xs)) G') (h : G D = none) : Ex G G' := (Ex.new (o := .lst xs) h).trans b
/-- it changes -/
theorem EnvOk.bump (E : EnvOk K (upd B D (.lst xs)) F H σ δ) (hB : B D = none) (hF : F D = none) (ht : TabsIn B) : EnvOk K (upd B D (.lst ys)) F (upd H D (.lst ys)) σ δ := by
  have hD : H D = some (.lst xs) := E.b.k _ _ upd_same
  have ne : ∀ {a : Addr} {o : HO}, H a = some o → isL o = false → a ≠ D := fun q n e => by
    rw [e, hD] at q
    cases q
    cases n
  have bs : Ex B H := ex_less E.b hB
  refine E.re (E.c.mut hF (.of hD nofun)) ((bs.mut hB (.of hD nofun)).put upd_same) (ht.up (.new hB)) (.refl F) (fun p vs q1 q2 q3 => ?_) (fun _ _ q _ _ => q) (fun a o q n => by rw [upd_ne (ne q n)]; exact q) fun a o q n => by rw [upd_ne (ne q n), upd_ne (ne q n)]
  have n : p ≠ D := fun e => by rw [e, upd_same] at q3; cases q3
  rw [upd_ne n] at q3
  exact ⟨by rw [upd_ne n]; exact q1, q2, by rw [upd_ne n]; exact q3⟩
/-- it is let go -/
theorem EnvOk.loose (E : EnvOk K (upd B D (.lst xs)) F H σ δ) (hB : B D = none) (ht : TabsIn B) : EnvOk K B F H σ δ := by
  have hD : H D = some (.lst xs) := E.b.k _ _ upd_same
  refine E.re E.c (ex_less E.b hB) ht (.refl F) (fun p vs q1 q2 q3 => ?_) (fun _ _ q _ _ => q) (fun _ _ q _ => q) fun a o q n => ?_
  · have n : p ≠ D := fun e => by rw [e, upd_same] at q3; cases q3
    rw [upd_ne n] at q3
    exact ⟨q1, q2, q3⟩
  · have n : a ≠ D := fun e => by
      rw [e, hD] at q
      cases q
      cases n
    rw [upd_ne n]
/-- it never changes again -/
theorem EnvOk.kept (E : EnvOk K (upd B D (.lst xs)) F H σ δ) (hB : B D = none) (hF : F D = none) (ht : TabsIn B) : EnvOk K B (upd F D (.lst xs)) H σ δ := by
  have hD : H D = some (.lst xs) := E.b.k _ _ upd_same
  refine E.re (E.c.put hD) (ex_less E.b hB) ht (.new hF) (fun p vs q1 q2 q3 => ?_) (fun a o q1 q2 n => ?_) (fun _ _ q _ => q) fun a o q n => ?_
  · have n : p ≠ D := fun e => by rw [e, upd_same] at q3; cases q3
    rw [upd_ne n] at q3
    exact ⟨q1, by rw [upd_ne n]; exact q2, q3⟩
  · have n : a ≠ D := fun e => by
      rw [e, hD] at q2
      cases q2
      cases n
    rw [upd_ne n]
    exact q1
  · have n : a ≠ D := fun e => by
      rw [e, hD] at q
      cases q
      cases n
    rw [upd_ne n]
/-- the block's names are not those of the def -/
theorem EnvOk.unwipe {vs : List Nat} (E : EnvOk K B F H (L2.wipe σ vs) δ) (h : ∀ i ∈ vs, ∀ s, δ[i]? = some s → s = .un) : EnvOk K B F H σ δ := by
  have key : ∀ {i : Nat} {s : Slot}, s ≠ .un → δ[i]? = some s → (L2.wipe σ vs)[i]? = σ[i]? := fun {i s} n q => L2.wipe_out fun hm => n (h i hm s q)
  refine ⟨E.c, E.b, E.tbs, by rw [← E.len, L2.wipe_length], fun i d q => ?_, fun i ds q => ?_, fun i j ds es p n q1 q2 q3 => ?_, fun i v q => ?_, fun i lk c fs q => ?_, fun i j lk lk' c c' fs fs' p n q1 q2 q3 => ?_⟩
  · rw [← key (s := .val d) nofun q]
    exact E.val i d q
  · rw [← key (s := .own ds) nofun q]
    exact E.own i ds q
  · rw [← key (s := .own ds) nofun q1] at q3
    rw [← key (s := .own es) nofun q2]
    exact E.apart i j ds es p n q1 q2 q3
  · rw [← key (s := .raw v) nofun q]
    exact E.raw i v q
  · rw [← key (s := .obj lk c fs) nofun q]
    exact E.obj i lk c fs q
  · rw [← key (s := .obj lk c fs) nofun q1] at q3
    rw [← key (s := .obj lk' c' fs') nofun q2]
    exact E.far i j lk lk' c c' fs fs' p n q1 q2 q3
end
theorem wipeD_un {δ : DEnv} : ∀ {vs : List Nat} {i : Nat}, i ∈ vs → ∀ s, (wipeD δ vs)[i]? = some s → s = .un
  | v :: vs, i, h, s, q => by
    unfold wipeD at q
    by_cases e : i = v
    · subst e
      rw [List.getElem?_set] at q
      rw [if_pos rfl] at q
      split at q <;> cases q
      rfl
    · rw [List.getElem?_set_ne (Ne.symm e)] at q
      rcases List.mem_cons.mp h with h | h
      · exact absurd h e
      · exact wipeD_un h s q
/-- one more ahead -/
def addX (y : P) : SRes → SRes
  | .retE (.list ys) δ => .retE (.list (y :: ys)) δ
  | .exc n δ => .exc n δ
  | _ => .stuck
/-- the turns, in the block's names -/
def compGoX (vs : List Nat) (bd : Bd) (c : DE Bool) (e : DEnv → SRes) : DEnv → List P → SRes
  | δ, [] => .retE (.list []) δ
  | δ, d :: ds => match bd d δ with
    | .ok δ1 => (match c δ1 with
      | .ok true => (match e δ1 with
        | .retE y δ2 => addX y (compGoX vs bd c e (wipeD δ2 vs) ds)
        | .exc n δ2 => .exc n (wipeD δ2 vs)
        | _ => .stuck)
      | .ok false => compGoX vs bd c e δ ds
      | _ => .stuck)
    | _ => .stuck
def eComp (fi : DE (List P)) (vs : List Nat) (bd : Bd) (c : DE Bool) (e : DEnv → SRes) : DEnv → SRes := fun δ => ofR δ (fi δ) fun ds => if ds.length ≤ lim then compGoX vs bd c e (wipeD δ vs) ds else .stuck
/-- a value that changes nothing -/
def eD (f : DE P) : DEnv → SRes := fun δ => ofR δ (f δ) fun d => .retE d δ
/-- so many ahead -/
def addXs : List P → SRes → SRes
  | [], r => r
  | y :: ys, r => addX y (addXs ys r)
theorem addXs_app : ∀ (ys zs : List P) (r : SRes), addXs (ys ++ zs) r = addXs ys (addXs zs r)
  | [], _, _ => rfl
  | y :: ys, zs, r => by
    show addX y (addXs (ys ++ zs) r) = addX y (addXs ys (addXs zs r))
    rw [addXs_app ys zs r]
theorem addXs_list : ∀ (ys zs : List P) (δ : DEnv), addXs ys (.retE (.list zs) δ) = .retE (.list (ys ++ zs)) δ
  | [], _, _ => rfl
  | y :: ys, zs, δ => by
    show addX y (addXs ys _) = _
    rw [addXs_list ys zs δ]
    rfl
theorem addXs_exc {n : Str} {δ : DEnv} : ∀ ys : List P, addXs ys (.exc n δ) = .exc n δ
  | [] => rfl
  | y :: ys => by
    show addX y (addXs ys _) = _
    rw [addXs_exc ys]
    rfl
theorem addXs_stuck : ∀ {ys : List P} {r : SRes}, addXs ys r ≠ .stuck → r ≠ .stuck
  | [], _, h => h
  | y :: ys, r, h => fun e => h (by
    subst e
    show addX y (addXs ys .stuck) = .stuck
    cases q : addXs ys .stuck with
    | stuck => rfl
    | _ => exact absurd rfl (addXs_stuck (ys := ys) (r := .stuck) (by rw [q]; nofun)))
theorem OutX.live {K : PySem.W.Frag} {mg : Str → Option Value} {W : WX} {σ : L2.St} {B F : Hp} {r : SRes} {Q : VK} (o : OutX K mg W σ B F r Q) : r ≠ .stuck := fun e => by
  rw [e] at o
  exact o
section
variable {X : Cx} {W : WX} {elt tg iter : Expr} {ifs : List Expr} {scope : Scope} {own : List (Str × Nat)} {pos : Pos} {fi : DE (List P)} {bd : Bd} {ix : List Nat} {fc : DE Bool} {fe : DEnv → SRes}
theorem px_eD {e : Expr} {f : DE P} (h : PE X e (teD X.K X.mg W f)) : PE X e (teX X.K X.mg W (eD f)) := PEi h fun σ H Q ⟨B, F, δ, E, o⟩ => by
  obtain ⟨x1, s1, k1⟩ := outX_of E o
  exact teD.then E x1 s1 fun d v F1 H1 e1 X1 r1 => k1 d e1 v F1 H1 (E.up X1) (E.sext X1) r1
theorem compX_dn {σ : L2.St} {H : Hp} {Q : VK} (hix : ∀ i ∈ ix, i ∈ own.map (·.2)) {B F : Hp} {δ : DEnv} (E : EnvOk X.K B F H σ δ) (o : OutX X.K X.mg W σ B F (eComp fi (own.map (·.2)) bd fc fe δ) Q) :
    tLc (tiD X.K X.mg W fi) (tgD X.K bd ix) (teT X.K X.mg WF fc) (teX X.K X.mg (fun cls d _ H' => W cls d σ H') fe) (own.map (·.2)) σ H Q := by
  obtain ⟨x1, s1, k1⟩ := outX_of E o
  refine ⟨B, F, δ, E, ?_⟩
  cases hf : fi δ with
  | exc n => exact x1 n hf
  | stuck => exact s1 hf
  | ok ds =>
    intro J F1 H1 X1 ⟨⟨G, Y, w, hG, hY⟩⟩ D hD
    have o1 := k1 ds hf
    have E1 := E.up X1
    have hBD : B D = none := E1.b.none hD
    have htB := E.tbs
    split at o1
    case isFalse => exact o1.elim
    have o1 := o1.up (E.sext X1)
    refine L2.lc_it w (fun i Hh => ∃ Fi acc ys δi, EnvOk X.K (upd B D (.lst acc)) Fi Hh (L2.wipe σ (own.map (·.2))) δi ∧ (∀ j ∈ own.map (·.2), ∀ s, δi[j]? = some s → s = .un) ∧ SExt B F1 Fi ∧ Ex F1 Fi ∧ Fi D = none ∧ RpAll X.K Fi acc ys ∧ acc.length ≤ i ∧
      OutX X.K X.mg W σ B Fi (addXs ys (compGoX (own.map (·.2)) bd fc fe δi (ds.drop i))) Q) ?_ ?_ ?_ ?_
    · exact ⟨F1, [], [], wipeD δ (own.map (·.2)), (E1.wipe _).hold hD, fun j hj s => wipeD_un hj s, .refl, .refl _, X1.c.none hD, .nil, Nat.le_refl _, by rw [List.drop_zero]; exact o1⟩
    · rintro i Hh hi ⟨Fi, acc, ys, δi, Ei, _, _, hFi, _⟩
      exact hG Hh (hFi.trans Ei.c)
    · rintro i x Hi Hi' hi ⟨Fi, acc, ys, δi, Ei, hun, hS, hFi, hFD, ra, hl, oi⟩ y
      obtain ⟨Fj, d, ej, hd, rd⟩ := hY i Fi Hi x Hi' hi hFi Ei.c y
      have hdrop : ds.drop i = d :: ds.drop (i + 1) := by
        obtain ⟨h1, h2⟩ := List.getElem?_eq_some_iff.mp hd
        rw [List.drop_eq_getElem_cons h1]; rw [h2]
      rw [hdrop] at oi
      have hHD : Hi D = some (.lst acc) := Ei.b.k _ _ upd_same
      have Ej := Ei.up ej
      have sj : SExt B Fi Fj := (Ei.loose hBD htB).sext ej
      have hFDj : Fj D = none := ej.n D hFD (by rw [hHD]; nofun)
      have oj := oi.up sj
      have lv := addXs_stuck oj.live
      unfold compGoX at oj lv
      refine ⟨_, Fj, δi, d, Ej, rd, ?_⟩
      cases hb1 : bd d δi with
      | exc n => rw [hb1] at lv; exact absurd rfl lv
      | stuck => rw [hb1] at lv; exact absurd rfl lv
      | ok δ1 =>
        rw [hb1] at oj lv
        intro σ2 E2 hw
        refine ⟨by rw [hw _ hix, wipe_wipe], ?_⟩
        refine ⟨_, Fj, δ1, E2, ?_⟩
        dsimp only at oj lv
        cases hc1 : fc δ1 with
        | exc n => rw [hc1] at lv; exact absurd rfl lv
        | stuck => rw [hc1] at lv; exact absurd rfl lv
        | ok b =>
          rw [hc1] at oj lv
          intro F3 H3 X3
          have E3 := E2.up X3
          have hHD' : Hi' D = some (.lst acc) := Ej.b.k _ _ upd_same
          have hFD3 : F3 D = none := X3.n D hFDj (by rw [hHD']; nofun)
          have s3 : SExt B Fj F3 := (E2.loose hBD htB).sext X3
          have o3 := oj.up s3
          cases b with
          | false =>
            rw [if_neg Bool.false_ne_true]
            exact ⟨F3, acc, ys, δi, Ej.up X3, hun, (hS.trans sj).trans s3, (hFi.trans ej.f).trans X3.f, hFD3, (ra.up ej.f).up X3.f, by omega, o3⟩
          | true =>
            rw [if_pos rfl]
            dsimp only at o3 lv
            refine ⟨_, F3, δ1, E3, ?_⟩
            cases he1 : fe δ1 with
            | retE yv δ2 =>
              rw [he1] at o3
              intro v F4 H4 E4 S4 r4
              have s4 : SExt B F3 F4 := ⟨S4.f, fun p h1 h2 => S4.n p h1 (by
                have : p ≠ D := fun e => h2 (by rw [e]; exact hBD)
                rw [upd_ne this]
                exact h2)⟩
              have hHD4 : H4 D = some (.lst acc) := E4.b.k _ _ upd_same
              have hFD4 : F4 D = none := S4.n D hFD3 (by rw [upd_same]; nofun)
              have hlz : acc.length < sizeLine := by
                rw [lim_eq]
                omega
              have o4 := o3.up s4
              have E5 := (E4.wipe (own.map (·.2))).bump (ys := acc ++ [v]) hBD hFD4 htB
              rw [show L2.wipe σ2 (own.map (·.2)) = L2.wipe σ (own.map (·.2)) by rw [hw _ hix, wipe_wipe]] at E5
              refine ⟨acc, hHD4, hlz, F4, acc ++ [v], ys ++ [yv], wipeD δ2 (own.map (·.2)), E5, fun j hj s => wipeD_un hj s, ((hS.trans sj).trans s3).trans s4, ((hFi.trans ej.f).trans X3.f).trans S4.f, hFD4, (((ra.up ej.f).up X3.f).up S4.f).app (.cons r4 .nil), by simp only [List.length_append, List.length_singleton]; omega, ?_⟩
              rw [addXs_app]
              exact o4
            | exc n δ2 =>
              rw [he1] at o3
              intro C F4 H4 m4 E4 S4
              have s4 : SExt B F3 F4 := ⟨S4.f, fun p h1 h2 => S4.n p h1 (by
                have : p ≠ D := fun e => h2 (by rw [e]; exact hBD)
                rw [upd_ne this]
                exact h2)⟩
              have E5 := (E4.wipe (own.map (·.2))).loose hBD htB
              rw [show L2.wipe σ2 (own.map (·.2)) = L2.wipe σ (own.map (·.2)) by rw [hw _ hix, wipe_wipe]] at E5
              have o4 := o3.up s4
              dsimp only at o4
              rw [addXs_exc] at o4
              exact o4 C F4 H4 m4 (E5.unwipe fun j hj s => wipeD_un hj s) .refl
            | nx δ2 => rw [he1] at lv; exact absurd rfl lv
            | brk δ2 => rw [he1] at lv; exact absurd rfl lv
            | cont δ2 => rw [he1] at lv; exact absurd rfl lv
            | ret d2 => rw [he1] at lv; exact absurd rfl lv
            | stuck => rw [he1] at lv; exact absurd rfl lv
            | retO c2 fs2 d2 => rw [he1] at lv; exact absurd rfl lv
    · rintro Hh ⟨Fi, acc, ys, δi, Ei, hun, hS, hFi, hFD, ra, hl, oi⟩
      rw [List.drop_length] at oi
      unfold compGoX at oi
      rw [addXs_list, List.append_nil] at oi
      exact oi (.ref D) _ Hh ((Ei.kept hBD hFD htB).unwipe hun) ⟨.new hFD, fun p h1 h2 => by
        have : p ≠ D := fun e => h2 (by rw [e]; exact hBD)
        rw [upd_ne this]
        exact h1⟩ (.lst upd_same (ra.up (.new hFD)))
theorem px_lcX {vs : List Nat} (hst : X.stack = X.env :: X.outer) (hfr : X.env.frame = some X.env.locals) (tk : Takes X W) (hc : X.calm = true) (hN : X.N.Nodup) (hi : PI X tg iter (tiD X.K X.mg W fi)) (ok : BlkOk X.N X.env.scope scope own) (hv : own.map (·.2) = vs) (hix : ∀ i ∈ ix, i ∈ own.map (·.2))
    (hg : ∀ (s : Shared) (H : Hp) (C : Addr) (cl : List (Str × Addr)) (fp : List Addr), PG (X.blk s H scope (compEnvC scope cl C X.env) fp) tg (tgD X.K bd ix))
    (ht : ∀ (s : Shared) (H : Hp) (C : Addr) (cl : List (Str × Addr)) (fp : List Addr), PTs (X.blk s H scope (compEnvC scope cl C X.env) fp) ifs (teT X.K X.mg WF fc))
    (he : ∀ (W' : WX) (s : Shared) (H : Hp) (C : Addr) (cl : List (Str × Addr)) (fp : List Addr) (pn : List (Addr × Obj)) (xe : Value → Shared → Prop), Takes ((X.blk s H scope (compEnvC scope cl C X.env) fp).tr pn xe) W' → PE ((X.blk s H scope (compEnvC scope cl C X.env) fp).tr pn xe) elt (teX X.K X.mg W' fe))
    (hs : ∀ x, foldedSetIterable iter X.env x = pure x := by intro _; rfl) :
    PE X (.ListComp elt [⟨tg, iter, ifs, 0⟩] scope pos) (teX X.K X.mg W (eComp fi vs bd fc fe)) := by
  subst hv
  exact PEi (pe_lcX (te := fun W' => teX X.K X.mg W' fe) hst hfr tk hc hN hi ok hg ht he hs) fun σ H Q ⟨B, F, δ, E, o⟩ => compX_dn hix E o
/-- x = e, e raises or changes an object -/
def sSetX (i : Nat) (f : DEnv → SRes) : DEnv → SRes := fun δ => match f δ with
  | .retE d δ' => .nx (δ'.set i (.val d))
  | .exc n δ' => .exc n δ'
  | _ => .stuck
theorem setX_of {i : Nat} {f : DEnv → SRes} {D : Ends} {B F : Hp} {δ : DEnv} {σ : L2.St} (o : OutS X.K X.mg W D B F (sSetX i f δ)) : OutX X.K X.mg W σ B F (f δ) (fun x H1 => gName i x σ H1 D.nx) := by
  unfold sSetX at o
  cases q : f δ with
  | retE d δ' =>
    rw [q] at o
    exact fun v F' H' E' S' r' => o _ F' H' (E'.set i r') S'
  | exc n δ' =>
    rw [q] at o
    exact fun C F' H' m' E' S' => o C σ F' H' m' E' S'
  | nx δ' => rw [q] at o; exact o.elim
  | brk δ' => rw [q] at o; exact o.elim
  | cont δ' => rw [q] at o; exact o.elim
  | ret d => rw [q] at o; exact o.elim
  | stuck => rw [q] at o; exact o.elim
  | retO c fs d => rw [q] at o; exact o.elim
theorem sx_setX {i : Nat} {x : Str} {e : Expr} {f : DEnv → SRes} {pos' : Pos} (hN : X.N.Nodup) (hi : X.N[i]? = some x) (hx : Loc X.env.scope x) (he : PE X e (teX X.K X.mg W f)) (hs : swapsWith e (some (.Name x pos')) pos.line X.env = pure false := by rfl) (hf : X.fn x = true ∨ X.env.scope.names.lookup x = some .local := by first | exact .inl rfl | exact .inr rfl | assumption) :
    PS X (.Assign [.Name x pos'] e pos) (tsD X.K X.mg W (sSetX i f)) := PSi (ps_set hN hi hx he hs hf) fun D σ H ⟨B, F, δ, E, o⟩ => ⟨B, F, δ, E, setX_of o⟩
theorem sx_setLcX {vs : List Nat} {i : Nat} {y : Str} {py spos : Pos} (hst : X.stack = X.env :: X.outer) (hfr : X.env.frame = some X.env.locals) (tk : Takes X W) (hc : X.calm = true) (hN : X.N.Nodup) (hy : X.N[i]? = some y) (hyl : X.env.scope.names.lookup y = some .local)
    (hsw : swapsWith (.ListComp elt [⟨tg, iter, ifs, 0⟩] scope pos) (some (.Name y py)) spos.line X.env = pure true) (hi : PI X tg iter (tiD X.K X.mg W fi)) (ok : BlkOk X.N X.env.scope scope own) (hv : own.map (·.2) = vs) (hix : ∀ i ∈ ix, i ∈ own.map (·.2))
    (hg : ∀ (s : Shared) (H : Hp) (C : Addr) (cl : List (Str × Addr)) (fp : List Addr), PG (X.blk s H scope (compEnvC scope cl C X.env) fp) tg (tgD X.K bd ix))
    (ht : ∀ (s : Shared) (H : Hp) (C : Addr) (cl : List (Str × Addr)) (fp : List Addr), PTs (X.blk s H scope (compEnvC scope cl C X.env) fp) ifs (teT X.K X.mg WF fc))
    (he : ∀ (W' : WX) (s : Shared) (H : Hp) (C : Addr) (cl : List (Str × Addr)) (fp : List Addr) (pn : List (Addr × Obj)) (xe : Value → Shared → Prop), Takes ((X.blk s H scope (compEnvC scope cl C X.env) fp).tr pn xe) W' → PE ((X.blk s H scope (compEnvC scope cl C X.env) fp).tr pn xe) elt (teX X.K X.mg W' fe))
    (hs : ∀ x, foldedSetIterable iter X.env x = pure x := by intro _; rfl) :
    PS X (.Assign [.Name y py] (.ListComp elt [⟨tg, iter, ifs, 0⟩] scope pos) spos) (tsD X.K X.mg W (sSetX i (eComp fi vs bd fc fe))) := by
  subst hv
  exact PSi (ps_setLcX (te := fun W' => teX X.K X.mg W' fe) hst hfr tk hc hN hy hyl hsw hi ok hg ht he hs) fun D σ H ⟨B, F, δ, E, o⟩ => compX_dn hix E (setX_of o)
end
end DL

set_option Elab.async false
set_option linter.all false
set_option maxRecDepth 100000
set_option maxHeartbeats 4000000
/-! texts: split, int, so often as one likes; the greatest of a tuple -/
namespace L2
open PySem PySem.Spec PyProof.Rows
section
variable {X : Cx}
def sRep (z : Str) (n : Nat) : Str := ⟨(List.replicate n z.cps).foldl (· ++ ·) #[]⟩
theorem op_repS : OpR X (binaryOp .Mult) (fun x y H Q => ∃ z n, x = .str z ∧ y = .int n ∧ 2 ≤ n ∧ n ≤ 1000 ∧ z.length ≠ 0 ∧ z.length ≤ 1000 ∧ (sRep z n.toNat).length ≤ 1000000 ∧ Q (.str (sRep z n.toNat)) H) := by
  intro pins s σ H x y v u Q I rx ry h
  obtain ⟨z, n, rfl, rfl, h1, h2, h3, h4, h5, q⟩ := h
  obtain ⟨t, rfl⟩ := rx
  obtain ⟨t', rfl⟩ := ry
  have e1 : (n == 1 || z.length == 0) = false := by
    rw [Bool.or_eq_false_iff]
    exact ⟨beq_eq_false_iff_ne.mpr (by omega), beq_eq_false_iff_ne.mpr h3⟩
  refine PySem.P.mul_str ?_ (fun _ _ => ?_) (fun _ _ => ?_) ?_
  · rw [decide_eq_false (by omega), decide_eq_false (by omega)]
    rfl
  · intro h
    have a1 : (2 : Int) ^ 63 - 1 = 9223372036854775807 := by decide
    rw [a1] at h
    have a2 : (9223372036854775807 : Int) / 1000 ≤ 9223372036854775807 / n := by
      rw [Int.le_ediv_iff_mul_le (by omega)]
      have : (9223372036854775807 : Int) / 1000 * n ≤ 9223372036854775807 / 1000 * 1000 := Int.mul_le_mul_of_nonneg_left h2 (by decide)
      exact Int.le_trans this (by decide)
    have a3 : (9223372036854775807 : Int) / 1000 = 9223372036854775 := by decide
    omega
  · have : z.length * n.toNat ≤ 1000 * 1000 := Nat.mul_le_mul h4 (by omega)
    unfold PySem.Builtin.Str.tooLong
    rw [sizeLine_eq]
    exact decide_eq_false (by omega)
  · rw [if_neg (by omega), if_neg (by rw [e1]; exact Bool.false_ne_true)]
    exact ⟨by rw [sizeLine_eq]; exact Nat.le_trans h5 (by decide), .str _, H, I.tok _, ⟨_, rfl⟩, q⟩
/-- max(t), t a tuple of whole numbers -/
theorem cr_maxT (hc : X.calm = true) : CallR X (.builtin "max") (fun vs H Q => ∃ (a : Addr) (ns : List Int), vs = [V.ref a] ∧ SqT X.K H a (ns.map V.int) ∧ 0 < ns.length ∧ ∀ m, m ∈ ns → (∀ y, y ∈ ns → y ≤ m) → Q (.int m) H) := by
  intro pins s σ H vs us Q I r h
  obtain ⟨a, ns, rfl, hs, hne, q⟩ := h
  obtain ⟨its, rv, ht, _⟩ := I.tuple hs
  rw [Vals.ref1 r]
  obtain ⟨xs, e⟩ := rv.ints.allInts.items
  have hn : numsOf (intItems xs).toList = ns := by rw [← e]; exact rv.ints.numsOf
  rw [nums_intItems] at hn
  rw [e] at ht
  have ht : s.heap.IsTuple a (intItems xs) := by obtain ⟨o, h1, h2, n, h3⟩ := ht; exact ⟨o, h1, h2, n, h3⟩
  have hsz : (intItems xs).size = xs.size := by simp [intItems]
  have hx : 0 < xs.size := by
    rw [← hn] at hne
    simpa using hne
  have hlt : a < s.heap.objs.size := by
    obtain ⟨o, h1, _⟩ := ht
    exact Heap.lt_size h1
  refine PySem.call_max_walk (wpAny_pyIter_tuple ht ?_)
  refine ⟨_, _, _, _, _, _, _, rfl, Walks.tuple (A := X.A.in1) (I.ok.hd hc) s.heap.objs.size a (Nat.ne_of_lt hlt) (intItems xs), ⟨⟨_, Heap.get?_push_size _ rfl, rfl, rfl⟩, ht.at fun o e => Heap.get?_push_of_some _ e⟩, fun b hb => ?_, by rw [hsz]; exact hx, CmpOf.ints_gt (numAt xs) (fun _ _ => intItems_at), fun v h' tk hP hk => ?_⟩
  · show b < (s.heap.push _).objs.size
    rw [Heap.size_push]
    rcases List.mem_cons.mp hb with z | z
    · rw [z]
      exact Nat.lt_succ_self _
    · rw [List.mem_singleton.mp z]
      exact Nat.lt_succ_of_lt hlt
  · obtain ⟨t, rfl⟩ := intItems_at hP
    obtain ⟨g1, g2⟩ := argBest_gt (numAt xs) (xs.size - 1)
    rw [hsz] at *
    have kept : ∀ b o, s.heap.get? b = some o → h'.get? b = some o := fun b o z => hk b o (fun hm => by
      have := Heap.lt_size z
      rw [List.mem_singleton.mp hm] at this
      exact Nat.lt_irrefl _ this) (Heap.get?_push_of_some _ z)
    refine ⟨.int _, H, I.kept kept, ⟨_, rfl⟩, q _ ?_ fun y hy => ?_⟩
    · rw [← hn, numAt_eq]
      exact PySem.getD_mem (by rw [List.length_map, Array.length_toList]; omega)
    · rw [← hn] at hy
      obtain ⟨j, hj, rfl⟩ := mem_getD hy
      rw [List.length_map, Array.length_toList] at hj
      rw [← numAt_eq]
      exact g2 j (by omega)
end
end L2
namespace DL
open PySem L2 PyProof.Rows
variable [LTab]
/-- the greatest -/
def maxI : List Int → Option Int
  | [] => none
  | a :: l => match maxI l with
    | none => some a
    | some m => some (if a < m then m else a)
theorem maxI_some : ∀ {l : List Int}, l ≠ [] → ∃ m, maxI l = some m
  | a :: l, _ => by
    unfold maxI
    cases maxI l with
    | none => exact ⟨_, rfl⟩
    | some m => exact ⟨_, rfl⟩
theorem maxI_ok : ∀ {l : List Int} {m : Int}, maxI l = some m → m ∈ l ∧ ∀ y ∈ l, y ≤ m
  | a :: l, m, h => by
    unfold maxI at h
    cases q : maxI l with
    | none =>
      rw [q] at h
      cases h
      cases l with
      | nil => exact ⟨by simp, fun y hy => by simp at hy; omega⟩
      | cons b l =>
        obtain ⟨m', e⟩ := maxI_some (l := b :: l) (by simp)
        rw [e] at q
        cases q
    | some m' =>
      rw [q] at h
      cases h
      obtain ⟨h1, h2⟩ := maxI_ok q
      split
      · exact ⟨List.mem_cons_of_mem _ h1, fun y hy => by
          rcases List.mem_cons.mp hy with e | e
          · omega
          · exact h2 y e⟩
      · exact ⟨List.mem_cons_self, fun y hy => by
          rcases List.mem_cons.mp hy with e | e
          · omega
          · have := h2 y e
            omega⟩
def pMax1 : P → Res P
  | .tuple ds => match dInts ds with
    | some ns => (match maxI ns with
      | some m => .ok (.int m)
      | none => .stuck)
    | none => .stuck
  | _ => .stuck
/-- int of a text, of an int, of a truth -/
def pIntS : P → Res P
  | .int i => .ok (.int i)
  | .bool b => .ok (.int (if b then 1 else 0))
  | .str z => match PySem.intText? z with
    | some n => if z.length ≤ 640 then .ok (.int n) else .stuck
    | none => .stuck
  | _ => .stuck
def pRepS : P → P → Res P
  | .str z, .int n => if 2 ≤ n ∧ n ≤ 1000 ∧ z.length ≠ 0 ∧ z.length ≤ 1000 ∧ (sRep z n.toNat).length ≤ 1000000 then .ok (.str (sRep z n.toNat)) else .stuck
  | _, _ => .stuck
def pSplit : P → P → Res (List P)
  | .str a, .str b => if (b.length == 0) = false ∧ a.length + 2 ≤ lim then .ok ((Txt.split a b).map .str) else .stuck
  | _, _ => .stuck
/-- a text's method on one thing, that makes a list -/
def needStrL (d : P) (k : Res (List P)) : Res (List P) := match d with
  | .str _ => k
  | _ => .stuck
def dStrML (op : P → P → Res (List P)) (f g : DE P) : DE (List P) := fun δ => (f δ).bind fun x => needStrL x ((g δ).bind fun y => op x y)
section
variable {X : Cx} {W : WX} {a b e : Expr} {f g : DE P} {p pos apos : Pos}
theorem px_max1 (hc : X.calm = true) (hg : Gl X "max") (hm : X.mg "max" = none) (ha : PE X a (teB X.K X.mg W f)) (hs : starEach [a] X.env = (false, eval a X.env) :: starEach [] X.env := by rfl) : PE X (.Call (.Name "max" p) [a] [] pos) (teD X.K X.mg W (dUn pMax1 f)) :=
  PEi (pe_callB (cr_maxT hc) hg hm PyProof.Rows.boot_max (pa_cons ha pa_nil hs) (he := hs)) fun _ _ _ q => one_b (fun σ F H v d Q c hv o => by
  unfold pMax1 at o
  split at o
  · split at o
    · rename_i ns hn
      split at o
      · rename_i m hm'
        obtain ⟨p, vs, rfl, h1, h2⟩ := hv.tup
        rw [ints_eq hn] at h2
        rw [h2.ints] at h1
        obtain ⟨k1, k2⟩ := maxI_ok hm'
        refine ⟨p, ns, rfl, c.sqT h1, List.length_pos_of_mem k1, fun m2 j1 j2 => ?_⟩
        have e : m2 = m := Int.le_antisymm (k2 _ j1) (j2 _ k1)
        rw [e]
        exact o _ F H (.refl c) (.int _)
      · exact o.elim
    · exact o.elim
  · exact o.elim) q
theorem px_toIntS (hg : Gl X "int") (hm : X.mg "int" = none) (ha : PE X a (teB X.K X.mg W f)) (hs : starEach [a] X.env = (false, eval a X.env) :: starEach [] X.env := by rfl) : PE X (.Call (.Name "int" p) [a] [] pos) (teD X.K X.mg W (dUn pIntS f)) :=
  PEi (pe_callTy (CallR.or call_int1 call_int_str) hg hm PyProof.Rows.boot_int (pa_cons ha pa_nil hs) (he := hs)) fun _ _ _ q => one_b (fun σ F H v d Q c hv o => by
  unfold pIntS at o
  split at o
  · exact .inl (.inl ⟨_, by rw [int_of hv], o _ F H (.refl c) (.int _)⟩)
  · exact .inl (.inr ⟨_, by rw [bool_of hv], o _ F H (.refl c) (.int _)⟩)
  · split at o
    · rename_i n hn
      split at o
      · rename_i hz
        exact .inr ⟨_, n, by rw [str_of hv], hn, hz, o _ F H (.refl c) (.int _)⟩
      · exact o.elim
    · exact o.elim
  · exact o.elim) q
theorem px_repS (ha : PE X a (teB X.K X.mg W f)) (hb : PE X b (teB X.K X.mg W g)) : PE X (.BinOp a .Mult b pos) (teD X.K X.mg W (dOp pRepS f g)) := px_bin op_repS (fun σ F H x y d e Q c hx hy o => by
  unfold pRepS at o
  split at o
  · split at o
    · rename_i hz
      exact ⟨_, _, str_of hx, int_of hy, hz.1, hz.2.1, hz.2.2.1, hz.2.2.2.1, hz.2.2.2.2, o _ F H (.refl c) (.str _)⟩
    · exact o.elim
  · exact o.elim) ha hb
theorem pl_split (ha : PE X a (teB X.K X.mg W f)) (he : PE X e (teB X.K X.mg W g)) (hs : starEach [e] X.env = [(false, eval e X.env)] := by rfl) (hbase : attributeBase a "split" X.env (eval a X.env) = eval a X.env := by rfl) (hline : (apos.endLine == pos.line) = true := by rfl) :
    PE X (.Call (.Attribute a "split" apos) [e] [] pos) (teL X.K X.mg W (dStrML pSplit f g)) :=
  PEi (pe_split ha he hs hbase hline) fun σ H Q ⟨B, F, δ, E, o⟩ => by
  obtain ⟨x1, s1, k1⟩ := outL_bind o
  refine teB.then E x1 s1 fun d v F1 H1 e1 X1 r1 => ?_
  have o1 := k1 d e1
  have isS : ∃ z, d = .str z := by
    unfold needStrL at o1
    split at o1
    · exact ⟨_, rfl⟩
    · exact o1.elim
  obtain ⟨z, rfl⟩ := isS
  obtain ⟨x2, s2, k2⟩ := outL_bind (show OutL X.K X.mg W σ F H ((g δ).bind fun y => pSplit (.str z) y) Q from o1)
  refine ⟨⟨z, str_of r1⟩, ?_⟩
  refine teB.then (E.up X1) (fun n h => (x2 n h).up X1) s2 fun d2 u F2 H2 e2 X2 r2 => ?_
  have o3 := (k2 d2 e2).up (X1.trans X2)
  unfold pSplit at o3
  split at o3
  · rename_i heq
    split at o3
    · rename_i hz
      cases heq
      refine ⟨_, _, str_of r1, by rw [str_of r2], hz.1, by rw [lim_eq]; exact hz.2, fun q hq => ?_⟩
      exact o3 q _ F2 _ (.newH X2.c hq) hq (X2.c.none hq) upd_same (.of_strs _)
    · exact o3.elim
  · exact o3.elim
end
end DL

set_option Elab.async false
set_option linter.all false
set_option maxRecDepth 100000
set_option maxHeartbeats 4000000
/-! values, tests that change an object -/
namespace DL
open PySem L2 PyProof.Rows
variable [LTab]
def xbind (r : SRes) (k : P → DEnv → SRes) : SRes := match r with
  | .retE d δ => k d δ
  | .exc n δ => .exc n δ
  | _ => .stuck
section
variable (K : PySem.W.Frag) (mg : Str → Option Value) (W : WX) (σ : L2.St) (B F : Hp)
def XcX (n : Str) (δ : DEnv) : Prop := ∀ C F' H', mg n = some (.ref C) → EnvOk K B F' H' σ δ → SExt B F F' → W (.ref C) none σ H'
structure Xb (r : SRes) (G : P → DEnv → Prop) : Prop where
  exc : ∀ n δ, r = .exc n δ → XcX K mg W σ B F n δ
  ok : ∀ d δ, r = .retE d δ → G d δ
  live : (∃ d δ, r = .retE d δ) ∨ ∃ n δ, r = .exc n δ
def OutTX (r : SRes) (Q : Bool → Hp → Prop) : Prop := match r with
  | .retE d δ => ∃ b, d = .bool b ∧ ∀ F' H', EnvOk K B F' H' σ δ → SExt B F F' → Q b H'
  | .exc n δ => XcX K mg W σ B F n δ
  | _ => False
end
section
variable (K : PySem.W.Frag) (mg : Str → Option Value) (W : WX)
def teTX (f : DEnv → SRes) : TT := fun σ H Q => ∃ B F δ, EnvOk K B F H σ δ ∧ OutTX K mg W σ B F (f δ) Q
end
section
variable {K : PySem.W.Frag} {mg : Str → Option Value} {W : WX} {σ : L2.St} {B F F1 H : Hp} {r : SRes} {k : P → DEnv → SRes} {δ : DEnv} {f : DEnv → SRes}
theorem OutTX.up {Q : Bool → Hp → Prop} (h : OutTX K mg W σ B F r Q) (e : SExt B F F1) : OutTX K mg W σ B F1 r Q := by
  cases r with
  | retE d δ' => obtain ⟨b, e1, h⟩ := h; exact ⟨b, e1, fun F' H' E x => h F' H' E (e.trans x)⟩
  | exc n δ' => exact fun C F' H' m E x => h C F' H' m E (e.trans x)
  | nx δ' => exact h.elim
  | brk δ' => exact h.elim
  | cont δ' => exact h.elim
  | ret d => exact h.elim
  | stuck => exact h.elim
  | retO c fs d => exact h.elim
theorem xb_X {Q : VK} (o : OutX K mg W σ B F (xbind r k) Q) : Xb K mg W σ B F r fun d δ => OutX K mg W σ B F (k d δ) Q := by
  cases r with
  | retE d δ' => exact ⟨nofun, (fun d2 δ2 e => by cases e; exact o), .inl ⟨d, δ', rfl⟩⟩
  | exc n δ' => exact ⟨(fun n2 δ2 e => by cases e; exact o), nofun, .inr ⟨n, δ', rfl⟩⟩
  | nx δ' => exact o.elim
  | brk δ' => exact o.elim
  | cont δ' => exact o.elim
  | ret d => exact o.elim
  | stuck => exact o.elim
  | retO c fs d => exact o.elim
theorem xb_S {D : Ends} (o : OutS K mg W D B F (xbind r k)) : Xb K mg W σ B F r fun d δ => OutS K mg W D B F (k d δ) := by
  cases r with
  | retE d δ' => exact ⟨nofun, (fun d2 δ2 e => by cases e; exact o), .inl ⟨d, δ', rfl⟩⟩
  | exc n δ' => exact ⟨(fun n2 δ2 e => by cases e; exact fun C F' H' m E x => o C σ F' H' m E x), nofun, .inr ⟨n, δ', rfl⟩⟩
  | nx δ' => exact o.elim
  | brk δ' => exact o.elim
  | cont δ' => exact o.elim
  | ret d => exact o.elim
  | stuck => exact o.elim
  | retO c fs d => exact o.elim
theorem xb_T {Q : Bool → Hp → Prop} (o : OutTX K mg W σ B F (xbind r k) Q) : Xb K mg W σ B F r fun d δ => OutTX K mg W σ B F (k d δ) Q := by
  cases r with
  | retE d δ' => exact ⟨nofun, (fun d2 δ2 e => by cases e; exact o), .inl ⟨d, δ', rfl⟩⟩
  | exc n δ' => exact ⟨(fun n2 δ2 e => by cases e; exact o), nofun, .inr ⟨n, δ', rfl⟩⟩
  | nx δ' => exact o.elim
  | brk δ' => exact o.elim
  | cont δ' => exact o.elim
  | ret d => exact o.elim
  | stuck => exact o.elim
  | retO c fs d => exact o.elim
theorem outTX_of {α : Type} {r : Res α} {k : α → SRes} {Q : Bool → Hp → Prop} (E : EnvOk K B F H σ δ) (o : OutTX K mg W σ B F (ofR δ r k) Q) : (∀ n, r = .exc n → XcW mg W σ F H n) ∧ (r = .stuck → False) ∧ ∀ d, r = .ok d → OutTX K mg W σ B F (k d) Q := by
  cases r with
  | ok d => exact ⟨nofun, nofun, fun d' e => by cases e; exact o⟩
  | exc n => exact ⟨fun n' e => by
      cases e
      exact fun C F' H' m X => o C F' H' m (E.up X) (E.sext X), nofun, nofun⟩
  | stuck => exact o.elim
theorem Xb.run {G : P → DEnv → Prop} {Q : VK} (E : EnvOk K B F H σ δ) (h : Xb K mg W σ B F (f δ) G) (k : ∀ d δ' v F' H', G d δ' → EnvOk K B F' H' σ δ' → SExt B F F' → Rp K F' v d → Q v H') : teX K mg W f σ H Q := by
  refine ⟨B, F, δ, E, ?_⟩
  rcases h.live with ⟨d, δ', e⟩ | ⟨n, δ', e⟩
  · have g := h.ok d δ' e
    rw [e]
    exact fun v F' H' E' x rv => k d δ' v F' H' g E' x rv
  · have g := h.exc n δ' e
    rw [e]
    exact g
theorem Xb.runT {G : P → DEnv → Prop} {Q : Bool → Hp → Prop} (E : EnvOk K B F H σ δ) (h : Xb K mg W σ B F (f δ) G) (k : ∀ d δ', G d δ' → ∃ b, d = .bool b ∧ ∀ F' H', EnvOk K B F' H' σ δ' → SExt B F F' → Q b H') : teTX K mg W f σ H Q := by
  refine ⟨B, F, δ, E, ?_⟩
  rcases h.live with ⟨d, δ', e⟩ | ⟨n, δ', e⟩
  · have g := h.ok d δ' e
    rw [e]
    exact k d δ' g
  · have g := h.exc n δ' e
    rw [e]
    exact g
theorem outT_truth {Q : Bool → Hp → Prop} {d : P} {g : Bool → SRes} (o : OutTX K mg W σ B F (ofR δ (truthOf d) g) Q) : ∃ b, d = .bool b ∧ OutTX K mg W σ B F (g b) Q := by
  cases d with
  | bool b => exact ⟨b, rfl, o⟩
  | _ => exact o.elim
theorem outS_truth {D : Ends} {d : P} {g : Bool → SRes} (o : OutS K mg W D B F (ofR δ (truthOf d) g)) : ∃ b, d = .bool b ∧ OutS K mg W D B F (g b) := by
  cases d with
  | bool b => exact ⟨b, rfl, o⟩
  | _ => exact o.elim
end
/-- what an operator makes of a value that changed an object -/
def eUn (op : P → Res P) (f : DEnv → SRes) : DEnv → SRes := fun δ => xbind (f δ) fun d δ' => ofR δ' (op d) fun y => .retE y δ'
def xT (f : DE Bool) : DEnv → SRes := fun δ => ofR δ (f δ) fun b => .retE (.bool b) δ
def xNe (f : DEnv → SRes) (g : DE P) : DEnv → SRes := fun δ => xbind (f δ) fun d δ' => ofR δ' ((g δ').bind fun e => (pNe d e).bind truthOf) fun b => .retE (.bool b) δ'
def xOr (f g : DEnv → SRes) : DEnv → SRes := fun δ => xbind (f δ) fun d δ' => ofR δ' (truthOf d) fun b => if b = true then .retE (.bool true) δ' else g δ'
def xAnd (f g : DEnv → SRes) : DEnv → SRes := fun δ => xbind (f δ) fun d δ' => ofR δ' (truthOf d) fun b => if b = true then g δ' else .retE (.bool false) δ'
def xNot (f : DEnv → SRes) : DEnv → SRes := fun δ => xbind (f δ) fun d δ' => ofR δ' (truthOf d) fun b => .retE (.bool (!b)) δ'
def sIfX (c g h : DEnv → SRes) : DEnv → SRes := fun δ => xbind (c δ) fun d δ' => ofR δ' (truthOf d) fun b => if b = true then g δ' else h δ'
def sExprX (f : DEnv → SRes) : DEnv → SRes := fun δ => xbind (f δ) fun _ δ' => .nx δ'
section
variable {X : Cx} {W : WX} {a b c e : Expr} {rest : List Expr} {s1 s2 : List Stmt} {f g h : DEnv → SRes} {fg : DE P} {ft : DE Bool} {p pos : Pos} {k : Nat}
theorem px_tupleX (hg : Gl X "tuple") (hm : X.mg "tuple" = none) (ha : PE X a (teX X.K X.mg W f)) (hs : starEach [a] X.env = (false, eval a X.env) :: starEach [] X.env := by rfl) : PE X (.Call (.Name "tuple" p) [a] [] pos) (teX X.K X.mg W (eUn pTuple f)) :=
  PEi (pe_callTy call_tuple_of hg hm PyProof.Rows.boot_tuple (pa_cons ha pa_nil hs) (he := hs)) fun σ H Q ⟨B, F, δ, E, o⟩ => by
  refine (xb_X o).run E fun d δ' v F' H' o1 E' x hv => ?_
  have o1 := o1.up x
  cases hd : pTuple d with
  | exc n => cases d <;> cases hd
  | stuck => rw [hd] at o1; exact o1.elim
  | ok y =>
    rw [hd] at o1
    have o1 : OutX X.K X.mg W σ B F' (.retE y δ') Q := o1
    have hb : RpB X.K F' H' v d := .inl hv
    cases d with
    | list ds =>
      cases hd
      obtain ⟨q, vs, rfl, h1, h2⟩ := hb.lst E'.c
      refine ⟨q, vs, rfl, .inl ⟨.of h1, fun t ht => ?_⟩⟩
      have X2 : Ext F' H' (upd F' t (.tup vs)) (upd H' t (.tup vs)) := .new E'.c ht
      exact o1 _ _ _ (E'.up X2) (E'.sext X2) (.tup (.of upd_same) (h2.up X2.f))
    | tuple ds =>
      cases hd
      obtain ⟨q, vs, rfl, h1, h2⟩ := hb.tup
      exact ⟨q, vs, rfl, .inr ⟨E'.c.sqT h1, o1 _ F' H' E' .refl (.tup h1 h2)⟩⟩
    | _ => cases hd
theorem xt_pure (hc : PT X c (teT X.K X.mg W ft)) : PT X c (teTX X.K X.mg W (xT ft)) := PTi hc fun σ H Q ⟨B, F, δ, E, o⟩ => by
  obtain ⟨x1, t1, k1⟩ := outTX_of E o
  refine teT.then E x1 t1 fun z F1 H1 e1 X1 => ?_
  obtain ⟨z2, e2, q⟩ := k1 z e1
  cases e2
  exact q F1 H1 (E.up X1) (E.sext X1)
theorem xt_val (ha : PE X a (teX X.K X.mg W f)) (he : ∀ whole, isTrue a X.env whole = (do let v ← whole; standAt a.pos; holding [v] (truthy v)) := by intro _; rfl) : PT X a (teTX X.K X.mg W f) := PTi (pt_val ha he) fun σ H Q ⟨B, F, δ, E, o⟩ => by
  refine ⟨B, F, δ, E, ?_⟩
  cases q : f δ with
  | retE d δ' =>
    rw [q] at o
    obtain ⟨z, rfl, o⟩ := o
    intro v F' H' E' x rv
    cases rv
    exact ⟨z, rfl, o F' H' E' x⟩
  | exc n δ' => rw [q] at o; exact o
  | nx δ' => rw [q] at o; exact o.elim
  | brk δ' => rw [q] at o; exact o.elim
  | cont δ' => rw [q] at o; exact o.elim
  | ret d => rw [q] at o; exact o.elim
  | stuck => rw [q] at o; exact o.elim
  | retO c fs d => rw [q] at o; exact o.elim
theorem xt_ne (hr : Room k X.A) (ha : PE X a (teX X.K X.mg W f)) (hb : PE X b (teB X.K X.mg W fg)) : PT X (.Compare a [.NotEq] [b] p) (teTX X.K X.mg W (xNe f fg)) :=
  PTi (pt_cmpR (op_neD hr.units) ha hb (nomark _)) fun σ H Q ⟨B, F, δ, E, o⟩ => by
  refine (xb_T o).run E fun d δ' v F' H' o1 E' x rv => ?_
  have o1 := o1.up x
  obtain ⟨x1, t1, k1⟩ := outTX_of E' o1
  cases hg1 : fg δ' with
  | exc n =>
    refine teB.then E' (fun n2 e => ?_) (fun e => by rw [hg1] at e; cases e) fun d2 u F1 H1 e1 => by rw [hg1] at e1; cases e1
    rw [hg1] at e
    cases e
    exact x1 n (by rw [hg1]; rfl)
  | stuck => exact (t1 (by rw [hg1]; rfl)).elim
  | ok d2 =>
    refine teB.then E' (fun n2 e => by rw [hg1] at e; cases e) (fun e => by rw [hg1] at e; cases e) fun d3 u F1 H1 e1 X1 r1 => ?_
    rw [hg1] at e1
    cases e1
    refine od_ne (W := W) σ F1 H1 v u d d2 _ X1.c ((show RpB X.K F' H' v d from .inl rv).up X1) r1 ?_
    cases r : pNe d d2 with
    | ok y =>
      intro v2 F2 H2 X2 r2
      cases t : truthOf y with
      | ok z =>
        obtain ⟨z2, e2, q⟩ := k1 z (by rw [hg1]; show (pNe d d2).bind truthOf = _; rw [r]; exact t)
        cases e2
        cases truth_ok t
        cases r2
        exact ⟨z, rfl, q F2 H2 (E'.up (X1.trans X2)) (E'.sext (X1.trans X2))⟩
      | exc n => exact (truth_exc t).elim
      | stuck => exact (t1 (by rw [hg1]; show (pNe d d2).bind truthOf = _; rw [r]; exact t)).elim
    | exc n => exact (x1 n (by rw [hg1]; show (pNe d d2).bind truthOf = _; rw [r]; rfl)).up X1
    | stuck => exact (t1 (by rw [hg1]; show (pNe d d2).bind truthOf = _; rw [r]; rfl)).elim
theorem xt_or (ha : PT X a (teTX X.K X.mg W f)) (hb : PW X (.BoolOp .Or (b :: rest) pos) (teTX X.K X.mg W g)) : PW X (.BoolOp .Or (a :: b :: rest) pos) (teTX X.K X.mg W (xOr f g)) := PWi (pw_or ha hb) fun σ H Q ⟨B, F, δ, E, o⟩ => by
  refine (xb_T o).runT E fun d δ' o1 => ?_
  obtain ⟨z, e, o1⟩ := outT_truth o1
  refine ⟨z, e, fun F' H' E' x => ?_⟩
  have o1 := o1.up x
  cases z with
  | true =>
    obtain ⟨z2, e2, q⟩ := (show OutTX X.K X.mg W σ B F' (.retE (.bool true) δ') Q from o1)
    cases e2
    exact q F' H' E' .refl
  | false => exact ⟨B, F', δ', E', o1⟩
theorem xt_and (ha : PT X a (teTX X.K X.mg W f)) (hb : PW X (.BoolOp .And (b :: rest) pos) (teTX X.K X.mg W g)) : PW X (.BoolOp .And (a :: b :: rest) pos) (teTX X.K X.mg W (xAnd f g)) := PWi (pw_and ha hb) fun σ H Q ⟨B, F, δ, E, o⟩ => by
  refine (xb_T o).runT E fun d δ' o1 => ?_
  obtain ⟨z, e, o1⟩ := outT_truth o1
  refine ⟨z, e, fun F' H' E' x => ?_⟩
  have o1 := o1.up x
  cases z with
  | false =>
    obtain ⟨z2, e2, q⟩ := (show OutTX X.K X.mg W σ B F' (.retE (.bool false) δ') Q from o1)
    cases e2
    exact q F' H' E' .refl
  | true => exact ⟨B, F', δ', E', o1⟩
theorem xt_not (ha : PT X a (teTX X.K X.mg W f)) : PT X (.UnaryOp .Not a pos) (teTX X.K X.mg W (xNot f)) := PTi (pt_not ha) fun σ H Q ⟨B, F, δ, E, o⟩ => by
  refine (xb_T o).runT E fun d δ' o1 => ?_
  obtain ⟨z, e, o1⟩ := outT_truth o1
  refine ⟨z, e, fun F' H' E' x => ?_⟩
  obtain ⟨z2, e2, q⟩ := (show OutTX X.K X.mg W σ B F (.retE (.bool (!z)) δ') Q from o1)
  cases e2
  exact q F' H' E' x
theorem sx_ifX (hc : PT X c (teTX X.K X.mg W f)) (h1 : PSs X s1 (tsD X.K X.mg W g)) (h2 : PSs X s2 (tsD X.K X.mg W h)) : PS X (.If c s1 s2 pos) (tsD X.K X.mg W (sIfX f g h)) := PSi (ps_if hc h1 h2) fun D σ H ⟨B, F, δ, E, o⟩ => by
  refine (xb_S o).runT E fun d δ' o1 => ?_
  obtain ⟨z, e, o1⟩ := outS_truth o1
  refine ⟨z, e, fun F' H' E' x => ?_⟩
  have o1 := o1.up x
  cases z with
  | true => exact ⟨B, F', δ', E', o1⟩
  | false => exact ⟨B, F', δ', E', o1⟩
theorem sx_exprX (he : PE X e (teX X.K X.mg W f)) (hs : swapsWith e none pos.line X.env = pure false := by rfl) : PS X (.Expr e pos) (tsD X.K X.mg W (sExprX f)) := PSi (ps_expr he hs) fun D σ H ⟨B, F, δ, E, o⟩ => by
  refine (xb_S o).run E fun d δ' v F' H' o1 E' x rv => ?_
  exact o1 σ F' H' E' x
end
end DL

set_option Elab.async false
set_option linter.all false
set_option maxRecDepth 100000
set_option maxHeartbeats 4000000
/-! methods that hand back a new object; C(..).m(..); a lambda that changes an object -/
namespace DL
open PySem PySem.Spec PyProof.Rows L2 LamX
variable [LTab]
/-- a method that changes nothing and hands back an object of its own -/
def spRO (K : PySem.W.Frag) (n : Nat) (c : Str) (G : List (Str × P) → List P → ORes) : Sp := fun vs H Q _ => ∃ a us, vs = .ref a :: us ∧ us.length = n ∧ ∃ F fs ds, Ex F H ∧ TabsIn H ∧ ObjE K H F H (.fix none) c fs a ∧ RpAll K F us ds ∧ match G fs ds with
  | .ok c' fs' none => ∀ p F' H', Ext F H F' H' → ObjE K H F' H' (.free none) c' fs' p → Q (.ref p) H'
  | _ => False
def methRO (n m : Nat) (c : Str) (g : DEnv → SRes) (fs : List (Str × P)) (ds : List P) : ORes := if ds.length = n then (match g (.obj (.fix none) c fs :: (ds.map .val ++ List.replicate m .un)) with
  | .retO c' fs' none => .ok c' fs' none
  | _ => .stuck) else .stuck
section
variable {P₀ : Program} {w : World} {K : PySem.W.Frag} {mg : Str → Option Value} {base : Heap}
theorem okRO {x qual : Str} {st : Stmt} {f : Addr} {fd : FuncData} {N ps : List Str} {k n m : Nat} {c : Str} {g : DEnv → SRes} (Fn : Fun K x qual st f fd) (S : FnScope N ps (defScope st)) (hn : ps.length = n + 1) (hm : N.length = n + 1 + m)
    (hbody : ∀ (cdv : Value) (A : Around) (outer : List Env) (s : Shared) (H : Hp) (E : XK), Room k (A.deeper (envOfC qual (defScope st) s.heap.objs.size f cdv)) →
      PSs (cxOf (L2.CX P₀ w) P₀ w K mg base N qual (defScope st) f cdv A outer s H E) (defBody st) (tsD K mg (fun cls d _ H => E cls d H) g)) :
    FnOk P₀ w K mg base (L2.CX P₀ w) (k + 1) f fd ps (spRO K n c (methRO n m c g)) := by
  refine Fn.okX S (fun vs H Q E ⟨a, us, e, hl, _⟩ => by rw [e, List.length_cons, hl, hn]) (fun cdv A outer s H vs Q E hr h => ⟨_, hbody cdv A outer s H E hr, ?_⟩)
  obtain ⟨a, us, rfl, hl, F, fs, ds, hc, tb, hO, r, o⟩ := h
  have hd : ds.length = n := by rw [← r.len]; exact hl
  have e0 := env_startM (N := N) hc (.refl H) tb hO r (by omega)
  have em : N.length - 1 - ds.length = m := by omega
  rw [em] at e0
  refine ⟨H, F, _, e0, ?_⟩
  unfold methRO at o
  rw [if_pos hd] at o
  cases q : g (.obj (.fix none) c fs :: (ds.map .val ++ List.replicate m .un)) with
  | retO c2 fs2 d2 =>
    rw [q] at o
    cases d2 with
    | none =>
      intro v p F' H' c' b' x hO' rt
      rw [show v = .ref p from rt]
      exact o p F' H' ⟨x.f, b', c', x.n⟩ hO'
    | some d => exact o.elim
  | nx δ' => rw [q] at o; exact o.elim
  | ret d => rw [q] at o; exact o.elim
  | exc nm δ' => rw [q] at o; exact o.elim
  | brk δ' => rw [q] at o; exact o.elim
  | cont δ' => rw [q] at o; exact o.elim
  | stuck => rw [q] at o; exact o.elim
  | retE d2 δ2 => rw [q] at o; exact o.elim
end
/-- return o -/
def sRetOo (i : Nat) : DEnv → SRes := fun δ => match δ[i]? with
  | some (.obj (.free _) c fs) => .retO c fs none
  | _ => .stuck
/-- y = x.m(), a new object -/
def sMethO (j i : Nat) (c : Str) (G : List (Str × P) → List P → ORes) : DEnv → SRes := fun δ => match δ[i]? with
  | some (.obj _ c' fs) => if c' = c then (match G fs [] with
    | .ok c2 fs2 none => .nx (δ.set j (.obj (.free none) c2 fs2))
    | _ => .stuck) else .stuck
  | _ => .stuck
/-- C(..).m(..) -/
def dMakeM (n1 : Nat) (G1 : List (Str × P) → List P → MRes) (f1 : DE (List P)) (n2 : Nat) (G2 : List (Str × P) → List P → MRes) (f2 : DE (List P)) : DE P := fun δ => (f1 δ).bind fun ds => if ds.length = n1 then (match G1 [] ds with
  | .ok .none fs => if noDs fs = true then (f2 δ).bind fun es => if es.length = n2 then (match G2 fs es with
    | .ok d _ => .ok d
    | _ => .stuck) else .stuck else .stuck
  | _ => .stuck) else .stuck
section
variable {X : Cx} {W : WX} {x y m c : Str} {i j k jm jm1 jm2 n n1 n2 : Nat} {p apos pos ypos xpos : Pos} {e e1 e2 : Expr} {es es1 es2 : List Expr} {fl f1 f2 : DE (List P)}
theorem sx_retOo (hN : X.N[i]? = some x) (hv : Vis X.env.scope x) (hd : (x == ("__debug__" : Str)) = false := by decide) (hcd : (x == ("__classdict__" : Str)) = false := by decide) :
    PS X (.Return (some (.Name x xpos)) pos) (tsD X.K X.mg W (sRetOo i)) := PSi (ps_ret (pe_var hN hv hd hcd)) fun D σ H ⟨B, F, δ, E, o⟩ => by
  unfold sRetOo at o
  split at o
  · rename_i q c fs h
    obtain ⟨a, h1, hO⟩ := E.obj i _ _ _ h
    exact ⟨.ref a, h1, o (.ref a) a F H E.c E.b .refl (hO.any (fun _ z => z) fun _ z => nomatch z) rfl⟩
  · exact o.elim
theorem sx_methO {pl : Sem Bool} {G : List (Str × P) → List P → ORes} (M : MethOk X.prog X.w X.K X.mg X.base c m jm (spRO X.K 0 c G)) (hr : Room k X.A) (hNd : X.N.Nodup) (hN : X.N[i]? = some x) (hv : Vis X.env.scope x) (hj : X.N[j]? = some y) (hy : Loc X.env.scope y) (hjk : jm ≤ k := by decide) (hma : m ∉ aNames := by decide) (hd : (x == ("__debug__" : Str)) = false := by decide) (hcd : (x == ("__classdict__" : Str)) = false := by decide)
    (ht : eval (.Call (.Attribute (.Name x xpos) m apos) [] [] p) X.env = (do
      let ov ← eval (.Name x xpos) X.env
      standAt apos.atName
      let (f, first) ← holding [ov] (getMethod ov m pl)
      callWith p f first (backTo p (starEach [] X.env)) (backToKw p (keywordEach [] X.env))) := by rfl)
    (hs : swapsWith (.Call (.Attribute (.Name x xpos) m apos) [] [] p) (some (.Name y ypos)) pos.line X.env = pure false := by rfl) (hf : X.fn y = true ∨ X.env.scope.names.lookup y = some .local := by first | exact .inl rfl | exact .inr rfl | assumption) :
    PS X (.Assign [.Name y ypos] (.Call (.Attribute (.Name x xpos) m apos) [] [] p) pos) (tsD X.K X.mg W (sMethO j i c G)) := by
  obtain ⟨C, g, fd, ps, m1, m2, m3, m4, m5⟩ := M.ex
  refine PSi (ps_set hNd hj hy (pe_meth0 (pl := pl) (pe_var hN hv hd hcd) m2 m3 m5 (hr.mono hjk) m4 .nil passNo ht) hs hf) fun D σ H ⟨B, F, δ, E, o⟩ => ?_
  unfold sMethO at o
  split at o
  · rename_i lk c' fs h
    split at o
    · rename_i hc
      subst hc
      obtain ⟨a, h1, hO⟩ := E.obj i _ _ _ h
      obtain ⟨C', dx, gs, h2, h3, h4, h5, h6, h7, h8⟩ := hO.ex
      rw [m1] at h2
      cases h2
      refine ⟨.ref a, h1, a, dx, gs, rfl, h3, ms_lookup h8 hma, ?_⟩
      refine ⟨a, [], rfl, rfl, F, fs, [], E.c, E.tbsH, hO.fixH E.b, .nil, ?_⟩
      split at o
      · rename_i c2 fs2 hG
        intro q F' H' X2 hO2
        have hp : H q = none := by
          obtain ⟨C3, dx3, gs3, _, _, _, h53, _⟩ := hO2.ex
          exact h53.1
        exact o _ F' H' ((E.up X2).setObj j (hO2.any (fun b z => E.b.none z) fun _ z => nomatch z) (E.newO hp)) (E.sext X2)
      · exact o.elim
    · exact o.elim
  · exact o.elim
theorem px_makeM {pl : Sem Bool} {G1 G2 : List (Str × P) → List P → MRes} (M1 : MakeOk X.prog X.w X.K X.mg X.base c jm1 (spM X.K X.mg n1 c G1)) (M2 : MethOk X.prog X.w X.K X.mg X.base c m jm2 (spM X.K X.mg n2 c G2)) (hr : Room k X.A) (tk : Takes X W) (hg : Gl X c) (ha : PA X (e1 :: es1) (taD X.K X.mg W f1)) (hb : PA X (e2 :: es2) (taD X.K X.mg W f2)) (hjk1 : jm1 + 1 ≤ k := by decide) (hjk2 : jm2 ≤ k := by decide) (hma : m ∉ aNames := by decide) (hdb : (c == ("__debug__" : Str)) = false := by decide)
    (he1 : starEach (e1 :: es1) X.env = (false, eval e1 X.env) :: starEach es1 X.env := by rfl) (hpl1 : (backTo p (starEach es1 X.env)).any (·.1) = false := by rfl)
    (he2 : starEach (e2 :: es2) X.env = (false, eval e2 X.env) :: starEach es2 X.env := by rfl) (hpl2 : (backTo pos (starEach es2 X.env)).any (·.1) = false := by rfl)
    (ht : eval (.Call (.Attribute (.Call (.Name c xpos) (e1 :: es1) [] p) m apos) (e2 :: es2) [] pos) X.env = (do
      let ov ← eval (.Call (.Name c xpos) (e1 :: es1) [] p) X.env
      standAt apos.atName
      let (f, first) ← holding [ov] (getMethod ov m pl)
      callWith pos f first (backTo pos (starEach (e2 :: es2) X.env)) (backToKw pos (keywordEach [] X.env))) := by rfl) :
    PE X (.Call (.Attribute (.Call (.Name c xpos) (e1 :: es1) [] p) m apos) (e2 :: es2) [] pos) (teD X.K X.mg W (dMakeM n1 G1 f1 n2 G2 f2)) := by
  obtain ⟨C, g, fd, ps, m1, m1', m2, m3, m4, m5⟩ := M1.ex
  obtain ⟨C2, g2, fd2, ps2, q1, q2, q3, q4, q5⟩ := M2.ex
  rw [m1] at q1
  cases q1
  refine PEi (pe_methS (pl := pl) (pe_make m3 m5 (hr.mono hjk1) hg m1' m4 .nil passNo ha hdb he1 hpl1) q2 q3 q5 (hr.mono hjk2) q4 (fun σ => passAt tk σ) hb he2 hpl2 ht) fun σ H Q ⟨B, F, δ, E, o⟩ => ?_
  obtain ⟨x1, s1, k1⟩ := outE_bind o
  refine taD.then E x1 s1 fun ds vs F1 H1 ee1 X1 r1 => ?_
  have E1 := E.up X1
  have o1 := k1 ds ee1
  split at o1
  case isFalse => exact o1.elim
  rename_i hlen
  intro a dx ha hdx hne
  have up1 : Ex H1 (upd (upd H1 dx (.own a)) a (.ins C dx [])) := (Ex.new hdx).trans (.new (by rw [upd_ne hne.symm]; exact ha))
  refine ⟨a, vs ++ [], rfl, by rw [List.append_nil, r1.len, hlen], H1, F1, [], ds, X1.c.trans up1, up1, E1.tbsH, ⟨⟨C, dx, [], m1, upd_same, X1.c.none ha, ⟨ha, fun b z => Option.some.inj z⟩, .nil, m2, fun _ _ z => nomatch z⟩⟩, by rw [List.append_nil]; exact r1, ?_⟩
  split at o1
  case h_2 => exact o1.elim
  rename_i fs hG1
  rw [hG1]
  intro v F' H' c' b' x' hO' rv
  cases rv
  refine ⟨rfl, ?_⟩
  have X2 : Ext F1 H1 F' H' := ⟨x'.f, b', c', x'.n⟩
  have E2 := E1.up X2
  split at o1
  case isFalse => exact o1.elim
  rename_i hn
  obtain ⟨C3, dx3, gs3, g2', g3', g4', g5', g6', g7', g8'⟩ := hO'.ex
  rw [m1] at g2'
  cases g2'
  refine ⟨a, dx3, gs3, rfl, g3', ms_lookup g8' hma, ?_⟩
  obtain ⟨y1, t1, k2⟩ := outE_bind o1
  refine taD.then E2 (fun n h => (y1 n h).up (X1.trans X2)) t1 fun ds2 vs2 F3 H3 ee2 X3 r3 => ?_
  have o3 := k2 ds2 ee2
  split at o3
  case isFalse => exact o3.elim
  rename_i hlen2
  have hO3 : ObjE X.K H1 F3 H3 (.free (some a)) c fs a := hO'.chg b' X3.f (fun b o z1 z2 _ => X3.n b z1 (by rw [z2]; nofun)) fun b o z1 z2 => X3.h.k _ _ z1 (noTb z2)
  obtain ⟨C4, dx4, gs4, w2, w3, w4, w5, w6, w7, w8⟩ := hO3.ex
  have bB : Ex H (offB H3 a) := cut_in' ((X1.h.trans b').trans X3.h) (X1.h.none ha) w3
  refine ⟨a, vs2, rfl, by rw [r3.len, hlen2], offB H3 a, F3, fs, ds2, X3.c, off_ex, (E1.tbsH.up (cut_in' (b'.trans X3.h) ha w3)), ⟨⟨C4, dx4, gs4, w2, w3, w4, ⟨off_a, fun b z => Option.some.inj z⟩, fld_off hn (fun _ z => z) w6, w7, w8⟩⟩, r3, ?_⟩
  split at o3
  case h_2 => exact o3.elim
  rename_i d fs2 hG2
  rw [hG2]
  intro v F4 H4 c4 b4 x4 hO4 rv
  exact o3 v F4 H4 ⟨(X1.trans (X2.trans X3)).f.trans x4.f, bB.trans b4, c4, fun q z1 z2 => x4.n q ((X1.trans (X2.trans X3)).n q z1 z2) fun z3 => z2 (bB.none z3)⟩ rv
open Classical in
/-- a refusal is told by a def that got a lambda and a number; the lambda may change an object -/
noncomputable def eRefused (known : List Str) (c : Str) (gs : Addr → Str → DEnv → SRes) (kd : Int) (fb : DEnv → SRes) : DEnv → SRes := fun δ => match fb δ with
  | .retE _ δ' => .retE (.bool false) δ'
  | .exc n δ' => if h : n ∈ known ∧ isaD n c = true ∧ ∃ b, ∀ a', gs a' n (dTk kd a') = .ret (.bool b) then .retE (.bool h.2.2.choose) δ' else .stuck
  | _ => .stuck
theorem px_refusedX {x a kn y y2 c : Str} {cM P : Addr} {st : Stmt} {Ng : List Str} {k j ji : Nat} {kd : Int} {known : List Str} {gs : Addr → Str → DEnv → SRes} {fb : DEnv → SRes} {params : Arguments} {lbody : Expr} {scope : Scope} {b₀ : Stmt} {suite : List Stmt} {p lpos ipos pos p1 p2 p3 p5 p6 p7 p8 np : Pos}
    (hg : Gl X x) (C : Taker X.K X.mg x a kn st) (Sg : FnScope Ng [a, kn] (defScope st))
    (hbd : defBody st = [.Try [.Expr (.Call (.Name a p1) [] [] p2) p3, .Return (some (.Constant (.bool false) j p5)) p6] [.ExceptHandler (some (.Name c np)) (some y) (b₀ :: suite) p7] [] [] p8])
    (hNg : Ng = [a, kn, y, y2]) (hnd : Ng.Nodup) (hva : Vis (defScope st) a) (hvy : (defScope st).names.lookup y = some .local) (hvc : (defScope st).names.lookup c = some .globalImplicit) (hdc : (c == ("__debug__" : Str)) = false) (hC : CatOk X.K X.mg c known)
    (hsw : ∀ Z : Cx, swapsWith (.Call (.Name a p1) [] [] p2) none p3.line Z.env = pure false)
    (hsu : ∀ (g : Addr) (cdv : Value) (A : Around) (outer : List Env) (s : Shared) (H : Hp), Room (k + 1) (A.deeper (envOfC x (defScope st) s.heap.objs.size g cdv)) → ∀ (n : Str) (C e : Addr) (oe : Obj) (pn : List (Addr × Obj)), n ∈ known → X.mg n = some (.ref C) → Zc (.ref C) none oe → (∃ vs, oe.data = .fields vs) →
      PSs ((cxOf (L2.CX X.prog X.w) X.prog X.w X.K X.mg X.base Ng x (defScope st) g cdv A outer s H (fun _ _ _ => False)).suite e ((e, oe) :: pn)) (b₀ :: suite) (tsD X.K X.mg (fun _ _ _ _ => False) (gs e n)))
    (TB : TabB X.base X.mg cM P) (hcode : X.env.code = .ref cM) (hmT : (P, X.env.qual ++ "<lambda>") ∈ LTab.tabs) (hu : ∀ p ∈ LTab.tabs, p.1 = P → p.2 = X.env.qual ++ "<lambda>") (hr : Room (k + 2) X.A) (L : LamS X.env.scope scope) (hdef : defaultsOf params X.env = ([], []))
    (hbind : ∀ (q : Str) (cl : List (Str × Addr)) (pm cv ctv : Value), bindArgs (PySem.W.kla_fn "<lambda>" q params lbody scope cl pm cv ctv) ⟨[], []⟩ = pure [])
    (hbody : ∀ (A : Around) (outer : List Env) (s : Shared) (H : Hp) (E : XK) (f c' : Addr), Room k (A.deeper (lamEnv X scope s.heap.objs.size f c')) → PE (lamCx X A outer s H E scope f c') lbody (teX X.K X.mg (fun cls d _ H' => E cls d H') fb))
    (hdb : (x == ("__debug__" : Str)) = false := by decide) (hd : (a == ("__debug__" : Str)) = false := by decide) (hcd : (a == ("__classdict__" : Str)) = false := by decide) :
    PE X (.Call (.Name x p) [.Lambda params lbody scope lpos, .Constant (.int kd) ji ipos] [] pos) (teX X.K X.mg W (eRefused known c gs kd fb)) := by
  obtain ⟨g, fd, hm, F, hb⟩ := C.ex
  obtain ⟨oc, od, kV, doc, pm, an, cdv, ct, osl, rfl, lk, hcg⟩ := F.ex
  have hk := F.kp
  rw [hbd] at lk hb
  refine ⟨fun pins s σ H Q I ⟨B, F0, δ, E0, o⟩ => ?_⟩
  refine wpAny_Call_Name_kw (ld_glob I hg hm (PySem.W.callWith_K (h₀ := X.base) I.ok.mod.kin hk ?_ (by rfl) (by rfl)) hdb)
  show wpAny _ _ (spliced ((false, eval (.Lambda params lbody scope lpos) X.env) :: (false, eval (.Constant (.int kd) ji ipos) X.env) :: backTo pos (starEach [] X.env))) _ _ s
  refine Calls.spliced_cons (lam_make3 I TB hcode hu (E0.tbsH _ hmT) hdef (L.has I.ok) fun f c' pm' ctv H1 s1 I1 eX hf hfn hfr hco => Calls.spliced_cons (wpAny_Constant_int ?_))
  have I2 := I1.tok (s1.toks + 1)
  refine Calls.spliced_nil ⟨I2.kIn, ?_⟩
  have e1 : Ext F0 H F0 H1 := ⟨.refl F0, eX, E0.c.trans eX, fun p h _ => h⟩
  have E1 := E0.up e1
  have o := o.up (E0.sext e1)
  refine wpAny_call (codeAny_mono (show codeAny (model X.prog X.w) X.A (.call (.ref g) ⟨[.ref f, _], []⟩) (CR (L2.CX X.prog X.w) X.stack X.prog X.w H1 { s1 with toks := s1.toks + 1 } Q (fun _ _ _ => False)) { s1 with toks := s1.toks + 1 } from ?_) fun r s2 hq => ?_)
  · refine run_ofS (N := Ng) (ps := [a, kn]) (us := [.ref f, _]) (vs := [.ref f, .int kd]) lk hcg Sg hr I2.env0 (hb _ [.ref f, _] I2.kIn rfl) (.cons rfl (.cons ⟨_, rfl⟩ .nil)) rfl fun hr' => ?_
    refine taker_body (Z := cxOf (L2.CX X.prog X.w) X.prog X.w X.K X.mg X.base Ng x (defScope st) g cdv X.A X.stack { s1 with toks := s1.toks + 1 } H1 (fun _ _ _ => False)) (known := known) (gs := gs) (tb := fun E H' Q' => teX X.K X.mg (fun cls d _ H' => E cls d H') fb σ H' Q') rfl rfl hnd (by rw [show (cxOf _ _ _ _ _ _ Ng _ _ _ _ _ _ _ _ _).N = Ng from rfl, hNg]; rfl) (by rw [show (cxOf _ _ _ _ _ _ Ng _ _ _ _ _ _ _ _ _).N = Ng from rfl, hNg]; rfl) hvy hC hvc LamX.takes0 hdc (fun pn xe => hsw _) (fun W' pn xe tk => ?_) (fun n C a' oe pn h1 h2 h3 h4 => hsu _ _ _ _ _ _ hr' n C a' oe pn h1 h2 h3 h4) hco ?_
    · exact pe_actS (i := 0) (tb := fun E => teX X.K X.mg (fun cls d _ H' => E cls d H') fb) I2 L hf hfn hfr (hbind _ _ _ _ _) tk hr' (fun E A outer s H hr2 => hbody A outer s H E f c' hr2) (by rw [hNg]; rfl) hva hd hcd
    · refine ⟨B, F0, δ, E1, ?_⟩
      unfold eRefused at o
      cases r : fb δ with
      | retE d δ' =>
        rw [r] at o
        exact fun v F' H' E' x' _ => o (.bl false) F' H' E' x' (.bl false)
      | exc n δ' =>
        rw [r] at o
        dsimp only at o
        split at o
        · rename_i hh
          intro C F' H' m E' x'
          refine ⟨rfl, E'.tbsH, n, C, _, hh.1, m, rfl, hh.2.1, hh.2.2.choose_spec, fun H'' x2 => ?_⟩
          exact o (.bl _) F' H'' (E'.up ⟨.refl F', x2, E'.c.trans x2, fun p h1 _ => h1⟩) x' (.bl _)
        · exact o.elim
      | nx δ' => rw [r] at o; exact o.elim
      | brk δ' => rw [r] at o; exact o.elim
      | cont δ' => rw [r] at o; exact o.elim
      | ret d => rw [r] at o; exact o.elim
      | stuck => rw [r] at o; exact o.elim
      | retO c fs d => rw [r] at o; exact o.elim
  · cases r with
    | error e => exact (noXs hq).elim
    | ok fl =>
      cases fl with
      | ret u => exact I2.after hq
      | next => exact False.elim hq
      | brk => exact False.elim hq
      | cont => exact False.elim hq
end
end DL

set_option Elab.async false
set_option linter.all false
set_option maxRecDepth 100000
set_option maxHeartbeats 4000000
/-! a lambda with one parameter, called in the frame of another def, however deep -/
namespace DL
open PySem PySem.Spec PyProof.Rows L2 LamX
variable [LTab]
/-- what a table tells it tells when it has grown, too -/
theorem among_more {pos : Pos} {cv : Value} (l m : List Value) (h : TriplesOk l) (hc : codeAmong pos l = some cv) : codeAmong pos (l ++ m) = some cv := by
  fun_induction TriplesOk l with
  | case1 => simp [codeAmong] at hc
  | case2 a t b u x rest ih =>
    simp only [List.cons_append, codeAmong] at hc ⊢
    split at hc
    · rename_i q
      rw [if_pos q]
      exact hc
    · rename_i q
      rw [if_neg q]
      exact ih h hc
  | case3 l h1 h2 => exact h.elim
theorem unChain {fs fs2 : List Addr} {H H1 H2 : Hp} {h h1 h2 : Heap} (a : Un fs [] H H1 h h1) (b : Un fs2 [] H1 H2 h1 h2) (hb : ∀ c ∈ fs2, c ∈ fs ∨ h.get? c = none) : Un fs [] H H2 h h2 where
  keep := fun c ob q n hc hx => b.keep c ob (a.keep c ob q n hc hx) (a.free c ob q n hx) (fun z => (hb c z).elim hc (fun e => by rw [q] at e; cases e)) hx
  slot := fun c ob q n hc hx => by
    obtain ⟨sl, e1⟩ := a.slot c ob q n hc hx
    obtain ⟨sl', e2⟩ := b.any e1 (a.free c ob q n hx) hx
    exact ⟨sl', e2⟩
  free := fun c ob q n hx => by
    obtain ⟨o', e1⟩ := a.there c ob q hx
    exact b.free c o' e1 (a.free c ob q n hx) hx
  there := fun c ob q hx => by
    obtain ⟨o', e1⟩ := a.there c ob q hx
    exact b.there c o' e1 hx
  tups := fun c xs q => b.tups c xs (a.tups c xs q)
  frzs := fun c ob xs q => b.frzs c ob xs (a.frzs c ob xs q)
  tbls := fun c ps q => by
    obtain ⟨m1, e1⟩ := a.tbls c ps q
    obtain ⟨m2, e2⟩ := b.tbls c _ e1
    exact ⟨m1 ++ m2, by rw [e2, Array.append_assoc]⟩
/-- the parameter, captured names, globals -/
structure LamS1 (sc scope : Scope) (a : Str) : Prop where
  kind : scope.kind = .function
  co : scope.isCoroutine = false
  gen : scope.isGenerator = false
  own : ∀ y ∈ scope.names, (y.2 = .local → y.1 = a) ∧ y.2 ≠ .cell
  par : scope.names.lookup a = some .local
  free : ∀ y ∈ scope.names, y.2 = .free → sc.names.lookup y.1 = some .cell ∨ sc.names.lookup y.1 = some .free
def lamS1B (sc scope : Scope) (a : Str) : Bool :=
  decide (scope.kind = .function) && !scope.isCoroutine && !scope.isGenerator && decide (scope.names.lookup a = some .local) && scope.names.all fun y => (!decide (y.2 = .local) || decide (y.1 = a)) && !decide (y.2 = .cell) && (!decide (y.2 = .free) || decide (sc.names.lookup y.1 = some .cell) || decide (sc.names.lookup y.1 = some .free))
theorem lamS1_by {sc scope : Scope} {a : Str} (h : lamS1B sc scope a = true) : LamS1 sc scope a := by
  unfold lamS1B at h
  simp only [Bool.and_eq_true, Bool.or_eq_true, Bool.not_eq_true', decide_eq_true_eq, decide_eq_false_iff_not, List.all_eq_true] at h
  obtain ⟨⟨⟨⟨h1, h2⟩, h3⟩, h4⟩, h5⟩ := h
  refine ⟨h1, h2, h3, fun y hy => ⟨fun e => ?_, (h5 y hy).1.2⟩, h4, fun y hy e => ?_⟩
  · rcases (h5 y hy).1.1 with z | z
    · exact absurd e z
    · exact z
  · rcases (h5 y hy).2 with (z | z) | z
    · exact absurd e z
    · exact .inl z
    · exact .inr z
theorem LamS1.has {X : Cx} {scope : Scope} {a : Str} (L : LamS1 X.env.scope scope a) (ok : X.Ok) : ∀ y ∈ scope.names, y.2 = .free → ∃ c, X.env.cells.lookup y.1 = some c := fun y hy e => by
  rcases L.free y hy e with k | k
  · exact ok.has _ (.inl k)
  · exact ok.has _ (.inr k)
/-- its context: the maker's names, and the parameter -/
def lamCx1 (X : Cx) (A : Around) (outer : List Env) (s : Shared) (H : Hp) (E : XK) (scope : Scope) (f c' : Addr) (a : Str) : Cx := { lamCx X A outer s H E scope f c' with N := X.N ++ [a] }
section
variable {X : Cx} {pins : List (Addr × Obj)} {σ : L2.St} {H HZ : Hp} {s s1 : Shared}
theorem lam_start1 {A : Around} {outer : List Env} {E : XK} {scope : Scope} {f c' : Addr} {h₁ : Heap} {tk : Nat} {a : Str} {v : V} {u : Value} (I : Inv X pins σ H s) (L : LamS1 X.env.scope scope a) (ha : a ∉ X.N) (e0 : Env0 X.prog X.w X.K X.mg X.base A outer s1 HZ) (hd : A.handled = none)
    (un : Un (frs X.stack) [] H HZ s.heap s1.heap) (hns : h₁.Ns s1.heap.objs.size fun y => ([(a, u)] : List (Str × Value)).reverse.lookup y) (rv : RelV v u) (kp : ∀ b o, s1.heap.get? b = some o → h₁.get? b = some o) :
    Inv (lamCx1 X A outer s1 HZ E scope f c' a) [] (σ ++ [some v]) HZ { s1 with heap := h₁, toks := tk } := by
  have hfree := L.has I.ok
  have cm : ∀ {y c}, (cloFrom X.env.cells scope.names []).lookup y = some c → X.env.cells.lookup y = some c := fun {y c} e => by
    rcases cloFrom_mem (PySem.mem_of_lookup e) with hm | ⟨h1, h2⟩
    · cases hm
    · obtain ⟨c1, hc⟩ := hfree _ h1 rfl
      have hc : X.env.cells.lookup y = some c1 := hc
      have e2 : c = c1 := by
        rw [h2, hc] <;> rfl
      rw [e2]
      exact hc
  have look : ∀ {y}, scope.names.lookup y = some .free → ∃ c, (cloFrom X.env.cells scope.names []).lookup y = some c := fun {y} hl => by
    have hy : (y, NameKind.free) ∈ scope.names := PySem.mem_of_lookup hl
    exact mem_lookup (cloFrom_has (cells := X.env.cells) (acc := []) hy)
  have cellK : ∀ {c : Addr} {v : Option Value}, H c = none → s.heap.IsCell c v → h₁.IsCell c v := fun {c v} n ⟨o, ho, hd⟩ => by
    obtain ⟨sl, q⟩ := un.any ho n (by simp)
    exact ⟨_, kp _ _ q, hd⟩
  have noA : ∀ b : Addr, b ∉ (lamCx1 X A outer s1 HZ E scope f c' a).ex := fun b z => absurd (show b ∈ ([] : List Addr) from z) (by simp)
  refine ⟨⟨e0.mod, L.kind, rfl, rfl, Nat.le_refl _, fun y z c e1 e2 => I.ok.inj y z c (cm e1) (cm e2), fun y hy => ?_, fun y c z _ => ?_, fun _ => hd, Around.frames_deeper e0.frames, .inr ⟨rfl, rfl⟩, fun b z => absurd z (noA b), e0.bs, e0.bsz, fun b _ _ => noA b,
      fun b z => absurd z (noA b), e0.funs, e0.frf⟩,
    rfl, e0.bare, Un.kept kp, ⟨_, hns, fun i y w e1 e2 e3 => ?_⟩, fun y c e => ?_, e0.hok.fresh (Nat.le_refl _), fun y c e => ?_, fun q hq => absurd (show q ∈ ([] : List (Addr × Obj)) ++ [] from hq) (by simp), e0.hok.kept kp, ?_⟩
  · have hy : scope.names.lookup y = some .cell ∨ scope.names.lookup y = some .free := hy
    rcases hy with hy | hy
    · exact absurd rfl (L.own _ (PySem.mem_of_lookup hy)).2
    · exact look hy
  · have z : false = true := z
    cases z
  · have e3 : Vis scope y := e3
    have e1 : (X.N ++ [a])[i]? = some y := e1
    have len := I.len
    by_cases hi : i < X.N.length
    · rw [List.getElem?_append_left hi] at e1
      rw [List.getElem?_append_left (by omega)] at e2
      have ya : y ≠ a := fun z => ha (by rw [← z]; exact List.mem_of_getElem? e1)
      rcases e3 with k | k | k
      · exact absurd ((L.own _ (PySem.mem_of_lookup k)).1 rfl) ya
      · exact absurd rfl (L.own _ (PySem.mem_of_lookup k)).2
      · obtain ⟨m, hn, hl⟩ := I.loc
        have hvis : Vis X.env.scope y := (L.free _ (PySem.mem_of_lookup k) rfl).elim (fun k => .inr (.inl k)) (fun k => .inr (.inr k))
        obtain ⟨w', r, q⟩ := hl i y w e1 e2 hvis
        obtain ⟨c2, h2⟩ := look k
        refine ⟨w', r, .inr ⟨.inr k, c2, h2, ?_⟩⟩
        have c1 := cm h2
        rcases q with ⟨k', _⟩ | ⟨_, c3, e', z⟩
        · have k' : X.env.scope.names.lookup y = some .local := k'
          rcases L.free _ (PySem.mem_of_lookup k) rfl with k2 | k2 <;> rw [show X.env.scope.names.lookup y = _ from k2] at k' <;> cases k'
        · rw [c1] at e'
          cases e'
          exact cellK (I.freeC y _ c1) z
    · have hi2 : i = X.N.length := by
        have := (List.getElem?_eq_some_iff.mp e1).1
        rw [List.length_append, List.length_singleton] at this
        omega
      subst hi2
      rw [List.getElem?_append_right (Nat.le_refl _), Nat.sub_self] at e1
      rw [List.getElem?_append_right (by omega), show X.N.length - σ.length = 0 by omega] at e2
      cases e1
      cases e2
      exact ⟨u, rv, .inl ⟨L.par, by simp⟩⟩
  · obtain ⟨w', z⟩ := I.cell y c (cm e)
    exact ⟨w', cellK (I.freeC y c (cm e)) z⟩
  · obtain ⟨v, o, ho, hd⟩ := I.cell y c (cm e)
    exact un.free c o ho (I.freeC y c (cm e)) (by simp)
  · have := I.len
    show (σ ++ [some v]).length = (X.N ++ [a]).length
    rw [List.length_append, List.length_append, this]
    rfl
end
/-- its names: one captured number, and the parameter -/
def lamD (m j : Nat) (n : Int) (d : P) : DEnv := ((List.replicate m Slot.un).set j (.val (.int n))) ++ [.val d]
theorem envLam {K : PySem.W.Frag} {F H : Hp} {σ : L2.St} {v : V} {d : P} {m j : Nat} {n : Int} (c : Ex F H) (tb : TabsIn H) (hm : σ.length = m) (hs : σ[j]? = some (some (V.int n))) (r : Rp K F v d) : EnvOk K H F H (σ ++ [some v]) (lamD m j n d) := by
  subst hm
  have hj : j < σ.length := (List.getElem?_eq_some_iff.mp hs).1
  have key : ∀ {i : Nat} {t : Slot}, (lamD σ.length j n d)[i]? = some t → t ≠ .un → (i = j ∧ t = .val (.int n)) ∨ (i = σ.length ∧ t = .val d) := fun {i t} h nu => by
    unfold lamD at h
    by_cases hi : i < σ.length
    · rw [List.getElem?_append_left (by rw [List.length_set, List.length_replicate]; exact hi), List.getElem?_set] at h
      by_cases e : j = i
      · rw [if_pos e, if_pos (by rw [List.length_replicate]; exact hj)] at h
        exact .inl ⟨e.symm, (Option.some.inj h).symm⟩
      · rw [if_neg e, List.getElem?_replicate, if_pos hi] at h
        exact absurd (Option.some.inj h).symm nu
    · have h0 := (List.getElem?_eq_some_iff.mp h).1
      rw [List.length_append, List.length_set, List.length_replicate, List.length_singleton] at h0
      have e : i = σ.length := by omega
      subst e
      rw [List.getElem?_append_right (by rw [List.length_set, List.length_replicate]; exact Nat.le_refl _), List.length_set, List.length_replicate, Nat.sub_self] at h
      exact .inr ⟨rfl, (Option.some.inj h).symm⟩
  refine ⟨c, .refl H, tb, ?_, fun i e h => ?_, fun i es h => ?_, fun i k es fs p _ h => ?_, fun i w h => ?_, fun i lk c fs h => ?_, fun i k lk lk' c c' fs fs' p _ h => ?_⟩
  · unfold lamD
    rw [List.length_append, List.length_append, List.length_set, List.length_replicate]
    rfl
  · rcases key h nofun with ⟨rfl, e⟩ | ⟨rfl, e⟩
    · cases e
      exact ⟨.int n, by rw [List.getElem?_append_left hj]; exact hs, .int n⟩
    · cases e
      exact ⟨v, by rw [List.getElem?_append_right (Nat.le_refl _), Nat.sub_self]; rfl, r⟩
  · rcases key h nofun with ⟨_, e⟩ | ⟨_, e⟩ <;> cases e
  · rcases key h nofun with ⟨_, e⟩ | ⟨_, e⟩ <;> cases e
  · rcases key h nofun with ⟨_, e⟩ | ⟨_, e⟩ <;> cases e
  · rcases key h nofun with ⟨_, e⟩ | ⟨_, e⟩ <;> cases e
  · rcases key h nofun with ⟨_, e⟩ | ⟨_, e⟩ <;> cases e
section
variable {X : Cx} {pins : List (Addr × Obj)} {σ : L2.St} {H : Hp} {s : Shared}
/-- the lambda is made: its code object is the one that the table tells -/
theorem lam_make4 {c P : Addr} {params : Arguments} {body : Expr} {scope : Scope} {pos : Pos} {E : Value → Shared → Prop} {Q : Value → Shared → Prop} (I : Inv X pins σ H s) (TB : TabB X.base X.mg c P) (hcode : X.env.code = .ref c)
    (hu : ∀ p ∈ LTab.tabs, p.1 = P → p.2 = X.env.qual ++ "<lambda>") (hT : TabS H P (X.env.qual ++ "<lambda>")) (hdef : defaultsOf params X.env = ([], [])) (hfree : ∀ y ∈ scope.names, y.2 = .free → ∃ c, X.env.cells.lookup y.1 = some c)
    (h : ∀ (f c' : Addr) (pm ctv : Value) (H1 : Hp) (s' : Shared), Inv X pins σ H1 s' → Ex H H1 → s'.heap.get? f = some (PySem.W.kla_obj "<lambda>" (X.env.qual ++ "<lambda>") params body scope (cloFrom X.env.cells scope.names []) pm c' ctv) → H1 f = none → f ∉ frs X.stack → (∃ ps, H1 P = some (.tbl ps) ∧ TriplesOk ps.toList ∧ codeAmong pos ps.toList = some (.ref c')) → Q (.ref f) s') :
    wpAny (model X.prog X.w) X.A (eval (.Lambda params body scope pos) X.env) Q E s := by
  obtain ⟨ps, hP, ht, ha⟩ := hT
  have bP : s.heap.BuiltinsAt X.mg P := TB.bm.keeps I.bk
  have hP' : s.heap.get? P = some { cls := .none, data := .fields ps } := I.hok P _ hP
  have nofr : ∀ f, s.heap.objs.size ≤ f → f ∉ frs X.stack := fun f hf z => (List.mem_cons.mp (I.stkSub _ z)).elim (fun e => Nat.lt_irrefl _ (Nat.lt_of_lt_of_le (show f < _ by rw [e]; exact I.lt) hf)) (I.nofs hf)
  refine PySem.W.kla_eval hdef ?_
  cases hc : codeAmong pos ps.toList with
  | some cv =>
    obtain ⟨c', rfl, hco⟩ := ha pos cv hc
    exact PySem.W.kla_makeFunctionHit (mg := X.mg) (c := c) (P := P) (ps := ps) (closure_ok hfree) I.ok.glob (I.mod.glob.keeps I.bk) hcode (TB.code.keeps I.bk) hP' ht hc bP fun ctv h' tk hx hsz =>
      h h'.objs.size c' ((X.mg "__name__").getD .none) ctv H _ (I.kept (t' := tk) fun b o e => Heap.get?_push_of_some _ (hx b o e)) (.refl H) (Heap.get?_push_size _ rfl) (I.hok.fresh hsz) (nofr _ hsz) ⟨ps, hP, ht, hc⟩
  | none =>
    refine PySem.W.kla_makeFunction (mg := X.mg) (c := c) (P := P) (ps := ps) (closure_ok hfree) I.ok.glob (I.mod.glob.keeps I.bk) hcode (TB.code.keeps I.bk) hP' ht hc TB.gP bP fun c' ctv h' tk hx hge hlt hrec htb => ?_
    obtain ⟨_, oc, vs, t, e2, hoc, hd, hv⟩ := hrec
    cases e2
    have hsz : s.heap.objs.size ≤ h'.objs.size := Nat.le_trans hge (Nat.le_of_lt hlt)
    have eL : (ps ++ #[rawInt pos.line, rawInt pos.col, .ref c']).toList = ps.toList ++ [rawInt pos.line, rawInt pos.col, .ref c'] := by simp
    refine h h'.objs.size c' ((X.mg "__name__").getD .none) ctv _ _ (inv_table (q := X.env.qual ++ "<lambda>") (t' := tk) (more := #[rawInt pos.line, rawInt pos.col, .ref c']) I hP (fun b o hb e => Heap.get?_push_of_some _ (hx b o hb e)) (Heap.get?_push_of_some _ htb) hge ⟨oc, vs, t, Heap.get?_push_of_some _ hoc, hd, hv⟩)
      (tabEx hP ht ha (I.hok.fresh hge) hu) (Heap.get?_push_size _ rfl) ?_ (nofr _ hsz) ⟨_, by rw [upd_ne (ne_of_none hP (I.hok.fresh hge)), upd_same], by rw [eL]; exact PySem.TriplesOk_snoc _ _ _ _ ht, by rw [eL]; exact PySem.codeAmong_snoc _ ht hc⟩
    rw [upd_ne (Nat.ne_of_gt hlt), upd_ne (Nat.ne_of_gt (Nat.lt_of_lt_of_le (Heap.lt_size hP') hsz))]
    exact I.hok.fresh hsz
end
/-- a lambda stands at f since s -/
structure LamAt (X : Cx) (H : Hp) (s : Shared) (P f c' : Addr) (pos : Pos) (params : Arguments) (body : Expr) (scope : Scope) (pm ctv : Value) : Prop where
  hf : s.heap.get? f = some (PySem.W.kla_obj "<lambda>" (X.env.qual ++ "<lambda>") params body scope (cloFrom X.env.cells scope.names []) pm c' ctv)
  hn : H f = none
  hr : f ∉ frs X.stack
  tb : ∃ ps, H P = some (.tbl ps) ∧ TriplesOk ps.toList ∧ codeAmong pos ps.toList = some (.ref c')
/-- the slot i holds what stands at f -/
def rawIs {β : Type} (δ : DEnv) (i : Nat) (f : Addr) (r : Res β) : Res β := match δ[i]? with
  | some (.raw (.ref a)) => if a = f then r else .stuck
  | _ => .stuck
theorem rawIs_ok {β : Type} {δ : DEnv} {i : Nat} {f : Addr} {r : Res β} (h : rawIs δ i f r ≠ .stuck) : δ[i]? = some (.raw (.ref f)) ∧ rawIs δ i f r = r := by
  unfold rawIs at h ⊢
  split at h
  · rename_i a e
    split at h
    · rename_i q
      subst q
      exact ⟨e, if_pos rfl⟩
    · exact absurd rfl h
  · exact absurd rfl h
/-- x(e), x a name that holds the lambda -/
def dBy (f : Addr) (i : Nat) (by_ : P → Res P) (fe : DE P) : DE P := fun δ => (fe δ).bind fun d => rawIs δ i f (by_ d).mute
/-- the frames between the maker and here -/
structure Below1 (X : Cx) (H : Hp) (s : Shared) (out : List Env) (Hg : Hp) (sg : Shared) : Prop where
  un : Un (frs X.stack) [] H Hg s.heap sg.heap
  out : ∀ b ∈ frs out, b ∈ frs X.stack ∨ s.heap.get? b = none
section
variable {X : Cx} {pins : List (Addr × Obj)} {σ : L2.St} {H Hg : Hp} {s sg : Shared} {W : WX}
theorem px_by {P f c' : Addr} {pos : Pos} {params : Arguments} {body : Expr} {scope : Scope} {pm ctv : Value} {a x y qg : Str} {Ag : Around} {out : List Env} {Eg : XK} {Ng : List Str} {scg : Scope} {g : Addr} {cdg : Value} {k i m j l : Nat} {n : Int} {fb : DE PyData} {p0 p1 p2 : Pos}
    (I : Inv X pins σ H s) (M : LamAt X H s P f c' pos params body scope pm ctv) (L : LamS1 X.env.scope scope a) (ha : a ∉ X.N) (hm : X.N.length = m) (hs : σ[j]? = some (some (V.int n))) (hmT : (P, X.env.qual ++ "<lambda>") ∈ LTab.tabs)
    (hbind : ∀ (cl : List (Str × Addr)) (pm cv ctv u : Value), bindArgs (PySem.W.kla_fn "<lambda>" (X.env.qual ++ "<lambda>") params body scope cl pm cv ctv) ⟨[u], []⟩ = pure [(a, u)])
    (hbody : ∀ (A : Around) (outer : List Env) (s : Shared) (H : Hp) (E : XK) (f c' : Addr), Room k (A.deeper (lamEnv X scope s.heap.objs.size f c')) → PE (lamCx1 X A outer s H E scope f c' a) body (teD X.K X.mg (fun cls d _ H' => E cls d H') fb))
    (Bl : Below1 X H s out Hg sg) (hr : Room (k + 1) (Ag.deeper (envOfC qg scg sg.heap.objs.size g cdg)))
    (tk : Takes (cxOf (L2.CX X.prog X.w) X.prog X.w X.K X.mg X.base Ng qg scg g cdg Ag out sg Hg Eg) W)
    (hN : Ng[i]? = some x) (hv : Vis scg x) (hN2 : Ng[l]? = some y) (hv2 : Vis scg y)
    (hd : (x == ("__debug__" : Str)) = false := by decide) (hcd : (x == ("__classdict__" : Str)) = false := by decide) (hd2 : (y == ("__debug__" : Str)) = false := by decide) (hcd2 : (y == ("__classdict__" : Str)) = false := by decide) :
    PE (cxOf (L2.CX X.prog X.w) X.prog X.w X.K X.mg X.base Ng qg scg g cdg Ag out sg Hg Eg) (.Call (.Name x p1) [.Name y p0] [] p2) (teD X.K X.mg W (dBy f i (fun d => fb (lamD m j n d)) (dVar l))) := by
  refine ⟨fun pinsZ sZ σZ HZ Q IZ h => ?_⟩
  obtain ⟨B, F, δ, E0, o⟩ := h
  unfold dBy at o
  cases hy : (dVar l : DE PyData) δ with
  | exc nm => unfold dVar at hy; split at hy <;> cases hy
  | stuck => rw [hy] at o; exact o.elim
  | ok d =>
    rw [hy] at o
    have o : OutE X.K X.mg W σZ F HZ (rawIs δ i f (fb (lamD m j n d)).mute) Q := o
    have ns : rawIs δ i f (fb (lamD m j n d)).mute ≠ .stuck := fun z => by rw [z] at o; exact o
    obtain ⟨hraw, e1⟩ := rawIs_ok ns
    rw [e1] at o
    obtain ⟨r, er⟩ : ∃ r, fb (lamD m j n d) = .ok r := by
      cases q : fb (lamD m j n d) with
      | ok r => exact ⟨r, rfl⟩
      | exc nm => rw [q] at o; exact o.elim
      | stuck => rw [q] at o; exact o.elim
    rw [er] at o
    have o : ∀ v F' H', Ext F HZ F' H' → Rp X.K F' v r → Q v H' := o
    obtain ⟨v, hv1, rv⟩ : ∃ v, σZ[l]? = some (some v) ∧ Rp X.K F v d := by
      unfold dVar at hy
      split at hy
      · rename_i e hh
        cases hy
        exact E0.val l d hh
      · cases hy
    have hs2 := E0.raw i _ hraw
    refine wpAny_Call_Name_kw (thn ((pe_var (pos := p1) (i := i) hN hv hd hcd).run pinsZ sZ σZ HZ (fun v H1 => v = .ref f ∧ H1 = HZ) IZ ⟨.ref f, hs2, rfl, rfl⟩) fun u s1 ⟨v0, H1, I1, r1, ev, eH⟩ => ?_)
    subst ev
    rw [eH] at I1
    cases r1
    have un1 := unChain Bl.un I1.base Bl.out
    refine PySem.W.callWith_F ⟨_, _, _, _, un1.keep f _ M.hf M.hn M.hr (by simp)⟩ ?_ (by rfl) (by rfl)
    refine Calls.spliced_cons (thn ((pe_var (pos := p0) (i := l) hN2 hv2 hd2 hcd2).run pinsZ s1 σZ HZ (fun w H1 => w = v ∧ H1 = HZ) I1 ⟨v, hv1, rfl, rfl⟩) fun u s2 ⟨v2, H2, I2, r2, ev2, eH2⟩ => ?_)
    subst ev2
    rw [eH2] at I2
    have un2 := unChain Bl.un I2.base Bl.out
    have at2 := un2.keep f _ M.hf M.hn M.hr (by simp)
    refine Calls.spliced_nil ⟨⟨_, _, _, _, at2⟩, ?_⟩
    have hco : HZ c' = some (CodeO c' (X.env.qual ++ "<lambda>")) := by
      obtain ⟨ps, t1, t2, t3⟩ := M.tb
      obtain ⟨more, t4⟩ := un2.tbls P ps t1
      obtain ⟨ps2, t5, t6, t7⟩ := E0.tbsH _ hmT
      rw [t4] at t5
      cases t5
      obtain ⟨c1, e1, e2⟩ := t7 pos (.ref c') (by rw [Array.toList_append]; exact among_more _ _ t2 t3)
      cases e1
      exact e2
    obtain ⟨⟨oc, vs, t, hoc, hdc, hvc⟩, _, _⟩ := I2.hok c' _ hco
    refine wpAny_call (codeAny_mono (show codeAny (model X.prog X.w) (Ag.deeper (envOfC qg scg sg.heap.objs.size g cdg)) (.call (.ref f) ⟨[u], []⟩) (CR (L2.CX X.prog X.w) (envOfC qg scg sg.heap.objs.size g cdg :: out) X.prog X.w HZ s2 Q (fun _ _ _ => False)) s2 from ?_) fun r s' hq => ?_)
    · refine PySem.W.kla_callFunE hr.depth at2 rfl L.co L.gen rfl ⟨c', oc, vs, t, rfl, hoc, hdc, hvc⟩ ?_
      rw [hbind]
      refine wpAny_pure (wpAny_newFunctionEnv (fun y hy => (L.own y hy).2) (fun y hy => ?_) (fun h₁ hns hsb => ⟨I2.nolimit.fresh _ hsb, ?_⟩) L.kind)
      · obtain rfl := List.mem_singleton.mp hy
        exact L.par
      · show codeAny _ _ (.expr body (lamEnv X scope s2.heap.objs.size f c')) _ _
        have J := lam_start1 (A := Ag.deeper (envOfC qg scg sg.heap.objs.size g cdg)) (outer := envOfC qg scg sg.heap.objs.size g cdg :: out) (E := fun _ _ _ => False) (f := f) (c' := c') (h₁ := h₁) (tk := s2.toks + ([(a, u)] : List (Str × Value)).length) (v := v2) (u := u) I L ha I2.env0 hr.hd un2 hns r2 fun b o e => hsb.extBut b o (Nat.ne_of_lt (Heap.lt_size e)) (Heap.get?_push_of_some _ e)
        have ht : teD X.K X.mg (fun _ _ _ _ => False) fb (σ ++ [some v2]) HZ Q := ⟨HZ, F, _, envLam (m := m) (j := j) (n := n) E0.c E0.tbsH (by rw [← hm]; exact I.len) hs rv, by rw [er]; exact o⟩
        refine PySem.W.kla_codeExpr (wpAny_mono ((hbody _ _ s2 HZ _ f c' (hr.deeper _)).run [] _ _ HZ Q J ht) (fun v s' ⟨w', H', J', rv, q⟩ => ⟨w', H', J'.os, J'.bare, J'.base, J'.hok, rv, q⟩) fun e s' hq => hq)
    · cases r with
      | error e => exact (noXs hq).elim
      | ok fl =>
        cases fl with
        | ret u => exact I2.after hq
        | next => exact False.elim hq
        | brk => exact False.elim hq
        | cont => exact False.elim hq
end
end DL

set_option Elab.async false
set_option linter.all false
set_option maxRecDepth 100000
set_option maxHeartbeats 4000000
/-! a recursive def that is handed a lambda with one parameter: x(one, way, lambda a: e) -/
namespace DL
open PySem PySem.Spec PyProof.Rows L2 LamX
variable [LTab]
/-- level by level: gf what the body does -/
def putR (gf : Addr → (P → Res P) → (List P → Res P) → DEnv → SRes) (f : Addr) (by_ : P → Res P) : Nat → List P → Res P
  | 0, _ => .stuck
  | q + 1, ds => match ds with
    | [a, b] => resOf (gf f by_ (putR gf f by_ q) [.val a, .val b, .raw (.ref f), .un, .un])
    | _ => .stuck
open Classical in
/-- wherever the lambda stands -/
noncomputable def putV (gf : Addr → (P → Res P) → (List P → Res P) → DEnv → SRes) (by_ : P → Res P) (q : Nat) (a b : P) : Res P := if h : ∃ r, ∀ f, putR gf f by_ q [a, b] = .ok r then .ok h.choose else .stuck
theorem putV_ok {gf : Addr → (P → Res P) → (List P → Res P) → DEnv → SRes} {by_ : P → Res P} {q : Nat} {a b r : P} (h : ∀ f, putR gf f by_ q [a, b] = .ok r) : putV gf by_ q a b = .ok r := by
  unfold putV
  have hh : ∃ r, ∀ f, putR gf f by_ q [a, b] = .ok r := ⟨r, h⟩
  rw [dif_pos hh]
  have e := (hh.choose_spec 0).symm.trans (h 0)
  rw [Res.ok.inj e]
/-- x(e1, e2, b), in x, b what it was handed -/
def dSelf (f : Addr) (i : Nat) (self : List P → Res P) (f1 f2 : DE P) : DE P := fun δ => (f1 δ).bind fun a => (f2 δ).bind fun b => rawIs δ i f (self [a, b]).mute
/-- the number in a slot -/
def numAt {β : Type} (δ : DEnv) (j : Nat) (k : Int → Res β) : Res β := match δ[j]? with
  | some (.val (.int n)) => k n
  | _ => .stuck
theorem numAt_ok {β : Type} {δ : DEnv} {j : Nat} {k : Int → Res β} (h : numAt δ j k ≠ .stuck) : ∃ n, δ[j]? = some (.val (.int n)) ∧ numAt δ j k = k n := by
  unfold numAt at h ⊢
  split at h
  · rename_i n e
    exact ⟨n, e, by rfl⟩
  · exact absurd rfl h
/-- x(e1, e2, lambda a: e) -/
noncomputable def dPut (gf : Addr → (P → Res P) → (List P → Res P) → DEnv → SRes) (fb : DE P) (m j q : Nat) (f1 f2 : DE P) : DE P := fun δ => (f1 δ).bind fun a => (f2 δ).bind fun b => numAt δ j fun n => putV gf (fun d => fb (lamD m j n d)) q a b
/-- .. promised at a level, of the frames between -/
def PutOk (X : Cx) (H : Hp) (s : Shared) (f g : Addr) (k : Nat) (G : List P → Res P) : Prop := ∀ (A : Around) (out : List Env) (sg : Shared) (Hg : Hp) (us : List Value) (vs : List V) (Q : VK), Room k A → Env0 X.prog X.w X.K X.mg X.base A out sg Hg → Below1 X H s out Hg sg → Vals vs us →
  (∃ F v1 v2 d1 d2, vs = [v1, v2, .ref f] ∧ Ex F Hg ∧ TabsIn Hg ∧ Rp X.K F v1 d1 ∧ Rp X.K F v2 d2 ∧ ∃ r, G [d1, d2] = .ok r ∧ ∀ v F' H', Ext F Hg F' H' → Rp X.K F' v r → Q v H') →
  codeAny (model X.prog X.w) A (.call (.ref g) ⟨us, []⟩) (CR (L2.CX X.prog X.w) out X.prog X.w Hg sg Q (fun _ _ _ => False)) sg
theorem envPut {K : PySem.W.Frag} {F H : Hp} {v1 v2 : V} {d1 d2 : P} {f : Addr} (c : Ex F H) (tb : TabsIn H) (r1 : Rp K F v1 d1) (r2 : Rp K F v2 d2) : EnvOk K H F H [some v1, some v2, some (.ref f), none, none] [.val d1, .val d2, .raw (.ref f), .un, .un] := by
  have at_ : ∀ {i : Nat} {t : Slot}, ([.val d1, .val d2, .raw (.ref f), .un, .un] : DEnv)[i]? = some t → t = .un ∨ (i = 0 ∧ t = .val d1) ∨ (i = 1 ∧ t = .val d2) ∨ (i = 2 ∧ t = .raw (.ref f)) := fun {i t} h => by
    match i, h with
    | 0, h => cases h; exact .inr (.inl ⟨rfl, rfl⟩)
    | 1, h => cases h; exact .inr (.inr (.inl ⟨rfl, rfl⟩))
    | 2, h => cases h; exact .inr (.inr (.inr ⟨rfl, rfl⟩))
    | 3, h => cases h; exact .inl rfl
    | 4, h => cases h; exact .inl rfl
    | n + 5, h => simp at h
  refine ⟨c, .refl H, tb, rfl, fun i d h => ?_, fun i es h => ?_, fun i j es fs p _ h => ?_, fun i v h => ?_, fun i lk c fs h => ?_, fun i j lk lk' c c' fs fs' p _ h => ?_⟩
  · rcases at_ h with e | ⟨rfl, e⟩ | ⟨rfl, e⟩ | ⟨_, e⟩
    · cases e
    · cases e; exact ⟨_, rfl, r1⟩
    · cases e; exact ⟨_, rfl, r2⟩
    · cases e
  · rcases at_ h with e | ⟨rfl, e⟩ | ⟨rfl, e⟩ | ⟨_, e⟩ <;> cases e
  · rcases at_ h with e | ⟨rfl, e⟩ | ⟨rfl, e⟩ | ⟨_, e⟩ <;> cases e
  · rcases at_ h with e | ⟨rfl, e⟩ | ⟨rfl, e⟩ | ⟨rfl, e⟩
    · cases e
    · cases e
    · cases e
    · cases e; rfl
  · rcases at_ h with e | ⟨rfl, e⟩ | ⟨rfl, e⟩ | ⟨_, e⟩ <;> cases e
  · rcases at_ h with e | ⟨rfl, e⟩ | ⟨rfl, e⟩ | ⟨_, e⟩ <;> cases e
section
variable {X : Cx} {pins : List (Addr × Obj)} {σ : L2.St} {H Hg : Hp} {s sg : Shared} {W : WX}
theorem Below1.next {out : List Env} {qg : Str} {scg : Scope} {g : Addr} {cdg : Value} {HZ : Hp} {sZ : Shared} {fs : List Addr} (Bl : Below1 X H s out Hg sg) (u : Un (frs out) [] Hg HZ sg.heap sZ.heap) : Below1 X H s (envOfC qg scg sg.heap.objs.size g cdg :: out) HZ sZ :=
  ⟨unChain Bl.un u Bl.out, fun b hb => by
    rcases List.mem_cons.mp (show b ∈ sg.heap.objs.size :: frs out from hb) with e | e
    · refine .inr ?_
      cases q : s.heap.get? b with
      | none => rfl
      | some o =>
        obtain ⟨o', q'⟩ := Bl.un.there b o q (by simp)
        exact absurd (Heap.lt_size q') (by rw [e]; exact Nat.lt_irrefl _)
    · exact Bl.out b e⟩
theorem px_self {f : Addr} {x y qg : Str} {Ag : Around} {out : List Env} {Eg : XK} {Ng : List Str} {scg : Scope} {g : Addr} {cdg : Value} {k i : Nat} {G : List P → Res P} {e1 e2 : Expr} {f1 f2 : DE P} {p p2 p3 : Pos}
    (S : PutOk X H s f g k G) (Bl : Below1 X H s out Hg sg) (hr : Room k (Ag.deeper (envOfC qg scg sg.heap.objs.size g cdg))) (hm : X.mg x = some (.ref g)) (hk : PySem.W.keepIn X.K (.ref g) = true)
    (hg : Gl (cxOf (L2.CX X.prog X.w) X.prog X.w X.K X.mg X.base Ng qg scg g cdg Ag out sg Hg Eg) x)
    (h1 : PE (cxOf (L2.CX X.prog X.w) X.prog X.w X.K X.mg X.base Ng qg scg g cdg Ag out sg Hg Eg) e1 (teD X.K X.mg W f1)) (h2 : PE (cxOf (L2.CX X.prog X.w) X.prog X.w X.K X.mg X.base Ng qg scg g cdg Ag out sg Hg Eg) e2 (teD X.K X.mg W f2))
    (hN : Ng[i]? = some y) (hv : Vis scg y) (he1 : ∀ env, starEach [e1, e2, .Name y p3] env = (false, eval e1 env) :: starEach [e2, .Name y p3] env) (he2 : ∀ env, starEach [e2, .Name y p3] env = (false, eval e2 env) :: starEach [.Name y p3] env)
    (hdb : (x == ("__debug__" : Str)) = false := by decide) (hd : (y == ("__debug__" : Str)) = false := by decide) (hcd : (y == ("__classdict__" : Str)) = false := by decide) :
    PE (cxOf (L2.CX X.prog X.w) X.prog X.w X.K X.mg X.base Ng qg scg g cdg Ag out sg Hg Eg) (.Call (.Name x p) [e1, e2, .Name y p3] [] p2) (teD X.K X.mg W (dSelf f i G f1 f2)) := by
  refine ⟨fun pinsZ sZ σZ HZ Q IZ h => ?_⟩
  obtain ⟨B, F, δ, E0, o⟩ := h
  unfold dSelf at o
  obtain ⟨x1, s1, k1⟩ := outE_bind o
  have ha := pa_cons h1 (pa_cons h2 (pa_cons (pe_var (X := cxOf (L2.CX X.prog X.w) X.prog X.w X.K X.mg X.base Ng qg scg g cdg Ag out sg Hg Eg) (pos := p3) (i := i) hN hv hd hcd) pa_nil) (he2 _)) (he1 _)
  refine wpAny_Call_Name_kw (ld_glob IZ hg hm ?_ hdb)
  refine PySem.W.callWith_K (h₀ := X.base) IZ.ok.mod.kin hk (thn (ha.run p2 pinsZ sZ σZ HZ (fun vs H' => ∃ F' v1 v2 d1 d2 r, vs = [v1, v2, .ref f] ∧ Ext F HZ F' H' ∧ Rp X.K F' v1 d1 ∧ Rp X.K F' v2 d2 ∧ G [d1, d2] = .ok r ∧ ∀ v F'' H'', Ext F' H' F'' H'' → Rp X.K F'' v r → Q v H'') IZ ?_) fun us s1 ⟨vs, H1, I1, rv, q⟩ => ⟨I1.kIn, ?_⟩) (he1 _) (by rw [he2]; rfl)
  · refine teD.then E0 x1 s1 fun d1 v1 F1 H1 q1 X1 r1 => ?_
    obtain ⟨x2, s2, k2⟩ := outE_bind ((k1 d1 q1).up X1)
    refine teD.then (E0.up X1) x2 s2 fun d2 v2 F2 H2 q2 X2 r2 => ?_
    have o2 := (k2 d2 q2).up X2
    have ns : rawIs δ i f (G [d1, d2]).mute ≠ .stuck := fun z => by rw [z] at o2; exact o2
    obtain ⟨hraw, e1⟩ := rawIs_ok ns
    rw [e1] at o2
    refine ⟨.ref f, E0.raw i _ hraw, ?_⟩
    cases q : G [d1, d2] with
    | ok r =>
      rw [q] at o2
      exact ⟨F2, v1, v2, d1, d2, r, rfl, X1.trans X2, r1.up X2.f, r2, q, o2⟩
    | exc nm => rw [q] at o2; exact o2.elim
    | stuck => rw [q] at o2; exact o2.elim
  · obtain ⟨F', v1, v2, d1, d2, r, ev, XX, r1, r2, er, hq⟩ := q
    refine wpAny_call (codeAny_mono (S (Ag.deeper (envOfC qg scg sg.heap.objs.size g cdg)) (envOfC qg scg sg.heap.objs.size g cdg :: out) s1 H1 us vs Q hr I1.env0 (Bl.next (fs := []) I1.base) rv ⟨F', v1, v2, d1, d2, ev, XX.c, (E0.up XX).tbsH, r1, r2, r, er, hq⟩) fun r s' hq => ?_)
    cases r with
    | error e => exact (noXs hq).elim
    | ok fl =>
      cases fl with
      | ret u => exact I1.after hq
      | next => exact False.elim hq
      | brk => exact False.elim hq
      | cont => exact False.elim hq
theorem put_frame {x a1 a2 a3 : Str} {st : Stmt} {N : List Str} {f g : Addr} {fd : FuncData} {k : Nat} {gg : DEnv → SRes} (Fn : Fun X.K x x st g fd) (hb : L2.Binds X.K fd [a1, a2, a3] []) (S : FnScope N [a1, a2, a3] (defScope st)) (hN : N.length = 5)
    (hbody : ∀ (cdv : Value) (A : Around) (out : List Env) (sg : Shared) (Hg : Hp), Room k (A.deeper (envOfC x (defScope st) sg.heap.objs.size g cdv)) → Below1 X H s out Hg sg →
      PSs (cxOf (L2.CX X.prog X.w) X.prog X.w X.K X.mg X.base N x (defScope st) g cdv A out sg Hg (fun _ _ _ => False)) (defBody st) (tsD X.K X.mg (fun _ _ _ _ => False) gg)) :
    PutOk X H s f g (k + 1) (fun ds => match ds with
      | [a, b] => resOf (gg [.val a, .val b, .raw (.ref f), .un, .un])
      | _ => .stuck) := by
  intro A out sg Hg us vs Q hr e0 Bl rv ⟨F, v1, v2, d1, d2, ev, c, tb, r1, r2, r, er, hq⟩
  subst ev
  obtain ⟨oc, od, kV, doc, pm, an, cdv, ct, osl, rfl, lk, hcg⟩ := Fn.ex
  obtain ⟨u1, u2, u3, rfl⟩ : ∃ u1 u2 u3, us = [u1, u2, u3] := by
    have hl : us.length = 3 := rv.length.symm
    match us, hl with
    | [u1, u2, u3], _ => exact ⟨u1, u2, u3, rfl⟩
  refine run_ofS lk hcg S hr e0 (hb sg [u1, u2, u3] (e0.mod.kin.keeps fun b o e => (e0.bs b o e).1) rfl) rv rfl fun hr' => ⟨_, hbody cdv A out sg Hg hr' Bl, ?_⟩
  obtain ⟨n0, n1, n2, n3, n4, eN⟩ : ∃ n0 n1 n2 n3 n4, N = [n0, n1, n2, n3, n4] := by
    match N, hN with
    | [n0, n1, n2, n3, n4], _ => exact ⟨n0, n1, n2, n3, n4, rfl⟩
  have es : L2.start N [v1, v2, .ref f] = [some v1, some v2, some (.ref f), none, none] := by
    rw [eN]
    rfl
  rw [es]
  refine ⟨Hg, F, _, envPut c tb r1 r2, ?_⟩
  dsimp only at er
  cases q : gg [.val d1, .val d2, .raw (.ref f), .un, .un] with
  | nx δ' =>
    rw [q] at er
    cases er
    exact fun σ' F' H' E' x => hq .non F' H' ⟨x.f, E'.b, E'.c, x.n⟩ .non
  | ret d =>
    rw [q] at er
    cases er
    exact fun v F' H' c' b' x r' => hq v F' H' ⟨x.f, b', c', x.n⟩ r'
  | _ => rw [q] at er; cases er
/-- a def that is handed a lambda with one parameter -/
structure Putter (K : PySem.W.Frag) (mg : Str → Option Value) (x a1 a2 a3 : Str) (st : Stmt) : Prop where
  ex : ∃ (g : Addr) (fd : FuncData), mg x = some (.ref g) ∧ PySem.W.keepIn K (.ref g) = true ∧ Fun K x x st g fd ∧ L2.Binds K fd [a1, a2, a3] []
/-- what its body does, told of what it was handed and of itself -/
def PutBody (X : Cx) (x a1 a3 : Str) (st : Stmt) (N : List Str) (gf : Addr → (P → Res P) → (List P → Res P) → DEnv → SRes) : Prop :=
  ∀ (g f : Addr) (by_ : P → Res P) (self : List P → Res P) (cdv : Value) (A : Around) (out : List Env) (sg : Shared) (Hg : Hp) (kk : Nat), Room kk (A.deeper (envOfC x (defScope st) sg.heap.objs.size g cdv)) →
    (∀ p0 p1 p2 : Pos, PE (cxOf (L2.CX X.prog X.w) X.prog X.w X.K X.mg X.base N x (defScope st) g cdv A out sg Hg (fun _ _ _ => False)) (.Call (.Name a3 p1) [.Name a1 p0] [] p2) (teD X.K X.mg (fun _ _ _ _ => False) (dBy f 2 by_ (dVar 0)))) →
    (∀ {e1 e2 : Expr} {f1 f2 : DE P} (p p2 p3 : Pos), (∀ env, starEach [e1, e2, .Name a3 p3] env = (false, eval e1 env) :: starEach [e2, .Name a3 p3] env) → (∀ env, starEach [e2, .Name a3 p3] env = (false, eval e2 env) :: starEach [.Name a3 p3] env) →
      PE (cxOf (L2.CX X.prog X.w) X.prog X.w X.K X.mg X.base N x (defScope st) g cdv A out sg Hg (fun _ _ _ => False)) e1 (teD X.K X.mg (fun _ _ _ _ => False) f1) → PE (cxOf (L2.CX X.prog X.w) X.prog X.w X.K X.mg X.base N x (defScope st) g cdv A out sg Hg (fun _ _ _ => False)) e2 (teD X.K X.mg (fun _ _ _ _ => False) f2) →
      PE (cxOf (L2.CX X.prog X.w) X.prog X.w X.K X.mg X.base N x (defScope st) g cdv A out sg Hg (fun _ _ _ => False)) (.Call (.Name x p) [e1, e2, .Name a3 p3] [] p2) (teD X.K X.mg (fun _ _ _ _ => False) (dSelf f 2 self f1 f2))) →
    PSs (cxOf (L2.CX X.prog X.w) X.prog X.w X.K X.mg X.base N x (defScope st) g cdv A out sg Hg (fun _ _ _ => False)) (defBody st) (tsD X.K X.mg (fun _ _ _ _ => False) (gf f by_ self))
theorem put_levels {P f c' : Addr} {pos : Pos} {params : Arguments} {body : Expr} {scope : Scope} {pm ctv : Value} {a x a1 a2 a3 : Str} {st : Stmt} {N : List Str} {g : Addr} {k m j : Nat} {n : Int} {fb : DE PyData} {gf : Addr → (PyData → Res PyData) → (List PyData → Res PyData) → DEnv → SRes}
    (I : Inv X pins σ H s) (M : LamAt X H s P f c' pos params body scope pm ctv) (L : LamS1 X.env.scope scope a) (ha : a ∉ X.N) (hm : X.N.length = m) (hs : σ[j]? = some (some (V.int n))) (hmT : (P, X.env.qual ++ "<lambda>") ∈ LTab.tabs)
    (hbind : ∀ (cl : List (Str × Addr)) (pm cv ctv u : Value), bindArgs (PySem.W.kla_fn "<lambda>" (X.env.qual ++ "<lambda>") params body scope cl pm cv ctv) ⟨[u], []⟩ = pure [(a, u)])
    (hbody : ∀ (A : Around) (outer : List Env) (s : Shared) (H : Hp) (E : XK) (f c' : Addr), Room k (A.deeper (lamEnv X scope s.heap.objs.size f c')) → PE (lamCx1 X A outer s H E scope f c' a) body (teD X.K X.mg (fun cls d _ H' => E cls d H') fb))
    {fd : FuncData} (hmg : X.mg x = some (.ref g)) (hkp : PySem.W.keepIn X.K (.ref g) = true) (Fn : Fun X.K x x st g fd) (hb : L2.Binds X.K fd [a1, a2, a3] []) (S : FnScope N [a1, a2, a3] (defScope st)) (hN : N.length = 5) (h1 : N[0]? = some a1) (h3 : N[2]? = some a3) (hv1 : Vis (defScope st) a1) (hv3 : Vis (defScope st) a3) (hgx : (defScope st).names.lookup x = some .globalImplicit)
    (B : PutBody X x a1 a3 st N gf)
    (hdb : (x == ("__debug__" : Str)) = false) (hd1 : (a1 == ("__debug__" : Str)) = false) (hcd1 : (a1 == ("__classdict__" : Str)) = false) (hd3 : (a3 == ("__debug__" : Str)) = false) (hcd3 : (a3 == ("__classdict__" : Str)) = false) :
    ∀ q : Nat, PutOk X H s f g (k + 1 + q) (putR gf f (fun d => fb (lamD m j n d)) q)
  | 0 => fun _ _ _ _ _ _ _ _ _ _ _ ⟨_, _, _, _, _, _, _, _, _, _, _, er, _⟩ => by cases er
  | q + 1 => by
    have Sq := put_levels I M L ha hm hs hmT hbind hbody hmg hkp Fn hb S hN h1 h3 hv1 hv3 hgx B hdb hd1 hcd1 hd3 hcd3 q
    have := put_frame (X := X) (H := H) (s := s) (f := f) (k := k + 1 + q) (gg := gf f (fun d => fb (lamD m j n d)) (putR gf f (fun d => fb (lamD m j n d)) q)) Fn hb S hN fun cdv A out sg Hg hr Bl => B g f _ _ cdv A out sg Hg _ hr
      (fun p0 p1 p2 => px_by (i := 2) (l := 0) I M L ha hm hs hmT hbind hbody Bl (hr.mono (by omega)) tkD h3 hv3 h1 hv1 hd3 hcd3 hd1 hcd1)
      (fun p p2 p3 he1 he2 h1' h2' => px_self (i := 2) Sq Bl hr hmg hkp hgx h1' h2' h3 hv3 he1 he2 hdb hd3 hcd3)
    exact this
/-- x(e1, e2, lambda a: e) -/
theorem px_put {cM Pt : Addr} {params : Arguments} {lbody : Expr} {scope : Scope} {a x a1 a2 a3 y1 y2 : Str} {st : Stmt} {N : List Str} {k m j q : Nat} {fb : DE PyData} {gf : Addr → (PyData → Res PyData) → (List PyData → Res PyData) → DEnv → SRes} {f1 f2 : DE PyData} {p p1 p2 lpos pos : Pos}
    (hg : Gl X x) (C : Putter X.K X.mg x a1 a2 a3 st) (S : FnScope N [a1, a2, a3] (defScope st)) (hN : N.length = 5) (h1 : N[0]? = some a1) (h3 : N[2]? = some a3) (hv1 : Vis (defScope st) a1) (hv3 : Vis (defScope st) a3) (hgx : (defScope st).names.lookup x = some .globalImplicit)
    (B : PutBody X x a1 a3 st N gf) (TB : TabB X.base X.mg cM Pt) (hcode : X.env.code = .ref cM) (hmT : (Pt, X.env.qual ++ "<lambda>") ∈ LTab.tabs) (hu : ∀ p ∈ LTab.tabs, p.1 = Pt → p.2 = X.env.qual ++ "<lambda>") (hr : Room (k + 1 + q) X.A) (L : LamS1 X.env.scope scope a) (ha : a ∉ X.N) (hm : X.N.length = m) (hdef : defaultsOf params X.env = ([], []))
    (hbind : ∀ (cl : List (Str × Addr)) (pm cv ctv u : Value), bindArgs (PySem.W.kla_fn "<lambda>" (X.env.qual ++ "<lambda>") params lbody scope cl pm cv ctv) ⟨[u], []⟩ = pure [(a, u)])
    (hbody : ∀ (A : Around) (outer : List Env) (s : Shared) (H : Hp) (E : XK) (f c' : Addr), Room k (A.deeper (lamEnv X scope s.heap.objs.size f c')) → PE (lamCx1 X A outer s H E scope f c' a) lbody (teD X.K X.mg (fun cls d _ H' => E cls d H') fb))
    (e1 : PE X (.Name y1 p1) (teD X.K X.mg W f1)) (e2 : PE X (.Name y2 p2) (teD X.K X.mg W f2))
    (hdb : (x == ("__debug__" : Str)) = false := by decide) (hd1 : (a1 == ("__debug__" : Str)) = false := by decide) (hcd1 : (a1 == ("__classdict__" : Str)) = false := by decide) (hd3 : (a3 == ("__debug__" : Str)) = false := by decide) (hcd3 : (a3 == ("__classdict__" : Str)) = false := by decide) :
    PE X (.Call (.Name x p) [.Name y1 p1, .Name y2 p2, .Lambda params lbody scope lpos] [] pos) (teD X.K X.mg W (dPut gf fb m j q f1 f2)) := by
  refine ⟨fun pins s σ H Q I h => ?_⟩
  obtain ⟨B0, F, δ, E0, o⟩ := h
  obtain ⟨g, fd, hmg, hkp, Fn, hb⟩ := C.ex
  unfold dPut at o
  obtain ⟨x1, t1, k1⟩ := outE_bind o
  refine wpAny_Call_Name_kw (ld_glob I hg hmg ?_ hdb)
  refine PySem.W.callWith_K (h₀ := X.base) I.ok.mod.kin hkp ?_ (by rfl) (by rfl)
  show wpAny _ _ (spliced ((false, eval (.Name y1 p1) X.env) :: (false, eval (.Name y2 p2) X.env) :: (false, eval (.Lambda params lbody scope lpos) X.env) :: backTo pos (starEach [] X.env))) _ _ s
  refine Calls.spliced_cons (thn (e1.run pins s σ H (fun v1 H1 => ∃ d1 F1, f1 δ = .ok d1 ∧ Ext F H F1 H1 ∧ Rp X.K F1 v1 d1) I (teD.then E0 x1 t1 fun d1 v1 F1 H1 q1 X1 r1 => ⟨d1, F1, q1, X1, r1⟩)) fun u1 s1 ⟨v1, H1, I1, rv1, d1, F1, q1, X1, r1⟩ => ?_)
  obtain ⟨x2, t2, k2⟩ := outE_bind ((k1 d1 q1).up X1)
  refine Calls.spliced_cons (thn (e2.run pins s1 σ H1 (fun v2 H2 => ∃ d2 F2, f2 δ = .ok d2 ∧ Ext F1 H1 F2 H2 ∧ Rp X.K F2 v2 d2) I1 (teD.then (E0.up X1) x2 t2 fun d2 v2 F2 H2 q2 X2 r2 => ⟨d2, F2, q2, X2, r2⟩)) fun u2 s2 ⟨v2, H2, I2, rv2, d2, F2, q2, X2, r2⟩ => ?_)
  have o2 := (k2 d2 q2).up X2
  have E2 := (E0.up X1).up X2
  refine Calls.spliced_cons (lam_make4 I2 TB hcode hu (E2.tbsH _ hmT) hdef (L.has I2.ok) fun f c' pm' ctv H3 s3 I3 eX hf hfn hfr htb => ?_)
  refine Calls.spliced_nil ⟨I3.kIn, ?_⟩
  have X3 : Ext F2 H2 F2 H3 := ⟨.refl F2, eX, E2.c.trans eX, fun p h _ => h⟩
  have E3 := E2.up X3
  have ns : numAt δ j (fun n => putV gf (fun d => fb (lamD m j n d)) q d1 d2) ≠ .stuck := fun z => by rw [z] at o2; exact o2
  obtain ⟨n, hn, en⟩ := numAt_ok ns
  rw [en] at o2
  obtain ⟨vn, hn2, rn⟩ := E0.val j _ hn
  cases rn
  have S2 := put_levels (k := k) (m := m) (j := j) (fb := fb) (gf := gf) I3 ⟨hf, hfn, hfr, htb⟩ L ha hm hn2 hmT hbind hbody hmg hkp Fn hb S hN h1 h3 hv1 hv3 hgx B hdb hd1 hcd1 hd3 hcd3 q
  unfold putV at o2
  split at o2
  · rename_i hh
    have o3 : ∀ v F' H', Ext F2 H2 F' H' → Rp X.K F' v hh.choose → Q v H' := o2
    refine wpAny_call (codeAny_mono (S2 X.A X.stack s3 H3 [u1, u2, .ref f] [v1, v2, .ref f] Q hr I3.env0 ⟨Un.refl, fun b hb => .inl hb⟩ (.cons rv1 (.cons rv2 (.cons rfl .nil))) ⟨F2, v1, v2, d1, d2, rfl, X3.c, E3.tbsH, r1.up X2.f, r2, _, hh.choose_spec f, fun v F' H' x r => o3 v F' H' (X3.trans x) r⟩) fun r s' hq => ?_)
    cases r with
    | error e => exact (noXs hq).elim
    | ok fl =>
      cases fl with
      | ret u => exact I3.after hq
      | next => exact False.elim hq
      | brk => exact False.elim hq
      | cont => exact False.elim hq
  · exact o2.elim
theorem tkL1 {A : Around} {outer : List Env} {s : Shared} {H : Hp} {E : XK} {scope : Scope} {f c' : Addr} {a : Str} : Takes (lamCx1 X A outer s H E scope f c' a) (fun cls d _ H => E cls d H) := takes_of rfl rfl rfl rfl
end
end DL

set_option Elab.async false
set_option linter.all false
set_option maxRecDepth 100000
set_option maxHeartbeats 4000000
/-! Evaluation of meanings: plain lemmas. -/
namespace Ey
instance (priority := low) noTabs : DL.LTab := ⟨[]⟩
open PySem DL

/-! ### names -/
def slotVal : Option Slot → Res P
  | some (.val d) => .ok d
  | _ => .stuck
theorem dVar_zero {d : P} {δ : DEnv} : dVar 0 (.val d :: δ) = .ok d := rfl
theorem dVar_succ {s : Slot} {δ : DEnv} {n : Nat} : dVar (n + 1) (s :: δ) = dVar n δ := rfl
theorem dOwn_zero {d : List P} {δ : DEnv} : dOwn 0 (.own d :: δ) = .ok (.list d) := rfl
theorem dOwn_succ {s : Slot} {δ : DEnv} {n : Nat} : dOwn (n + 1) (s :: δ) = dOwn n δ := rfl
theorem dC_ap {α : Type} {d : α} {δ : DEnv} : dC d δ = .ok d := rfl
theorem dOp_ap {α : Type} {op : P → P → Res α} {f g : DE P} {δ : DEnv} : dOp op f g δ = (f δ).bind fun x => (g δ).bind fun y => op x y := rfl
theorem dUn_ap {α : Type} {op : P → Res α} {f : DE P} {δ : DEnv} : dUn op f δ = (f δ).bind op := rfl
theorem dL_ap {f : DE (List P)} {δ : DEnv} : dL f δ = (f δ).bind fun ds => .ok (.list ds) := rfl
theorem dT_ap {f : DE P} {δ : DEnv} : dT f δ = (f δ).bind truthOf := rfl
theorem dAnd_ap {f g : DE P} {δ : DEnv} : dAnd f g δ = (f δ).bind fun x => (truthOf x).bind fun b => if b = true then g δ else .ok (.bool false) := rfl
theorem dOr_ap {f g : DE P} {δ : DEnv} : dOr f g δ = (f δ).bind fun x => (truthOf x).bind fun b => if b = true then .ok (.bool true) else g δ := rfl
theorem dNot_ap {f : DE P} {δ : DEnv} : dNot f δ = (f δ).bind fun x => (truthOf x).bind fun b => .ok (.bool (!b)) := rfl
theorem tAndD_ap {f g : DE Bool} {δ : DEnv} : tAndD f g δ = (f δ).bind fun b => if b = true then g δ else .ok false := rfl
theorem tOrD_ap {f g : DE Bool} {δ : DEnv} : tOrD f g δ = (f δ).bind fun b => if b = true then .ok true else g δ := rfl
theorem tNotD_ap {f : DE Bool} {δ : DEnv} : tNotD f δ = (f δ).bind fun b => .ok (!b) := rfl
theorem dChain_ap {op op' : P → P → Res P} {f g h : DE P} {δ : DEnv} : dChain op op' f g h δ = (f δ).bind fun x => (g δ).bind fun y => (op x y).bind fun z => (truthOf z).bind fun b => if b = true then (h δ).bind fun w => op' y w else .ok (.bool false) := rfl
theorem aNil_ap {δ : DEnv} : aNil δ = .ok [] := rfl
theorem aCons_ap {f : DE P} {g : DE (List P)} {δ : DEnv} : aCons f g δ = (f δ).bind fun x => (g δ).bind fun xs => .ok (x :: xs) := rfl
theorem dTupl_ap {f : DE (List P)} {δ : DEnv} : dTupl f δ = (f δ).bind sizedT := rfl
theorem dList_ap {f : DE (List P)} {δ : DEnv} : dList f δ = (f δ).bind sizedL := rfl
theorem dCall_ap {G : List P → Res P} {f : DE (List P)} {δ : DEnv} : dCall G f δ = (f δ).bind G := rfl
theorem oNone_ap {δ : DEnv} : oNone δ = .ok none := rfl
theorem oSome_ap {f : DE P} {δ : DEnv} : oSome f δ = (f δ).bind partOf := rfl
theorem dSl_ap {α : Type} {op : P → Option Int → Option Int → Res α} {f : DE P} {l u : DE (Option Int)} {δ : DEnv} : dSl op f l u δ = (f δ).bind fun x => (l δ).bind fun a => (u δ).bind fun b => op x a b := rfl
theorem iUn_ap {op : P → Res (List P)} {f : DE P} {δ : DEnv} : iUn op f δ = (f δ).bind op := rfl
theorem iOp_ap {op : P → P → Res (List P)} {f g : DE P} {δ : DEnv} : iOp op f g δ = (f δ).bind fun x => (g δ).bind fun y => op x y := rfl
theorem dComp_ap {fi : DE (List P)} {vs : List Nat} {bd : Bd} {c : DE Bool} {e : DE P} {δ : DEnv} : dComp fi vs bd c e δ = (fi δ).bind fun ds => if ds.length ≤ lim then (compGo bd c e (wipeD δ vs) ds).mute else .stuck := rfl
theorem cYes_ap {δ : DEnv} : cYes δ = .ok true := rfl
theorem partOf_int {i : Int} : partOf (.int i) = .ok (some i) := rfl
theorem truthOf_bool {b : Bool} : truthOf (.bool b) = .ok b := rfl
/-! statements -/
def andThen (r : SRes) (h : DEnv → SRes) : SRes := match r with
  | .nx δ' => h δ'
  | r => r
theorem sSeq_ap {g h : DEnv → SRes} {δ : DEnv} : sSeq g h δ = andThen (g δ) h := rfl
theorem andThen_nx {δ : DEnv} {h : DEnv → SRes} : andThen (.nx δ) h = h δ := rfl
theorem andThen_ret {d : P} {h : DEnv → SRes} : andThen (.ret d) h = .ret d := rfl
theorem andThen_ite {c : Prop} [Decidable c] {a b : SRes} {h : DEnv → SRes} : andThen (if c then a else b) h = if c then andThen a h else andThen b h := by
  split <;> rfl
theorem sNil_ap {δ : DEnv} : sNil δ = .nx δ := rfl
theorem sPass_ap {δ : DEnv} : sPass δ = .nx δ := rfl
theorem sRet_ap {f : DE P} {δ : DEnv} : sRet f δ = ofR δ (f δ) fun d => .ret d := rfl
theorem sExpr_ap {f : DE P} {δ : DEnv} : sExpr f δ = ofR δ (f δ) fun _ => .nx δ := rfl
theorem sSet_ap {i : Nat} {f : DE P} {δ : DEnv} : sSet i f δ = ofR δ (f δ) fun d => .nx (δ.set i (.val d)) := rfl
theorem sSetOwn_ap {i : Nat} {f : DE (List P)} {δ : DEnv} : sSetOwn i f δ = ofR δ (f δ) fun d => .nx (δ.set i (.own d)) := rfl
theorem sIf_ap {c : DE Bool} {g h : DEnv → SRes} {δ : DEnv} : sIf c g h δ = ofR δ (c δ) fun b => if b = true then g δ else h δ := rfl
theorem sFor_ap {fi : DE (List P)} {bd : Bd} {g : DEnv → SRes} {δ : DEnv} : sFor fi bd g δ = ofR δ (fi δ) fun ds => forGo bd g ds δ := rfl
theorem sPair_ap {i j : Nat} {f : DE P} {δ : DEnv} : sPair i j f δ = ofR δ (f δ) fun d => match d with
  | .tuple [a, b] => .nx ((δ.set i (.val a)).set j (.val b))
  | _ => .stuck := rfl
theorem sPar_ap {i j : Nat} {fl : DE (List P)} {δ : DEnv} : sPar i j fl δ = ofR δ (fl δ) fun ds => match ds with
  | [a, b] => .nx ((δ.set i (.val a)).set j (.val b))
  | _ => .stuck := rfl
theorem ofR_ite {α : Type} {c : Prop} [Decidable c] {δ : DEnv} {a b : Res α} {k : α → SRes} : ofR δ (if c then a else b) k = if c then ofR δ a k else ofR δ b k := by
  split <;> rfl
theorem bind_ite {α β : Type} {c : Prop} [Decidable c] {a b : Res α} {k : α → Res β} : (if c then a else b).bind k = if c then a.bind k else b.bind k := by
  split <;> rfl
theorem set_zero {s t : Slot} {δ : DEnv} : List.set (s :: δ) 0 t = t :: δ := rfl
theorem set_succ {s t : Slot} {δ : DEnv} {n : Nat} : List.set (s :: δ) (n + 1) t = s :: List.set δ n t := rfl
theorem wipe_nil {δ : DEnv} : wipeD δ [] = δ := rfl
theorem wipe_cons {δ : DEnv} {v : Nat} {vs : List Nat} : wipeD δ (v :: vs) = (wipeD δ vs).set v .un := rfl
theorem bN_ap {i : Nat} {d : P} {δ : DEnv} : bN i d δ = .ok (δ.set i (.val d)) := rfl
theorem bP_ap {i j : Nat} {a b : P} {δ : DEnv} : bP i j (.tuple [a, b]) δ = .ok ((δ.set i (.val a)).set j (.val b)) := rfl
theorem resOf_ret {d : P} : resOf (.ret d) = .ok d := rfl

/-! ### rows of ints -/
def tI (xs : List Int) : P := .tuple (xs.map PyData.int)
def lI (xs : List Int) : P := .list (xs.map PyData.int)
theorem tI_nil : PyData.tuple [] = tI [] := rfl
theorem tI_one {x : Int} : PyData.tuple [.int x] = tI [x] := rfl
theorem pLen_tI {xs : List Int} : pLen (tI xs) = .ok (.int xs.length) := by
  show Res.ok (PyData.int ((xs.map PyData.int).length : Nat)) = _
  rw [List.length_map]
theorem pAdd_tI {xs ys : List Int} (h : xs.length + ys.length ≤ 100000) : pAdd (tI xs) (tI ys) = .ok (tI (xs ++ ys)) := by
  show (if (xs.map PyData.int).length + (ys.map PyData.int).length ≤ lim then _ else _) = _
  rw [if_pos (by rw [List.length_map, List.length_map]; exact Nat.le_trans h (by decide)), ← List.map_append]
  rfl
theorem cut_map {α β : Type} (f : α → β) (xs : List α) (lo hi : Option Int) : cut (xs.map f) lo hi = (cut xs lo hi).map f := by
  unfold cut
  rw [List.length_map, List.map_take, List.map_drop]
theorem pSl_tI {xs : List Int} {lo hi : Option Int} : pSl (tI xs) lo hi = .ok (tI (cut xs lo hi)) := by
  show Res.ok (PyData.tuple (cut (xs.map PyData.int) lo hi)) = _
  rw [cut_map]
  rfl
theorem itemsOf_tI {xs : List Int} : itemsOf (tI xs) = .ok (xs.map PyData.int) := rfl
theorem atI_map {α β : Type} (f : α → β) (xs : List α) (i : Int) : L2.atI (xs.map f) i = (L2.atI xs i).map f := by
  unfold L2.atI
  rw [List.length_map]
  cases L2.ixN xs.length i with
  | none => rfl
  | some j => simp
theorem pIx_tI {xs : List Int} {i : Int} {x : Int} (h : L2.atI xs i = some x) : pIx (tI xs) (.int i) = .ok (.int x) := by
  show atP (xs.map PyData.int) i = _
  unfold atP
  rw [atI_map, h]
  rfl
theorem pIx_scr {ns : List Int} {i : Int} {x : Int} (h : L2.atI ns i = some x) : pIx (scriptD ns) (.int i) = .ok (.int x) := by
  show atP (ns.map PyData.int) i = _
  unfold atP
  rw [atI_map, h]
  rfl
theorem pLen_scr {ns : List Int} : pLen (scriptD ns) = .ok (.int ns.length) := by
  show Res.ok (PyData.int ((ns.map PyData.int).length : Nat)) = _
  rw [List.length_map]
theorem eqvAll_ints : ∀ xs ys : List Int, PyData.eqvAll (xs.map PyData.int) (ys.map PyData.int) = decide (xs = ys)
  | [], [] => by unfold PyData.eqvAll; simp
  | [], _ :: _ => by unfold PyData.eqvAll; simp
  | _ :: _, [] => by unfold PyData.eqvAll; simp
  | x :: xs, y :: ys => by
    rw [List.map_cons, List.map_cons, PyData.eqvAll, eqvAll_ints xs ys, PyData.eqv]
    by_cases h : x = y <;> by_cases h2 : xs = ys <;> simp [h, h2]
theorem lay_ints : ∀ xs : List Int, PyData.canLayAll0 (xs.map PyData.int) = true
  | [] => by unfold PyData.canLayAll0; rfl
  | x :: xs => by simp [PyData.canLayAll0, PyData.canLay0, lay_ints xs]
theorem depth_ints : ∀ xs : List Int, PyData.depthAll (xs.map PyData.int) ≤ 1
  | [] => by unfold PyData.depthAll; exact Nat.zero_le _
  | x :: xs => by
    have := depth_ints xs
    simp [PyData.depthAll, PyData.depth]
    omega
theorem shaped_tI {xs : List Int} : SeqAt.shaped (tI xs) = true := by
  unfold SeqAt.shaped tI
  have := depth_ints xs
  simp [PyData.canLay0, lay_ints, PyData.depth]
  omega
theorem shaped_lI {xs : List Int} : SeqAt.shaped (lI xs) = true := by
  unfold SeqAt.shaped lI
  have := depth_ints xs
  simp [PyData.canLay0, lay_ints, PyData.depth]
  omega
theorem shaped_int {x : Int} : SeqAt.shaped (.int x) = true := by
  simp [SeqAt.shaped, PyData.canLay0, PyData.depth]
theorem shaped_bool {x : Bool} : SeqAt.shaped (.bool x) = true := by
  simp [SeqAt.shaped, PyData.canLay0, PyData.depth]
theorem shaped_none : SeqAt.shaped .none = true := by
  simp [SeqAt.shaped, PyData.canLay0, PyData.depth]
theorem pEq_tI {xs ys : List Int} : pEq (tI xs) (tI ys) = .ok (.bool (decide (xs = ys))) := by
  unfold pEq
  rw [if_pos ⟨shaped_tI, shaped_tI⟩]
  unfold tI
  rw [PyData.eqv, eqvAll_ints]
theorem pNe_tI {xs ys : List Int} : pNe (tI xs) (tI ys) = .ok (.bool (!decide (xs = ys))) := by
  unfold pNe
  rw [if_pos ⟨shaped_tI, shaped_tI⟩]
  unfold tI
  rw [PyData.eqv, eqvAll_ints]
theorem pEq_lI {xs ys : List Int} : pEq (lI xs) (lI ys) = .ok (.bool (decide (xs = ys))) := by
  unfold pEq
  rw [if_pos ⟨shaped_lI, shaped_lI⟩]
  unfold lI
  rw [PyData.eqv, eqvAll_ints]
theorem pNe_lI {xs ys : List Int} : pNe (lI xs) (lI ys) = .ok (.bool (!decide (xs = ys))) := by
  unfold pNe
  rw [if_pos ⟨shaped_lI, shaped_lI⟩]
  unfold lI
  rw [PyData.eqv, eqvAll_ints]
theorem pEq_int {x y : Int} : pEq (.int x) (.int y) = .ok (.bool (decide (x = y))) := by
  unfold pEq
  rw [if_pos ⟨shaped_int, shaped_int⟩, PyData.eqv]
  by_cases h : x = y <;> simp [h]
theorem pNe_int {x y : Int} : pNe (.int x) (.int y) = .ok (.bool (!decide (x = y))) := by
  unfold pNe
  rw [if_pos ⟨shaped_int, shaped_int⟩, PyData.eqv]
  by_cases h : x = y <;> simp [h]
theorem pEq_bool {x y : Bool} : pEq (.bool x) (.bool y) = .ok (.bool (decide (x = y))) := by
  unfold pEq
  rw [if_pos ⟨shaped_bool, shaped_bool⟩, PyData.eqv]
  cases x <;> cases y <;> rfl
theorem pNe_bool {x y : Bool} : pNe (.bool x) (.bool y) = .ok (.bool (!decide (x = y))) := by
  unfold pNe
  rw [if_pos ⟨shaped_bool, shaped_bool⟩, PyData.eqv]
  cases x <;> cases y <;> rfl
theorem pAdd_int {x y : Int} : pAdd (.int x) (.int y) = .ok (.int (x + y)) := rfl
theorem pSub_int {x y : Int} : pSub (.int x) (.int y) = .ok (.int (x - y)) := rfl
theorem pNeg_int {x : Int} : pNeg (.int x) = .ok (.int (-x)) := rfl
/-- small enough to be multiplied -/
def Small (x : Int) : Prop := -(2 ^ 63) < x ∧ x < 2 ^ 63
theorem pMul_r {x y : Int} (h : -(2 ^ 63) < y ∧ y < 2 ^ 63) : pMul (.int x) (.int y) = .ok (.int (x * y)) := by
  show (if mulOk x y = true then _ else _) = _
  rw [if_pos]
  unfold mulOk
  rw [decide_eq_true_iff]
  right
  omega
theorem pMul_l {x y : Int} (h : -(2 ^ 63) < x ∧ x < 2 ^ 63) : pMul (.int x) (.int y) = .ok (.int (x * y)) := by
  show (if mulOk x y = true then _ else _) = _
  rw [if_pos]
  unfold mulOk
  rw [decide_eq_true_iff]
  left
  omega
theorem pMod_int {x y : Int} (h : 0 < y) : pMod (.int x) (.int y) = .ok (.int (x % y)) := by
  show (if y = 0 then _ else _) = _
  rw [if_neg (by omega), Int.fmod_eq_emod_of_nonneg x (by omega)]
theorem pDiv_int {x y : Int} (h : 0 < y) (h2 : y < 1073741824) : pDiv (.int x) (.int y) = .ok (.int (x / y)) := by
  show (if y ≠ 0 ∧ y.natAbs < 1073741824 then _ else _) = _
  rw [if_pos (by omega), Int.fdiv_eq_ediv_of_nonneg x (by omega)]
theorem pLt_int {x y : Int} : pLt (.int x) (.int y) = .ok (.bool (decide (x < y))) := rfl
theorem pLe_int {x y : Int} : pLe (.int x) (.int y) = .ok (.bool (decide (x ≤ y))) := rfl
theorem pGt_int {x y : Int} : pGt (.int x) (.int y) = .ok (.bool (decide (y < x))) := rfl
theorem pGe_int {x y : Int} : pGe (.int x) (.int y) = .ok (.bool (decide (y ≤ x))) := rfl
theorem pMax_int {x y : Int} : pMax (.int x) (.int y) = .ok (.int (if y > x then y else x)) := rfl
theorem pMin_int {x y : Int} : pMin (.int x) (.int y) = .ok (.int (if y < x then y else x)) := rfl
theorem pInt_int {x : Int} : pInt (.int x) = .ok (.int x) := rfl
theorem pInt_bool {x : Bool} : pInt (.bool x) = .ok (.int (if x then 1 else 0)) := rfl
theorem pTuple_lI {xs : List Int} : pTuple (lI xs) = .ok (tI xs) := rfl
theorem pTuple_tI {xs : List Int} : pTuple (tI xs) = .ok (tI xs) := rfl
theorem pSum_lI {xs : List Int} : pSum (lI xs) = .ok (.int xs.sum) := by
  show (match dInts (xs.map PyData.int) with | some ns => Res.ok (PyData.int ns.sum) | none => Res.stuck) = _
  rw [ints_map]
theorem sized_nil : sizedT [] = .ok (tI []) := rfl
theorem sizedL_nil : sizedL [] = .ok [] := rfl
theorem sized_one {x : Int} : sizedT [.int x] = .ok (tI [x]) := rfl
theorem rangeOf1_int {n : Int} (h : n < 2 ^ 62) (h0 : -(2 ^ 62) ≤ n) : rangeOf1 (.int n) = .ok (rangeItems 0 n.toNat) := by
  show (if -(2 ^ 62) ≤ n ∧ n < 2 ^ 62 then _ else _) = _
  rw [if_pos ⟨h0, h⟩]
theorem rangeOf2_int {i j : Int} (h1 : -(2 ^ 62) ≤ i) (h2 : i < 2 ^ 62) (h3 : -(2 ^ 62) ≤ j) (h4 : j < 2 ^ 62) : rangeOf2 (.int i) (.int j) = .ok (rangeItems i (j - i).toNat) := by
  show (if -(2 ^ 62) ≤ i ∧ i < 2 ^ 62 ∧ -(2 ^ 62) ≤ j ∧ j < 2 ^ 62 then _ else _) = _
  rw [if_pos ⟨h1, h2, h3, h4⟩]
/-! loops and comprehensions by lists -/
/-- a comprehension without tests whose items are all told -/
theorem comp_map {bd : Bd} {e : DE P} {δ : DEnv} : ∀ (ds : List P) (f : P → P), (∀ d ∈ ds, ∃ δ1, bd d δ = .ok δ1 ∧ e δ1 = .ok (f d)) → compGo bd cYes e δ ds = .ok (ds.map f)
  | [], _, _ => rfl
  | d :: ds, f, h => by
    obtain ⟨δ1, h1, h2⟩ := h d List.mem_cons_self
    have ih := comp_map ds f fun x hx => h x (List.mem_cons_of_mem _ hx)
    show (bd d δ).mute.bind _ = _
    rw [h1]
    show (e δ1).mute.bind _ = _
    rw [h2]
    show (compGo bd cYes e δ ds).bind _ = _
    rw [ih]
    rfl
theorem comp_filter {bd : Bd} {c : DE Bool} {e : DE P} {δ : DEnv} : ∀ (ds : List P) (p : P → Bool) (f : P → P), (∀ d ∈ ds, ∃ δ1, bd d δ = .ok δ1 ∧ c δ1 = .ok (p d) ∧ (p d = true → e δ1 = .ok (f d))) → compGo bd c e δ ds = .ok ((ds.filter p).map f)
  | [], _, _, _ => rfl
  | d :: ds, p, f, h => by
    obtain ⟨δ1, h1, h2, h3⟩ := h d List.mem_cons_self
    have ih := comp_filter ds p f fun x hx => h x (List.mem_cons_of_mem _ hx)
    show (bd d δ).mute.bind _ = _
    rw [h1]
    show (c δ1).mute.bind _ = _
    rw [h2]
    cases q : p d with
    | true =>
      show (e δ1).mute.bind _ = _
      rw [h3 q]
      show (compGo bd c e δ ds).bind _ = _
      rw [ih, List.filter_cons_of_pos q]
      rfl
    | false =>
      show compGo bd c e δ ds = _
      rw [ih, List.filter_cons_of_neg (by rw [q]; exact Bool.false_ne_true)]
theorem forGo_nil {bd : Bd} {g : DEnv → SRes} {δ : DEnv} : forGo bd g [] δ = .nx δ := rfl
/-- a for whose turns all go on: the state by the items gone through -/
theorem for_inv {bd : Bd} {g : DEnv → SRes} (ds : List P) (S : Nat → DEnv) (h : ∀ i d, ds[i]? = some d → ∃ δ1, bd d (S i) = .ok δ1 ∧ g δ1 = .nx (S (i + 1))) : forGo bd g ds (S 0) = .nx (S ds.length) := by
  have go : ∀ (k : Nat), k ≤ ds.length → forGo bd g (ds.drop (ds.length - k)) (S (ds.length - k)) = .nx (S ds.length) := by
    intro k
    induction k with
    | zero =>
      intro _
      rw [Nat.sub_zero, List.drop_length]
      rfl
    | succ k ih =>
      intro hk
      have hlt : ds.length - (k + 1) < ds.length := by omega
      rw [show _ from List.drop_eq_getElem_cons hlt]
      obtain ⟨δ1, h1, h2⟩ := h _ _ (List.getElem?_eq_getElem hlt)
      show (match bd _ _ with | .ok δ1 => _ | _ => _) = _
      rw [h1]
      show (match g δ1 with | .nx δ2 => _ | .cont δ2 => _ | .brk δ2 => _ | r => r) = _
      rw [h2]
      have e : ds.length - (k + 1) + 1 = ds.length - k := by omega
      rw [e]
      exact ih (by omega)
  have := go ds.length (Nat.le_refl _)
  rw [Nat.sub_self, List.drop_zero] at this
  exact this
/-- a while, by states -/
theorem while_inv {c : DE Bool} {g : DEnv → SRes} (m : Nat) (S : Nat → DEnv) (n : Nat) (hn : m < n) (h : ∀ i, i < m → c (S i) = .ok true ∧ g (S i) = .nx (S (i + 1))) (hm : c (S m) = .ok false) : whileGo c g n (S 0) = .nx (S m) := by
  have go : ∀ (k i q : Nat), i + k = m → k < q → whileGo c g q (S i) = .nx (S m) := by
    intro k
    induction k with
    | zero =>
      intro i q hi hq
      cases q with
      | zero => omega
      | succ q =>
        have e : i = m := by omega
        subst e
        show ofR _ (c (S i)) _ = _
        rw [hm]
        rfl
    | succ k ih =>
      intro i q hi hq
      cases q with
      | zero => omega
      | succ q =>
        obtain ⟨h1, h2⟩ := h i (by omega)
        show ofR _ (c (S i)) _ = _
        rw [h1]
        show (match g (S i) with | .nx δ2 => _ | .cont δ2 => _ | .brk δ2 => _ | r => r) = _
        rw [h2]
        exact ih (i + 1) q (by omega) (by omega)
  exact go m 0 n (by omega) hn
end Ey

set_option Elab.async false
set_option linter.all false
set_option maxRecDepth 100000
set_option maxHeartbeats 4000000
namespace Ey
open PySem DL
/-- it goes on, to J -/
def NxTo (J : DEnv → Prop) : SRes → Prop
  | .nx δ => J δ
  | .cont δ => J δ
  | _ => False
theorem NxTo_nx {J : DEnv → Prop} {δ : DEnv} : NxTo J (.nx δ) = J δ := rfl
theorem for_ind {bd : Bd} {g : DEnv → SRes} (ds : List P) (I : Nat → DEnv → Prop) {δ : DEnv} (h0 : I 0 δ) (h : ∀ i d δ, ds[i]? = some d → I i δ → ∃ δ1, bd d δ = .ok δ1 ∧ NxTo (I (i + 1)) (g δ1)) : ∃ δ', forGo bd g ds δ = .nx δ' ∧ I ds.length δ' := by
  have go : ∀ (k : Nat), k ≤ ds.length → ∀ δ, I (ds.length - k) δ → ∃ δ', forGo bd g (ds.drop (ds.length - k)) δ = .nx δ' ∧ I ds.length δ' := by
    intro k
    induction k with
    | zero =>
      intro _ δ hi
      rw [Nat.sub_zero, List.drop_length]
      exact ⟨δ, rfl, hi⟩
    | succ k ih =>
      intro hk δ hi
      have hlt : ds.length - (k + 1) < ds.length := by omega
      rw [show _ from List.drop_eq_getElem_cons hlt]
      obtain ⟨δ1, h1, h3⟩ := h _ _ δ (List.getElem?_eq_getElem hlt) hi
      have e : ds.length - (k + 1) + 1 = ds.length - k := by omega
      rw [e] at h3 ⊢
      unfold NxTo at h3
      split at h3
      · rename_i δ2 h2
        obtain ⟨δ', h4, h5⟩ := ih (by omega) δ2 h3
        refine ⟨δ', ?_, h5⟩
        show (match bd _ _ with | .ok δ1 => _ | _ => _) = _
        rw [h1]
        show (match g δ1 with | .nx δ2 => _ | .cont δ2 => _ | .brk δ2 => _ | r => r) = _
        rw [h2]
        exact h4
      · rename_i δ2 h2
        obtain ⟨δ', h4, h5⟩ := ih (by omega) δ2 h3
        refine ⟨δ', ?_, h5⟩
        show (match bd _ _ with | .ok δ1 => _ | _ => _) = _
        rw [h1]
        show (match g δ1 with | .nx δ2 => _ | .cont δ2 => _ | .brk δ2 => _ | r => r) = _
        rw [h2]
        exact h4
      · exact h3.elim
  have := go ds.length (Nat.le_refl _) δ (by rw [Nat.sub_self]; exact h0)
  rw [Nat.sub_self, List.drop_zero] at this
  exact this
theorem while_ind {c : DE Bool} {g : DEnv → SRes} (I : Nat → DEnv → Prop) (n m : Nat) (hm : m < n) {δ : DEnv} (h0 : I m δ) (h : ∀ k δ, I k δ → (c δ = .ok true ∧ NxTo (fun δ2 => ∃ j, j < k ∧ I j δ2) (g δ)) ∨ (c δ = .ok false)) : ∃ δ' k, whileGo c g n δ = .nx δ' ∧ I k δ' ∧ c δ' = .ok false := by
  have go : ∀ (n m : Nat), m < n → ∀ δ, I m δ → ∃ δ' k, whileGo c g n δ = .nx δ' ∧ I k δ' ∧ c δ' = .ok false := by
    intro n
    induction n with
    | zero => intro m hm; omega
    | succ n ih =>
      intro m hm δ hi
      rcases h m δ hi with ⟨h1, h2⟩ | h1
      · unfold NxTo at h2
        split at h2
        · rename_i δ2 e
          obtain ⟨j, h3, h4⟩ := h2
          obtain ⟨δ', k, h5, h6, h7⟩ := ih j (by omega) δ2 h4
          refine ⟨δ', k, ?_, h6, h7⟩
          show ofR _ (c δ) _ = _
          rw [h1]
          show (match g δ with | .nx δ2 => _ | .cont δ2 => _ | .brk δ2 => _ | r => r) = _
          rw [e]
          exact h5
        · rename_i δ2 e
          obtain ⟨j, h3, h4⟩ := h2
          obtain ⟨δ', k, h5, h6, h7⟩ := ih j (by omega) δ2 h4
          refine ⟨δ', k, ?_, h6, h7⟩
          show ofR _ (c δ) _ = _
          rw [h1]
          show (match g δ with | .nx δ2 => _ | .cont δ2 => _ | .brk δ2 => _ | r => r) = _
          rw [e]
          exact h5
        · exact h2.elim
      · refine ⟨δ, m, ?_, hi, h1⟩
        show ofR _ (c δ) _ = _
        rw [h1]
        rfl
  exact go n m hm δ h0
theorem for_ind' {bd : Bd} {g : DEnv → SRes} {ds : List P} {δ : DEnv} {r : SRes} (hF : forGo bd g ds δ = r) (I : Nat → DEnv → Prop) (h0 : I 0 δ) (h : ∀ i d δ, ds[i]? = some d → I i δ → ∃ δ1, bd d δ = .ok δ1 ∧ NxTo (I (i + 1)) (g δ1)) : ∃ δ', r = .nx δ' ∧ I ds.length δ' := by
  obtain ⟨δ', h1, h2⟩ := for_ind ds I h0 h
  exact ⟨δ', by rw [← hF, h1], h2⟩
theorem while_ind' {c : DE Bool} {g : DEnv → SRes} {n : Nat} {δ : DEnv} {r : SRes} (hF : whileGo c g n δ = r) (I : Nat → DEnv → Prop) (m : Nat) (hm : m < n) (h0 : I m δ) (h : ∀ k δ, I k δ → (c δ = .ok true ∧ NxTo (fun δ2 => ∃ j, j < k ∧ I j δ2) (g δ)) ∨ (c δ = .ok false)) : ∃ δ' k, r = .nx δ' ∧ I k δ' ∧ c δ' = .ok false := by
  obtain ⟨δ', k, h1, h2, h3⟩ := while_ind I n m hm h0 h
  exact ⟨δ', k, by rw [← hF, h1], h2, h3⟩
theorem while_inv' {c : DE Bool} {g : DEnv → SRes} {n : Nat} {δ : DEnv} {r : SRes} (hF : whileGo c g n δ = r) (m : Nat) (S : Nat → DEnv) (h0 : S 0 = δ) (hn : m < n) (h : ∀ i, i < m → c (S i) = .ok true ∧ g (S i) = .nx (S (i + 1))) (hm : c (S m) = .ok false) : r = .nx (S m) := by
  subst h0
  rw [← hF]
  exact while_inv m S n hn h hm
theorem for_inv' {bd : Bd} {g : DEnv → SRes} {ds : List P} {δ : DEnv} {r : SRes} (hF : forGo bd g ds δ = r) (S : Nat → DEnv) (h0 : S 0 = δ) (h : ∀ i d, ds[i]? = some d → ∃ δ1, bd d (S i) = .ok δ1 ∧ g δ1 = .nx (S (i + 1))) : r = .nx (S ds.length) := by
  subst h0
  rw [← hF]
  exact for_inv ds S h
theorem rangeItems_get {lo : Int} {n i : Nat} {d : P} (h : (rangeItems lo n)[i]? = some d) : d = .int (lo + (i : Nat)) ∧ i < n := by
  unfold rangeItems at h
  rw [List.getElem?_map] at h
  by_cases hi : i < n
  · rw [List.getElem?_range hi] at h
    cases h
    exact ⟨rfl, hi⟩
  · rw [List.getElem?_eq_none (by rw [List.length_range]; omega)] at h
    cases h
theorem rangeItems_mem {lo : Int} {n : Nat} {d : P} (h : d ∈ rangeItems lo n) : ∃ i : Nat, i < n ∧ d = .int (lo + (i : Nat)) := by
  unfold rangeItems at h
  obtain ⟨i, below, rfl⟩ := List.mem_map.mp h
  exact ⟨i, List.mem_range.mp below, rfl⟩
theorem enum_mem {xs : List P} {d : P} (h : d ∈ enumItems xs) : ∃ (i : Nat) (x : P), xs[i]? = some x ∧ d = .tuple [.int (i : Nat), x] := by
  unfold enumItems at h
  obtain ⟨⟨x, i⟩, hi, rfl⟩ := List.mem_map.mp h
  refine ⟨i, x, ?_, rfl⟩
  have := List.mem_zipIdx hi
  obtain ⟨h1, h2, h3⟩ := this
  rw [h3]
  simp
/-! numbers of a clock -/
def InR (q : Int) (xs : List Int) : Prop := ∀ x ∈ xs, 0 ≤ x ∧ x < q
theorem InR.nil {q : Int} : InR q [] := fun _ h => by simp at h
theorem InR.app {q : Int} {xs ys : List Int} (h : InR q xs) (h2 : InR q ys) : InR q (xs ++ ys) := fun x hx => (List.mem_append.mp hx).elim (h x) (h2 x)
theorem InR.one {q x : Int} (h : 0 ≤ x ∧ x < q) : InR q [x] := fun y hy => by
  simp at hy
  subst hy
  exact h
theorem InR.take {q : Int} {xs : List Int} (h : InR q xs) (n : Nat) : InR q (xs.take n) := fun x hx => h x (List.mem_of_mem_take hx)
theorem InR.drop {q : Int} {xs : List Int} (h : InR q xs) (n : Nat) : InR q (xs.drop n) := fun x hx => h x (List.mem_of_mem_drop hx)
theorem InR.get {q : Int} {xs : List Int} (h : InR q xs) {i : Nat} {x : Int} (e : xs[i]? = some x) : 0 ≤ x ∧ x < q := h x (List.mem_of_getElem? e)
/-! slices -/
theorem cut_to {α : Type} {xs : List α} {n : Nat} : cut xs none (some (n : Int)) = xs.take n := by
  unfold cut
  rw [HT.sIx_none, HT.sIx_nat, List.drop_zero, Nat.sub_zero]
  by_cases h : n ≤ xs.length
  · rw [Nat.min_eq_left h]
  · rw [Nat.min_eq_right (by omega), List.take_length, List.take_of_length_le (by omega)]
theorem cut_toI {α : Type} {xs : List α} {n : Int} (h : 0 ≤ n) : cut xs none (some n) = xs.take n.toNat := by
  obtain ⟨k, rfl⟩ := Int.eq_ofNat_of_zero_le h
  rw [cut_to, Int.toNat_natCast]
theorem cut_from {α : Type} {xs : List α} {n : Int} (h : 0 ≤ n) : cut xs (some n) none = xs.drop n.toNat := by
  obtain ⟨k, rfl⟩ := Int.eq_ofNat_of_zero_le h
  unfold cut
  rw [HT.sIx_none, HT.sIx_nat, Int.toNat_natCast]
  by_cases h : k ≤ xs.length
  · rw [Nat.min_eq_left h, List.take_of_length_le (by rw [List.length_drop]; omega)]
  · rw [Nat.min_eq_right (by omega), List.drop_length, Nat.sub_self, List.take_zero, List.drop_of_length_le (by omega)]
theorem atI_nn {α : Type} {xs : List α} {i : Int} (h : 0 ≤ i) (h2 : i < xs.length) : L2.atI xs i = xs[i.toNat]? := by
  unfold L2.atI L2.ixN
  rw [if_pos h, if_pos h2]
  rfl
/-- xs[-1 - i] -/
theorem atI_back {α : Type} {xs : List α} {i : Nat} (h : i < xs.length) : L2.atI xs (-1 - (i : Int)) = xs[xs.length - 1 - i]? := by
  unfold L2.atI L2.ixN
  rw [if_neg (by omega), if_pos (by omega)]
  show xs[((-1 - (i : Int)) + (xs.length : Nat)).toNat]? = _
  congr 1
  omega
theorem atI_last {α : Type} {xs : List α} (h : 0 < xs.length) : L2.atI xs (-1) = xs[xs.length - 1]? := by
  have := atI_back (xs := xs) (i := 0) h
  simpa using this
end Ey

set_option Elab.async false
set_option linter.all false
set_option maxRecDepth 100000
set_option maxHeartbeats 4000000
namespace Ey
open PySem DL
theorem comp_gen {α : Type} {bd : Bd} {e : DE P} {δ : DEnv} (l : List α) (enc : α → P) (out : α → P) (h : ∀ a ∈ l, ∃ δ1, bd (enc a) δ = .ok δ1 ∧ e δ1 = .ok (out a)) : compGo bd cYes e δ (l.map enc) = .ok (l.map out) := by
  induction l with
  | nil => rfl
  | cons a l ih =>
    obtain ⟨δ1, h1, h2⟩ := h a List.mem_cons_self
    have ih := ih fun x hx => h x (List.mem_cons_of_mem _ hx)
    show (bd (enc a) δ).mute.bind _ = _
    rw [h1]
    show (e δ1).mute.bind _ = _
    rw [h2]
    show (compGo bd cYes e δ (l.map enc)).bind _ = _
    rw [ih]
    rfl
theorem comp_genF {α : Type} {bd : Bd} {c : DE Bool} {e : DE P} {δ : DEnv} (l : List α) (enc : α → P) (p : α → Bool) (out : α → P) (h : ∀ a ∈ l, ∃ δ1, bd (enc a) δ = .ok δ1 ∧ c δ1 = .ok (p a) ∧ (p a = true → e δ1 = .ok (out a))) : compGo bd c e δ (l.map enc) = .ok ((l.filter p).map out) := by
  induction l with
  | nil => rfl
  | cons a l ih =>
    obtain ⟨δ1, h1, h2, h3⟩ := h a List.mem_cons_self
    have ih := ih fun x hx => h x (List.mem_cons_of_mem _ hx)
    show (bd (enc a) δ).mute.bind _ = _
    rw [h1]
    show (c δ1).mute.bind _ = _
    rw [h2]
    cases q : p a with
    | true =>
      show (e δ1).mute.bind _ = _
      rw [h3 q]
      show (compGo bd c e δ (l.map enc)).bind _ = _
      rw [ih, List.filter_cons_of_pos q]
      rfl
    | false =>
      show compGo bd c e δ (l.map enc) = _
      rw [ih, List.filter_cons_of_neg (by rw [q]; exact Bool.false_ne_true)]
theorem comp_int {α : Type} {bd : Bd} {e : DE P} {δ : DEnv} (l : List α) (enc : α → P) (F : α → Int) (h : ∀ a ∈ l, ∃ δ1, bd (enc a) δ = .ok δ1 ∧ e δ1 = .ok (.int (F a))) : compGo bd cYes e δ (l.map enc) = .ok ((l.map F).map PyData.int) := by
  rw [comp_gen l enc (fun a => .int (F a)) h, List.map_map]
  rfl
theorem comp_bool {α : Type} {bd : Bd} {e : DE P} {δ : DEnv} (l : List α) (enc : α → P) (F : α → Bool) (h : ∀ a ∈ l, ∃ δ1, bd (enc a) δ = .ok δ1 ∧ e δ1 = .ok (.bool (F a))) : compGo bd cYes e δ (l.map enc) = .ok ((l.map F).map PyData.bool) := by
  rw [comp_gen l enc (fun a => .bool (F a)) h, List.map_map]
  rfl
theorem comp_intF {α : Type} {bd : Bd} {c : DE Bool} {e : DE P} {δ : DEnv} (l : List α) (enc : α → P) (p : α → Bool) (F : α → Int) (h : ∀ a ∈ l, ∃ δ1, bd (enc a) δ = .ok δ1 ∧ c δ1 = .ok (p a) ∧ (p a = true → e δ1 = .ok (.int (F a)))) : compGo bd c e δ (l.map enc) = .ok (((l.filter p).map F).map PyData.int) := by
  rw [comp_genF l enc p (fun a => .int (F a)) h, List.map_map]
  rfl
theorem enum_ints (xs : List Int) : enumItems (xs.map PyData.int) = xs.zipIdx.map fun p => .tuple [.int (p.2 : Nat), .int p.1] := by
  unfold enumItems
  rw [List.zipIdx_map, List.map_map]
  rfl
theorem zip_ints (xs ys : List Int) : zipItems (xs.map PyData.int) (ys.map PyData.int) = (xs.zip ys).map fun p => .tuple [.int p.1, .int p.2] := by
  unfold zipItems
  rw [List.zip_map, List.map_map]
  rfl
theorem range_map (lo : Int) (n : Nat) : rangeItems lo n = (List.range n).map fun i => .int (lo + (i : Nat)) := rfl
theorem enumOf_tI {xs : List Int} : enumOf (tI xs) = .ok (xs.zipIdx.map fun p => .tuple [.int (p.2 : Nat), .int p.1]) := by
  show Res.ok (enumItems (xs.map PyData.int)) = _
  rw [enum_ints]
theorem zipOf_tI {xs ys : List Int} : zipOf (tI xs) (tI ys) = .ok ((xs.zip ys).map fun p => .tuple [.int p.1, .int p.2]) := by
  show Res.ok (zipItems (xs.map PyData.int) (ys.map PyData.int)) = _
  rw [zip_ints]
theorem zipOf_lI {xs ys : List Int} : zipOf (lI xs) (lI ys) = .ok ((xs.zip ys).map fun p => .tuple [.int p.1, .int p.2]) := by
  show Res.ok (zipItems (xs.map PyData.int) (ys.map PyData.int)) = _
  rw [zip_ints]
theorem lI_of {xs : List Int} : PyData.list (xs.map PyData.int) = lI xs := rfl
theorem tI_of {xs : List Int} : PyData.tuple (xs.map PyData.int) = tI xs := rfl
/-- the loop of a comprehension inside its guard -/
theorem comp_in {ds : List P} {r : Res (List P)} {ys : List P} (hz : ds.length ≤ 100000) (h : r = .ok ys) : (if ds.length ≤ lim then r.mute else .stuck) = .ok ys := by
  rw [if_pos (Nat.le_trans hz (by decide)), h]
  rfl
def storeTo (ds : List P) (k d : P) (c : List P → SRes) : SRes := match k with
  | .int k => (match L2.ixN ds.length k with
    | some j => c (ds.set j d)
    | none => .stuck)
  | _ => .stuck
theorem storeTo_ok {ds : List P} {k : Int} {j : Nat} {d : P} {c : List P → SRes} (h : L2.ixN ds.length k = some j) : storeTo ds (.int k) d c = c (ds.set j d) := by
  show (match L2.ixN ds.length k with
    | some j => c (ds.set j d)
    | none => SRes.stuck) = _
  rw [h]
def lastTo (ds : List P) (c : P → SRes) : SRes := match ds.getLast? with
  | some d => c d
  | none => .stuck
theorem lastTo_ok {ds : List P} {d : P} {c : P → SRes} (h : ds.getLast? = some d) : lastTo ds c = c d := by
  unfold lastTo
  rw [h]
theorem pAll_bools {bs : List Bool} : pAll (.list (bs.map PyData.bool)) = .ok (.bool (bs.all id)) := by
  show (match dBools (bs.map PyData.bool) with | some ns => Res.ok (PyData.bool (ns.all id)) | none => Res.stuck) = _
  rw [bools_map]
/-- the list at a name -/
def ownAt (i : Nat) (δ : DEnv) : Option (List P) := match δ[i]? with
  | some (.own ds) => some ds
  | _ => none
theorem ownAt_zero {ds : List P} {δ : DEnv} : ownAt 0 (.own ds :: δ) = some ds := rfl
theorem ownAt_succ {s : Slot} {δ : DEnv} {n : Nat} : ownAt (n + 1) (s :: δ) = ownAt n δ := by
  unfold ownAt
  rw [List.getElem?_cons_succ]
def ownTo (o : Option (List P)) (k : List P → SRes) : SRes := match o with
  | some ds => k ds
  | none => .stuck
theorem ownTo_some {ds : List P} {k : List P → SRes} : ownTo (some ds) k = k ds := rfl
theorem own_match {δ : DEnv} {i : Nat} {k : List P → SRes} : (match δ[i]? with | some (.own ds) => k ds | _ => .stuck) = ownTo (ownAt i δ) k := by
  unfold ownAt ownTo
  split <;> rfl
theorem sApp_ap {i : Nat} {f : DE P} {δ : DEnv} : sApp i f δ = ownTo (ownAt i δ) fun ds => ofR δ (f δ) fun d => if ds.length < lim then .nx (δ.set i (.own (ds ++ [d]))) else .stuck := own_match
theorem sStore_ap {i : Nat} {fi f : DE P} {δ : DEnv} : sStore i fi f δ = ofR δ (f δ) fun d => ownTo (ownAt i δ) fun ds => ofR δ (fi δ) fun k => storeTo ds k d fun es => .nx (δ.set i (.own es)) := by
  unfold sStore
  congr 1
  funext d
  rw [← own_match]
  rfl
theorem sPop_ap {j i : Nat} {δ : DEnv} : sPop j i δ = ownTo (ownAt i δ) fun ds => lastTo ds fun d => .nx ((δ.set i (.own ds.dropLast)).set j (.val d)) := by
  unfold sPop
  rw [← own_match]
  rfl
theorem sMove_ap {j i : Nat} {δ : DEnv} (h : i ≠ j) : sMove j i δ = ownTo (ownAt i δ) fun ds => .nx ((δ.set i .un).set j (.own ds)) := by
  unfold sMove ownAt ownTo
  cases e : δ[i]? with
  | none => rfl
  | some s =>
    cases s with
    | own ds => exact if_neg h
    | _ => rfl
theorem frz_zero {ds : List P} {δ : DEnv} : frzD 0 (.own ds :: δ) = .val (.list ds) :: δ := rfl
theorem frz_succ {s : Slot} {δ : DEnv} {n : Nat} : frzD (n + 1) (s :: δ) = s :: frzD n δ := by
  unfold frzD
  rw [List.getElem?_cons_succ]
  cases e : δ[n]? with
  | none => rfl
  | some s =>
    cases s <;> rfl
theorem sFrz_ap {i : Nat} {g : DEnv → SRes} {δ : DEnv} : sFrz i g δ = g (frzD i δ) := rfl
/-! ### a rule's next number -/
/-- c0 x0 + c1 x1 + .. -/
def dot (cs : List Int) (xs : List Int) : Int := match cs, xs with
  | c :: cs, x :: xs => c * x + dot cs xs
  | _, _ => 0
theorem dot_nil (xs : List Int) : dot [] xs = 0 := by cases xs <;> rfl
theorem dot_nil_r (cs : List Int) : dot cs [] = 0 := by cases cs <;> rfl
theorem dot_sum : ∀ (cs xs : List Int) (k : Nat) (f : Nat → Int), cs.length ≤ xs.length → (∀ i x, xs[i]? = some x → f (k + i) = x) → ((cs.zipIdx k).map fun p => p.1 * f p.2).sum = dot cs xs
  | [], xs, _, _, _, _ => by rw [dot_nil]; rfl
  | c :: cs, [], _, _, h, _ => by simp at h
  | c :: cs, x :: xs, k, f, h, hf => by
    rw [List.zipIdx_cons, List.map_cons, List.sum_cons]
    rw [dot_sum cs xs (k + 1) f (by simpa using h) (fun i y hy => by
      have := hf (i + 1) y (by simpa using hy)
      rw [← this]
      congr 1
      omega)]
    show c * f k + _ = c * x + _
    rw [show f k = x from hf 0 x rfl]
def nextV (row rule : List Int) (q : Int) : Int := dot rule row.reverse % q
theorem nextV_range {row rule : List Int} {q : Int} (h : 0 < q) : 0 ≤ nextV row rule q ∧ nextV row rule q < q := ⟨Int.emod_nonneg _ (by omega), Int.emod_lt_of_pos _ h⟩
theorem next_sum (row rule : List Int) (h : rule.length ≤ row.length) : (rule.zipIdx.map fun p => p.1 * (row[row.length - 1 - p.2]?.getD 0)).sum = dot rule row.reverse := by
  refine dot_sum rule row.reverse 0 (fun i => row[row.length - 1 - i]?.getD 0) (by rw [List.length_reverse]; exact h) fun i x hx => ?_
  have hi := (List.getElem?_eq_some_iff.mp hx).1
  rw [List.length_reverse] at hi
  rw [List.getElem?_reverse hi] at hx
  rw [Nat.zero_add, hx]
  rfl
/-- a row gone on so far -/
def gone (rule : List Int) (q : Int) : Nat → List Int → List Int
  | 0, row => row
  | n + 1, row => gone rule q n (row ++ [nextV row rule q])
theorem gone_length (rule : List Int) (q : Int) : ∀ (n : Nat) (row : List Int), (gone rule q n row).length = row.length + n
  | 0, row => rfl
  | n + 1, row => by
    unfold gone
    rw [gone_length rule q n, List.length_append, List.length_singleton]
    omega
theorem gone_range {rule : List Int} {q : Int} (hq : 0 < q) : ∀ (n : Nat) (row : List Int), InR q row → InR q (gone rule q n row)
  | 0, row, h => h
  | n + 1, row, h => gone_range hq n _ (h.app (.one (nextV_range hq)))
theorem gone_succ (rule : List Int) (q : Int) : ∀ (n : Nat) (row : List Int), gone rule q (n + 1) row = gone rule q n row ++ [nextV (gone rule q n row) rule q]
  | 0, row => rfl
  | n + 1, row => by
    show gone rule q (n + 1) (row ++ [nextV row rule q]) = _
    rw [gone_succ rule q n]
    rfl
theorem gone_prefix (rule : List Int) (q : Int) : ∀ (n : Nat) (row : List Int), (gone rule q n row).take row.length = row
  | 0, row => by rw [show gone rule q 0 row = row from rfl, List.take_length]
  | n + 1, row => by
    have := gone_prefix rule q n (row ++ [nextV row rule q])
    rw [List.length_append, List.length_singleton] at this
    have e : (gone rule q (n + 1) row).take row.length = ((gone rule q (n + 1) row).take (row.length + 1)).take row.length := by
      rw [List.take_take, Nat.min_eq_left (by omega)]
    rw [e]
    show ((gone rule q n (row ++ [nextV row rule q])).take (row.length + 1)).take row.length = row
    rw [this, List.take_left']
    rfl
/-- a row goes by a rule -/
def goesB (row rule : List Int) (q : Int) : Bool := (List.range (row.length - rule.length)).all fun i => decide (row[rule.length + i]?.getD 0 = nextV (row.take (rule.length + i)) rule q)
end Ey

set_option Elab.async false
set_option linter.all false
set_option maxRecDepth 100000
set_option maxHeartbeats 4000000
namespace Ey
open PySem DL
theorem pIs_bool {a b : Bool} : pIs (.bool a) (.bool b) = .ok (.bool (decide (a = b))) := rfl
theorem pIsNot_bool {a b : Bool} : pIsNot (.bool a) (.bool b) = .ok (.bool (!decide (a = b))) := rfl
theorem cut_nn {α : Type} {xs : List α} {a b : Int} (h : 0 ≤ a) (h2 : 0 ≤ b) : cut xs (some a) (some b) = (xs.drop a.toNat).take (b.toNat - a.toNat) := by
  obtain ⟨m, rfl⟩ := Int.eq_ofNat_of_zero_le h
  obtain ⟨n, rfl⟩ := Int.eq_ofNat_of_zero_le h2
  unfold cut
  rw [HT.sIx_nat, HT.sIx_nat, Int.toNat_natCast, Int.toNat_natCast]
  by_cases hm : m ≤ xs.length
  · rw [Nat.min_eq_left hm]
    by_cases hn : n ≤ xs.length
    · rw [Nat.min_eq_left hn]
    · rw [Nat.min_eq_right (by omega), List.take_of_length_le (by rw [List.length_drop]; omega), List.take_of_length_le (by rw [List.length_drop]; omega)]
  · have e : min m xs.length = xs.length := Nat.min_eq_right (by omega)
    rw [e, List.drop_length, List.drop_of_length_le (by omega), List.take_nil, List.take_nil]
theorem rep_map {α β : Type} (f : α → β) (xs : List α) : ∀ n : Nat, (List.replicate n (xs.map f)).flatten = ((List.replicate n xs).flatten).map f
  | 0 => rfl
  | n + 1 => by simp only [List.replicate_succ, List.flatten_cons, List.map_append, rep_map f xs n]
theorem pRep_tI {xs : List Int} {k : Int} (h0 : xs ≠ []) (h1 : 2 ≤ k) (h2 : k ≤ 1000) (h3 : xs.length ≤ 1000) : pRep (tI xs) (.int k) = .ok (tI (List.replicate k.toNat xs).flatten) := by
  unfold tI pRep
  show (if _ then _ else _) = _
  rw [if_pos ⟨fun e => h0 (List.map_eq_nil_iff.mp e), h1, h2, by rw [List.length_map]; exact h3⟩, rep_map]
theorem pRepL_lI {xs : List Int} {k : Int} (h1 : k < 10000) (h2 : -10000 < k) (h3 : xs.length * k.toNat ≤ 100000) : pRepL (lI xs) (.int k) = .ok ((List.replicate k.toNat xs).flatten.map PyData.int) := by
  unfold lI pRepL
  show (if _ then _ else _) = _
  rw [if_pos ⟨h1, h2, by rw [List.length_map]; exact Nat.le_trans h3 (by decide)⟩, rep_map]
/-- a remainder as a natural number -/
theorem nat_mod (x : Int) {n : Int} (h : 0 < n) : ∃ a : Nat, x % n = (a : Int) ∧ (a : Int) < n := by
  have h0 := Int.emod_nonneg x (b := n) (by omega)
  have h1 := Int.emod_lt_of_pos x h
  generalize x % n = z at *
  exact ⟨z.toNat, by omega, by omega⟩
/-! ### alike but for a multiple of q -/
def Cg (q a b : Int) : Prop := a % q = b % q
theorem Cg.rfl {q a : Int} : Cg q a a := Eq.refl _
theorem Cg.of_eq {q a b : Int} (h : a = b) : Cg q a b := by rw [h]; exact Eq.refl _
theorem Cg.symm {q a b : Int} (h : Cg q a b) : Cg q b a := Eq.symm h
theorem Cg.trans {q a b c : Int} (h : Cg q a b) (h2 : Cg q b c) : Cg q a c := Eq.trans h h2
theorem Cg.mod {q a : Int} : Cg q (a % q) a := Int.emod_emod a q
theorem Cg.add {q a b c d : Int} (h : Cg q a b) (h2 : Cg q c d) : Cg q (a + c) (b + d) := by
  unfold Cg at *
  rw [Int.add_emod, h, h2, ← Int.add_emod]
theorem Cg.mul {q a b c d : Int} (h : Cg q a b) (h2 : Cg q c d) : Cg q (a * c) (b * d) := by
  unfold Cg at *
  rw [Int.mul_emod, h, h2, ← Int.mul_emod]
theorem Cg.neg {q a b : Int} (h : Cg q a b) : Cg q (-a) (-b) := by
  have := Cg.mul (q := q) (a := -1) (b := -1) .rfl h
  simpa using this
theorem Cg.sub {q a b c d : Int} (h : Cg q a b) (h2 : Cg q c d) : Cg q (a - c) (b - d) := by
  rw [Int.sub_eq_add_neg, Int.sub_eq_add_neg]
  exact h.add h2.neg
theorem Cg.eq {q a b : Int} (h : Cg q a b) (ha : 0 ≤ a ∧ a < q) (hb : 0 ≤ b ∧ b < q) : a = b := by
  unfold Cg at h
  rwa [Int.emod_eq_of_lt ha.1 ha.2, Int.emod_eq_of_lt hb.1 hb.2] at h
theorem emod_in {q : Int} (a : Int) (hq : 0 < q) : 0 ≤ a % q ∧ a % q < q := ⟨Int.emod_nonneg _ (by omega), Int.emod_lt_of_pos _ hq⟩
theorem emod_self_in {q a : Int} (h : 0 ≤ a ∧ a < q) : a % q = a := Int.emod_eq_of_lt h.1 h.2

/-! ### rows as functions -/
def at0 (xs : List Int) (i : Nat) : Int := xs[i]?.getD 0
theorem at0_lt {xs : List Int} {i : Nat} (h : i < xs.length) : at0 xs i = xs[i] := by
  unfold at0
  rw [List.getElem?_eq_getElem h]
  rfl
theorem at0_ge {xs : List Int} {i : Nat} (h : xs.length ≤ i) : at0 xs i = 0 := by
  unfold at0
  rw [List.getElem?_eq_none h]
  rfl
theorem at0_some {xs : List Int} {i : Nat} (h : i < xs.length) : xs[i]? = some (at0 xs i) := by
  rw [at0_lt h]
  exact List.getElem?_eq_getElem h
theorem at0_ext {xs ys : List Int} (h : xs.length = ys.length) (h2 : ∀ i, i < xs.length → at0 xs i = at0 ys i) : xs = ys := by
  refine List.ext_getElem h fun i h3 h4 => ?_
  have := h2 i h3
  rwa [at0_lt h3, at0_lt h4] at this
theorem at0_app_l {xs ys : List Int} {i : Nat} (h : i < xs.length) : at0 (xs ++ ys) i = at0 xs i := by
  unfold at0
  rw [List.getElem?_append_left h]
theorem at0_app_r {xs ys : List Int} {i : Nat} (h : xs.length ≤ i) : at0 (xs ++ ys) i = at0 ys (i - xs.length) := by
  unfold at0
  rw [List.getElem?_append_right h]
theorem at0_take {xs : List Int} {i n : Nat} (h : i < n) : at0 (xs.take n) i = at0 xs i := by
  unfold at0
  rw [List.getElem?_take_of_lt h]
theorem at0_drop {xs : List Int} {i n : Nat} : at0 (xs.drop n) i = at0 xs (n + i) := by
  unfold at0
  rw [List.getElem?_drop]
theorem at0_map {xs : List Int} {f : Int → Int} {i : Nat} (h : i < xs.length) : at0 (xs.map f) i = f (at0 xs i) := by
  unfold at0
  rw [List.getElem?_map, List.getElem?_eq_getElem h]
  rfl
theorem at0_range {f : Nat → Int} {n i : Nat} (h : i < n) : at0 ((List.range n).map f) i = f i := by
  unfold at0
  rw [List.getElem?_map, List.getElem?_range h]
  rfl
theorem at0_in {q : Int} {xs : List Int} (h : InR q xs) (hq : 0 < q) (i : Nat) : 0 ≤ at0 xs i ∧ at0 xs i < q := by
  by_cases hi : i < xs.length
  · rw [at0_lt hi]
    exact h _ (List.getElem_mem hi)
  · rw [at0_ge (by omega)]
    omega
theorem at0_last {xs : List Int} {x : Int} : at0 (xs ++ [x]) xs.length = x := by
  rw [at0_app_r (Nat.le_refl _), Nat.sub_self]
  rfl
theorem at0_nil {i : Nat} : at0 [] i = 0 := by
  unfold at0
  simp
theorem at0_cons_zero {x : Int} {xs : List Int} : at0 (x :: xs) 0 = x := rfl
theorem at0_cons_succ {x : Int} {xs : List Int} {i : Nat} : at0 (x :: xs) (i + 1) = at0 xs i := by
  unfold at0
  simp

/-! ### what a rule tells -/
def lin : List Int → (Nat → Int) → Nat → Int
  | [], _, _ => 0
  | c :: cs, f, n => c * f (n - 1) + lin cs f (n - 1)
theorem lin_congr {f g : Nat → Int} : ∀ (c : List Int) (n : Nat), c.length ≤ n → (∀ j, n ≤ j + c.length → j < n → f j = g j) → lin c f n = lin c g n
  | [], _, _, _ => rfl
  | c :: cs, n, h, e => by
    rw [List.length_cons] at h e
    unfold lin
    rw [e (n - 1) (by omega) (by omega), lin_congr cs (n - 1) (by omega) fun j h1 h2 => e j (by omega) (by omega)]
theorem lin_app {f : Nat → Int} : ∀ (a b : List Int) (n : Nat), lin (a ++ b) f n = lin a f n + lin b f (n - a.length)
  | [], b, n => by
    show lin b f n = 0 + lin b f (n - 0)
    rw [Int.zero_add, Nat.sub_zero]
  | x :: a, b, n => by
    show x * f (n - 1) + lin (a ++ b) f (n - 1) = x * f (n - 1) + lin a f (n - 1) + lin b f (n - (a.length + 1))
    rw [lin_app a b (n - 1), show n - 1 - a.length = n - (a.length + 1) by omega]
    omega
theorem lin_shift {f : Nat → Int} (s : Nat) : ∀ (c : List Int) (n : Nat), c.length ≤ n → lin c (fun j => f (s + j)) n = lin c f (s + n)
  | [], _, _ => rfl
  | c :: cs, n, h => by
    rw [List.length_cons] at h
    unfold lin
    show c * f (s + (n - 1)) + _ = _
    rw [lin_shift s cs (n - 1) (by omega), show s + (n - 1) = s + n - 1 by omega]
theorem lin_add {f g : Nat → Int} : ∀ (c : List Int) (n : Nat), lin c (fun j => f j + g j) n = lin c f n + lin c g n
  | [], _ => rfl
  | c :: cs, n => by
    unfold lin
    rw [lin_add cs (n - 1), Int.mul_add]
    omega
theorem lin_mul {f : Nat → Int} (k : Int) : ∀ (c : List Int) (n : Nat), lin c (fun j => k * f j) n = k * lin c f n
  | [], _ => by
    unfold lin
    omega
  | c :: cs, n => by
    unfold lin
    rw [lin_mul k cs (n - 1), Int.mul_add, Int.mul_left_comm]
theorem lin_cg {q : Int} {f g : Nat → Int} : ∀ (c : List Int) (n : Nat), c.length ≤ n → (∀ j, n ≤ j + c.length → j < n → Cg q (f j) (g j)) → Cg q (lin c f n) (lin c g n)
  | [], _, _, _ => .rfl
  | c :: cs, n, h, e => by
    rw [List.length_cons] at h e
    unfold lin
    exact (Cg.mul .rfl (e (n - 1) (by omega) (by omega))).add (lin_cg cs (n - 1) (by omega) fun j h1 h2 => e j (by omega) (by omega))
theorem lin_zero : ∀ (c : List Int) (n : Nat), lin c (fun _ => 0) n = 0
  | [], _ => rfl
  | c :: cs, n => by
    unfold lin
    rw [lin_zero cs (n - 1), Int.mul_zero]
    rfl
theorem dot_take (row : List Int) : ∀ (rule : List Int) (n : Nat), rule.length ≤ n → n ≤ row.length → dot rule (row.take n).reverse = lin rule (at0 row) n
  | [], _, _, _ => dot_nil _
  | c :: cs, n, h, h2 => by
    rw [List.length_cons] at h
    obtain ⟨m, rfl⟩ : ∃ m, n = m + 1 := ⟨n - 1, by omega⟩
    have hm : m < row.length := by omega
    rw [List.take_succ_eq_append_getElem hm, List.reverse_append]
    show c * row[m] + dot cs (row.take m).reverse = c * at0 row m + lin cs (at0 row) m
    rw [dot_take row cs m (by omega) (by omega), at0_lt hm]
theorem nextV_take {row rule : List Int} {q : Int} {n : Nat} (h : rule.length ≤ n) (h2 : n ≤ row.length) : nextV (row.take n) rule q = lin rule (at0 row) n % q := by
  unfold nextV
  rw [dot_take row rule n h h2]
theorem nextV_all {row rule : List Int} {q : Int} (h : rule.length ≤ row.length) : nextV row rule q = lin rule (at0 row) row.length % q := by
  have := nextV_take (q := q) h (Nat.le_refl _)
  rwa [List.take_length] at this
/-- so far as n it goes by the rule -/
def Goes (rule : List Int) (q : Int) (f : Nat → Int) (n : Nat) : Prop := ∀ i, rule.length ≤ i → i < n → f i = lin rule f i % q
theorem goesB_iff {row rule : List Int} {q : Int} : goesB row rule q = true ↔ Goes rule q (at0 row) row.length := by
  unfold goesB Goes
  rw [List.all_eq_true]
  constructor
  · intro h i h1 h2
    have := h (i - rule.length) (List.mem_range.mpr (by omega))
    rw [decide_eq_true_iff, show rule.length + (i - rule.length) = i by omega, nextV_take h1 (by omega)] at this
    exact this
  · intro h i hi
    have hi := List.mem_range.mp hi
    rw [decide_eq_true_iff, nextV_take (by omega) (by omega)]
    exact h _ (by omega) (by omega)
theorem gone_add (rule : List Int) (q : Int) (b : Nat) : ∀ (a : Nat) (row : List Int), gone rule q (a + b) row = gone rule q b (gone rule q a row)
  | 0, row => by
    rw [Nat.zero_add]
    rfl
  | a + 1, row => by
    rw [show a + 1 + b = (a + b) + 1 by omega]
    show gone rule q (a + b) _ = gone rule q b (gone rule q a _)
    exact gone_add rule q b a _
theorem gone_at_l {rule : List Int} {q : Int} {n : Nat} {row : List Int} {i : Nat} (h : i < row.length) : at0 (gone rule q n row) i = at0 row i := by
  have := gone_prefix rule q n row
  rw [← at0_take (xs := gone rule q n row) h, this]
theorem gone_at_r {rule : List Int} {q : Int} : ∀ (n : Nat) (row : List Int), rule.length ≤ row.length → ∀ i, row.length ≤ i → i < row.length + n → at0 (gone rule q n row) i = lin rule (at0 (gone rule q n row)) i % q
  | 0, row, h, i, h1, h2 => by omega
  | n + 1, row, h, i, h1, h2 => by
    rw [gone_succ]
    have hl := gone_length rule q n row
    have lc : ∀ k, rule.length ≤ k → k ≤ row.length + n → lin rule (at0 (gone rule q n row ++ [nextV (gone rule q n row) rule q])) k = lin rule (at0 (gone rule q n row)) k := fun k hk1 hk2 =>
      lin_congr rule k hk1 fun j _ hj => at0_app_l (by omega)
    by_cases e : i = row.length + n
    · subst e
      rw [lc _ (by omega) (by omega), ← hl, at0_last, nextV_all (by omega)]
    · rw [lc _ (by omega) (by omega), at0_app_l (by omega)]
      exact gone_at_r n row h i h1 (by omega)
theorem gone_goes {rule : List Int} {q : Int} {n : Nat} {row : List Int} (h : row.length = rule.length) : Goes rule q (at0 (gone rule q n row)) (row.length + n) := fun i h1 h2 =>
  gone_at_r n row (by omega) i (by omega) h2
theorem goes_gone {rule : List Int} {q : Int} {n : Nat} {row : List Int} (h : rule.length ≤ row.length) (g : Goes rule q (at0 row) row.length) : Goes rule q (at0 (gone rule q n row)) (row.length + n) := fun i h1 h2 => by
  by_cases hi : i < row.length
  · rw [gone_at_l hi, g i h1 hi]
    congr 1
    exact lin_congr rule i h1 fun j _ hj => (gone_at_l (by omega)).symm
  · exact gone_at_r n row h i (by omega) h2
/-- only one row goes on so -/
theorem goes_same {rule : List Int} {q : Int} {f g : Nat → Int} {m n : Nat} (hm : rule.length ≤ m) (h : ∀ i, i < m → f i = g i) (hf : ∀ i, m ≤ i → i < n → f i = lin rule f i % q) (hg : ∀ i, m ≤ i → i < n → g i = lin rule g i % q) : ∀ i, i < n → f i = g i := by
  intro i
  induction i using Nat.strongRecOn with
  | _ i ih =>
    intro hi
    by_cases hlt : i < m
    · exact h i hlt
    · rw [hf i (by omega) hi, hg i (by omega) hi]
      congr 1
      exact lin_congr rule i (by omega) fun j _ hj => ih j hj (by omega)
theorem gone_eq {rule : List Int} {q : Int} {n : Nat} {row ys : List Int} (h : rule.length ≤ row.length) (hl : ys.length = row.length + n) (h1 : ∀ i, i < row.length → at0 ys i = at0 row i) (h2 : ∀ i, row.length ≤ i → i < ys.length → at0 ys i = lin rule (at0 ys) i % q) : gone rule q n row = ys := by
  refine at0_ext (by rw [gone_length]; omega) fun i hi => ?_
  rw [gone_length] at hi
  exact goes_same (rule := rule) (q := q) (m := row.length) (n := row.length + n) h (fun i hi => by rw [gone_at_l hi, h1 i hi]) (fun i ha hb => gone_at_r n row h i ha hb) (fun i ha hb => h2 i ha (by omega)) i hi
theorem Goes.up {rule : List Int} {q : Int} {f : Nat → Int} {n m : Nat} (h : Goes rule q f n) (hm : m ≤ n) : Goes rule q f m := fun i h1 h2 => h i h1 (by omega)
theorem Goes.congr {rule : List Int} {q : Int} {f g : Nat → Int} {n : Nat} (h : Goes rule q f n) (e : ∀ i, i < n → f i = g i) : Goes rule q g n := fun i h1 h2 => by
  rw [← e i h2, h i h1 h2]
  congr 1
  exact lin_congr rule i h1 fun j _ hj => e j (by omega)
theorem Goes.shift {rule : List Int} {q : Int} {f : Nat → Int} {n : Nat} (h : Goes rule q f n) (s m : Nat) (hm : s + m ≤ n) : Goes rule q (fun j => f (s + j)) m := fun i h1 h2 => by
  show f (s + i) = _
  rw [h (s + i) (by omega) (by omega), lin_shift s rule i h1]
theorem Goes.add {rule : List Int} {q : Int} {f g : Nat → Int} {n : Nat} (h : Goes rule q f n) (h2 : Goes rule q g n) : Goes rule q (fun j => (f j + g j) % q) n := fun i h1 h3 => by
  show (f i + g i) % q = _
  have e : Cg q (lin rule (fun j => (f j + g j) % q) i) (lin rule f i + lin rule g i) := by
    rw [← lin_add]
    exact lin_cg rule i h1 fun j _ _ => .mod
  refine Eq.trans ?_ e.symm
  rw [h i h1 h3, h2 i h1 h3]
  exact Cg.add .mod .mod
theorem Goes.mul {rule : List Int} {q : Int} {f : Nat → Int} {n : Nat} (h : Goes rule q f n) (k : Int) : Goes rule q (fun j => k * f j % q) n := fun i h1 h3 => by
  show k * f i % q = _
  have e : Cg q (lin rule (fun j => k * f j % q) i) (k * lin rule f i) := by
    rw [← lin_mul]
    exact lin_cg rule i h1 fun j _ _ => .mod
  refine Eq.trans ?_ e.symm
  rw [h i h1 h3]
  exact Cg.mul .rfl .mod
theorem Goes.nought {rule : List Int} {q : Int} {f : Nat → Int} {n : Nat} (h : Goes rule q f n) : Goes (rule ++ [0]) q f n := fun i h1 h3 => by
  rw [List.length_append, List.length_singleton] at h1
  rw [h i (by omega) h3, lin_app]
  congr 1
  show _ = _ + (0 * _ + 0)
  omega
end Ey

set_option Elab.async false
set_option linter.all false
set_option maxRecDepth 100000
set_option maxHeartbeats 4000000
namespace Ey
open PySem DL
/-! ### sums -/
def sm : Nat → (Nat → Int) → Int
  | 0, _ => 0
  | n + 1, f => sm n f + f n
theorem sm_congr {f g : Nat → Int} : ∀ (n : Nat), (∀ i, i < n → f i = g i) → sm n f = sm n g
  | 0, _ => rfl
  | n + 1, h => by
    unfold sm
    rw [sm_congr n fun i hi => h i (by omega), h n (by omega)]
theorem sm_zero : ∀ (n : Nat), sm n (fun _ => 0) = 0
  | 0 => rfl
  | n + 1 => by
    unfold sm
    rw [sm_zero n]
    rfl
theorem sm_nought {f : Nat → Int} (n : Nat) (h : ∀ i, i < n → f i = 0) : sm n f = 0 := by
  rw [sm_congr n h, sm_zero]
theorem sm_add {f g : Nat → Int} : ∀ (n : Nat), sm n (fun i => f i + g i) = sm n f + sm n g
  | 0 => rfl
  | n + 1 => by
    show sm n (fun i => f i + g i) + (f n + g n) = sm n f + f n + (sm n g + g n)
    rw [sm_add n]
    omega
theorem sm_mul {f : Nat → Int} (k : Int) : ∀ (n : Nat), sm n (fun i => k * f i) = k * sm n f
  | 0 => by
    unfold sm
    omega
  | n + 1 => by
    unfold sm
    rw [sm_mul k n, Int.mul_add]
theorem sm_mul_r {f : Nat → Int} (k : Int) (n : Nat) : sm n (fun i => f i * k) = sm n f * k := by
  rw [Int.mul_comm, ← sm_mul]
  exact sm_congr n fun i _ => Int.mul_comm _ _
theorem sm_neg {f : Nat → Int} (n : Nat) : sm n (fun i => - f i) = - sm n f := by
  have := sm_mul (f := f) (-1) n
  rw [show -sm n f = -1 * sm n f by omega, ← this]
  exact sm_congr n fun i _ => by omega
theorem sm_front {f : Nat → Int} : ∀ (n : Nat), sm (n + 1) f = f 0 + sm n (fun i => f (i + 1))
  | 0 => by
    show 0 + f 0 = f 0 + 0
    omega
  | n + 1 => by
    show sm (n + 1) f + f (n + 1) = f 0 + (sm n (fun i => f (i + 1)) + f (n + 1))
    rw [sm_front n]
    omega
theorem sm_split {f : Nat → Int} (m : Nat) : ∀ (n : Nat), sm (m + n) f = sm m f + sm n (fun i => f (m + i))
  | 0 => by
    show sm m f = sm m f + 0
    omega
  | n + 1 => by
    show sm (m + n) f + f (m + n) = sm m f + (sm n _ + f (m + n))
    rw [sm_split m n]
    omega
theorem sm_more {f : Nat → Int} {m n : Nat} (h : m ≤ n) (h2 : ∀ i, m ≤ i → i < n → f i = 0) : sm n f = sm m f := by
  obtain ⟨d, rfl⟩ : ∃ d, n = m + d := ⟨n - m, by omega⟩
  rw [sm_split, sm_nought d fun i hi => h2 (m + i) (by omega) (by omega)]
  omega
theorem sm_turn {f : Nat → Int} : ∀ (n : Nat), sm n (fun i => f (n - 1 - i)) = sm n f
  | 0 => rfl
  | n + 1 => by
    rw [sm_front]
    show f (n + 1 - 1 - 0) + _ = sm n f + f n
    rw [show n + 1 - 1 - 0 = n by omega, sm_congr (g := fun i => f (n - 1 - i)) n fun i hi => by rw [show n + 1 - 1 - (i + 1) = n - 1 - i by omega], sm_turn n]
    omega
theorem sm_one {f : Nat → Int} {n k : Nat} (h : k < n) (h2 : ∀ i, i < n → i ≠ k → f i = 0) : sm n f = f k := by
  obtain ⟨d, rfl⟩ : ∃ d, n = k + 1 + d := ⟨n - (k + 1), by omega⟩
  rw [sm_split]
  show sm k f + f k + _ = _
  rw [sm_nought k fun i hi => h2 i (by omega) (by omega), sm_nought d fun i hi => h2 (k + 1 + i) (by omega) (by omega)]
  omega
theorem sm_cg {q : Int} {f g : Nat → Int} : ∀ (n : Nat), (∀ i, i < n → Cg q (f i) (g i)) → Cg q (sm n f) (sm n g)
  | 0, _ => .rfl
  | n + 1, h => (sm_cg n fun i hi => h i (by omega)).add (h n (by omega))
theorem sm_tri {F : Nat → Nat → Int} : ∀ (n : Nat), sm n (fun i => sm (i + 1) fun j => F j (i - j)) = sm n fun j => sm (n - j) fun l => F j l
  | 0 => rfl
  | n + 1 => by
    show sm n _ + (sm n (fun j => F j (n - j)) + F n (n - n)) = sm n _ + sm (n + 1 - n) (F n)
    rw [sm_tri n]
    have e : ∀ j, j < n → (sm (n + 1 - j) fun l => F j l) = (sm (n - j) fun l => F j l) + F j (n - j) := fun j hj => by
      rw [show n + 1 - j = (n - j) + 1 by omega]
      rfl
    rw [sm_congr n e, sm_add, show n + 1 - n = 1 by omega, Nat.sub_self]
    show _ = _ + (0 + F n 0)
    omega
theorem sm_swap {F : Nat → Nat → Int} : ∀ (m n : Nat), (sm m fun i => sm n fun j => F i j) = sm n fun j => sm m fun i => F i j
  | 0, n => (sm_zero n).symm
  | m + 1, n => by
    show (sm m fun i => sm n fun j => F i j) + sm n (fun j => F m j) = _
    rw [sm_swap m n, ← sm_add]
    rfl
theorem sum_range (f : Nat → Int) : ∀ (n : Nat), ((List.range n).map f).sum = sm n f
  | 0 => rfl
  | n + 1 => by
    rw [List.range_succ, List.map_append, List.sum_append, sum_range f n]
    show _ + (f n + 0) = _ + f n
    omega
theorem sum_range_filter (p : Nat → Bool) (f : Nat → Int) : ∀ (n : Nat), (((List.range n).filter p).map f).sum = sm n fun i => if p i = true then f i else 0
  | 0 => rfl
  | n + 1 => by
    rw [List.range_succ, List.filter_append, List.map_append, List.sum_append, sum_range_filter p f n]
    show _ = _ + if p n = true then f n else 0
    by_cases h : p n = true
    · rw [if_pos h, List.filter_cons_of_pos h]
      show _ + (f n + 0) = _
      omega
    · rw [if_neg h, List.filter_cons_of_neg h]
      rfl
/-! ### products, place by place -/
def cv (f g : Nat → Int) (k : Nat) : Int := sm (k + 1) fun i => f i * g (k - i)
theorem cv_congr {f g f' g' : Nat → Int} {k : Nat} (h : ∀ i, i ≤ k → f i = f' i) (h2 : ∀ i, i ≤ k → g i = g' i) : cv f g k = cv f' g' k :=
  sm_congr _ fun i hi => by rw [h i (by omega), h2 (k - i) (by omega)]
theorem cv_cg {q : Int} {f g f' g' : Nat → Int} {k : Nat} (h : ∀ i, i ≤ k → Cg q (f i) (f' i)) (h2 : ∀ i, i ≤ k → Cg q (g i) (g' i)) : Cg q (cv f g k) (cv f' g' k) :=
  sm_cg _ fun i hi => (h i (by omega)).mul (h2 (k - i) (by omega))
theorem cv_comm (f g : Nat → Int) (k : Nat) : cv f g k = cv g f k := by
  unfold cv
  rw [← sm_turn]
  refine sm_congr _ fun i hi => ?_
  rw [Int.mul_comm, show k - (k + 1 - 1 - i) = i by omega, show k + 1 - 1 - i = k - i by omega]
theorem cv_assoc (f g h : Nat → Int) (k : Nat) : cv (cv f g) h k = cv f (cv g h) k := by
  unfold cv
  have e : ∀ i, i < k + 1 → (sm (i + 1) fun j => f j * g (i - j)) * h (k - i) = sm (i + 1) fun j => f j * (g (i - j) * h (k - j - (i - j))) := fun i hi => by
    rw [← sm_mul_r]
    refine sm_congr _ fun j hj => ?_
    rw [Int.mul_assoc, show k - j - (i - j) = k - i by omega]
  rw [sm_congr _ e, sm_tri (F := fun j l => f j * (g l * h (k - j - l)))]
  refine sm_congr _ fun j hj => ?_
  rw [sm_mul, show k + 1 - j = k - j + 1 by omega]
theorem cv_zero_l {f g : Nat → Int} {k : Nat} (h : ∀ i, i ≤ k → f i = 0) : cv f g k = 0 := sm_nought _ fun i hi => by rw [h i (by omega), Int.zero_mul]
/-- a rule's polynomial -/
def wh (r : List Int) (i : Nat) : Int := if i = 0 then 1 else - at0 r (i - 1)
theorem wh_zero {r : List Int} : wh r 0 = 1 := rfl
theorem wh_succ {r : List Int} {i : Nat} : wh r (i + 1) = - at0 r i := rfl
theorem wh_far {r : List Int} {i : Nat} (h : r.length < i) : wh r i = 0 := by
  obtain ⟨j, rfl⟩ : ∃ j, i = j + 1 := ⟨i - 1, by omega⟩
  rw [wh_succ, at0_ge (by omega)]
  rfl
theorem cv_wh_nil {f : Nat → Int} {k : Nat} : cv (wh []) f k = f k := by
  unfold cv
  rw [sm_one (k := 0) (by omega) fun i _ h => by rw [wh_far (by show 0 < i; omega), Int.zero_mul]]
  show 1 * f (k - 0) = f k
  rw [Nat.sub_zero, Int.one_mul]
theorem lin_sm {f : Nat → Int} : ∀ (c : List Int) (n : Nat), lin c f n = sm c.length fun j => at0 c j * f (n - 1 - j)
  | [], _ => rfl
  | c :: cs, n => by
    rw [List.length_cons, sm_front]
    show c * f (n - 1) + lin cs f (n - 1) = c * f (n - 1 - 0) + _
    rw [lin_sm cs (n - 1), Nat.sub_zero]
    congr 1
    refine sm_congr _ fun j hj => ?_
    show _ = at0 (c :: cs) (j + 1) * _
    rw [at0_cons_succ, show n - 1 - 1 - j = n - 1 - (j + 1) by omega]
theorem cv_wh {r : List Int} {f : Nat → Int} {i : Nat} (h : r.length ≤ i) : cv (wh r) f i = f i - lin r f i := by
  unfold cv
  rw [sm_front, lin_sm]
  show 1 * f (i - 0) + (sm i fun j => - at0 r j * f (i - (j + 1))) = _
  rw [Int.one_mul, Nat.sub_zero]
  have e : ∀ j, j < i → - at0 r j * f (i - (j + 1)) = -(at0 r j * f (i - 1 - j)) := fun j hj => by
    rw [Int.neg_mul, show i - (j + 1) = i - 1 - j by omega]
  rw [sm_congr i e, sm_neg, sm_more h fun j h1 h2 => by rw [at0_ge h1, Int.zero_mul]]
  omega
/-- it goes by the rule: its polynomial makes it nothing -/
theorem Goes_cv {r : List Int} {q : Int} {f : Nat → Int} {n : Nat} (hf : ∀ i, i < n → 0 ≤ f i ∧ f i < q) : Goes r q f n ↔ ∀ i, r.length ≤ i → i < n → Cg q (cv (wh r) f i) 0 := by
  constructor
  · intro g i h1 h2
    rw [cv_wh h1]
    have e : Cg q (f i) (lin r f i) := by
      rw [g i h1 h2]
      exact .mod
    have := e.sub (.rfl (a := lin r f i))
    rwa [Int.sub_self] at this
  · intro g i h1 h2
    have := (g i h1 h2).add (.rfl (a := lin r f i))
    rw [cv_wh h1, Int.zero_add, Int.sub_add_cancel] at this
    have e : f i % q = lin r f i % q := this
    rwa [emod_self_in (hf i h2)] at e
/-! ### both rules -/
def timesV (one other : List Int) (q : Int) : List Int := (List.range (one.length + other.length)).map fun j => (-(cv (wh one) (wh other) (j + 1))) % q
theorem timesV_length {one other : List Int} {q : Int} : (timesV one other q).length = one.length + other.length := by
  unfold timesV
  rw [List.length_map, List.length_range]
theorem timesV_in {one other : List Int} {q : Int} (hq : 0 < q) : InR q (timesV one other q) := fun x hx => by
  unfold timesV at hx
  obtain ⟨j, _, rfl⟩ := List.mem_map.mp hx
  exact emod_in _ hq
theorem timesV_wh {one other : List Int} {q : Int} (i : Nat) : Cg q (wh (timesV one other q) i) (cv (wh one) (wh other) i) := by
  cases i with
  | zero => exact .rfl
  | succ i =>
    rw [wh_succ]
    by_cases h : i < one.length + other.length
    · unfold timesV
      rw [at0_range h]
      have := (Cg.mod (q := q) (a := -(cv (wh one) (wh other) (i + 1)))).neg
      rwa [Int.neg_neg] at this
    · rw [at0_ge (by rw [timesV_length]; omega)]
      refine .of_eq ?_
      show -0 = _
      unfold cv
      rw [sm_nought]
      · rfl
      intro j hj
      by_cases h2 : one.length < j
      · rw [wh_far h2, Int.zero_mul]
      · rw [wh_far (r := other) (by omega), Int.mul_zero]
theorem timesV_comm (one other : List Int) (q : Int) : timesV one other q = timesV other one q := by
  unfold timesV
  rw [Nat.add_comm]
  refine List.map_congr_left fun j _ => ?_
  rw [cv_comm]
theorem timesV_assoc (a b c : List Int) (q : Int) : timesV (timesV a b q) c q = timesV a (timesV b c q) q := by
  unfold timesV
  rw [show ((List.range (a.length + b.length)).map fun j => (-(cv (wh a) (wh b) (j + 1))) % q) = timesV a b q from rfl, show ((List.range (b.length + c.length)).map fun j => (-(cv (wh b) (wh c) (j + 1))) % q) = timesV b c q from rfl, timesV_length, timesV_length, Nat.add_assoc]
  refine List.map_congr_left fun j _ => ?_
  refine Cg.neg ?_
  refine (cv_cg (fun i _ => timesV_wh i) fun i _ => .rfl).trans ?_
  rw [cv_assoc]
  exact cv_cg (fun i _ => .rfl) fun i _ => (timesV_wh i).symm
theorem timesV_nil_l {r : List Int} {q : Int} (h : InR q r) : timesV [] r q = r := by
  refine at0_ext (by rw [timesV_length]; exact Nat.zero_add _) fun i hi => ?_
  rw [timesV_length] at hi
  unfold timesV
  rw [at0_range hi, cv_wh_nil, wh_succ, Int.neg_neg]
  have hi : i < r.length := by
    have : ([] : List Int).length = 0 := rfl
    omega
  refine emod_self_in ?_
  rw [at0_lt hi]
  exact h _ (List.getElem_mem hi)
theorem timesV_nil_r {r : List Int} {q : Int} (h : InR q r) : timesV r [] q = r := by
  rw [timesV_comm]
  exact timesV_nil_l h
/-- what goes by the one goes by both -/
theorem timesV_goes {one other : List Int} {q : Int} {f : Nat → Int} {n : Nat} (hf : ∀ i, i < n → 0 ≤ f i ∧ f i < q) (g : Goes one q f n) : Goes (timesV one other q) q f n := by
  have g := (Goes_cv hf).mp g
  refine (Goes_cv hf).mpr fun i h1 h2 => ?_
  rw [timesV_length] at h1
  refine (cv_cg (fun i _ => timesV_wh i) fun i _ => .rfl).trans ?_
  rw [cv_congr (fun i _ => cv_comm _ _ i) fun i _ => rfl, cv_assoc]
  unfold cv
  rw [← sm_zero (i + 1)]
  refine sm_cg _ fun j hj => ?_
  by_cases h3 : other.length < j
  · rw [wh_far h3, Int.zero_mul]
    exact .rfl
  · have := (Cg.rfl (q := q) (a := wh other j)).mul (g (i - j) (by omega) (by omega))
    rwa [Int.mul_zero] at this
/-! ### rows in loops -/
theorem pIx_lI {xs : List Int} {i : Int} {x : Int} (h : L2.atI xs i = some x) : pIx (lI xs) (.int i) = .ok (.int x) := by
  show atP (xs.map PyData.int) i = _
  unfold atP
  rw [atI_map, h]
  rfl
theorem pIx_lN {xs : List Int} {i : Nat} (h : i < xs.length) : pIx (lI xs) (.int (i : Int)) = .ok (.int (at0 xs i)) := pIx_lI (by
  rw [atI_nn (by omega) (by omega), Int.toNat_natCast]
  exact at0_some h)
theorem pIx_tN {xs : List Int} {i : Nat} (h : i < xs.length) : pIx (tI xs) (.int (i : Int)) = .ok (.int (at0 xs i)) := pIx_tI (by
  rw [atI_nn (by omega) (by omega), Int.toNat_natCast]
  exact at0_some h)
theorem pSlL_lI {xs : List Int} {lo hi : Option Int} : pSlL (lI xs) lo hi = .ok ((cut xs lo hi).map PyData.int) := by
  show Res.ok (cut (xs.map PyData.int) lo hi) = _
  rw [cut_map]
theorem itemsOf_lI {xs : List Int} : itemsOf (lI xs) = .ok (xs.map PyData.int) := rfl
theorem enumOf_lI {xs : List Int} : enumOf (lI xs) = .ok (xs.zipIdx.map fun p => .tuple [.int (p.2 : Nat), .int p.1]) := by
  show Res.ok (enumItems (xs.map PyData.int)) = _
  rw [enum_ints]
theorem pLen_lI {xs : List Int} : pLen (lI xs) = .ok (.int xs.length) := by
  show Res.ok (PyData.int ((xs.map PyData.int).length : Nat)) = _
  rw [List.length_map]
theorem pAddL_lI {xs ys : List Int} (h : xs.length + ys.length ≤ 100000) : pAddL (lI xs) (lI ys) = .ok ((xs ++ ys).map PyData.int) := by
  show (if _ then Res.ok (xs.map PyData.int ++ ys.map PyData.int) else _) = _
  rw [if_pos (by rw [List.length_map, List.length_map]; exact Nat.le_trans h (by decide)), List.map_append]
theorem sizedL_one {x : Int} : sizedL [.int x] = .ok ([x].map PyData.int) := rfl
theorem enumI_get {xs : List Int} {i : Nat} {d : P} (h : (xs.zipIdx.map fun p => PyData.tuple [.int (p.2 : Nat), .int p.1])[i]? = some d) : d = .tuple [.int (i : Nat), .int (at0 xs i)] ∧ i < xs.length := by
  rw [List.getElem?_map, List.getElem?_zipIdx] at h
  by_cases hi : i < xs.length
  · rw [List.getElem?_eq_getElem hi] at h
    rw [at0_lt hi]
    refine ⟨?_, hi⟩
    have := (Option.some.inj h).symm
    simpa using this
  · rw [List.getElem?_eq_none (by omega)] at h
    cases h
theorem mapI_get {xs : List Int} {i : Nat} {d : P} (h : (xs.map PyData.int)[i]? = some d) : d = .int (at0 xs i) ∧ i < xs.length := by
  rw [List.getElem?_map] at h
  by_cases hi : i < xs.length
  · rw [List.getElem?_eq_getElem hi] at h
    rw [at0_lt hi]
    exact ⟨(Option.some.inj h).symm, hi⟩
  · rw [List.getElem?_eq_none (by omega)] at h
    cases h
theorem set_int {xs : List Int} {j : Nat} {v : Int} : (xs.map PyData.int).set j (.int v) = (xs.set j v).map PyData.int := by rw [List.map_set]
theorem at0_set {xs : List Int} {j k : Nat} {v : Int} (h : j < xs.length) : at0 (xs.set j v) k = if k = j then v else at0 xs k := by
  unfold at0
  rw [List.getElem?_set]
  by_cases e : j = k
  · subst e
    rw [if_pos rfl, if_pos rfl, if_pos h]
    rfl
  · rw [if_neg e, if_neg (fun z => e z.symm)]
theorem set_range {F G : Nat → Int} {n j : Nat} {v : Int} (hj : j < n) (h : ∀ k, k < n → k ≠ j → F k = G k) (h2 : G j = v) : ((List.range n).map F).set j v = (List.range n).map G := by
  refine at0_ext (by rw [List.length_set, List.length_map, List.length_map]) fun k hk => ?_
  rw [List.length_set, List.length_map, List.length_range] at hk
  rw [at0_set (by rw [List.length_map, List.length_range]; exact hj), at0_range hk, at0_range hk]
  by_cases e : k = j
  · rw [if_pos e, e, h2]
  · rw [if_neg e, h k hk e]
theorem ixN_nat {n k : Nat} (h : k < n) : L2.ixN n (k : Int) = some k := by
  unfold L2.ixN
  rw [if_pos (by omega), if_pos (by omega), Int.toNat_natCast]
/-- what a rule's polynomial is in the program: 1, then its numbers taken away -/
def wholeV (rule : List Int) (q : Int) : List Int := 1 :: rule.map fun x => -x % q
theorem wholeV_length {rule : List Int} {q : Int} : (wholeV rule q).length = rule.length + 1 := by
  unfold wholeV
  rw [List.length_cons, List.length_map]
theorem wholeV_in {rule : List Int} {q : Int} (hq : 2 ≤ q) : InR q (wholeV rule q) := fun x hx => by
  unfold wholeV at hx
  rcases List.mem_cons.mp hx with rfl | h
  · omega
  · obtain ⟨y, _, rfl⟩ := List.mem_map.mp h
    exact emod_in _ (by omega)
theorem wholeV_wh {rule : List Int} {q : Int} (i : Nat) : Cg q (at0 (wholeV rule q) i) (wh rule i) := by
  unfold wholeV
  cases i with
  | zero => exact .rfl
  | succ i =>
    rw [at0_cons_succ, wh_succ]
    by_cases h : i < rule.length
    · rw [at0_map h]
      exact .mod
    · rw [at0_ge (by rw [List.length_map]; omega), at0_ge (by omega)]
      exact .rfl
/-- one term of the product at k -/
def tm (a b : List Int) (k i : Nat) : Int := if i ≤ k then at0 a i * at0 b (k - i) else 0
theorem tm_cv {a b : List Int} {k : Nat} : sm a.length (tm a b k) = cv (at0 a) (at0 b) k := by
  have e1 : sm (a.length + (k + 1)) (tm a b k) = sm a.length (tm a b k) := sm_more (by omega) fun i h1 _ => by
    unfold tm
    rw [at0_ge h1, Int.zero_mul]
    split <;> rfl
  have e2 : sm (a.length + (k + 1)) (tm a b k) = sm (k + 1) (tm a b k) := sm_more (by omega) fun i h1 _ => by
    unfold tm
    rw [if_neg (by omega)]
  rw [← e1, e2]
  refine sm_congr _ fun i hi => ?_
  unfold tm
  rw [if_pos (by omega)]
def prodV (a b : List Int) (q : Int) : List Int := (List.range (a.length + b.length - 1)).map fun k => cv (at0 a) (at0 b) k % q
theorem prod_times {one other : List Int} {q : Int} : ((prodV (wholeV one q) (wholeV other q) q).drop 1).map (fun x => -x % q) = timesV one other q := by
  have hl : (prodV (wholeV one q) (wholeV other q) q).length = one.length + other.length + 1 := by
    unfold prodV
    rw [List.length_map, List.length_range, wholeV_length, wholeV_length]
    omega
  refine at0_ext (by rw [List.length_map, List.length_drop, hl, timesV_length]; omega) fun i hi => ?_
  rw [List.length_map, List.length_drop, hl] at hi
  rw [at0_map (by rw [List.length_drop, hl]; omega), at0_drop]
  unfold prodV timesV
  rw [at0_range (by rw [wholeV_length, wholeV_length]; omega), at0_range (by omega), Nat.add_comm 1 i]
  refine Cg.neg ?_
  exact Cg.mod.trans (cv_cg (fun j _ => wholeV_wh j) fun j _ => wholeV_wh j)
end Ey

set_option Elab.async false
set_option linter.all false
set_option maxRecDepth 100000
set_option maxHeartbeats 4000000
namespace Ey
open PySem DL
/-! ### steps of tuples -/
theorem dStep_ap {f : DE P} {l u s : DE (Option Int)} {δ : DEnv} : dStep f l u s δ = (f δ).bind fun x => (l δ).bind fun a => (u δ).bind fun b => (s δ).bind fun c => pStep x a b c := rfl
theorem stepV_map {α β : Type} (f : α → β) (xs : List α) (lo hi : Option Int) (k : Int) : stepV (xs.map f) lo hi k = (stepV xs lo hi k).map f := by
  unfold stepV
  rw [List.length_map, List.map_filterMap]
  refine congrArg (fun g => List.filterMap g _) (funext fun i => ?_)
  rw [List.getElem?_map]
theorem pStep_tI {xs : List Int} {lo hi : Option Int} {k : Int} (h0 : k ≠ 0) (h1 : k ≠ 1) (h : (stepV xs lo hi k).length ≤ 100000) : pStep (tI xs) lo hi (some k) = .ok (tI (stepV xs lo hi k)) := by
  unfold tI
  show (if _ then _ else _) = _
  rw [stepV_map, if_pos ⟨h0, h1, by rw [List.length_map]; exact Nat.le_trans h (by decide)⟩]
theorem pick_range {α : Type} (f : Nat → Option α) (g : Nat → α) : ∀ n : Nat, (∀ m, m < n → f m = some (g m)) → (List.range n).filterMap f = (List.range n).map g
  | 0, _ => rfl
  | n + 1, h => by
    rw [List.range_succ, List.filterMap_append, List.map_append, pick_range f g n fun m hm => h m (by omega)]
    congr 1
    rw [List.filterMap_cons, h n (by omega)]
    rfl
theorem stepV_range {xs : List Int} {lo hi : Option Int} {k : Int} (n : Nat) (ix : Nat → Nat) (hn : stepIx xs.length lo hi k = (List.range n).map ix) (h : ∀ m, m < n → ix m < xs.length) : stepV xs lo hi k = (List.range n).map fun m => at0 xs (ix m) := by
  unfold stepV
  rw [hn, List.filterMap_map]
  exact pick_range _ _ n fun m hm => at0_some (h m hm)
theorem at0_reverse {xs : List Int} {i : Nat} (h : i < xs.length) : at0 xs.reverse i = at0 xs (xs.length - 1 - i) := by
  unfold at0
  rw [List.getElem?_reverse h]
theorem stepV_back (xs : List Int) : stepV xs none none (-1) = xs.reverse := by
  have hn : stepIx xs.length none none (-1) = (List.range xs.length).map fun m => xs.length - 1 - m := by
    unfold stepIx
    have e1 : (Builtin.Slice.sliceAdjust none none (-1) (xs.length : Int)) = ((xs.length : Int) - 1, -1) := rfl
    have e2 : Builtin.Slice.slicePlaces ((xs.length : Int) - 1) (-1) (-1) = xs.length := by
      unfold Builtin.Slice.slicePlaces
      rw [if_neg (by omega)]
      split
      · rw [show (-(-1 : Int)) = 1 by omega, Int.ediv_one]
        omega
      · show 0 = _
        omega
    rw [e1, e2]
    refine List.map_congr_left fun m hm => ?_
    have := List.mem_range.mp hm
    show ((xs.length : Int) - 1 + (m : Int) * (-1)).toNat = _
    omega
  rw [stepV_range xs.length _ hn fun m hm => by omega]
  refine at0_ext (by rw [List.length_map, List.length_range, List.length_reverse]) fun i hi => ?_
  rw [List.length_map, List.length_range] at hi
  rw [at0_range hi, at0_reverse hi]
theorem pBack_tI {xs : List Int} (h : xs.length ≤ 100000) : pStep (tI xs) none none (some (-1)) = .ok (tI xs.reverse) := by
  rw [pStep_tI (by omega) (by omega) (by rw [stepV_back, List.length_reverse]; exact h), stepV_back]
theorem cut_dropLast {α : Type} {xs : List α} : cut xs none (some (-1)) = xs.dropLast := by
  unfold cut
  rw [HT.sIx_none, List.dropLast_eq_take, List.drop_zero, Nat.sub_zero]
  congr 1
  show (if (-1 : Int) < 0 then (-1 + (xs.length : Int)).toNat else min (-1 : Int).toNat xs.length) = xs.length - 1
  rw [if_pos (by omega)]
  omega
theorem pListOf_lI {xs : List Int} : pListOf (lI xs) = .ok (xs.map PyData.int) := rfl
theorem pListOf_tI {xs : List Int} : pListOf (tI xs) = .ok (xs.map PyData.int) := rfl
theorem sizedL_two {x y : Int} : sizedL [.int x, .int y] = .ok ([x, y].map PyData.int) := rfl
theorem pIx_tLast {xs : List Int} (h : 0 < xs.length) : pIx (tI xs) (.int (-1)) = .ok (.int (at0 xs (xs.length - 1))) := pIx_tI (by
  rw [atI_last h]
  exact at0_some (by omega))
theorem ixN_back {n k : Nat} (h : k < n) : L2.ixN n (-1 - (k : Int)) = some (n - 1 - k) := by
  unfold L2.ixN
  rw [if_neg (by omega), if_pos (by omega)]
  congr 1
  omega
theorem pIx_lBack {xs : List Int} {k : Nat} (h : k < xs.length) : pIx (lI xs) (.int (-1 - (k : Int))) = .ok (.int (at0 xs (xs.length - 1 - k))) := pIx_lI (by
  rw [atI_back h]
  exact at0_some (by omega))

/-! ### sequences that go by a rule for ever -/
def Good (rule : List Int) (q : Int) (f : Nat → Int) : Prop := ∀ i, rule.length ≤ i → Cg q (f i) (lin rule f i)
theorem Good.shift {rule : List Int} {q : Int} {f : Nat → Int} (h : Good rule q f) (s : Nat) : Good rule q (fun j => f (s + j)) := fun i hi => by
  rw [lin_shift s rule i hi]
  exact h (s + i) (by omega)
def ev (c : List Int) (f : Nat → Int) : Int := sm c.length fun i => at0 c i * f i
theorem ev_more {c : List Int} {f : Nat → Int} {n : Nat} (h : c.length ≤ n) : (sm n fun i => at0 c i * f i) = ev c f := sm_more h fun i h1 _ => by rw [at0_ge h1, Int.zero_mul]
theorem ev_app_zero {c : List Int} {f : Nat → Int} : ev (c ++ [0]) f = ev c f := by
  rw [← ev_more (c := c ++ [0]) (f := f) (Nat.le_refl _), ← ev_more (c := c) (f := f) (n := (c ++ [0]).length) (by rw [List.length_append]; omega)]
  refine sm_congr _ fun i hi => ?_
  rw [List.length_append, List.length_singleton] at hi
  by_cases h : i < c.length
  · rw [at0_app_l h]
  · rw [at0_ge (xs := c) (by omega), show i = c.length by omega, at0_last]
/-- these counts tell the number at p of all sequences that go by the rule -/
def Tells (rule : List Int) (q : Int) (c : List Int) (p : Nat) : Prop := ∀ f, Good rule q f → Cg q (ev c f) (f p)
theorem Tells.zero {rule : List Int} {q : Int} {c : List Int} {p : Nat} (h : Tells rule q c p) : Tells rule q (c ++ [0]) p := fun f g => by
  rw [ev_app_zero]
  exact h f g
theorem tells_one {rule : List Int} {q : Int} : Tells rule q [1] 0 := fun f _ => .of_eq (by
  show 0 + 1 * f 0 = f 0
  omega)
theorem tells_x {rule : List Int} {q : Int} : Tells rule q [0, 1] 1 := fun f _ => .of_eq (by
  show 0 + 0 * f 0 + 1 * f 1 = f 1
  omega)
theorem tells_product {rule a b : List Int} {q : Int} {m n : Nat} (ha : Tells rule q a m) (hb : Tells rule q b n) (ha0 : 0 < a.length) (hb0 : 0 < b.length) : Tells rule q (prodV a b q) (m + n) := fun f g => by
  have e1 : Cg q (ev (prodV a b q) f) (sm (a.length + b.length - 1) fun k => cv (at0 a) (at0 b) k * f k) := by
    rw [← ev_more (n := a.length + b.length - 1) (by unfold prodV; rw [List.length_map, List.length_range]; omega)]
    refine sm_cg _ fun k hk => Cg.mul ?_ .rfl
    unfold prodV
    rw [at0_range hk]
    exact .mod
  refine e1.trans ?_
  have e2 : (sm (a.length + b.length - 1) fun k => cv (at0 a) (at0 b) k * f k) = sm (a.length + b.length - 1) fun i => at0 a i * ev b (fun j => f (i + j)) := by
    have : ∀ k, k < a.length + b.length - 1 → cv (at0 a) (at0 b) k * f k = sm (k + 1) fun i => at0 a i * (at0 b (k - i) * f (i + (k - i))) := fun k _ => by
      unfold cv
      rw [← sm_mul_r]
      refine sm_congr _ fun i hi => ?_
      rw [Int.mul_assoc, show i + (k - i) = k by omega]
    rw [sm_congr _ this, sm_tri (F := fun i l => at0 a i * (at0 b l * f (i + l)))]
    refine sm_congr _ fun i hi => ?_
    rw [sm_mul]
    by_cases h : i < a.length
    · rw [ev_more (c := b) (f := fun j => f (i + j)) (by omega)]
    · rw [at0_ge (xs := a) (by omega), Int.zero_mul, Int.zero_mul]
  rw [e2]
  have e3 : Cg q (sm (a.length + b.length - 1) fun i => at0 a i * ev b (fun j => f (i + j))) (sm (a.length + b.length - 1) fun i => at0 a i * (fun i => f (n + i)) i) := by
    refine sm_cg _ fun i hi => Cg.mul .rfl ?_
    have := hb _ (g.shift i)
    rwa [Nat.add_comm i n] at this
  refine e3.trans ?_
  rw [ev_more (c := a) (f := fun i => f (n + i)) (by omega), Nat.add_comm m n]
  exact ha _ (g.shift n)
/-- the last count put on the first ones -/
theorem tells_low {rule ys zs : List Int} {q last : Int} {p : Nat} (h : Tells rule q (ys ++ [last]) p) (hl : rule.length ≤ ys.length) (hz : zs.length = ys.length) (he : ∀ k, k < ys.length → Cg q (at0 zs k) (at0 ys k + last * at0 rule (ys.length - 1 - k))) : Tells rule q zs p := fun f g => by
  refine Cg.trans ?_ (h f g)
  have e1 : ev (ys ++ [last]) f = ev ys f + last * f ys.length := by
    rw [← ev_more (c := ys ++ [last]) (f := f) (n := ys.length + 1) (by rw [List.length_append, List.length_singleton]; omega)]
    show sm ys.length _ + at0 (ys ++ [last]) ys.length * f ys.length = _
    rw [at0_last, sm_congr _ fun i hi => by rw [at0_app_l hi]]
    rfl
  rw [e1]
  have e2 : Cg q (ev zs f) (sm ys.length fun k => at0 ys k * f k + last * (at0 rule (ys.length - 1 - k) * f k)) := by
    unfold ev
    rw [hz]
    refine sm_cg _ fun k hk => ?_
    have := (he k hk).mul (.rfl (a := f k))
    rwa [Int.add_mul, Int.mul_assoc] at this
  refine e2.trans ?_
  rw [sm_add, sm_mul]
  refine Cg.add .rfl (Cg.mul .rfl ?_)
  refine Cg.trans (.of_eq ?_) (g ys.length hl).symm
  rw [lin_sm, ← sm_turn, sm_congr (g := fun j => at0 rule j * f (ys.length - 1 - j)) _ fun j hj => by rw [show ys.length - 1 - (ys.length - 1 - j) = j by omega]]
  exact sm_more hl fun j h1 _ => by rw [at0_ge h1, Int.zero_mul]
/-- the row from these first numbers on -/
def seqR (rule : List Int) (q : Int) (start : List Int) (p : Nat) : Int := at0 (gone rule q (p + 1) start) p
theorem seqR_gone {rule : List Int} {q : Int} {start : List Int} {p n : Nat} (h : p < start.length + n) : seqR rule q start p = at0 (gone rule q n start) p := by
  unfold seqR
  by_cases hn : n ≤ p + 1
  · obtain ⟨d, e⟩ : ∃ d, p + 1 = n + d := ⟨p + 1 - n, by omega⟩
    rw [e, gone_add rule q d n, gone_at_l (by rw [gone_length]; exact h)]
  · obtain ⟨d, e⟩ : ∃ d, n = p + 1 + d := ⟨n - (p + 1), by omega⟩
    rw [e, gone_add rule q d (p + 1)]
    exact (gone_at_l (by rw [gone_length]; omega)).symm
theorem seqR_start {rule : List Int} {q : Int} {start : List Int} {p : Nat} (h : p < start.length) : seqR rule q start p = at0 start p := by
  rw [seqR_gone (n := 0) (by omega)]
  rfl
theorem seqR_rule {rule : List Int} {q : Int} {start : List Int} (h : start.length = rule.length) {i : Nat} (hi : rule.length ≤ i) : seqR rule q start i = lin rule (seqR rule q start) i % q := by
  rw [seqR_gone (n := i + 1) (by omega), gone_at_r (i + 1) start (by omega) i (by omega) (by omega)]
  congr 1
  exact lin_congr rule i hi fun j _ hj => (seqR_gone (by omega)).symm
theorem seqR_good {rule : List Int} {q : Int} {start : List Int} (h : start.length = rule.length) : Good rule q (seqR rule q start) := fun i hi => by
  rw [seqR_rule h hi]
  exact .mod
theorem seqR_in {rule : List Int} {q : Int} {start : List Int} (hs : InR q start) (hq : 0 < q) (p : Nat) : 0 ≤ seqR rule q start p ∧ seqR rule q start p < q := at0_in (gone_range hq _ _ hs) hq p
/-- two such sequences, alike at first, are alike -/
theorem good_same {rule : List Int} {q : Int} {f g : Nat → Int} (hf : Good rule q f) (hg : Good rule q g) (h : ∀ i, i < rule.length → Cg q (f i) (g i)) : ∀ i, Cg q (f i) (g i) := by
  intro i
  induction i using Nat.strongRecOn with
  | _ i ih =>
    by_cases hi : i < rule.length
    · exact h i hi
    · refine (hf i (by omega)).trans (Cg.trans ?_ (hg i (by omega)).symm)
      exact lin_cg rule i (by omega) fun j _ hj => ih j hj
theorem Good.add {rule : List Int} {q : Int} {f g : Nat → Int} (hf : Good rule q f) (hg : Good rule q g) : Good rule q (fun i => f i + g i) := fun i hi => by
  rw [lin_add]
  exact (hf i hi).add (hg i hi)
theorem Good.mul {rule : List Int} {q : Int} {f : Nat → Int} (hf : Good rule q f) (k : Int) : Good rule q (fun i => k * f i) := fun i hi => by
  rw [lin_mul]
  exact Cg.mul .rfl (hf i hi)
/-- a one at k, noughts elsewhere -/
def unit (n k : Nat) : List Int := (List.range n).map fun i => if i = k then 1 else 0
theorem unit_length {n k : Nat} : (unit n k).length = n := by
  unfold unit
  rw [List.length_map, List.length_range]
theorem unit_in {q : Int} (n k : Nat) (hq : 2 ≤ q) : InR q (unit n k) := fun x hx => by
  unfold unit at hx
  obtain ⟨i, _, rfl⟩ := List.mem_map.mp hx
  split <;> omega
theorem ev_unit {f : Nat → Int} {n k : Nat} (h : k < n) : ev (unit n k) f = f k := by
  unfold ev
  rw [unit_length, sm_one h fun i hi hne => by
    unfold unit
    rw [at0_range hi, if_neg hne, Int.zero_mul]]
  unfold unit
  rw [at0_range h, if_pos rfl, Int.one_mul]
theorem tells_unit {rule : List Int} {q : Int} {k : Nat} (h : k < rule.length) : Tells rule q (unit rule.length k) k := fun f _ => .of_eq (ev_unit h)
theorem tells_uniq {rule c d : List Int} {q : Int} {p : Nat} (hq : 0 < q) (hc : Tells rule q c p) (hd : Tells rule q d p) (lc : c.length = rule.length) (ld : d.length = rule.length) (rc : InR q c) (rd : InR q d) : c = d := by
  refine at0_ext (by omega) fun k hk => ?_
  have g := seqR_good (rule := rule) (q := q) (start := unit rule.length k) unit_length
  have e : ∀ c : List Int, c.length = rule.length → ev c (seqR rule q (unit rule.length k)) = at0 c k := fun c lc => by
    unfold ev
    rw [sm_one (k := k) (by omega) fun i hi hne => by
      rw [seqR_start (by rw [unit_length]; omega)]
      unfold unit
      rw [at0_range (by omega), if_neg hne, Int.mul_zero], seqR_start (by rw [unit_length]; omega)]
    unfold unit
    rw [at0_range (by omega), if_pos rfl, Int.mul_one]
  have := (hc _ g).trans (hd _ g).symm
  rw [e c lc, e d ld] at this
  exact this.eq (at0_in rc hq k) (at0_in rd hq k)
theorem ev_start {rule c : List Int} {q : Int} {start : List Int} (h : c.length ≤ start.length) : ev c (at0 start) = ev c (seqR rule q start) := by
  unfold ev
  exact sm_congr _ fun i hi => by rw [seqR_start (by omega)]
/-- the number at p, as the counts tell it -/
theorem tells_number {rule c start : List Int} {q : Int} {p : Nat} (hq : 0 < q) (hc : Tells rule q c p) (lc : c.length = rule.length) (ls : start.length = rule.length) (rs : InR q start) : ev c (at0 start) % q = seqR rule q start p := by
  rw [ev_start (rule := rule) (q := q) (by omega)]
  have := hc _ (seqR_good ls)
  have h2 : ev c (seqR rule q start) % q = seqR rule q start p % q := this
  rwa [emod_self_in (seqR_in rs hq p)] at h2
/-- one step of a rule -/
def stepC (rule : List Int) (q : Int) (c : List Int) : List Int := (List.range rule.length).map fun k => ((if k = 0 then 0 else at0 c (k - 1)) + at0 c (rule.length - 1) * at0 rule (rule.length - 1 - k)) % q
theorem stepC_length {rule c : List Int} {q : Int} : (stepC rule q c).length = rule.length := by
  unfold stepC
  rw [List.length_map, List.length_range]
theorem stepC_in {rule c : List Int} {q : Int} (hq : 0 < q) : InR q (stepC rule q c) := fun x hx => by
  unfold stepC at hx
  obtain ⟨i, _, rfl⟩ := List.mem_map.mp hx
  exact emod_in _ hq
theorem tells_step {rule c : List Int} {q : Int} {p : Nat} (hc : Tells rule q c p) (lc : c.length = rule.length) (hn : 0 < rule.length) : Tells rule q (stepC rule q c) (p + 1) := fun f g => by
  have e1 : Cg q (ev (stepC rule q c) f) (sm rule.length fun k => (if k = 0 then 0 else at0 c (k - 1)) * f k + at0 c (rule.length - 1) * (at0 rule (rule.length - 1 - k) * f k)) := by
    unfold ev
    rw [stepC_length]
    refine sm_cg _ fun k hk => ?_
    unfold stepC
    rw [at0_range hk]
    refine (Cg.mul .mod .rfl).trans (.of_eq ?_)
    rw [Int.add_mul, Int.mul_assoc]
  refine e1.trans ?_
  rw [sm_add, sm_mul]
  obtain ⟨m, hm⟩ : ∃ m, rule.length = m + 1 := ⟨rule.length - 1, by omega⟩
  have e2 : (sm rule.length fun k => (if k = 0 then 0 else at0 c (k - 1)) * f k) = sm m fun k => at0 c k * f (1 + k) := by
    rw [hm, sm_front]
    show 0 * f 0 + (sm m fun k => at0 c k * f (k + 1)) = _
    rw [sm_congr (g := fun k => at0 c k * f (1 + k)) m fun k _ => by rw [Nat.add_comm]]
    omega
  have e3 : Cg q (sm rule.length fun k => at0 rule (rule.length - 1 - k) * f k) (f (1 + m)) := by
    have := (g rule.length (Nat.le_refl _)).symm
    rw [lin_sm, ← sm_turn] at this
    rw [show 1 + m = rule.length by omega]
    refine Cg.trans (.of_eq (sm_congr _ fun k hk => ?_)) this
    rw [show rule.length - 1 - (rule.length - 1 - k) = k by omega]
  rw [e2]
  have e4 : ev c (fun j => f (1 + j)) = (sm m fun k => at0 c k * f (1 + k)) + at0 c m * f (1 + m) := by
    unfold ev
    rw [lc, hm]
    rfl
  have := hc _ (g.shift 1)
  rw [e4, Nat.add_comm 1 p] at this
  refine Cg.trans ?_ this
  rw [show rule.length - 1 = m by omega]
  have e5 : Cg q (at0 c m * sm rule.length fun k => at0 rule (m - k) * f k) (at0 c m * f (1 + m)) := by
    rw [show rule.length - 1 = m by omega] at e3
    exact Cg.mul .rfl e3
  exact Cg.add .rfl e5
theorem zip_range {β : Type} {a b : List Int} (h : a.length = b.length) (f : Int × Int → β) : (a.zip b).map f = (List.range a.length).map fun i => f (at0 a i, at0 b i) := by
  refine List.ext_getElem (by rw [List.length_map, List.length_zip, List.length_map, List.length_range]; omega) fun i h1 h2 => ?_
  rw [List.length_map, List.length_range] at h2
  rw [List.getElem_map, List.getElem_zip, List.getElem_map, List.getElem_range, at0_lt h2, at0_lt (by omega)]
theorem zip_ev {a b : List Int} (h : a.length = b.length) : ((a.zip b).map fun p => p.1 * p.2).sum = ev a (at0 b) := by
  rw [zip_range h, sum_range]
  rfl
theorem rep_zero (n : Nat) : (List.replicate n [(0 : Int)]).flatten = List.replicate n 0 := by
  induction n with
  | zero => rfl
  | succ n ih => rw [List.replicate_succ, List.flatten_cons, ih, List.replicate_succ]; rfl
theorem Tells.zeros {rule : List Int} {q : Int} {c : List Int} {p : Nat} (h : Tells rule q c p) : ∀ n, Tells rule q (c ++ List.replicate n 0) p
  | 0 => by
    rw [List.replicate_zero, List.append_nil]
    exact h
  | n + 1 => by
    rw [List.replicate_succ', ← List.append_assoc]
    exact (Tells.zeros h n).zero
theorem InR.zeros {q : Int} (hq : 0 < q) (n : Nat) : InR q (List.replicate n 0) := fun x hx => by
  have := List.eq_of_mem_replicate hx
  omega
theorem prodV_in {a b : List Int} {q : Int} (hq : 0 < q) : InR q (prodV a b q) := fun x hx => by
  unfold prodV at hx
  obtain ⟨j, _, rfl⟩ := List.mem_map.mp hx
  exact emod_in _ hq
theorem prodV_length {a b : List Int} {q : Int} : (prodV a b q).length = a.length + b.length - 1 := by
  unfold prodV
  rw [List.length_map, List.length_range]
theorem InR.map_range {q : Int} {f : Nat → Int} {n : Nat} (h : ∀ i, i < n → 0 ≤ f i ∧ f i < q) : InR q ((List.range n).map f) := fun x hx => by
  obtain ⟨j, hj, rfl⟩ := List.mem_map.mp hx
  exact h j (List.mem_range.mp hj)
theorem snoc {xs : List Int} (h : 0 < xs.length) : ∃ ys x, xs = ys ++ [x] := ⟨xs.dropLast, xs.getLast (List.length_pos_iff.mp h), (List.dropLast_concat_getLast _).symm⟩
theorem last_int {ys : List Int} {x : Int} : ((ys ++ [x]).map PyData.int).getLast? = some (.int x) := by simp
theorem drop_int {ys : List Int} {x : Int} : ((ys ++ [x]).map PyData.int).dropLast = ys.map PyData.int := by simp
theorem len_range {f : Nat → Int} {n : Nat} : ((List.range n).map f).length = n := by rw [List.length_map, List.length_range]
/-- the row of its own places -/
theorem self_range (xs : List Int) : (List.range xs.length).map (at0 xs) = xs := at0_ext len_range fun i hi => by
  rw [len_range] at hi
  rw [at0_range hi]
end Ey

set_option Elab.async false
set_option linter.all false
set_option maxRecDepth 100000
set_option maxHeartbeats 4000000
namespace Ey
open PySem DL
/-! ### refusals -/
theorem sRaise_ap {n : Str} {δ : DEnv} : sRaise n δ = .exc n δ := rfl
theorem andThen_exc {n : Str} {δ : DEnv} {h : DEnv → SRes} : andThen (.exc n δ) h = .exc n δ := rfl
theorem resOf_exc {n : Str} {δ : DEnv} : resOf (.exc n δ) = .exc n := rfl
theorem bind_exc {α β : Type} {n : Str} {k : α → Res β} : (Res.exc n).bind k = .exc n := rfl
theorem ofR_exc {α : Type} {n : Str} {δ : DEnv} {k : α → SRes} : ofR δ (.exc n) k = .exc n δ := rfl
noncomputable def tryTo (c : Str) (i : Nat) (known : List Str) (su : Addr → Str → DEnv → SRes) (r : SRes) : SRes := match r with
  | .exc n δ' => if n ∈ known then (if isaD n c = true then anyA fun a => unE i (su a n (δ'.set i (.raw (.ref a)))) else .exc n δ') else .stuck
  | r => r
theorem sTryAs_ap {c : Str} {i : Nat} {known : List Str} {g : DEnv → SRes} {su : Addr → Str → DEnv → SRes} {δ : DEnv} : sTryAs c i known g su δ = tryTo c i known su (g δ) := rfl
theorem tryTo_nx {c : Str} {i : Nat} {known : List Str} {su : Addr → Str → DEnv → SRes} {δ : DEnv} : tryTo c i known su (.nx δ) = .nx δ := rfl
theorem tryTo_ret {c : Str} {i : Nat} {known : List Str} {su : Addr → Str → DEnv → SRes} {d : P} : tryTo c i known su (.ret d) = .ret d := rfl
theorem tryTo_exc {c n : Str} {i : Nat} {known : List Str} {su : Addr → Str → DEnv → SRes} {δ : DEnv} {r : SRes} (h : n ∈ known) (h2 : isaD n c = true) (h3 : ∀ a, unE i (su a n (δ.set i (.raw (.ref a)))) = r) : tryTo c i known su (.exc n δ) = r := by
  show (if n ∈ known then _ else _) = r
  rw [if_pos h, if_pos h2]
  exact anyA_const h3
noncomputable def tryO (c : Str) (known : List Str) (su : DEnv → SRes) (r : SRes) : SRes := match r with
  | .exc n δ' => if n ∈ known then (if isaD n c = true then still (su δ') else .exc n δ') else .stuck
  | r => r
theorem sTry_ap {c : Str} {known : List Str} {g su : DEnv → SRes} {δ : DEnv} : sTry c known g su δ = tryO c known su (g δ) := rfl
theorem tryO_nx {c : Str} {known : List Str} {su : DEnv → SRes} {δ : DEnv} : tryO c known su (.nx δ) = .nx δ := rfl
theorem tryO_ret {c : Str} {known : List Str} {su : DEnv → SRes} {d : P} : tryO c known su (.ret d) = .ret d := rfl
theorem tryO_exc {c n : Str} {known : List Str} {su : DEnv → SRes} {δ : DEnv} (h : n ∈ known) (h2 : isaD n c = true) : tryO c known su (.exc n δ) = still (su δ) := by
  show (if n ∈ known then _ else _) = _
  rw [if_pos h, if_pos h2]
theorem still_ret {d : P} : still (.ret d) = .ret d := rfl
theorem still_nx {δ : DEnv} : still (.nx δ) = .nx δ := rfl
theorem unE_ret {i : Nat} {d : P} : unE i (.ret d) = .ret d := rfl
theorem unE_nx {i : Nat} {δ : DEnv} : unE i (.nx δ) = .nx (δ.set i .un) := rfl
theorem dIsE_zero {a : Addr} {n c : Str} {δ : DEnv} : dIsE a 0 n c (.raw (.ref a) :: δ) = .ok (.bool (isaD n c)) := if_pos rfl
theorem dIsE_succ {a : Addr} {i : Nat} {n c : Str} {s : Slot} {δ : DEnv} : dIsE a (i + 1) n c (s :: δ) = dIsE a i n c δ := rfl

/-! ### going round -/
theorem php : ∀ (N : Nat) (f : Nat → Nat), (∀ i, i ≤ N → f i < N) → ∃ i j, i < j ∧ j ≤ N ∧ f i = f j
  | 0, f, h => absurd (h 0 (Nat.le_refl _)) (Nat.not_lt_zero _)
  | N + 1, f, h => by
    by_cases e : ∃ i, i ≤ N ∧ f i = f (N + 1)
    · obtain ⟨i, hi, q⟩ := e
      exact ⟨i, N + 1, by omega, Nat.le_refl _, q⟩
    · have ne : ∀ i, i ≤ N → f i ≠ f (N + 1) := fun i hi q => e ⟨i, hi, q⟩
      have hv := h (N + 1) (Nat.le_refl _)
      obtain ⟨i, j, hij, hj, q⟩ := php N (fun i => if f (N + 1) < f i then f i - 1 else f i) fun i hi => by
        have h1 := h i (by omega)
        have h2 := ne i hi
        show (if f (N + 1) < f i then f i - 1 else f i) < N
        split <;> omega
      refine ⟨i, j, hij, by omega, ?_⟩
      have h1 := ne i (by omega)
      have h2 := ne j (by omega)
      have q : (if f (N + 1) < f i then f i - 1 else f i) = (if f (N + 1) < f j then f j - 1 else f j) := q
      split at q <;> split at q <;> omega
theorem least {p : Nat → Prop} : ∀ (n : Nat), p n → ∃ m, m ≤ n ∧ p m ∧ ∀ k, k < m → ¬ p k := by
  intro n
  induction n using Nat.strongRecOn with
  | _ n ih =>
    intro h
    by_cases e : ∃ k, k < n ∧ p k
    · obtain ⟨k, hk, q⟩ := e
      obtain ⟨m, h1, h2, h3⟩ := ih k hk q
      exact ⟨m, by omega, h2, h3⟩
    · exact ⟨n, Nat.le_refl _, h, fun k hk q => e ⟨k, hk, q⟩⟩
/-- the n numbers from t on -/
def stF (f : Nat → Int) (n t : Nat) : List Int := (List.range n).map fun i => f (t + i)
theorem stF_length {f : Nat → Int} {n t : Nat} : (stF f n t).length = n := len_range
theorem stF_at {f : Nat → Int} {n t i : Nat} (h : i < n) : at0 (stF f n t) i = f (t + i) := at0_range h
theorem stF_eq {f g : Nat → Int} {n s t : Nat} : stF f n s = stF g n t ↔ ∀ i, i < n → f (s + i) = g (t + i) := by
  constructor
  · intro h i hi
    rw [← stF_at (f := f) (n := n) (t := s) hi, h, stF_at hi]
  · intro h
    refine at0_ext (by rw [stF_length, stF_length]) fun i hi => ?_
    rw [stF_length] at hi
    rw [stF_at hi, stF_at hi, h i hi]
theorem stF_start {rule start : List Int} {q : Int} : stF (seqR rule q start) start.length 0 = start := by
  refine at0_ext stF_length fun i hi => ?_
  rw [stF_length] at hi
  rw [stF_at hi, Nat.zero_add, seqR_start hi]
theorem stF_next {rule start : List Int} {q : Int} (ls : start.length = rule.length) (t : Nat) : nextV (stF (seqR rule q start) rule.length t) rule q = seqR rule q start (t + rule.length) := by
  rw [nextV_all (by rw [stF_length]; exact Nat.le_refl _), stF_length, seqR_rule ls (i := t + rule.length) (by omega), ← lin_shift t rule rule.length (Nat.le_refl _)]
  congr 1
  exact lin_congr rule _ (Nat.le_refl _) fun j _ hj => stF_at hj
theorem stF_step {f : Nat → Int} {n t : Nat} (h : 0 < n) : (stF f n t).drop 1 ++ [f (t + n)] = stF f n (t + 1) := by
  refine at0_ext (by rw [List.length_append, List.length_drop, stF_length, stF_length, List.length_singleton]; omega) fun i hi => ?_
  rw [List.length_append, List.length_drop, stF_length, List.length_singleton] at hi
  rw [stF_at (by omega)]
  by_cases e : i < n - 1
  · rw [at0_app_l (by rw [List.length_drop, stF_length]; exact e), at0_drop, stF_at (by omega)]
    congr 1
    omega
  · rw [at0_app_r (by rw [List.length_drop, stF_length]; omega), List.length_drop, stF_length, show i - (n - 1) = 0 by omega]
    show f (t + n) = _
    congr 1
    omega
/-- all numbers but 0 have an inverse -/
theorem inv_ex {q : Int} (hq : q ∈ [2, 3, 5, 7, 11, 13]) {a : Int} (h0 : 0 < a) (h1 : a < q) : ∃ b, 0 ≤ b ∧ b < q ∧ a * b % q = 1 := by
  have key : ∀ q ∈ [2, 3, 5, 7, 11, 13], ∀ a ∈ List.range q, a ≠ 0 → ∃ b ∈ List.range q, a * b % q = 1 := by decide
  have hqn : q.toNat ∈ [2, 3, 5, 7, 11, 13] := by
    simp only [List.mem_cons, List.not_mem_nil, or_false] at hq ⊢
    omega
  obtain ⟨b, hb, e⟩ := key q.toNat hqn a.toNat (List.mem_range.mpr (by omega)) (by omega)
  refine ⟨b, by omega, by have := List.mem_range.mp hb; omega, ?_⟩
  have e2 : ((a.toNat * b % q.toNat : Nat) : Int) = 1 := by rw [e]; rfl
  rw [Int.natCast_emod, Int.natCast_mul, Int.toNat_of_nonneg (by omega), Int.toNat_of_nonneg (by omega)] at e2
  exact e2
theorem cancel {q : Int} (hq : q ∈ [2, 3, 5, 7, 11, 13]) {a x y : Int} (h0 : 0 < a) (h1 : a < q) (h : Cg q (a * x) (a * y)) : Cg q x y := by
  obtain ⟨b, _, _, e⟩ := inv_ex hq h0 h1
  have hq1 : 1 % q = 1 := Int.emod_eq_of_lt (by omega) (by
    simp only [List.mem_cons, List.not_mem_nil, or_false] at hq
    omega)
  have eb : Cg q (b * a) 1 := by
    show b * a % q = 1 % q
    rw [Int.mul_comm, e, hq1]
  have h2 := (Cg.rfl (q := q) (a := b)).mul h
  rw [← Int.mul_assoc, ← Int.mul_assoc] at h2
  have z : ∀ x, Cg q (b * a * x) x := fun x => by
    have := eb.mul (.rfl (a := x))
    rwa [Int.one_mul] at this
  exact (z x).symm.trans (h2.trans (z y))
/-- a step backward: the number ahead is told by those behind it -/
theorem good_back {rule : List Int} {q : Int} (hq : q ∈ [2, 3, 5, 7, 11, 13]) {f g : Nat → Int} (hf : Good rule q f) (hg : Good rule q g) (hr : InR q rule) (hn : 0 < rule.length) (hl : at0 rule (rule.length - 1) ≠ 0) {s t : Nat} (h : ∀ i, i < rule.length → Cg q (f (s + 1 + i)) (g (t + 1 + i))) : Cg q (f s) (g t) := by
  have hq0 : 0 < q := by
    simp only [List.mem_cons, List.not_mem_nil, or_false] at hq
    omega
  obtain ⟨m, hm⟩ : ∃ m, rule.length = m + 1 := ⟨rule.length - 1, by omega⟩
  have h1 := (hf (s + rule.length) (by omega)).symm.trans (Cg.trans (by
    have := h m (by omega)
    rwa [show s + 1 + m = s + rule.length by omega, show t + 1 + m = t + rule.length by omega] at this) (hg (t + rule.length) (by omega)))
  rw [lin_sm, lin_sm, hm] at h1
  have h2 : Cg q (sm m fun j => at0 rule j * f (s + (m + 1) - 1 - j)) (sm m fun j => at0 rule j * g (t + (m + 1) - 1 - j)) := sm_cg m fun j hj => Cg.mul .rfl (by
    have := h (m - 1 - j) (by omega)
    rwa [show s + 1 + (m - 1 - j) = s + (m + 1) - 1 - j by omega, show t + 1 + (m - 1 - j) = t + (m + 1) - 1 - j by omega] at this)
  have h3 := h1.sub h2
  rw [show sm (m + 1) (fun j => at0 rule j * f (s + (m + 1) - 1 - j)) = sm m (fun j => at0 rule j * f (s + (m + 1) - 1 - j)) + at0 rule m * f (s + (m + 1) - 1 - m) from rfl, show sm (m + 1) (fun j => at0 rule j * g (t + (m + 1) - 1 - j)) = sm m (fun j => at0 rule j * g (t + (m + 1) - 1 - j)) + at0 rule m * g (t + (m + 1) - 1 - m) from rfl, show s + (m + 1) - 1 - m = s by omega, show t + (m + 1) - 1 - m = t by omega] at h3
  rw [Int.add_comm, Int.add_sub_cancel, Int.add_comm, Int.add_sub_cancel] at h3
  have hin := at0_in hr hq0 m
  rw [show rule.length - 1 = m by omega] at hl
  exact cancel hq (by omega) hin.2 h3
/-- it comes round behind t -/
def Ret (q : Int) (f : Nat → Int) (n t : Nat) : Prop := ∀ i, i < n → Cg q (f (t + i)) (f i)
theorem good_fwd {rule : List Int} {q : Int} {f g : Nat → Int} (hf : Good rule q f) (hg : Good rule q g) {s t : Nat} (h : ∀ i, i < rule.length → Cg q (f (s + i)) (g (t + i))) (d : Nat) : Cg q (f (s + d)) (g (t + d)) :=
  good_same (hf.shift s) (hg.shift t) h d
theorem good_down {rule : List Int} {q : Int} (hq : q ∈ [2, 3, 5, 7, 11, 13]) {f : Nat → Int} (hf : Good rule q f) (hr : InR q rule) (hn : 0 < rule.length) (hl : at0 rule (rule.length - 1) ≠ 0) (d : Nat) : ∀ i, (∀ k, k < rule.length → Cg q (f (d + i + k)) (f (i + k))) → ∀ k, k < rule.length → Cg q (f (d + k)) (f k)
  | 0, h, k, hk => by
    have := h k hk
    rwa [Nat.add_zero, Nat.zero_add] at this
  | i + 1, h, k, hk => by
    refine good_down hq hf hr hn hl d i (fun k hk => ?_) k hk
    have back : Cg q (f (d + i)) (f i) := good_back hq hf hf hr hn hl fun k hk => by
      have := h k hk
      rwa [show d + (i + 1) + k = d + i + 1 + k by omega] at this
    cases k with
    | zero => exact back
    | succ k =>
      have := h k (by omega)
      rwa [show d + (i + 1) + k = d + i + (k + 1) by omega, show i + 1 + k = i + (k + 1) by omega] at this
/-- the numbers of a row as one number -/
def codeN (q : Nat) : List Int → Nat
  | [] => 0
  | x :: xs => x.toNat + q * codeN q xs
theorem codeN_lt {q : Nat} (hq : 0 < q) : ∀ (xs : List Int), InR (q : Int) xs → codeN q xs < q ^ xs.length
  | [], _ => by
    show 0 < 1
    omega
  | x :: xs, h => by
    have h1 := h x (by simp)
    have h2 := codeN_lt hq xs fun y hy => h y (by simp [hy])
    rw [List.length_cons, Nat.pow_succ]
    show x.toNat + q * codeN q xs < _
    have h3 : q * (codeN q xs + 1) ≤ q * q ^ xs.length := Nat.mul_le_mul (Nat.le_refl _) h2
    rw [Nat.mul_add, Nat.mul_one] at h3
    rw [Nat.mul_comm (q ^ xs.length) q]
    omega
theorem codeN_inj {q : Nat} (hq : 0 < q) : ∀ (xs ys : List Int), xs.length = ys.length → InR (q : Int) xs → InR (q : Int) ys → codeN q xs = codeN q ys → xs = ys
  | [], [], _, _, _, _ => rfl
  | x :: xs, y :: ys, hl, hx, hy, e => by
    have h1 := hx x (by simp)
    have h2 := hy y (by simp)
    have e : x.toNat + q * codeN q xs = y.toNat + q * codeN q ys := e
    have m1 : (x.toNat + q * codeN q xs) % q = x.toNat := by
      rw [Nat.add_mul_mod_self_left, Nat.mod_eq_of_lt (by omega)]
    have m2 : (y.toNat + q * codeN q ys) % q = y.toNat := by
      rw [Nat.add_mul_mod_self_left, Nat.mod_eq_of_lt (by omega)]
    have e1 : x.toNat = y.toNat := by rw [← m1, ← m2, e]
    have e2 : codeN q xs = codeN q ys := Nat.eq_of_mul_eq_mul_left hq (by omega)
    rw [codeN_inj hq xs ys (by simpa using hl) (fun z hz => hx z (by simp [hz])) (fun z hz => hy z (by simp [hz])) e2]
    congr 1
    omega
theorem stF_in {q : Int} {f : Nat → Int} (h : ∀ i, 0 ≤ f i ∧ f i < q) (n t : Nat) : InR q (stF f n t) := .map_range fun i _ => h _
/-- it comes round, within as many as there are -/
theorem round_ex {rule start : List Int} {q : Int} (hq : q ∈ [2, 3, 5, 7, 11, 13]) (hr : InR q rule) (hs : InR q start) (ls : start.length = rule.length) (hn : 0 < rule.length) (hl : at0 rule (rule.length - 1) ≠ 0) : ∃ T, 0 < T ∧ T ≤ q.toNat ^ rule.length ∧ Ret q (seqR rule q start) rule.length T := by
  have hq0 : 0 < q := by
    simp only [List.mem_cons, List.not_mem_nil, or_false] at hq
    omega
  have hin : ∀ i, 0 ≤ seqR rule q start i ∧ seqR rule q start i < (q.toNat : Int) := fun i => by
    rw [Int.toNat_of_nonneg (by omega)]
    exact seqR_in hs hq0 i
  obtain ⟨i, j, hij, hj, e⟩ := php (q.toNat ^ rule.length) (fun t => codeN q.toNat (stF (seqR rule q start) rule.length t)) fun t _ => by
    have := codeN_lt (q := q.toNat) (by omega) _ (stF_in hin rule.length t)
    rwa [stF_length] at this
  have e2 := codeN_inj (q := q.toNat) (by omega) _ _ (by rw [stF_length, stF_length]) (stF_in hin rule.length i) (stF_in hin rule.length j) e
  have e3 := stF_eq.mp e2
  refine ⟨j - i, by omega, by omega, ?_⟩
  refine good_down hq (seqR_good ls) hr hn hl (j - i) i fun k hk => ?_
  rw [show j - i + i + k = j + k by omega]
  exact .of_eq (e3 k hk).symm
/-- the least way round -/
def IsPer (q : Int) (f : Nat → Int) (n T : Nat) : Prop := 0 < T ∧ Ret q f n T ∧ ∀ t, 0 < t → t < T → ¬ Ret q f n t
theorem per_ex {q : Int} {f : Nat → Int} {n T : Nat} (h0 : 0 < T) (h : Ret q f n T) : ∃ S, S ≤ T ∧ IsPer q f n S := by
  obtain ⟨m, h1, ⟨h2, h3⟩, h4⟩ := least (p := fun t => 0 < t ∧ Ret q f n t) T ⟨h0, h⟩
  exact ⟨m, h1, h2, h3, fun t ht hlt r => h4 t hlt ⟨ht, r⟩⟩
theorem per_same {q : Int} {f g : Nat → Int} {n S T : Nat} (hf : IsPer q f n S) (hg : IsPer q g n T) (h : ∀ t, 0 < t → (Ret q f n t ↔ Ret q g n t)) : S = T := by
  rcases Nat.lt_trichotomy S T with e | e | e
  · exact absurd ((h S hf.1).mp hf.2.1) (hg.2.2 S hf.1 e)
  · exact e
  · exact absurd ((h T hg.1).mpr hg.2.1) (hf.2.2 T hg.1 e)
theorem Ret.all {rule : List Int} {q : Int} {f : Nat → Int} (hf : Good rule q f) {T : Nat} (h : Ret q f rule.length T) (p : Nat) : Cg q (f (T + p)) (f p) := by
  have := good_fwd hf hf (s := T) (t := 0) (fun i hi => by
    rw [Nat.zero_add]
    exact h i hi) p
  rwa [Nat.zero_add] at this
theorem seqR_uniq {rule start : List Int} {q : Int} {g : Nat → Int} (hq : 0 < q) (hs : InR q start) (ls : start.length = rule.length) (hg : Good rule q g) (hin : ∀ i, 0 ≤ g i ∧ g i < q) (h : ∀ i, i < rule.length → Cg q (g i) (at0 start i)) (p : Nat) : seqR rule q start p = g p := by
  refine (good_same (seqR_good ls) hg (fun i hi => ?_) p).eq (seqR_in hs hq p) (hin p)
  rw [seqR_start (by omega)]
  exact (h i hi).symm
theorem Good.mod {rule : List Int} {q : Int} {f : Nat → Int} (hf : Good rule q f) : Good rule q (fun i => f i % q) := fun i hi =>
  Cg.mod.trans ((hf i hi).trans (lin_cg rule i hi fun j _ _ => Cg.mod.symm))
theorem seqR_shift {rule start : List Int} {q : Int} (hq : 0 < q) (hs : InR q start) (ls : start.length = rule.length) (t p : Nat) : seqR rule q (stF (seqR rule q start) rule.length t) p = seqR rule q start (t + p) :=
  seqR_uniq hq (stF_in (fun i => seqR_in hs hq i) _ _) stF_length ((seqR_good ls).shift t) (fun i => seqR_in hs hq _) (fun i hi => .of_eq (stF_at hi).symm) p
theorem seqR_add {rule a b c : List Int} {q : Int} (hq : 0 < q) (ha : InR q a) (hb : InR q b) (la : a.length = rule.length) (lb : b.length = rule.length) (lc : c.length = rule.length) (hc : InR q c) (h : ∀ i, i < rule.length → at0 c i = (at0 a i + at0 b i) % q) (p : Nat) : seqR rule q c p = (seqR rule q a p + seqR rule q b p) % q :=
  seqR_uniq hq hc lc ((seqR_good la).add (seqR_good lb)).mod (fun i => emod_in _ hq) (fun i hi => by
    rw [h i hi, seqR_start (by omega), seqR_start (by omega)]
    exact .rfl) p
theorem seqR_mul {rule a c : List Int} {q : Int} (k : Int) (hq : 0 < q) (ha : InR q a) (la : a.length = rule.length) (lc : c.length = rule.length) (hc : InR q c) (h : ∀ i, i < rule.length → at0 c i = k * at0 a i % q) (p : Nat) : seqR rule q c p = k * seqR rule q a p % q :=
  seqR_uniq hq hc lc ((seqR_good la).mul k).mod (fun i => emod_in _ hq) (fun i hi => by
    rw [h i hi, seqR_start (by omega)]
    exact .rfl) p
theorem gone_drop {rule start : List Int} {q : Int} (ls : start.length = rule.length) (t : Nat) : (gone rule q t start).drop t = stF (seqR rule q start) rule.length t := by
  refine at0_ext (by rw [List.length_drop, gone_length, stF_length]; omega) fun i hi => ?_
  rw [List.length_drop, gone_length] at hi
  rw [at0_drop, stF_at (by omega), seqR_gone (n := t) (by omega)]
end Ey

set_option Elab.async false
set_option linter.all false
set_option maxRecDepth 100000
set_option maxHeartbeats 4000000
namespace Ey
open PySem DL
/-! ### rules turned about -/
def rv (A : Nat → Int) (n i : Nat) : Int := if i ≤ n then A (n - i) else 0
theorem rv_le {A : Nat → Int} {n i : Nat} (h : i ≤ n) : rv A n i = A (n - i) := if_pos h
theorem rv_gt {A : Nat → Int} {n i : Nat} (h : n < i) : rv A n i = 0 := if_neg (by omega)
theorem rv_rv {A : Nat → Int} {n i : Nat} (h : i ≤ n) : rv (rv A n) n i = A i := by
  rw [rv_le h, rv_le (by omega)]
  congr 1
  omega
theorem cv_low {A B : Nat → Int} {n k : Nat} (hA : ∀ i, n < i → A i = 0) : cv A B k = sm (n + 1) fun l => if l ≤ k then A l * B (k - l) else 0 := by
  unfold cv
  rw [← sm_more (m := n + 1) (n := n + 1 + (k + 1)) (by omega) (fun l h1 _ => by rw [hA l (by omega), Int.zero_mul]; split <;> rfl), sm_more (m := k + 1) (n := n + 1 + (k + 1)) (by omega) (fun l h1 _ => if_neg (by omega))]
  exact sm_congr _ fun l hl => (if_pos (by omega)).symm
theorem cv_rv {A B : Nat → Int} {n m : Nat} (hA : ∀ i, n < i → A i = 0) (hB : ∀ i, m < i → B i = 0) {i : Nat} (hi : i ≤ n + m) : cv (rv A n) (rv B m) i = cv A B (n + m - i) := by
  rw [cv_low (n := n) (A := rv A n) (fun l hl => rv_gt hl), cv_low (n := n) (A := A) hA, ← sm_turn]
  refine sm_congr _ fun l hl => ?_
  rw [show n + 1 - 1 - l = n - l by omega, rv_le (by omega), show n - (n - l) = l by omega]
  by_cases h1 : n - l ≤ i
  · rw [if_pos h1]
    by_cases h2 : i - (n - l) ≤ m
    · rw [rv_le h2, if_pos (by omega)]
      congr 2
      omega
    · rw [rv_gt (by omega), Int.mul_zero, if_neg (by omega)]
  · rw [if_neg h1]
    split
    · rw [hB _ (by omega), Int.mul_zero]
    · rfl
theorem cv_scale {A B : Nat → Int} (a b : Int) (k : Nat) : cv (fun i => a * A i) (fun i => b * B i) k = a * b * cv A B k := by
  unfold cv
  rw [← sm_mul]
  refine sm_congr _ fun i _ => ?_
  rw [Int.mul_assoc, Int.mul_assoc, Int.mul_left_comm (A i)]
theorem wh_same {xs ys : List Int} {q : Int} (hq : 0 < q) (hl : xs.length = ys.length) (hx : InR q xs) (hy : InR q ys) (h : ∀ i, i ≤ xs.length → Cg q (wh xs i) (wh ys i)) : xs = ys := by
  refine at0_ext hl fun i hi => ?_
  have := (h (i + 1) (by omega)).neg
  rw [wh_succ, wh_succ, Int.neg_neg, Int.neg_neg] at this
  exact this.eq (at0_in hx hq i) (at0_in hy hq i)
def turnV (rule : List Int) (q b : Int) : List Int := (rule.dropLast.reverse.map fun x => -x * b % q) ++ [b]
theorem turnV_length {rule : List Int} {q b : Int} (h : 0 < rule.length) : (turnV rule q b).length = rule.length := by
  unfold turnV
  rw [List.length_append, List.length_map, List.length_reverse, List.length_dropLast, List.length_singleton]
  omega
theorem turnV_in {rule : List Int} {q b : Int} (hb : 0 ≤ b ∧ b < q) : InR q (turnV rule q b) := by
  refine InR.app (fun x hx => ?_) (.one hb)
  obtain ⟨y, _, rfl⟩ := List.mem_map.mp hx
  exact emod_in _ (by omega)
theorem turnV_last {rule : List Int} {q b : Int} (h : 0 < rule.length) : at0 (turnV rule q b) (rule.length - 1) = b := by
  unfold turnV
  rw [at0_app_r (by rw [List.length_map, List.length_reverse, List.length_dropLast]; omega), List.length_map, List.length_reverse, List.length_dropLast, Nat.sub_self]
  rfl
theorem turnV_wh {rule : List Int} {q b : Int} (h : 0 < rule.length) (hb : Cg q (at0 rule (rule.length - 1) * b) 1) (i : Nat) : Cg q (wh (turnV rule q b) i) (-b * rv (wh rule) rule.length i) := by
  have hdl : (rule.dropLast.reverse.map fun x => -x * b % q).length = rule.length - 1 := by rw [List.length_map, List.length_reverse, List.length_dropLast]
  cases i with
  | zero =>
    rw [rv_le (Nat.zero_le _), Nat.sub_zero, show rule.length = (rule.length - 1) + 1 by omega, wh_succ, Int.neg_mul_neg, Int.mul_comm]
    exact hb.symm
  | succ i =>
    rw [wh_succ]
    by_cases h1 : i < rule.length - 1
    · rw [rv_le (by omega), show rule.length - (i + 1) = (rule.length - 2 - i) + 1 by omega, wh_succ, Int.neg_mul_neg]
      unfold turnV
      rw [at0_app_l (by omega), at0_map (by rw [List.length_reverse, List.length_dropLast]; omega), at0_reverse (by rw [List.length_dropLast]; omega), List.length_dropLast, List.dropLast_eq_take, at0_take (by omega), show rule.length - 1 - 1 - i = rule.length - 2 - i by omega]
      refine (Cg.mod.neg).trans (.of_eq ?_)
      rw [Int.neg_mul, Int.neg_neg, Int.mul_comm]
    · by_cases h2 : i = rule.length - 1
      · rw [h2, turnV_last h, rv_le (by omega), show rule.length - (rule.length - 1 + 1) = 0 by omega, wh_zero, Int.mul_one]
        exact .rfl
      · rw [at0_ge (by rw [turnV_length h]; omega), rv_gt (by omega), Int.mul_zero]
        exact .rfl
theorem turn_turn {rule : List Int} {q b c : Int} (hq : 0 < q) (h : 0 < rule.length) (hr : InR q rule) (hb : Cg q (at0 rule (rule.length - 1) * b) 1) (hc0 : 0 ≤ c ∧ c < q) (hc : Cg q (b * c) 1) : turnV (turnV rule q b) q c = rule := by
  have l1 := turnV_length (q := q) (b := b) h
  have l2 := turnV_length (rule := turnV rule q b) (q := q) (b := c) (by omega)
  refine wh_same hq (by omega) (turnV_in hc0) hr fun i hi => ?_
  refine (turnV_wh (by omega) (by rw [l1, turnV_last h]; exact hc) i).trans ?_
  rw [l1, rv_le (by omega)]
  refine (Cg.mul .rfl (turnV_wh h hb (rule.length - i))).trans ?_
  rw [rv_le (by omega), show rule.length - (rule.length - i) = i by omega, ← Int.mul_assoc, Int.neg_mul_neg]
  have := (hc.mul (.rfl (a := wh rule i)))
  rwa [Int.one_mul, Int.mul_comm b c] at this
/-- the row backward goes by the rule turned about -/
theorem turn_goes {rule : List Int} {q b : Int} {f : Nat → Int} {L : Nat} (h : 0 < rule.length) (hb : Cg q (at0 rule (rule.length - 1) * b) 1) (hf : ∀ i, i < L → 0 ≤ f i ∧ f i < q) (g : Goes rule q f L) : Goes (turnV rule q b) q (fun i => f (L - 1 - i)) L := by
  have g := (Goes_cv hf).mp g
  refine (Goes_cv fun i hi => hf _ (by omega)).mpr fun i h1 h2 => ?_
  rw [turnV_length h] at h1
  refine (cv_cg (fun j _ => turnV_wh h hb j) fun j _ => .rfl).trans ?_
  have e : cv (fun j => -b * rv (wh rule) rule.length j) (fun i => f (L - 1 - i)) i = -b * cv (wh rule) f (L - 1 - i + rule.length) := by
    have e1 : cv (fun j => -b * rv (wh rule) rule.length j) (fun i => f (L - 1 - i)) i = -b * cv (rv (wh rule) rule.length) (fun i => f (L - 1 - i)) i := by
      unfold cv
      rw [← sm_mul]
      exact sm_congr _ fun j _ => Int.mul_assoc _ _ _
    rw [e1]
    congr 1
    rw [cv_low (n := rule.length) (A := rv (wh rule) rule.length) (fun l hl => rv_gt hl), cv_low (n := rule.length) (A := wh rule) (fun l hl => wh_far hl), ← sm_turn]
    refine sm_congr _ fun l hl => ?_
    rw [show rule.length + 1 - 1 - l = rule.length - l by omega, if_pos (by omega), if_pos (by omega), rv_le (by omega), show rule.length - (rule.length - l) = l by omega]
    congr 2
    omega
  rw [e]
  have := (Cg.rfl (q := q) (a := -b)).mul (g (L - 1 - i + rule.length) (by omega) (by omega))
  rwa [Int.mul_zero] at this
theorem timesV_last {a b : List Int} {q : Int} (ha : 0 < a.length) (hb : 0 < b.length) : Cg q (at0 (timesV a b q) (a.length + b.length - 1)) (-(at0 a (a.length - 1) * at0 b (b.length - 1))) := by
  have e := (timesV_wh (one := a) (other := b) (q := q) (a.length + b.length)).neg
  rw [show a.length + b.length = (a.length + b.length - 1) + 1 by omega, wh_succ, Int.neg_neg, show a.length + b.length - 1 + 1 = a.length + b.length by omega] at e
  refine e.trans (.of_eq ?_)
  congr 1
  unfold cv
  rw [sm_one (k := a.length) (by omega) fun i hi hne => by
    by_cases h : a.length < i
    · rw [wh_far h, Int.zero_mul]
    · rw [wh_far (r := b) (by omega), Int.mul_zero]]
  rw [show a.length + b.length - a.length = (b.length - 1) + 1 by omega, show wh a a.length = wh a ((a.length - 1) + 1) by rw [Nat.sub_add_cancel ha], wh_succ, wh_succ, Int.neg_mul_neg]
theorem times_turn {a b : List Int} {q ia ib d : Int} (hq : 0 < q) (ha : 0 < a.length) (hb : 0 < b.length) (hia : Cg q (at0 a (a.length - 1) * ia) 1) (hib : Cg q (at0 b (b.length - 1) * ib) 1) (hd0 : 0 ≤ d ∧ d < q) (hd : Cg q (at0 (timesV a b q) (a.length + b.length - 1) * d) 1) : turnV (timesV a b q) q d = timesV (turnV a q ia) (turnV b q ib) q := by
  have lt : (timesV a b q).length = a.length + b.length := timesV_length
  have l0 : (turnV (timesV a b q) q d).length = a.length + b.length := by rw [turnV_length (by omega), lt]
  refine wh_same hq (by rw [l0, timesV_length, turnV_length ha, turnV_length hb]) (turnV_in hd0) (timesV_in hq) fun i hi => ?_
  rw [l0] at hi
  refine (turnV_wh (by omega) (by rw [lt]; exact hd) i).trans ?_
  refine Cg.trans ?_ (timesV_wh i).symm
  refine Cg.trans ?_ (cv_cg (fun j _ => turnV_wh ha hia j) fun j _ => turnV_wh hb hib j).symm
  rw [cv_scale, cv_rv (fun i hi => wh_far hi) (fun i hi => wh_far hi) hi, lt, rv_le hi, Int.neg_mul_neg]
  refine Cg.mul ?_ (timesV_wh _)
  have h1 : Cg q (-(at0 a (a.length - 1) * at0 b (b.length - 1)) * d) 1 := ((timesV_last ha hb).symm.mul .rfl).trans hd
  have h2 := hia.mul hib
  rw [Int.mul_one] at h2
  have h3 := (Cg.rfl (q := q) (a := -d)).mul h2.symm
  rw [Int.mul_one] at h3
  refine h3.trans ?_
  have h4 := h1.mul (.rfl (a := ia * ib))
  rw [Int.one_mul] at h4
  refine Cg.trans (.of_eq ?_) h4
  generalize at0 a (a.length - 1) = x
  generalize at0 b (b.length - 1) = y
  have : x * ia * (y * ib) = x * y * (ia * ib) := by
    rw [Int.mul_assoc, Int.mul_assoc, Int.mul_left_comm ia]
  rw [this, ← Int.mul_assoc, Int.neg_mul, Int.neg_mul, Int.mul_comm d]
  simp only [Int.neg_mul]
theorem one_of {q x : Int} (hq : 2 ≤ q) (h : x % q = 1) : Cg q x 1 := by
  show x % q = 1 % q
  rw [h, Int.emod_eq_of_lt (by omega) (by omega)]
theorem inv_nz {q a b : Int} (hq : 2 ≤ q) (h : Cg q (a * b) 1) : b ≠ 0 := fun e => by
  rw [e, Int.mul_zero] at h
  have h : 0 % q = 1 % q := h
  rw [Int.zero_emod, Int.emod_eq_of_lt (by omega) (by omega)] at h
  omega
theorem inv_nz_l {q a b : Int} (hq : 2 ≤ q) (h : Cg q (a * b) 1) : a ≠ 0 := inv_nz hq (by rwa [Int.mul_comm] at h)
theorem goes_revM {row rule : List Int} {q b : Int} (hq : q ∈ [2, 3, 5, 7, 11, 13]) (hw : InR q row) (hr : InR q rule) (h : 0 < rule.length) (hb0 : 0 ≤ b ∧ b < q) (hb : Cg q (at0 rule (rule.length - 1) * b) 1) : goesB row rule q = goesB row.reverse (turnV rule q b) q := by
  have hq2 : 2 ≤ q := by
    simp only [List.mem_cons, List.not_mem_nil, or_false] at hq
    omega
  have hq0 : 0 < q := by omega
  have rr : ∀ (xs : List Int) i, i < xs.length → at0 xs (xs.length - 1 - i) = at0 xs.reverse i := fun xs i hi => (at0_reverse hi).symm
  rw [Bool.eq_iff_iff, goesB_iff, goesB_iff]
  constructor
  · intro g
    have := turn_goes h hb (fun i _ => at0_in hw hq0 i) g
    rw [List.length_reverse]
    exact this.congr fun i hi => rr row i hi
  · intro g
    obtain ⟨c, c0, c1, hc⟩ := inv_ex hq (a := b) (by have := inv_nz hq2 hb; omega) hb0.2
    have lt := turnV_length (q := q) (b := b) h
    have hrev : InR q row.reverse := fun x hx => hw x (List.mem_reverse.mp hx)
    have := turn_goes (q := q) (b := c) (rule := turnV rule q b) (f := at0 row.reverse) (L := row.reverse.length) (by omega) (by rw [lt, turnV_last h]; exact one_of hq2 hc) (fun i _ => at0_in hrev hq0 i) g
    rw [turn_turn hq0 h hr hb ⟨c0, c1⟩ (one_of hq2 hc), List.length_reverse] at this
    refine this.congr fun i hi => ?_
    have := rr row.reverse i (by rw [List.length_reverse]; exact hi)
    rwa [List.length_reverse, List.reverse_reverse] at this
theorem sPairL_ap {i j : Nat} {f : DE P} {δ : DEnv} : sPairL i j f δ = ofR δ (f δ) fun d => match d with
  | .list [a, b] => .nx ((δ.set i (.val a)).set j (.val b))
  | _ => .stuck := rfl
theorem forGo_nx {bd : Bd} {g : DEnv → SRes} {d : P} {ds : List P} {δ δ1 δ2 : DEnv} (h : bd d δ = .ok δ1) (h2 : g δ1 = .nx δ2) : forGo bd g (d :: ds) δ = forGo bd g ds δ2 := by
  rw [forGo, h]
  dsimp only
  rw [h2]
end Ey

set_option Elab.async false
set_option linter.all false
set_option maxRecDepth 100000
set_option maxHeartbeats 4000000
namespace Ey
open PySem DL
/-! ### things of any kind -/
/-- it may be compared, and is no deeper than n -/
def Nice (n : Nat) (d : P) : Prop := d.canLay0 = true ∧ d.depth ≤ n
theorem layAll_iff : ∀ ds : List P, PyData.canLayAll0 ds = true ↔ ∀ d ∈ ds, d.canLay0 = true
  | [] => by
    unfold PyData.canLayAll0
    simp
  | d :: ds => by
    unfold PyData.canLayAll0
    rw [Bool.and_eq_true, layAll_iff ds]
    simp
theorem depthAll_iff (n : Nat) : ∀ ds : List P, PyData.depthAll ds ≤ n ↔ ∀ d ∈ ds, d.depth ≤ n
  | [] => by
    unfold PyData.depthAll
    simp
  | d :: ds => by
    unfold PyData.depthAll
    rw [Nat.max_le, depthAll_iff n ds]
    simp
theorem nice_tuple {n : Nat} {ds : List P} : Nice (n + 1) (.tuple ds) ↔ ∀ d ∈ ds, Nice n d := by
  unfold Nice
  rw [PyData.canLay0, PyData.depth, layAll_iff, Nat.add_le_add_iff_right, depthAll_iff]
  exact ⟨fun h d hd => ⟨h.1 d hd, h.2 d hd⟩, fun h => ⟨fun d hd => (h d hd).1, fun d hd => (h d hd).2⟩⟩
theorem nice_list {n : Nat} {ds : List P} : Nice (n + 1) (.list ds) ↔ ∀ d ∈ ds, Nice n d := by
  unfold Nice
  rw [PyData.canLay0, PyData.depth, layAll_iff, Nat.add_le_add_iff_right, depthAll_iff]
  exact ⟨fun h d hd => ⟨h.1 d hd, h.2 d hd⟩, fun h => ⟨fun d hd => (h d hd).1, fun d hd => (h d hd).2⟩⟩
theorem Nice.mono {m n : Nat} {d : P} (h : Nice m d) (hm : m ≤ n) : Nice n d := ⟨h.1, by have := h.2; omega⟩
theorem Nice.shaped {n : Nat} {d : P} (h : Nice n d) (hn : n ≤ 64) : SeqAt.shaped d = true := by
  unfold SeqAt.shaped
  rw [h.1, decide_eq_true (by have := h.2; omega)]
  rfl
theorem nice_int {n : Nat} (x : Int) : Nice n (.int x) := ⟨by rw [PyData.canLay0], by rw [PyData.depth]; exact Nat.zero_le _⟩
theorem nice_bool {n : Nat} (x : Bool) : Nice n (.bool x) := ⟨by rw [PyData.canLay0], by rw [PyData.depth]; exact Nat.zero_le _⟩
theorem nice_none {n : Nat} : Nice n .none := ⟨by rw [PyData.canLay0], by rw [PyData.depth]; exact Nat.zero_le _⟩
theorem nice_tI {n : Nat} (xs : List Int) : Nice (n + 1) (tI xs) := nice_tuple.mpr fun d hd => by
  obtain ⟨x, _, rfl⟩ := List.mem_map.mp hd
  exact nice_int x
theorem nice_lI {n : Nat} (xs : List Int) : Nice (n + 1) (lI xs) := nice_list.mpr fun d hd => by
  obtain ⟨x, _, rfl⟩ := List.mem_map.mp hd
  exact nice_int x
/-- whether it is a number of a clock; a row of one -/
def partB (q : Int) : P → Bool
  | .int x => decide (0 ≤ x ∧ x < q)
  | _ => false
def rowB (q : Int) : P → Bool
  | .tuple ds => decide (ds.length ≤ 30) && ds.all (partB q)
  | _ => false
/-- what may come of spoiling -/
def ThingN (n : Nat) (d : P) : Prop := Nice n d ∧ ∀ ds, d = .tuple ds → ds.length ≤ 1000
abbrev Thing (d : P) : Prop := ThingN 6 d
theorem ThingN.mono {m n : Nat} {d : P} (h : ThingN m d) (hm : m ≤ n) : ThingN n d := ⟨h.1.mono hm, h.2⟩
theorem comp_boolP {bd : Bd} {e : DE P} {δ : DEnv} (ds : List P) (F : P → Bool) (h : ∀ a ∈ ds, ∃ δ1, bd a δ = .ok δ1 ∧ e δ1 = .ok (.bool (F a))) : compGo bd cYes e δ ds = .ok ((ds.map F).map PyData.bool) := by
  have := comp_gen (bd := bd) (e := e) (δ := δ) ds (fun a => a) (fun a => .bool (F a)) h
  rw [List.map_id'] at this
  rw [this, List.map_map]
  rfl
theorem comp_filterP {bd : Bd} {c : DE Bool} {e : DE P} {δ : DEnv} (ds : List P) (p : P → Bool) (h : ∀ a ∈ ds, ∃ δ1, bd a δ = .ok δ1 ∧ c δ1 = .ok (p a) ∧ (p a = true → e δ1 = .ok a)) : compGo bd c e δ ds = .ok (ds.filter p) := by
  have := comp_genF (bd := bd) (c := c) (e := e) (δ := δ) ds (fun a => a) p (fun a => a) h
  rw [List.map_id', List.map_id'] at this
  exact this
theorem pEq_nil {n : Nat} {ds : List P} (h : ∀ d ∈ ds, Nice n d) (hn : n + 1 ≤ 64) : pEq (.list ds) (.list []) = .ok (.bool ds.isEmpty) := by
  unfold pEq
  rw [if_pos ⟨(nice_list.mpr h).shaped hn, (nice_list (n := n).mpr fun d hd => by simp at hd).shaped hn⟩, PyData.eqv]
  cases ds with
  | nil =>
    rw [PyData.eqvAll]
    rfl
  | cons a b =>
    rw [PyData.eqvAll]
    · rfl
    all_goals (intros; simp at *)
theorem itemsOf_tup {ds : List P} : itemsOf (.tuple ds) = .ok ds := rfl
theorem pLen_tup {ds : List P} : pLen (.tuple ds) = .ok (.int ds.length) := rfl
theorem pAll_bs {bs : List Bool} : pAll (.list (bs.map PyData.bool)) = .ok (.bool (bs.all id)) := pAll_bools
theorem thing_plain {n : Nat} {d : P} (h : Nice n d) (h2 : isTuple d = false) : ThingN n d := ⟨h, fun ds e => by rw [e] at h2; cases h2⟩
theorem thing_int {n : Nat} (x : Int) : ThingN n (.int x) := thing_plain (nice_int x) rfl
theorem thing_tup {n : Nat} {ds : List P} (h : ∀ d ∈ ds, Nice n d) (hl : ds.length ≤ 1000) : ThingN (n + 1) (.tuple ds) := ⟨nice_tuple.mpr h, fun es e => by cases e; exact hl⟩
theorem thing_tI {n : Nat} {xs : List Int} (hl : xs.length ≤ 1000) : ThingN (n + 1) (tI xs) := thing_tup (fun d hd => by
  obtain ⟨x, _, rfl⟩ := List.mem_map.mp hd
  exact nice_int x) (by rw [List.length_map]; exact hl)
theorem thing_lI {n : Nat} (xs : List Int) : ThingN (n + 1) (lI xs) := thing_plain (nice_lI xs) rfl
theorem sizedL_any {ds : List P} (h : ds.length ≤ 1000) : sizedL ds = .ok ds := if_pos (Nat.le_trans h (by decide))
theorem sizedT_any {ds : List P} (h : ds.length ≤ 1000) : sizedT ds = .ok (.tuple ds) := if_pos (Nat.le_trans h (by decide))
theorem pAddL_any {a b : List P} (h : a.length + b.length ≤ 1000) : pAddL (.list a) (.list b) = .ok (a ++ b) := if_pos (Nat.le_trans h (by decide))
theorem pAdd_tup {a b : List P} (h : a.length + b.length ≤ 1000) : pAdd (.tuple a) (.tuple b) = .ok (.tuple (a ++ b)) := if_pos (Nat.le_trans h (by decide))
theorem pIx_any {ds : List P} {k : Int} (h0 : 0 ≤ k) (h1 : k < ds.length) : ∃ d ∈ ds, pIx (.list ds) (.int k) = .ok d := by
  obtain ⟨j, rfl⟩ := Int.eq_ofNat_of_zero_le h0
  have hj : j < ds.length := by omega
  refine ⟨ds[j], List.getElem_mem hj, ?_⟩
  show atP ds (j : Int) = _
  unfold atP
  rw [atI_nn h0 h1, Int.toNat_natCast, List.getElem?_eq_getElem hj]
theorem pRepI_tI {xs : List Int} {k : Int} (h0 : xs ≠ []) (h1 : 2 ≤ k) (h2 : k ≤ 1000) (h3 : xs.length ≤ 1000) : pRepI (.int k) (tI xs) = .ok (tI (List.replicate k.toNat xs).flatten) := by
  unfold tI pRepI
  show (if _ then _ else _) = _
  rw [if_pos ⟨fun e => h0 (List.map_eq_nil_iff.mp e), h1, h2, by rw [List.length_map]; exact h3⟩, rep_map]
theorem pRepA_tI {xs : List Int} {k : Int} (h0 : xs ≠ []) (h1 : -1000 ≤ k) (h2 : k ≤ 1000) (h3 : xs.length ≤ 1000) : pRepA (tI xs) (.int k) = .ok (tI (List.replicate k.toNat xs).flatten) := by
  unfold tI pRepA
  show (if _ then _ else _) = _
  rw [if_pos ⟨fun e => h0 (List.map_eq_nil_iff.mp e), h1, h2, by rw [List.length_map]; exact h3⟩, rep_map]
theorem thing_str {n : Nat} {s : Str} (h : PyData.strOk s = true) : ThingN n (.str s) := thing_plain ⟨by rw [PyData.canLay0]; exact h, by rw [PyData.depth]; exact Nat.zero_le _⟩ rfl
theorem strOk_int {x : Int} (h0 : 0 ≤ x) (h1 : x ≤ 12) : PyData.strOk (Str.ofString (toString x)) = true := by
  have key : ∀ n ∈ List.range 13, PyData.strOk (Str.ofString (toString (n : Int))) = true := by decide +kernel
  have := key x.toNat (List.mem_range.mpr (by omega))
  rwa [Int.toNat_of_nonneg h0] at this
end Ey

set_option Elab.async false
set_option linter.all false
set_option maxRecDepth 100000
set_option maxHeartbeats 4000000
/-! evaluation: objects -/
namespace Ey
open PySem DL
def objAt (i : Nat) (δ : DEnv) : Option (Lk × Str × List (Str × P)) := match δ[i]? with
  | some (.obj lk c fs) => some (lk, c, fs)
  | _ => none
theorem objAt_zero {lk : Lk} {c : Str} {fs : List (Str × P)} {δ : DEnv} : objAt 0 (.obj lk c fs :: δ) = some (lk, c, fs) := rfl
theorem objAt_succ {s : Slot} {δ : DEnv} {n : Nat} : objAt (n + 1) (s :: δ) = objAt n δ := by
  unfold objAt
  rw [List.getElem?_cons_succ]
def objTo {β : Type} (o : Option (Lk × Str × List (Str × P))) (k : Lk → Str → List (Str × P) → β) (z : β) : β := match o with
  | some (lk, c, fs) => k lk c fs
  | none => z
theorem objTo_some {β : Type} {lk : Lk} {c : Str} {fs : List (Str × P)} {k : Lk → Str → List (Str × P) → β} {z : β} : objTo (some (lk, c, fs)) k z = k lk c fs := rfl
theorem obj_match {β : Type} {δ : DEnv} {i : Nat} {k : Lk → Str → List (Str × P) → β} {z : β} : (match δ[i]? with | some (.obj lk c fs) => k lk c fs | _ => z) = objTo (objAt i δ) k z := by
  unfold objAt objTo
  split <;> rfl
def freeTo {β : Type} (lk : Lk) (k : Option Addr → β) (z : β) : β := match lk with
  | .free q => k q
  | _ => z
theorem freeTo_free {β : Type} {q : Option Addr} {k : Option Addr → β} {z : β} : freeTo (.free q) k z = k q := rfl
theorem free_match {β : Type} {δ : DEnv} {i : Nat} {k : Option Addr → Str → List (Str × P) → β} {z : β} : (match δ[i]? with | some (.obj (.free q) c fs) => k q c fs | _ => z) = objTo (objAt i δ) (fun lk c fs => freeTo lk (fun q => k q c fs) z) z := by
  unfold objAt objTo freeTo
  cases e : δ[i]? with
  | none => rfl
  | some s =>
    cases s with
    | obj lk c fs =>
      cases lk <;> rfl
    | _ => rfl
theorem dFld_ap {i : Nat} {f : Str} {δ : DEnv} : dFld i f δ = objTo (objAt i δ) (fun _ _ fs => fldOf fs f) .stuck := obj_match
def msTo {β : Type} (o : Option (List (P × P))) (k : List (P × P) → β) (z : β) : β := match o with
  | some ms => k ms
  | none => z
theorem msTo_some {β : Type} {ms : List (P × P)} {k : List (P × P) → β} {z : β} : msTo (some ms) k z = k ms := rfl
theorem dDGet_ap {i : Nat} {f : Str} {fk : DE P} {δ : DEnv} : dDGet i f fk δ = objTo (objAt i δ) (fun _ _ fs => msTo (dictOf fs f) (fun ms => (fk δ).bind fun k => getK ms k) .stuck) .stuck := obj_match
theorem dKeys_ap {i : Nat} {f : Str} {δ : DEnv} : dKeys i f δ = objTo (objAt i δ) (fun lk _ fs => freeTo lk (fun _ => msTo (dictOf fs f) (fun ms => .ok (ms.map (·.1))) .stuck) .stuck) .stuck := by
  unfold dKeys objAt
  cases e : δ[i]? with
  | none => rfl
  | some s =>
    cases s with
    | obj lk c fs => cases lk <;> (try rfl) <;> (show _ = msTo (dictOf _ _) _ _) <;> cases dictOf fs f <;> rfl
    | _ => rfl
theorem dDLen_ap {i : Nat} {f : Str} {δ : DEnv} : dDLen i f δ = objTo (objAt i δ) (fun lk _ fs => freeTo lk (fun _ => msTo (dictOf fs f) (fun ms => .ok (.int ms.length)) .stuck) .stuck) .stuck := by
  unfold dDLen objAt
  cases e : δ[i]? with
  | none => rfl
  | some s =>
    cases s with
    | obj lk c fs => cases lk <;> (try rfl) <;> (show _ = msTo (dictOf _ _) _ _) <;> cases dictOf fs f <;> rfl
    | _ => rfl
theorem dMethR_ap {i n : Nat} {c : Str} {G : List (Str × P) → List P → Res P} {fl : DE (List P)} {δ : DEnv} : dMethR i c n G fl δ = objTo (objAt i δ) (fun _ c' fs => if c' = c then (fl δ).bind fun ds => if ds.length = n then (G fs ds).mute else .stuck else .stuck) .stuck := obj_match
theorem sFldSet_ap {i : Nat} {f : Str} {fv : DE P} {δ : DEnv} : sFldSet i f fv δ = ofR δ (fv δ) fun d => objTo (objAt i δ) (fun lk c fs => freeTo lk (fun q => if isDP d = false ∧ fs.length < 100 then .nx (δ.set i (.obj (.free q) c (putFP f d fs))) else .stuck) .stuck) .stuck := by
  unfold sFldSet objAt
  congr 1
  funext d
  cases e : δ[i]? with
  | none => rfl
  | some s =>
    cases s with
    | obj lk c fs => cases lk <;> rfl
    | _ => rfl
theorem sFldNew_ap {i : Nat} {f : Str} {δ : DEnv} : sFldNew i f δ = objTo (objAt i δ) (fun lk c fs => freeTo lk (fun q => if fs.length < 100 ∧ fs.all (fun y => !isDP y.2) = true then .nx (δ.set i (.obj (.free q) c (putFP f (.dict []) fs))) else .stuck) .stuck) .stuck := by
  unfold sFldNew objAt
  cases e : δ[i]? with
  | none => rfl
  | some s =>
    cases s with
    | obj lk c fs => cases lk <;> rfl
    | _ => rfl
def kTo (k : P) (g : Int → SRes) : SRes := match k with
  | .int j => g j
  | _ => .stuck
theorem kTo_int {j : Int} {g : Int → SRes} : kTo (.int j) g = g j := rfl
theorem sDPut_ap {i : Nat} {f : Str} {fk fv : DE P} {δ : DEnv} : sDPut i f fk fv δ = ofR δ (fv δ) fun d => objTo (objAt i δ) (fun lk c fs => freeTo lk (fun q => msTo (dictOf fs f) (fun ms => ofR δ (fk δ) fun k => kTo k fun j => if okD' ms = true ∧ loneB i δ = true ∧ onlyD f fs = true then .nx (δ.set i (.obj (.free q) c (putFP f (.dict (putP ms j d)) fs))) else .stuck) .stuck) .stuck) .stuck := by
  unfold sDPut objAt
  congr 1
  funext d
  cases e : δ[i]? with
  | none => rfl
  | some s =>
    cases s with
    | obj lk c fs =>
      cases lk with
      | free q =>
        show _ = msTo (dictOf fs f) _ _
        cases h : dictOf fs f with
        | none => simp only [h]; rfl
        | some ms => simp only [h]; rfl
      | fix q => rfl
    | _ => rfl
def mTo {β : Type} (r : MRes) (k : P → List (Str × P) → β) (z : β) : β := match r with
  | .ok d fs => k d fs
  | _ => z
theorem mTo_ok {β : Type} {d : P} {fs : List (Str × P)} {k : P → List (Str × P) → β} {z : β} : mTo (.ok d fs) k z = k d fs := rfl
theorem sMethM_ap {j i n : Nat} {c : Str} {G : List (Str × P) → List P → MRes} {fl : DE (List P)} {δ : DEnv} : sMethM j i c n G fl δ = objTo (objAt i δ) (fun lk c' fs => freeTo lk (fun q => if c' = c ∧ (fs.all (fun y => !isDP y.2) = true ∨ loneB i δ = true) then ofR δ (fl δ) fun ds => if ds.length = n then mTo (G fs ds) (fun d fs' => .nx ((δ.set i (.obj (.free q) c fs')).set j (.val d))) .stuck else .stuck else .stuck) .stuck) .stuck := by
  unfold sMethM objAt
  cases e : δ[i]? with
  | none => rfl
  | some s =>
    cases s with
    | obj lk c fs => cases lk <;> rfl
    | _ => rfl
def mkTo (r : MRes) (k : List (Str × P) → SRes) : SRes := match r with
  | .ok .none fs => k fs
  | _ => .stuck
theorem mkTo_ok {fs : List (Str × P)} {k : List (Str × P) → SRes} : mkTo (.ok .none fs) k = k fs := rfl
theorem sMake_ap {i n : Nat} {c : Str} {G : List (Str × P) → List P → MRes} {fl : DE (List P)} {δ : DEnv} : sMake i c n G fl δ = ofR δ (fl δ) fun ds => if ds.length = n then mkTo (G [] ds) (fun fs => .nx (δ.set i (.obj (.free none) c fs))) else .stuck := rfl
theorem sRetO_ap {i : Nat} {f : DE P} {δ : DEnv} : sRetO i f δ = objTo (objAt i δ) (fun lk c fs => freeTo lk (fun _ => ofR δ (f δ) fun d => .retO c fs (some d)) .stuck) .stuck := by
  unfold sRetO objAt
  cases e : δ[i]? with
  | none => rfl
  | some s =>
    cases s with
    | obj lk c fs => cases lk <;> rfl
    | _ => rfl
theorem sRetE_ap {f : DE P} {δ : DEnv} : sRetE f δ = ofR δ (f δ) fun d => .retE d δ := rfl
def oTo {β : Type} (r : ORes) (k : Str → List (Str × P) → P → β) (z : β) : β := match r with
  | .ok c fs (some d) => k c fs d
  | _ => z
theorem oTo_ok {β : Type} {c : Str} {fs : List (Str × P)} {d : P} {k : Str → List (Str × P) → P → β} {z : β} : oTo (.ok c fs (some d)) k z = k c fs d := rfl
theorem sPairO_ap {i j n : Nat} {G : List P → ORes} {fl : DE (List P)} {δ : DEnv} : sPairO i j n G fl δ = ofR δ (fl δ) fun ds => if ds.length = n then oTo (G ds) (fun c fs d => .nx ((δ.set i (.obj (.free none) c fs)).set j (.val d))) .stuck else .stuck := rfl
theorem dSecond_ap {n : Nat} {G : List P → ORes} {fl : DE (List P)} {δ : DEnv} : dSecond n G fl δ = (fl δ).bind fun ds => if ds.length = n then oTo (G ds) (fun _ _ d => .ok d) .stuck else .stuck := rfl
theorem andThen_retE {d : P} {δ : DEnv} {h : DEnv → SRes} : andThen (.retE d δ) h = .retE d δ := rfl
theorem andThen_retO {c : Str} {fs : List (Str × P)} {d : Option P} {h : DEnv → SRes} : andThen (.retO c fs d) h = .retO c fs d := rfl
theorem outM_retE {a : Addr} {c : Str} {fs : List (Str × P)} {d : P} {δ : DEnv} : outM a c (.retE d (.obj (.free (some a)) c fs :: δ)) = .ok d fs := if_pos ⟨rfl, rfl⟩
theorem outM_nx {a : Addr} {c : Str} {fs : List (Str × P)} {δ : DEnv} : outM a c (.nx (.obj (.free (some a)) c fs :: δ)) = .ok .none fs := if_pos ⟨rfl, rfl⟩
/-! one object at hand -/
def nO : Slot → Bool
  | .obj .. => false
  | _ => true
theorem loneB_is {i : Nat} {δ : DEnv} : loneB i δ = (δ.set i .un).all nO := by
  unfold loneB
  congr 1
theorem nO_val {d : P} : nO (.val d) = true := rfl
theorem nO_un : nO .un = true := rfl
theorem nO_own {d : List P} : nO (.own d) = true := rfl
/-! the class Lines -/
def encM (ms : List (Nat × List Int × List Int)) : List (P × P) := ms.map fun t => (.int (t.1 : Int), .tuple [lI t.2.1, lI t.2.2])
def fsL (q w : Int) (ms : List (Nat × List Int × List Int)) : List (Str × P) := [("size", .int q), ("wide", .int w), ("marks", .dict (encM ms))]
theorem sn1 : (("wide" : Str) == "size") = false := by decide +kernel
theorem sn2 : (("marks" : Str) == "size") = false := by decide +kernel
theorem sn3 : (("marks" : Str) == "wide") = false := by decide +kernel
theorem sn4 : (("size" : Str) == "size") = true := by decide +kernel
theorem sn5 : (("wide" : Str) == "wide") = true := by decide +kernel
theorem sn6 : (("marks" : Str) == "marks") = true := by decide +kernel
theorem se1 : ¬ (("size" : Str) = "marks") := by decide +kernel
theorem se2 : ¬ (("wide" : Str) = "marks") := by decide +kernel
theorem se3 : ¬ (("size" : Str) = "wide") := by decide +kernel
theorem fsL_size {q w : Int} {ms : List (Nat × List Int × List Int)} : fldOf (fsL q w ms) "size" = .ok (.int q) := by
  unfold fldOf fsL
  simp only [List.lookup_cons, sn4]
theorem fsL_wide {q w : Int} {ms : List (Nat × List Int × List Int)} : fldOf (fsL q w ms) "wide" = .ok (.int w) := by
  unfold fldOf fsL
  simp only [List.lookup_cons, sn1, sn5]
theorem fsL_marks {q w : Int} {ms : List (Nat × List Int × List Int)} : dictOf (fsL q w ms) "marks" = some (encM ms) := by
  unfold dictOf fsL
  simp only [List.lookup_cons, sn2, sn3, sn6]
theorem fsL_put {q w : Int} {ms : List (Nat × List Int × List Int)} {d : P} : putFP "marks" d (fsL q w ms) = ([("size", .int q), ("wide", .int w), ("marks", d)] : List (Str × P)) := by
  unfold fsL putFP
  rw [if_neg se1]
  unfold putFP
  rw [if_neg se2]
  unfold putFP
  rw [if_pos rfl]
theorem fsL_only {q w : Int} {ms : List (Nat × List Int × List Int)} : onlyD "marks" (fsL q w ms) = true := by
  unfold fsL onlyD
  rw [if_neg se1]
  unfold onlyD
  rw [if_neg se2]
  unfold onlyD
  rw [if_pos rfl]
  rfl
theorem encM_keys {ms : List (Nat × List Int × List Int)} : (encM ms).map (·.1) = ms.map fun t => PyData.int (t.1 : Int) := by
  unfold encM
  rw [List.map_map]
  rfl
theorem encM_len {ms : List (Nat × List Int × List Int)} : (encM ms).length = ms.length := by
  unfold encM
  rw [List.length_map]
theorem encM_look {ms : List (Nat × List Int × List Int)} (nd : (ms.map (·.1)).Nodup) {t : Nat × List Int × List Int} (h : t ∈ ms) : lookP (encM ms) (t.1 : Int) = some (.tuple [lI t.2.1, lI t.2.2]) := by
  induction ms with
  | nil => cases h
  | cons s ms ih =>
    rw [List.map_cons, List.nodup_cons] at nd
    show (if (s.1 : Int) = (t.1 : Int) then some (PyData.tuple [lI s.2.1, lI s.2.2]) else lookP (encM ms) (t.1 : Int)) = _
    rcases List.mem_cons.mp h with e | e
    · subst e
      rw [if_pos rfl]
    · rw [if_neg]
      · exact ih nd.2 e
      · intro z
        exact nd.1 (by rw [show s.1 = t.1 by omega]; exact List.mem_map.mpr ⟨t, e, rfl⟩)
theorem encM_get {ms : List (Nat × List Int × List Int)} (nd : (ms.map (·.1)).Nodup) {t : Nat × List Int × List Int} (h : t ∈ ms) : getK (encM ms) (.int (t.1 : Int)) = .ok (.tuple [lI t.2.1, lI t.2.2]) := by
  show (match lookP (encM ms) (t.1 : Int) with | some d => Res.ok d | none => Res.stuck) = _
  rw [encM_look nd h]
theorem encM_nd : ∀ {ms : List (Nat × List Int × List Int)}, (ms.map (·.1)).Nodup → noDup (encM ms)
  | [], _ => trivial
  | s :: ms, nd => by
    rw [List.map_cons, List.nodup_cons] at nd
    refine ⟨fun p hp e => ?_, encM_nd nd.2⟩
    obtain ⟨t, ht, rfl⟩ := List.mem_map.mp hp
    exact nd.1 (List.mem_map.mpr ⟨t, ht, by
      have e : PyData.int (t.1 : Int) = PyData.int (s.1 : Int) := e
      injection e with e
      omega⟩)
theorem encM_ok {ms : List (Nat × List Int × List Int)} (nd : (ms.map (·.1)).Nodup) (hl : ms.length < 1000) : okD' (encM ms) = true := okD'_iff.mpr ⟨encM_nd nd, by rw [encM_len]; exact hl⟩
/-- a mark's lines are others now -/
def setM (ms : List (Nat × List Int × List Int)) (k : Nat) (l d : List Int) : List (Nat × List Int × List Int) := ms.map fun t => if t.1 = k then (k, l, d) else t
theorem encM_set {k : Nat} {l d : List Int} : ∀ {ms : List (Nat × List Int × List Int)}, (ms.map (·.1)).Nodup → k ∈ ms.map (·.1) → putP (encM ms) (k : Int) (.tuple [lI l, lI d]) = encM (setM ms k l d)
  | [], _, h => by cases h
  | s :: ms, nd, h => by
    rw [List.map_cons, List.nodup_cons] at nd
    show (if (s.1 : Int) = (k : Int) then (PyData.int (s.1 : Int), PyData.tuple [lI l, lI d]) :: encM ms else (PyData.int (s.1 : Int), _) :: putP (encM ms) (k : Int) (.tuple [lI l, lI d])) = _
    unfold setM
    rw [List.map_cons]
    by_cases e : s.1 = k
    · rw [if_pos (by omega), if_pos e]
      have : (ms.map fun t => if t.1 = k then (k, l, d) else t) = ms := by
        refine (List.map_congr_left fun t ht => ?_).trans (List.map_id ms)
        rw [if_neg fun z => nd.1 (by rw [e, ← z]; exact List.mem_map.mpr ⟨t, ht, rfl⟩)]
        rfl
      rw [this]
      unfold encM
      rw [List.map_cons, e]
    · rw [if_neg (by omega), if_neg e, encM_set nd.2 ((List.mem_cons.mp h).resolve_left fun z => e z.symm)]
      rfl
theorem encM_new {k : Nat} {l d : List Int} : ∀ {ms : List (Nat × List Int × List Int)}, k ∉ ms.map (·.1) → putP (encM ms) (k : Int) (.tuple [lI l, lI d]) = encM (ms ++ [(k, l, d)])
  | [], _ => rfl
  | s :: ms, h => by
    rw [List.map_cons, List.mem_cons, not_or] at h
    show (if (s.1 : Int) = (k : Int) then _ else (PyData.int (s.1 : Int), PyData.tuple [lI s.2.1, lI s.2.2]) :: putP (encM ms) (k : Int) (.tuple [lI l, lI d])) = _
    rw [if_neg (by omega), encM_new h.2]
    rfl
end Ey

set_option Elab.async false
set_option linter.all false
set_option maxRecDepth 100000
set_option maxHeartbeats 4000000
/-! evaluation: objects that are changed by a value; the class Listener -/
namespace Ey
open PySem DL
theorem eMeth_ap {i n : Nat} {c : Str} {G : List (Str × P) → List P → MRes} {fl : DE (List P)} {δ : DEnv} : eMeth i c n G fl δ = objTo (objAt i δ) (fun lk c' fs => freeTo lk (fun q => if c' = c ∧ noDs fs = true then ofR δ (fl δ) fun ds => if ds.length = n then outG δ i q c (G fs ds) else .stuck else .stuck) .stuck) .stuck := by
  unfold eMeth objAt
  cases e : δ[i]? with
  | none => rfl
  | some s =>
    cases s with
    | obj lk c fs => cases lk <;> rfl
    | _ => rfl
theorem outG_ok {i : Nat} {c : Str} {q : Option Addr} {d : P} {fs : List (Str × P)} {δ : DEnv} : outG δ i q c (.ok d fs) = .retE d (δ.set i (.obj (.free q) c fs)) := rfl
theorem outG_exc {i : Nat} {c n : Str} {q : Option Addr} {fs : List (Str × P)} {δ : DEnv} : outG δ i q c (.exc n fs) = .exc n (δ.set i (.obj (.free q) c fs)) := rfl
def ifNe (r : SRes) (g : DE P) (h1 h2 : DEnv → SRes) : SRes := match r with
  | .retE d δ' => ofR δ' ((g δ').bind fun e => (pNe d e).bind truthOf) fun b => if b = true then h1 δ' else h2 δ'
  | .exc n δ' => .exc n δ'
  | _ => .stuck
theorem sIfNe_ap {f h1 h2 : DEnv → SRes} {g : DE P} {δ : DEnv} : sIfNe f g h1 h2 δ = ifNe (f δ) g h1 h2 := rfl
theorem ifNe_ret {d : P} {g : DE P} {h1 h2 : DEnv → SRes} {δ : DEnv} : ifNe (.retE d δ) g h1 h2 = ofR δ ((g δ).bind fun e => (pNe d e).bind truthOf) fun b => if b = true then h1 δ else h2 δ := rfl
def retX (r : SRes) : SRes := match r with
  | .retE d δ' => .retE d δ'
  | .exc n δ' => .exc n δ'
  | _ => .stuck
theorem sRetX_ap {f : DEnv → SRes} {δ : DEnv} : sRetX f δ = retX (f δ) := rfl
theorem retX_ret {d : P} {δ : DEnv} : retX (.retE d δ) = .retE d δ := rfl
theorem retX_exc {n : Str} {δ : DEnv} : retX (.exc n δ) = .exc n δ := rfl
theorem tryTo_retE {c : Str} {i : Nat} {known : List Str} {su : Addr → Str → DEnv → SRes} {d : P} {δ : DEnv} : tryTo c i known su (.retE d δ) = .retE d δ := rfl
theorem unE_retE {i : Nat} {d : P} {δ : DEnv} : unE i (.retE d δ) = .retE d (δ.set i .un) := rfl
theorem dIsE2_zero {a : Addr} {n c1 c2 : Str} {δ : DEnv} : dIsE2 a 0 n c1 c2 (.raw (.ref a) :: δ) = .ok (.bool (isaD n c1 || isaD n c2)) := if_pos rfl
theorem dIsE2_succ {a : Addr} {i : Nat} {n c1 c2 : Str} {s : Slot} {δ : DEnv} : dIsE2 a (i + 1) n c1 c2 (s :: δ) = dIsE2 a i n c1 c2 δ := rfl
theorem outM_exc {a : Addr} {c n : Str} {fs : List (Str × P)} {δ : DEnv} : outM a c (.exc n (.obj (.free (some a)) c fs :: δ)) = .exc n fs := if_pos ⟨rfl, rfl⟩
theorem mute_ok' {α : Type} {d : α} : (Res.ok d).mute = .ok d := rfl
/-- what a tuple of truths picks -/
def pick3 (b1 b2 b3 : Bool) (t0 : Str) (ts : List P) (δ : DEnv) (j : Nat) : SRes :=
  if [b1, b2, b3].count true = 1 then (match ts[[b1, b2, b3].idxOf true]? with | some d => if ts.length ≤ 1000 then .retE d (δ.set j .un) else .stuck | none => .stuck) else .retE (.str t0) (δ.set j .un)
theorem sPick_ap {j : Nat} {fl fl2 : DE (List P)} {t0 : Str} {δ : DEnv} {b1 b2 b3 : Bool} {ts : List P} (h : fl δ = .ok [.bool b1, .bool b2, .bool b3]) (h2 : fl2 (δ.set j .un) = .ok ts) (hj : j < δ.length) : sPick j fl t0 fl2 δ = pick3 b1 b2 b3 t0 ts δ j := by
  unfold sPick pick3
  rw [h, ofR_ok, show dBools [.bool b1, .bool b2, .bool b3] = some [b1, b2, b3] from rfl]
  dsimp only
  rw [if_pos ⟨by show 3 ≤ 1000; decide, hj⟩, h2, ofR_ok] <;> rfl
/-! the class Listener -/
def fsI (q : Int) (row gone : List Int) : List (Str × P) := [("size", .int q), ("row", tI row), ("gone", tI gone)]
theorem ti1 : (("row" : Str) == "size") = false := by decide +kernel
theorem ti2 : (("gone" : Str) == "size") = false := by decide +kernel
theorem ti3 : (("gone" : Str) == "row") = false := by decide +kernel
theorem ti4 : (("size" : Str) == "size") = true := by decide +kernel
theorem ti5 : (("row" : Str) == "row") = true := by decide +kernel
theorem ti6 : (("gone" : Str) == "gone") = true := by decide +kernel
theorem te1 : ¬ (("size" : Str) = "row") := by decide +kernel
theorem te2 : ¬ (("size" : Str) = "gone") := by decide +kernel
theorem te3 : ¬ (("row" : Str) = "gone") := by decide +kernel
section
variable {q : Int} {row gone : List Int}
theorem fsI_size : fldOf (fsI q row gone) "size" = .ok (.int q) := by
  unfold fldOf fsI
  simp only [List.lookup_cons, ti4]
theorem fsI_row : fldOf (fsI q row gone) "row" = .ok (tI row) := by
  unfold fldOf fsI
  simp only [List.lookup_cons, ti1, ti5]
  rfl
theorem fsI_gone : fldOf (fsI q row gone) "gone" = .ok (tI gone) := by
  unfold fldOf fsI
  simp only [List.lookup_cons, ti2, ti3, ti6]
  rfl
theorem fsI_putRow {xs : List Int} : putFP "row" (tI xs) (fsI q row gone) = fsI q xs gone := by
  unfold fsI putFP
  rw [if_neg te1]
  unfold putFP
  rw [if_pos rfl]
theorem fsI_putGone {xs : List Int} : putFP "gone" (tI xs) (fsI q row gone) = fsI q row xs := by
  unfold fsI putFP
  rw [if_neg te2]
  unfold putFP
  rw [if_neg te3]
  unfold putFP
  rw [if_pos rfl]
theorem fsI_len : (fsI q row gone).length = 3 := rfl
theorem fsI_no : noDs (fsI q row gone) = true := rfl
theorem tI_noD {xs : List Int} : isDP (tI xs) = false := rfl
end
end Ey

set_option Elab.async false
set_option linter.all false
set_option maxRecDepth 100000
set_option maxHeartbeats 4000000
namespace Ey
open PySem DL
noncomputable section
def g_p_is_whole : DEnv → SRes :=
  (sRet (dAnd (dUn (pIsB isInt) (dVar 0)) (dNot (dUn (pIsB isBool) (dVar 0)))))
def d_p_is_whole : List P → Res P := defD 1 0 g_p_is_whole

def g_p_is_row_c208 : DEnv → SRes :=
  (sSeq (sIf (tOrD (tNotD (dT (dUn (pIsB isTuple) (dVar 0)))) (dT (dOp pGt (dUn pLen (dVar 0)) (dC (.int 30)))))
    (sRet (dC (.bool false)))
    sNil)
  (sRet (dUn pAll (dL (dComp (iUn itemsOf (dVar 0)) [2] (bN 2) cYes (dAnd (dCall d_p_is_whole (aCons (dVar 2) aNil)) (dChain pLe pLt (dC (.int 0)) (dVar 2) (dVar 1))))))))
def d_p_is_row_c208 : List P → Res P := defD 2 1 g_p_is_row_c208

def g_p_is_rule : DEnv → SRes :=
  (sRet (dCall d_p_is_row_c208 (aCons (dVar 0) (aCons (dVar 1) aNil))))
def d_p_is_rule : List P → Res P := defD 2 0 g_p_is_rule

def g_l_cell_at : DEnv → SRes :=
  (sSeq (sIf (dT (dOp pLt (dVar 1) (dUn pLen (dVar 0))))
    (sRet (dOp pIx (dVar 0) (dVar 1)))
    sNil)
  (sRet (dC (.int 0))))
def d_l_cell_at : List P → Res P := defD 2 0 g_l_cell_at

def g_l_mixed : DEnv → SRes :=
  (sSeq (sSet 2 (dOp pMod (dOp pMul (dOp pAdd (dOp pAdd (dCall d_l_cell_at (aCons (dVar 0) (aCons (dVar 1) aNil))) (dOp pMul (dC (.int 7919)) (dVar 1))) (dC (.int 1))) (dC (.int 48271))) (dC (.int 2147483647))))
  (sRet (dOp pMod (dOp pAdd (dOp pAdd (dOp pMul (dVar 2) (dVar 2)) (dOp pMul (dC (.int 7)) (dVar 2))) (dVar 1)) (dC (.int 2147483629)))))
def d_l_mixed : List P → Res P := defD 2 1 g_l_mixed

def g_l_drawn : DEnv → SRes :=
  (sSeq (sSet 2 (dOp pMod (dOp pMul (dOp pAdd (dOp pAdd (dVar 0) (dOp pMul (dC (.int 104729)) (dVar 1))) (dC (.int 17))) (dC (.int 69621))) (dC (.int 2147483647))))
  (sRet (dOp pMod (dOp pAdd (dOp pAdd (dOp pMul (dVar 2) (dVar 2)) (dOp pMul (dC (.int 3)) (dVar 2))) (dVar 1)) (dC (.int 2147483629)))))
def d_l_drawn : List P → Res P := defD 2 1 g_l_drawn

def g_l_number : DEnv → SRes :=
  (sRet (dAnd (dUn (pIsB isInt) (dVar 0)) (dAnd (dNot (dUn (pIsB isBool) (dVar 0))) (dChain pLe pLe (dVar 1) (dVar 0) (dVar 2)))))
def d_l_number : List P → Res P := defD 3 0 g_l_number

def g_l_next : DEnv → SRes :=
  (sRet (dOp pMod (dUn pSum (dL (dComp (iUn enumOf (dVar 1)) [3, 4] (bP 3 4) cYes (dOp pMul (dVar 4) (dOp pIx (dVar 0) (dOp pSub (dUn pNeg (dC (.int 1))) (dVar 3))))))) (dVar 2)))
def d_l_next : List P → Res P := defD 3 2 g_l_next

def g_l_numbers : DEnv → SRes :=
  (sSeq (sSet 3 (dOp pMod (dVar 0) (dC (.int 3))))
  (sSeq (sSetOwn 4 (dList aNil))
  (sSeq (sFor (iUn rangeOf1 (dVar 2)) (bN 5)
    (sSeq (sSet 6 (dCall d_l_drawn (aCons (dVar 0) (aCons (dVar 5) aNil))))
    (sApp 4 (dOp pMul (dOp pMod (dOp pDiv (dVar 6) (dC (.int 8))) (dVar 1)) (dUn pInt (dOr (dOp pGt (dVar 3) (dC (.int 0))) (dOp pEq (dOp pMod (dVar 6) (dC (.int 5))) (dC (.int 0)))))))))
  (sRet (dUn pTuple (dOwn 4))))))
def d_l_numbers : List P → Res P := defD 3 4 g_l_numbers

def g_l_made : DEnv → SRes :=
  (sSeq (sSet 4 (dVar 0))
  (sSeq (whileGo (dT (dOp pLt (dUn pLen (dVar 4)) (dVar 3)))
    (sSet 4 (dOp pAdd (dVar 4) (dTupl (aCons (dCall d_l_next (aCons (dVar 4) (aCons (dVar 1) (aCons (dVar 2) aNil)))) aNil)))) 2000)
  (sRet (dSl pSl (dVar 4) oNone (oSome (dVar 3))))))
def d_l_made : List P → Res P := defD 4 1 g_l_made

def g_l_row : DEnv → SRes :=
  (sSeq (sSet 3 (dOp pMod (dVar 0) (dOp pAdd (dVar 2) (dC (.int 1)))))
  (sSeq (sSet 4 (dCall d_l_numbers (aCons (dCall d_l_drawn (aCons (dVar 0) (aCons (dC (.int 1)) aNil))) (aCons (dVar 1) (aCons (dOp pMod (dOp pDiv (dVar 0) (dC (.int 32))) (dC (.int 6))) aNil)))))
  (sSeq (sSet 5 (dCall d_l_numbers (aCons (dCall d_l_drawn (aCons (dVar 0) (aCons (dC (.int 2)) aNil))) (aCons (dVar 1) (aCons (dOp pMax (dVar 3) (dUn pLen (dVar 4))) aNil)))))
  (sSeq (sIf (dT (dOp pGt (dOp pMod (dOp pDiv (dVar 0) (dC (.int 192))) (dC (.int 3))) (dC (.int 0))))
    (sSet 5 (dCall d_l_made (aCons (dSl pSl (dVar 5) oNone (oSome (dUn pLen (dVar 4)))) (aCons (dVar 4) (aCons (dVar 1) (aCons (dOp pMax (dVar 3) (dUn pLen (dVar 4))) aNil))))))
    sNil)
  (sSeq (sSet 5 (dSl pSl (dVar 5) oNone (oSome (dVar 3))))
  (sSeq (sIf (tAndD (dT (dOp pEq (dOp pMod (dOp pDiv (dVar 0) (dC (.int 576))) (dC (.int 3))) (dC (.int 0)))) (dT (dOp pGt (dVar 3) (dC (.int 0)))))
    (sSeq (sSet 6 (dOp pMod (dOp pDiv (dVar 0) (dC (.int 1728))) (dVar 3)))
    (sSet 5 (dOp pAdd (dOp pAdd (dSl pSl (dVar 5) oNone (oSome (dVar 6))) (dTupl (aCons (dOp pMod (dOp pAdd (dOp pIx (dVar 5) (dVar 6)) (dC (.int 1))) (dVar 1)) aNil))) (dSl pSl (dVar 5) (oSome (dOp pAdd (dVar 6) (dC (.int 1)))) oNone))))
    sNil)
  (sRet (dVar 5))))))))
def d_l_row : List P → Res P := defD 3 4 g_l_row

def g_l_is_row : DEnv → SRes :=
  (sSeq (sIf (tOrD (tNotD (dT (dUn (pIsB isTuple) (dVar 0)))) (dT (dOp pGt (dUn pLen (dVar 0)) (dC (.int 30)))))
    (sRet (dC (.bool false)))
    sNil)
  (sRet (dOp pEq (dL (dComp (iUn itemsOf (dVar 0)) [2] (bN 2) (tNotD (dT (dCall d_l_number (aCons (dVar 2) (aCons (dC (.int 0)) (aCons (dOp pSub (dVar 1) (dC (.int 1))) aNil)))))) (dVar 2))) (dL (dList aNil)))))
def d_l_is_row : List P → Res P := defD 2 1 g_l_is_row

def g_l_same : DEnv → SRes :=
  (sRet (dAnd (dUn (pIsB isBool) (dVar 0)) (dOp pEq (dVar 0) (dVar 1))))
def d_l_same : List P → Res P := defD 2 0 g_l_same

def g_l_places_in (self : List P → Res P) : DEnv → SRes :=
  (sSeq (sSet 2 (dL (dList (aCons (dVar 1) aNil))))
  (sSeq (sIf (dT (dUn (pIsB isTuple) (dVar 0)))
    (sFor (iUn enumOf (dVar 0)) (bP 3 4)
      (sSet 2 (dL (dOp pAddL (dVar 2) (dCall self (aCons (dVar 4) (aCons (dOp pAdd (dVar 1) (dTupl (aCons (dVar 3) aNil))) aNil)))))))
    sNil)
  (sRet (dVar 2))))
def dr_l_places_in : Nat → List P → Res P
  | 0 => defD 2 3 fun _ => .stuck
  | q + 1 => defD 2 3 (g_l_places_in (dr_l_places_in q))
def d_l_places_in : List P → Res P := dr_l_places_in 2

def g_l_put_at (f : Addr) (by_ : P → Res P) (self : List P → Res P) : DEnv → SRes :=
  (sSeq (sIf (dT (dOp pEq (dVar 1) (dTupl aNil)))
    (sRet (dBy f 2 by_ (dVar 0)))
    sNil)
  (sSeq (sSet 3 (dOp pIx (dVar 1) (dC (.int 0))))
  (sSeq (sSet 4 (dSelf f 2 self (dOp pIx (dVar 0) (dVar 3)) (dSl pSl (dVar 1) (oSome (dC (.int 1))) oNone)))
  (sRet (dOp pAdd (dOp pAdd (dSl pSl (dVar 0) oNone (oSome (dVar 3))) (dTupl (aCons (dVar 4) aNil))) (dSl pSl (dVar 0) (oSome (dOp pAdd (dVar 3) (dC (.int 1)))) oNone))))))

def g_l_otherwise : DEnv → SRes :=
  (sSeq (sIf (dT (dUn (pIsB isTuple) (dVar 0)))
    (sSeq (sSet 2 (dL (dList (aCons (dL (dUn pListOf (dVar 0))) (aCons (dL (dUn pListOf (dVar 0))) (aCons (dOp pAdd (dVar 0) (dSl pSl (dVar 0) oNone (oSome (dC (.int 1))))) aNil))))))
    (sRet (dOp pIx (dL (dOp pAddL (dVar 2) (dL (dList (aCons (dSl pSl (dVar 0) (oSome (dC (.int 1))) oNone) (aCons (dL (dList (aCons (dVar 0) aNil))) aNil)))))) (dOp pMod (dVar 1) (dC (.int 5))))))
    sNil)
  (sSeq (sIf (dT (dUn (pIsB isBool) (dVar 0)))
    (sRet (dOp pIx (dL (dList (aCons (dUn pInt (dVar 0)) (aCons (dC .none) (aCons (dUn pStr (dVar 0)) aNil))))) (dOp pMod (dVar 1) (dC (.int 3)))))
    sNil)
  (sSeq (sIf (dT (dUn (pIsB isInt) (dVar 0)))
    (sSeq (sSet 2 (dL (dList (aCons (dC (.bool true)) (aCons (dC .none) (aCons (dUn pStr (dVar 0)) (aCons (dTupl (aCons (dVar 0) aNil)) aNil)))))))
    (sRet (dOp pIx (dL (dOp pAddL (dVar 2) (dL (dList (aCons (dOp pSub (dUn pNeg (dC (.int 1))) (dVar 0)) aNil))))) (dOp pMod (dVar 1) (dC (.int 5))))))
    sNil)
  (sRet (dOp pIx (dL (dList (aCons (dC .none) (aCons (dTupl (aCons (dVar 0) aNil)) (aCons (dL (dList (aCons (dVar 0) aNil))) (aCons (dC (.str "")) (aCons (dC (.int 0)) aNil))))))) (dOp pMod (dVar 1) (dC (.int 5))))))))
def d_l_otherwise : List P → Res P := defD 2 1 g_l_otherwise

def g_l_spoilt_85ed : DEnv → SRes :=
  (sSeq (sSet 3 (dCall d_l_places_in (aCons (dVar 0) (aCons (dTupl aNil) aNil))))
  (sSeq (sSet 4 (dOp pIx (dVar 3) (dOp pMod (dVar 1) (dUn pLen (dVar 3)))))
  (sRet (dPut g_l_put_at (dCall d_l_otherwise (aCons (dVar 5) (aCons (dOp pDiv (dVar 1) (dC (.int 4096))) aNil))) 5 1 2 (dVar 0) (dVar 4)))))
def d_l_spoilt_85ed : List P → Res P := defD 3 2 g_l_spoilt_85ed

def g_l_once : DEnv → SRes :=
  (sSeq (sSet 1 (dOp pIx (dTupl (aCons (dC (.int 2)) (aCons (dC (.int 3)) (aCons (dC (.int 5)) (aCons (dC (.int 7)) (aCons (dC (.int 11)) (aCons (dC (.int 13)) aNil))))))) (dOp pMod (dCall d_l_mixed (aCons (dVar 0) (aCons (dC (.int 0)) aNil))) (dC (.int 6)))))
  (sSeq (sSet 2 (dCall d_l_row (aCons (dCall d_l_mixed (aCons (dVar 0) (aCons (dC (.int 1)) aNil))) (aCons (dVar 1) (aCons (dC (.int 16)) aNil)))))
  (sSeq (sSet 3 (dCall d_l_mixed (aCons (dVar 0) (aCons (dC (.int 2)) aNil))))
  (sSeq (sIf (dT (dOp pEq (dOp pMod (dVar 3) (dC (.int 8))) (dC (.int 3))))
    (sSet 2 (dCall d_l_numbers (aCons (dCall d_l_mixed (aCons (dVar 0) (aCons (dC (.int 1)) aNil))) (aCons (dVar 1) (aCons (dOp pAdd (dC (.int 30)) (dOp pMod (dOp pDiv (dVar 3) (dC (.int 8))) (dC (.int 2)))) aNil)))))
    sNil)
  (sSeq (sIf (dT (dOp pEq (dOp pMod (dCall d_l_mixed (aCons (dVar 0) (aCons (dC (.int 3)) aNil))) (dC (.int 2))) (dC (.int 1))))
    (sSet 2 (dCall d_l_spoilt_85ed (aCons (dVar 2) (aCons (dCall d_l_mixed (aCons (dVar 0) (aCons (dC (.int 4)) aNil))) (aCons (dOp pMod (dOp pDiv (dCall d_l_mixed (aCons (dVar 0) (aCons (dC (.int 3)) aNil))) (dC (.int 2))) (dC (.int 3))) aNil)))))
    sNil)
  (sSeq (sSet 4 (dCall d_l_is_row (aCons (dVar 2) (aCons (dVar 1) aNil))))
  (sRet (dAnd (dCall d_l_same (aCons (dCall d_p_is_row_c208 (aCons (dVar 2) (aCons (dVar 1) aNil))) (aCons (dVar 4) aNil))) (dCall d_l_same (aCons (dCall d_p_is_rule (aCons (dVar 2) (aCons (dVar 1) aNil))) (aCons (dVar 4) aNil)))))))))))
def d_l_once : List P → Res P := defD 1 4 g_l_once

def g_l_law : DEnv → SRes :=
  (sSeq (sFor (iUn rangeOf1 (dC (.int 8))) (bN 1)
    (sIf (tNotD (dT (dCall d_l_once (aCons (dL (dOp pAddL (dL (dComp (iUn itemsOf (dVar 0)) [2] (bN 2) cYes (dOp pAdd (dVar 2) (dOp pMul (dC (.int 104729)) (dVar 1))))) (dL (dList (aCons (dVar 1) aNil))))) aNil))))
      (sRet (dC (.bool false)))
      sNil))
  (sRet (dC (.bool true))))
def d_l_law : List P → Res P := defD 1 2 g_l_law

end
end Ey

set_option Elab.async false
set_option linter.all false
set_option maxRecDepth 100000
set_option maxHeartbeats 4000000
namespace Ey
open PySem DL
def NxIf (J : DEnv → Prop) : SRes → Prop
  | .nx δ => J δ
  | _ => False
theorem NxIf_nx {J : DEnv → Prop} {δ : DEnv} : NxIf J (.nx δ) = J δ := rfl
theorem defD_ap {n k : Nat} {g : DEnv → SRes} {ds : List P} (h : ds.length = n) : defD n k g ds = resOf (g (ds.map .val ++ List.replicate k .un)) := if_pos h
theorem if_ind' {c : DE Bool} {g h : DEnv → SRes} {δ : DEnv} {r : SRes} (hF : sIf c g h δ = r) (b : Bool) (J : DEnv → Prop) (hc : c δ = .ok b) (hg : b = true → NxIf J (g δ)) (hh : b = false → NxIf J (h δ)) : ∃ δ', r = .nx δ' ∧ J δ' := by
  have key : ∀ r : SRes, NxIf J r → ∃ δ', r = .nx δ' ∧ J δ' := fun r hr => by
    cases r with
    | nx δ' => exact ⟨δ', rfl, hr⟩
    | _ => exact False.elim hr
  refine key r ?_
  subst hF
  rw [sIf_ap, hc, ofR_ok]
  cases b with
  | true => exact hg rfl
  | false => exact hh rfl
theorem six_ok : sizedT [.int 2, .int 3, .int 5, .int 7, .int 11, .int 13] = .ok (tI [2, 3, 5, 7, 11, 13]) := rfl
theorem clock_ok (m : Int) : ∃ q, pIx (tI [2, 3, 5, 7, 11, 13]) (.int (m % 6)) = .ok (.int q) ∧ q ∈ [2, 3, 5, 7, 11, 13] := by
  have h0 : 0 ≤ m % 6 := Int.emod_nonneg _ (by omega)
  have h1 : m % 6 < 6 := Int.emod_lt_of_pos _ (by omega)
  generalize m % 6 = j at *
  obtain ⟨k, rfl⟩ := Int.eq_ofNat_of_zero_le h0
  have hk : k < 6 := by omega
  refine ⟨[2, 3, 5, 7, 11, 13][k]?.getD 2, pIx_tI ?_, ?_⟩
  · rw [atI_nn (by omega) (by simp; omega)]
    match k, hk with
    | 0, _ => rfl
    | 1, _ => rfl
    | 2, _ => rfl
    | 3, _ => rfl
    | 4, _ => rfl
    | 5, _ => rfl
  · match k, hk with
    | 0, _ => simp
    | 1, _ => simp
    | 2, _ => simp
    | 3, _ => simp
    | 4, _ => simp
    | 5, _ => simp
theorem clock_le {q : Int} (h : q ∈ [2, 3, 5, 7, 11, 13]) : 2 ≤ q ∧ q ≤ 13 := by
  simp only [List.mem_cons, List.not_mem_nil, or_false] at h
  omega
theorem pair_ok {a b : Int} : sizedT [.int a, .int b] = .ok (tI [a, b]) := rfl
theorem ixpair_ok {a b : Int} {c : Prop} [Decidable c] : pIx (tI [a, b]) (.int (if c then 1 else 0)) = .ok (.int (if c then b else a)) := by
  split
  · exact pIx_tI rfl
  · exact pIx_tI rfl
local macro_rules | `(tactic| walk_at "ns") => `(tactic| simp -implicitDefEqProofs only [dVar_zero, dVar_succ, dOwn_zero, dOwn_succ, dC_ap, dOp_ap, dUn_ap, dL_ap, dT_ap, dAnd_ap, dOr_ap, dNot_ap, tAndD_ap, tOrD_ap, tNotD_ap, dChain_ap, aNil_ap, aCons_ap, dTupl_ap, dList_ap, dCall_ap, oNone_ap, oSome_ap, dSl_ap, iUn_ap, iOp_ap, dComp_ap, cYes_ap, partOf_int, truthOf_bool, sSeq_ap, andThen_nx, andThen_ret, sNil_ap, sPass_ap, sRet_ap, sExpr_ap, sSet_ap, sSetOwn_ap, sFor_ap, sPair_ap, sPar_ap, sApp_ap, sStore_ap, sPop_ap, sFrz_ap, frz_zero, frz_succ, ownAt_zero, ownAt_succ, ownTo_some, NxTo_nx, NxIf_nx, ofR_ok, Res.bind_ok, Res.mute_ok, set_zero, set_succ, wipe_nil, wipe_cons, bN_ap, bP_ap, resOf_ret, tI_nil, tI_one, pLen_tI, pSl_tI, itemsOf_tI, pLen_scr, pEq_tI, pNe_tI, pEq_lI, pNe_lI, pEq_int, pNe_int, pEq_bool, pNe_bool, pAdd_int, pSub_int, pNeg_int, pLt_int, pLe_int, pGt_int, pGe_int, pMax_int, pMin_int, pInt_int, pInt_bool, pIs_bool, pIsNot_bool, pTuple_lI, pTuple_tI, pSum_lI, sized_nil, sizedL_nil, sized_one, if_true, if_false, Bool.false_eq_true, decide_true, decide_false, Bool.not_true, Bool.not_false, reduceIte])
local macro_rules | `(tactic| walk_at "ev") => `(tactic| simp -implicitDefEqProofs only [dVar_zero, dVar_succ, dOwn_zero, dOwn_succ, dC_ap, dOp_ap, dUn_ap, dL_ap, dT_ap, dAnd_ap, dOr_ap, dNot_ap, tAndD_ap, tOrD_ap, tNotD_ap, dChain_ap, aNil_ap, aCons_ap, dTupl_ap, dList_ap, dCall_ap, oNone_ap, oSome_ap, dSl_ap, iUn_ap, iOp_ap, dComp_ap, cYes_ap, partOf_int, truthOf_bool, sSeq_ap, andThen_nx, andThen_ret, sNil_ap, sPass_ap, sRet_ap, sExpr_ap, sSet_ap, sSetOwn_ap, sIf_ap, sFor_ap, sPair_ap, sPar_ap, sApp_ap, sStore_ap, sPop_ap, sFrz_ap, frz_zero, frz_succ, ownAt_zero, ownAt_succ, ownTo_some, NxTo_nx, NxIf_nx, ofR_ok, Res.bind_ok, Res.mute_ok, set_zero, set_succ, wipe_nil, wipe_cons, bN_ap, bP_ap, resOf_ret, tI_nil, tI_one, pLen_tI, pSl_tI, itemsOf_tI, pLen_scr, pEq_tI, pNe_tI, pEq_lI, pNe_lI, pEq_int, pNe_int, pEq_bool, pNe_bool, pAdd_int, pSub_int, pNeg_int, pLt_int, pLe_int, pGt_int, pGe_int, pMax_int, pMin_int, pInt_int, pInt_bool, pIs_bool, pIsNot_bool, pTuple_lI, pTuple_tI, pSum_lI, sized_nil, sizedL_nil, sized_one, if_true, if_false, Bool.false_eq_true, decide_true, decide_false, Bool.not_true, Bool.not_false, reduceIte])
local macro_rules | `(tactic| walk_at "go") => `(tactic| simp -implicitDefEqProofs (disch := omega) only [sRaise_ap, andThen_exc, resOf_exc, bind_exc, ofR_exc, sTryAs_ap, sTry_ap, tryTo_nx, tryTo_ret, tryO_nx, tryO_ret, still_ret, still_nx, unE_ret, unE_nx, dIsE_zero, dIsE_succ, pMod_int, pDiv_int, zipOf_tI, enumOf_tI, lI_of, pLen_lI, enumOf_lI, itemsOf_lI, sizedL_one, sizedL_two, pListOf_lI, pListOf_tI, dStep_ap, ixpair_ok, six_ok, pair_ok, dVar_zero, dVar_succ, dOwn_zero, dOwn_succ, dC_ap, dOp_ap, dUn_ap, dL_ap, dT_ap, dAnd_ap, dOr_ap, dNot_ap, tAndD_ap, tOrD_ap, tNotD_ap, dChain_ap, aNil_ap, aCons_ap, dTupl_ap, dList_ap, dCall_ap, oNone_ap, oSome_ap, dSl_ap, iUn_ap, iOp_ap, dComp_ap, cYes_ap, partOf_int, truthOf_bool, sSeq_ap, andThen_nx, andThen_ret, sNil_ap, sPass_ap, sRet_ap, sExpr_ap, sSet_ap, sSetOwn_ap, sFor_ap, sPair_ap, sPar_ap, sApp_ap, sStore_ap, sPop_ap, sFrz_ap, frz_zero, frz_succ, ownAt_zero, ownAt_succ, ownTo_some, NxTo_nx, NxIf_nx, ofR_ok, Res.bind_ok, Res.mute_ok, set_zero, set_succ, wipe_nil, wipe_cons, bN_ap, bP_ap, resOf_ret, tI_nil, tI_one, pLen_tI, pSl_tI, itemsOf_tI, pLen_scr, pEq_tI, pNe_tI, pEq_lI, pNe_lI, pEq_int, pNe_int, pEq_bool, pNe_bool, pAdd_int, pSub_int, pNeg_int, pLt_int, pLe_int, pGt_int, pGe_int, pMax_int, pMin_int, pInt_int, pInt_bool, pIs_bool, pIsNot_bool, pTuple_lI, pTuple_tI, pSum_lI, sized_nil, sizedL_nil, sized_one, if_true, if_false, Bool.false_eq_true, decide_true, decide_false, Bool.not_true, Bool.not_false, reduceIte])
local macro_rules | `(tactic| walk_at "gi") => `(tactic| simp -implicitDefEqProofs (disch := omega) only [sRaise_ap, andThen_exc, resOf_exc, bind_exc, ofR_exc, sTryAs_ap, sTry_ap, tryTo_nx, tryTo_ret, tryO_nx, tryO_ret, still_ret, still_nx, unE_ret, unE_nx, dIsE_zero, dIsE_succ, pMod_int, pDiv_int, zipOf_tI, enumOf_tI, lI_of, pLen_lI, enumOf_lI, itemsOf_lI, sizedL_one, sizedL_two, pListOf_lI, pListOf_tI, dStep_ap, ixpair_ok, six_ok, pair_ok, dVar_zero, dVar_succ, dOwn_zero, dOwn_succ, dC_ap, dOp_ap, dUn_ap, dL_ap, dT_ap, dAnd_ap, dOr_ap, dNot_ap, tAndD_ap, tOrD_ap, tNotD_ap, dChain_ap, aNil_ap, aCons_ap, dTupl_ap, dList_ap, dCall_ap, oNone_ap, oSome_ap, dSl_ap, iUn_ap, iOp_ap, dComp_ap, cYes_ap, partOf_int, truthOf_bool, sSeq_ap, andThen_nx, andThen_ret, sNil_ap, sPass_ap, sRet_ap, sExpr_ap, sSet_ap, sSetOwn_ap, sIf_ap, sFor_ap, sPair_ap, sPar_ap, sApp_ap, sStore_ap, sPop_ap, sFrz_ap, frz_zero, frz_succ, ownAt_zero, ownAt_succ, ownTo_some, NxTo_nx, NxIf_nx, ofR_ok, Res.bind_ok, Res.mute_ok, set_zero, set_succ, wipe_nil, wipe_cons, bN_ap, bP_ap, resOf_ret, tI_nil, tI_one, pLen_tI, pSl_tI, itemsOf_tI, pLen_scr, pEq_tI, pNe_tI, pEq_lI, pNe_lI, pEq_int, pNe_int, pEq_bool, pNe_bool, pAdd_int, pSub_int, pNeg_int, pLt_int, pLe_int, pGt_int, pGe_int, pMax_int, pMin_int, pInt_int, pInt_bool, pIs_bool, pIsNot_bool, pTuple_lI, pTuple_tI, pSum_lI, sized_nil, sizedL_nil, sized_one, if_true, if_false, Bool.false_eq_true, decide_true, decide_false, Bool.not_true, Bool.not_false, reduceIte])
local macro_rules | `(tactic| walk_at "ob") => `(tactic| simp -implicitDefEqProofs (disch := omega) only [sRaise_ap, andThen_exc, resOf_exc, bind_exc, ofR_exc, sTryAs_ap, sTry_ap, tryTo_nx, tryTo_ret, tryO_nx, tryO_ret, still_ret, still_nx, unE_ret, unE_nx, dIsE_zero, dIsE_succ, pMod_int, pDiv_int, zipOf_tI, enumOf_tI, lI_of, pLen_lI, enumOf_lI, itemsOf_lI, sizedL_one, sizedL_two, pListOf_lI, pListOf_tI, dStep_ap, ixpair_ok, six_ok, pair_ok, dVar_zero, dVar_succ, dOwn_zero, dOwn_succ, dC_ap, dOp_ap, dUn_ap, dL_ap, dT_ap, dAnd_ap, dOr_ap, dNot_ap, tAndD_ap, tOrD_ap, tNotD_ap, dChain_ap, aNil_ap, aCons_ap, dTupl_ap, dList_ap, dCall_ap, oNone_ap, oSome_ap, dSl_ap, iUn_ap, iOp_ap, dComp_ap, cYes_ap, partOf_int, truthOf_bool, sSeq_ap, andThen_nx, andThen_ret, sNil_ap, sPass_ap, sRet_ap, sExpr_ap, sSet_ap, sSetOwn_ap, sIf_ap, sFor_ap, sPair_ap, sPar_ap, sApp_ap, sStore_ap, sPop_ap, sFrz_ap, frz_zero, frz_succ, ownAt_zero, ownAt_succ, ownTo_some, NxTo_nx, NxIf_nx, ofR_ok, Res.bind_ok, Res.mute_ok, set_zero, set_succ, wipe_nil, wipe_cons, bN_ap, bP_ap, resOf_ret, tI_nil, tI_one, pLen_tI, pSl_tI, itemsOf_tI, pLen_scr, pEq_tI, pNe_tI, pEq_lI, pNe_lI, pEq_int, pNe_int, pEq_bool, pNe_bool, pAdd_int, pSub_int, pNeg_int, pLt_int, pLe_int, pGt_int, pGe_int, pMax_int, pMin_int, pInt_int, pInt_bool, pIs_bool, pIsNot_bool, pTuple_lI, pTuple_tI, pSum_lI, sized_nil, sizedL_nil, sized_one, if_true, if_false, Bool.false_eq_true, decide_true, decide_false, Bool.not_true, Bool.not_false, reduceIte, objAt_zero, objAt_succ, objTo_some, freeTo_free, dFld_ap, dDGet_ap, dKeys_ap, dDLen_ap, dMethR_ap, sFldSet_ap, sFldNew_ap, sDPut_ap, kTo_int, sMethM_ap, mTo_ok, sMake_ap, mkTo_ok, sRetO_ap, sRetE_ap, oTo_ok, sPairO_ap, dSecond_ap, msTo_some, andThen_retE, andThen_retO, fsL_size, fsL_wide, fsL_marks, List.length_cons, List.length_nil, Nat.reduceAdd, true_and, and_true, true_or, or_true])
local macro_rules | `(tactic| walk_at "lo") => `(tactic| simp -implicitDefEqProofs (disch := omega) only [sRaise_ap, andThen_exc, resOf_exc, bind_exc, ofR_exc, sTryAs_ap, sTry_ap, tryTo_nx, tryTo_ret, tryO_nx, tryO_ret, still_ret, still_nx, unE_ret, unE_nx, dIsE_zero, dIsE_succ, pMod_int, pDiv_int, zipOf_tI, enumOf_tI, lI_of, pLen_lI, enumOf_lI, itemsOf_lI, sizedL_one, sizedL_two, pListOf_lI, pListOf_tI, dStep_ap, ixpair_ok, six_ok, pair_ok, dVar_zero, dVar_succ, dOwn_zero, dOwn_succ, dC_ap, dOp_ap, dUn_ap, dL_ap, dT_ap, dAnd_ap, dOr_ap, dNot_ap, tAndD_ap, tOrD_ap, tNotD_ap, dChain_ap, aNil_ap, aCons_ap, dTupl_ap, dList_ap, dCall_ap, oNone_ap, oSome_ap, dSl_ap, iUn_ap, iOp_ap, dComp_ap, cYes_ap, partOf_int, truthOf_bool, sSeq_ap, andThen_nx, andThen_ret, sNil_ap, sPass_ap, sRet_ap, sExpr_ap, sSet_ap, sSetOwn_ap, sIf_ap, sFor_ap, sPair_ap, sPar_ap, sApp_ap, sStore_ap, sPop_ap, sFrz_ap, frz_zero, frz_succ, ownAt_zero, ownAt_succ, ownTo_some, NxTo_nx, NxIf_nx, ofR_ok, Res.bind_ok, Res.mute_ok, set_zero, set_succ, wipe_nil, wipe_cons, bN_ap, bP_ap, resOf_ret, tI_nil, tI_one, pLen_tI, pSl_tI, itemsOf_tI, pLen_scr, pEq_tI, pNe_tI, pEq_lI, pNe_lI, pEq_int, pNe_int, pEq_bool, pNe_bool, pAdd_int, pSub_int, pNeg_int, pLt_int, pLe_int, pGt_int, pGe_int, pMax_int, pMin_int, pInt_int, pInt_bool, pIs_bool, pIsNot_bool, pTuple_lI, pTuple_tI, pSum_lI, sized_nil, sizedL_nil, sized_one, if_true, if_false, Bool.false_eq_true, decide_true, decide_false, Bool.not_true, Bool.not_false, reduceIte, objAt_zero, objAt_succ, objTo_some, freeTo_free, dFld_ap, dDGet_ap, dKeys_ap, dDLen_ap, dMethR_ap, sFldSet_ap, sFldNew_ap, sDPut_ap, kTo_int, sMethM_ap, mTo_ok, sMake_ap, mkTo_ok, sRetO_ap, sRetE_ap, oTo_ok, sPairO_ap, dSecond_ap, msTo_some, andThen_retE, andThen_retO, fsL_size, fsL_wide, fsL_marks, List.length_cons, List.length_nil, Nat.reduceAdd, true_and, and_true, true_or, or_true, eMeth_ap, outG_ok, outG_exc, sIfNe_ap, ifNe_ret, sRetX_ap, retX_ret, retX_exc, tryTo_retE, unE_retE, dIsE2_zero, dIsE2_succ, fsI_size, fsI_row, fsI_gone, fsI_putRow, fsI_putGone, fsI_len, fsI_no, tI_noD, Nat.reduceLT])
/-! p_is_whole -/
theorem whole_any (d : P) : d_p_is_whole [d] = .ok (.bool (isInt d && !isBool d)) := by
  show resOf (g_p_is_whole [.val d]) = _
  unfold g_p_is_whole
  have e1 : pIsB isInt d = .ok (.bool (isInt d)) := rfl
  have e2 : pIsB isBool d = .ok (.bool (isBool d)) := rfl
  simp -implicitDefEqProofs (disch := omega) only [sRaise_ap, andThen_exc, resOf_exc, bind_exc, ofR_exc, sTryAs_ap, sTry_ap, tryTo_nx, tryTo_ret, tryO_nx, tryO_ret, still_ret, still_nx, unE_ret, unE_nx, dIsE_zero, dIsE_succ, pMod_int, pDiv_int, zipOf_tI, enumOf_tI, lI_of, pLen_lI, enumOf_lI, itemsOf_lI, sizedL_one, sizedL_two, pListOf_lI, pListOf_tI, dStep_ap, ixpair_ok, six_ok, pair_ok, dVar_zero, dVar_succ, dOwn_zero, dOwn_succ, dC_ap, dOp_ap, dUn_ap, dL_ap, dT_ap, dAnd_ap, dOr_ap, dNot_ap, tAndD_ap, tOrD_ap, tNotD_ap, dChain_ap, aNil_ap, aCons_ap, dTupl_ap, dList_ap, dCall_ap, oNone_ap, oSome_ap, dSl_ap, iUn_ap, iOp_ap, dComp_ap, cYes_ap, partOf_int, truthOf_bool, sSeq_ap, andThen_nx, andThen_ret, sNil_ap, sPass_ap, sRet_ap, sExpr_ap, sSet_ap, sSetOwn_ap, sIf_ap, sFor_ap, sPair_ap, sPar_ap, sApp_ap, sStore_ap, sPop_ap, sFrz_ap, frz_zero, frz_succ, ownAt_zero, ownAt_succ, ownTo_some, NxTo_nx, NxIf_nx, ofR_ok, Res.bind_ok, Res.mute_ok, set_zero, set_succ, wipe_nil, wipe_cons, bN_ap, bP_ap, resOf_ret, tI_nil, tI_one, pLen_tI, pSl_tI, itemsOf_tI, pLen_scr, pEq_tI, pNe_tI, pEq_lI, pNe_lI, pEq_int, pNe_int, pEq_bool, pNe_bool, pAdd_int, pSub_int, pNeg_int, pLt_int, pLe_int, pGt_int, pGe_int, pMax_int, pMin_int, pInt_int, pInt_bool, pIs_bool, pIsNot_bool, pTuple_lI, pTuple_tI, pSum_lI, sized_nil, sizedL_nil, sized_one, if_true, if_false, Bool.false_eq_true, decide_true, decide_false, Bool.not_true, Bool.not_false, reduceIte, eq_self, e1, e2]
  cases isInt d <;> rfl
/-! l_cell_at -/
def cellAt (ns : List Int) (k : Int) : Int := ns.getD k.toNat 0
theorem cell_ok (ns : List Int) {k : Int} (h : 0 ≤ k) : d_l_cell_at [scriptD ns, .int k] = .ok (.int (cellAt ns k)) := by
  unfold d_l_cell_at
  show resOf (g_l_cell_at [.val (scriptD ns), .val (.int k)]) = _
  unfold g_l_cell_at
  walk_at "ev"
  unfold cellAt
  by_cases q : k < (ns.length : Nat)
  · rw [decide_eq_true q]
    walk_at "ev"
    have hk : k.toNat < ns.length := by omega
    rw [pIx_scr (x := ns[k.toNat]) (by rw [atI_nn h q]; simp [hk])]
    walk_at "ev"
    simp [hk]
  · rw [decide_eq_false q]
    walk_at "ev"
    have hk : ns.length ≤ k.toNat := by omega
    simp [hk]
/-! l_mixed -/
theorem mixed_ok (ns : List Int) {k : Int} (h : 0 ≤ k) (h2 : k ≤ 1000) : ∃ m, d_l_mixed [scriptD ns, .int k] = .ok (.int m) ∧ 0 ≤ m ∧ m < 2147483629 := by
  unfold d_l_mixed
  show ∃ m, resOf (g_l_mixed [.val (scriptD ns), .val (.int k), .un]) = _ ∧ _
  unfold g_l_mixed
  walk_at "ev"
  rw [cell_ok ns h]
  walk_at "ev"
  rw [pMul_l (x := 7919) (by omega)]
  walk_at "ev"
  rw [pMul_r (y := 48271) (by omega)]
  walk_at "ev"
  rw [pMod_int (by omega)]
  walk_at "ev"
  generalize hd : (cellAt ns k + 7919 * k + 1) * 48271 % 2147483647 = d
  have d0 : 0 ≤ d := by rw [← hd]; exact Int.emod_nonneg _ (by omega)
  have d1 : d < 2147483647 := by rw [← hd]; exact Int.emod_lt_of_pos _ (by omega)
  rw [pMul_l (x := d) (y := d) (by omega), pMul_l (x := 7) (by omega)]
  walk_at "ev"
  rw [pMod_int (by omega)]
  walk_at "ev"
  exact ⟨_, rfl, Int.emod_nonneg _ (by omega), Int.emod_lt_of_pos _ (by omega)⟩
/-! l_drawn -/
theorem drawn_ok (n : Int) {k : Int} (h : 0 ≤ k) (h2 : k ≤ 100000) : ∃ m, d_l_drawn [.int n, .int k] = .ok (.int m) ∧ 0 ≤ m ∧ m < 2147483629 := by
  unfold d_l_drawn
  show ∃ m, resOf (g_l_drawn [.val (.int n), .val (.int k), .un]) = _ ∧ _
  unfold g_l_drawn
  walk_at "ev"
  rw [pMul_l (x := 104729) (by omega)]
  walk_at "ev"
  rw [pMul_r (y := 69621) (by omega)]
  walk_at "ev"
  rw [pMod_int (by omega)]
  walk_at "ev"
  generalize hd : (n + 104729 * k + 17) * 69621 % 2147483647 = d
  have d0 : 0 ≤ d := by rw [← hd]; exact Int.emod_nonneg _ (by omega)
  have d1 : d < 2147483647 := by rw [← hd]; exact Int.emod_lt_of_pos _ (by omega)
  rw [pMul_l (x := d) (y := d) (by omega), pMul_l (x := 3) (by omega)]
  walk_at "ev"
  rw [pMod_int (by omega)]
  walk_at "ev"
  exact ⟨_, rfl, Int.emod_nonneg _ (by omega), Int.emod_lt_of_pos _ (by omega)⟩
/-! l_number -/
theorem number_ok (x a b : Int) : d_l_number [.int x, .int a, .int b] = .ok (.bool (decide (a ≤ x ∧ x ≤ b))) := by
  unfold d_l_number
  show resOf (g_l_number [.val (.int x), .val (.int a), .val (.int b)]) = _
  unfold g_l_number
  walk_at "ev"
  show resOf (ofR _ _ _) = _
  simp only [pIsB, isInt, isBool, Res.bind_ok, truthOf_bool, ofR_ok, if_true, Bool.not_false]
  by_cases h : a ≤ x
  · simp [h, resOf]
  · simp [h, resOf]
/-! l_next -/
theorem next_ok {row rule : List Int} {q : Int} (h : rule.length ≤ row.length) (hz : rule.length ≤ 1000) (hr : InR 13 rule) (hq : 0 < q) : d_l_next [tI row, tI rule, .int q] = .ok (.int (nextV row rule q)) := by
  unfold d_l_next
  show resOf (g_l_next [.val (tI row), .val (tI rule), .val (.int q), .un, .un]) = _
  unfold g_l_next
  walk_at "ev"
  rw [enumOf_tI]
  walk_at "ev"
  rw [comp_in (by rw [List.length_map, List.length_zipIdx]; omega) (comp_int _ _ (fun p => p.1 * (row[row.length - 1 - p.2]?.getD 0)) fun p hp => ?_)]
  · walk_at "ev"
    rw [lI_of]
    walk_at "ev"
    rw [pMod_int hq]
    walk_at "ev"
    rw [next_sum row rule h]
    rfl
  · obtain ⟨x, i⟩ := p
    obtain ⟨h1, h2, h3⟩ := List.mem_zipIdx hp
    refine ⟨_, rfl, ?_⟩
    have hx : 0 ≤ x ∧ x < 13 := hr x (by rw [h3]; exact List.getElem_mem _)
    have hi : i < row.length := by omega
    walk_at "ev"
    rw [pIx_tI (x := row[row.length - 1 - i]) (by rw [atI_back hi]; exact List.getElem?_eq_getElem _)]
    walk_at "ev"
    rw [pMul_l (by omega)]
    simp [show row.length - 1 - i < row.length by omega]
/-! l_numbers -/
theorem numbers_ok (n : Int) {q many : Int} (hq : 2 ≤ q) (hq2 : q ≤ 13) (hm : 0 ≤ many) (hm2 : many ≤ 1000) : ∃ xs, d_l_numbers [.int n, .int q, .int many] = .ok (tI xs) ∧ xs.length = many.toNat ∧ InR q xs := by
  unfold d_l_numbers
  show ∃ xs, resOf (g_l_numbers [.val (.int n), .val (.int q), .val (.int many), .un, .un, .un, .un]) = _ ∧ _
  unfold g_l_numbers
  walk_at "ev"
  rw [pMod_int (by omega)]
  walk_at "ev"
  rw [rangeOf1_int (by omega) (by omega)]
  walk_at "ev"
  generalize hF : forGo _ _ _ _ = r
  have HH := for_ind' hF (fun i δ => ∃ xs k' d', δ = [.val (.int n), .val (.int q), .val (.int many), .val (.int (n % 3)), .own (xs.map PyData.int), k', d'] ∧ xs.length = i ∧ InR q xs) ⟨[], .un, .un, rfl, rfl, .nil⟩ ?st
  case st =>
    rintro i d δ hi ⟨xs, k', d', rfl, hl, hx⟩
    obtain ⟨rfl, hlt⟩ := rangeItems_get hi
    obtain ⟨m, hm1, hm3, hm4⟩ := drawn_ok n (k := 0 + (i : Int)) (by omega) (by omega)
    refine ⟨_, rfl, ?_⟩
    have h0 : 0 ≤ m / 8 % q := Int.emod_nonneg _ (by omega)
    have h1 : m / 8 % q < q := Int.emod_lt_of_pos _ (by omega)
    walk_at "ev"
    rw [hm1]
    walk_at "ev"
    rw [pDiv_int (by omega) (by omega)]
    walk_at "ev"
    rw [pMod_int (by omega), pMod_int (by omega)]
    walk_at "ev"
    have fin : ∀ z : Int, (z = 0 ∨ z = 1) → NxTo (fun δ => ∃ xs k' d', δ = [.val (.int n), .val (.int q), .val (.int many), .val (.int (n % 3)), .own (xs.map PyData.int), k', d'] ∧ xs.length = i + 1 ∧ InR q xs)
        (if (xs.map PyData.int).length < lim then .nx [.val (.int n), .val (.int q), .val (.int many), .val (.int (n % 3)), .own (xs.map PyData.int ++ [.int (m / 8 % q * z)]), .val (.int (0 + (i : Int))), .val (.int m)] else .stuck) := by
      intro z hz
      rw [if_pos (by rw [List.length_map]; exact Nat.lt_of_lt_of_le (show xs.length < 100000 by omega) (by decide))]
      refine ⟨xs ++ [m / 8 % q * z], _, _, by rw [List.map_append]; rfl, by simp [hl], hx.app (.one ?_)⟩
      rcases hz with rfl | rfl
      · simp
        omega
      · simpa using ⟨h0, h1⟩
    by_cases hr : 0 < n % 3
    · rw [decide_eq_true hr]
      walk_at "ev"
      rw [pMul_l (by omega)]
      walk_at "ev"
      exact fin _ (.inr rfl)
    · rw [decide_eq_false hr]
      walk_at "ev"
      rw [pMul_l (by omega)]
      walk_at "ev"
      refine fin _ ?_
      split
      · exact .inr rfl
      · exact .inl rfl
  obtain ⟨δ', rfl, xs, k', d', rfl, h3, h4⟩ := HH
  walk_at "ev"
  rw [lI_of]
  walk_at "ev"
  exact ⟨xs, rfl, by rw [h3, rangeItems_len], h4⟩
/-! l_made -/
theorem made_ok {row rule : List Int} {q many : Int} (h : rule.length ≤ row.length) (hz : rule.length ≤ 1000) (hr : InR 13 rule) (hq : 0 < q) (hm0 : 0 ≤ many) (hm : many ≤ 1000) (hw : row.length ≤ 1000) :
    d_l_made [tI row, tI rule, .int q, .int many] = .ok (tI ((gone rule q (many.toNat - row.length) row).take many.toNat)) := by
  unfold d_l_made
  show resOf (g_l_made [.val (tI row), .val (tI rule), .val (.int q), .val (.int many), .un]) = _
  unfold g_l_made
  walk_at "ev"
  generalize hF : whileGo _ _ _ _ = r
  have HH := while_inv' hF (many.toNat - row.length) (fun i => [.val (tI row), .val (tI rule), .val (.int q), .val (.int many), .val (tI (gone rule q i row))]) rfl (by omega) ?s1 ?s2
  case s1 =>
    intro i hi
    have hl := gone_length rule q i row
    constructor
    · walk_at "ev"
      rw [decide_eq_true (by omega)]
    · walk_at "ev"
      rw [next_ok (by omega) hz hr hq]
      walk_at "ev"
      rw [pAdd_tI (by rw [List.length_singleton]; omega)]
      walk_at "ev"
      rw [gone_succ]
  case s2 =>
    walk_at "ev"
    have hl := gone_length rule q (many.toNat - row.length) row
    rw [decide_eq_false (by omega)]
  subst HH
  walk_at "ev"
  rw [cut_toI hm0]
/-! l_row -/
theorem row_ok (n : Int) {q most : Int} (hq : 2 ≤ q) (hq2 : q ≤ 13) (hm : 0 ≤ most) (hm2 : most ≤ 100) : ∃ xs, d_l_row [.int n, .int q, .int most] = .ok (tI xs) ∧ (xs.length : Int) ≤ most ∧ InR q xs := by
  show ∃ xs, resOf (g_l_row [.val (.int n), .val (.int q), .val (.int most), .un, .un, .un, .un]) = _ ∧ _
  unfold g_l_row
  have hmany0 : 0 ≤ n % (most + 1) := Int.emod_nonneg _ (by omega)
  have hmany1 : n % (most + 1) < most + 1 := Int.emod_lt_of_pos _ (by omega)
  walk_at "ns"
  rw [pMod_int (by omega)]
  walk_at "ns"
  generalize n % (most + 1) = many at *
  obtain ⟨m1, e1, _, _⟩ := drawn_ok n (k := 1) (by omega) (by omega)
  obtain ⟨m2, e2, _, _⟩ := drawn_ok n (k := 2) (by omega) (by omega)
  rw [e1]
  walk_at "ns"
  rw [pDiv_int (by omega) (by omega)]
  walk_at "ns"
  rw [pMod_int (by omega)]
  walk_at "ns"
  have h0 : 0 ≤ n / 32 % 6 := Int.emod_nonneg _ (by omega)
  have h1 : n / 32 % 6 < 6 := Int.emod_lt_of_pos _ (by omega)
  obtain ⟨rule, e3, hl3, hr3⟩ := numbers_ok m1 hq hq2 (many := n / 32 % 6) h0 (by omega)
  rw [e3]
  walk_at "ns"
  rw [e2]
  walk_at "ns"
  obtain ⟨row, e4, hl4, hr4⟩ := numbers_ok m2 hq hq2 (many := if (rule.length : Int) > many then (rule.length : Int) else many) (by split <;> omega) (by split <;> omega)
  rw [e4]
  have r13 : InR 13 rule := fun x hx => by
    have := hr3 x hx
    omega
  walk_at "ns"
  generalize hF : sIf _ _ _ _ = r
  have HH := if_ind' hF (decide (0 < n / 192 % 3)) (fun δ => ∃ row : List Int, δ = [.val (.int n), .val (.int q), .val (.int most), .val (.int many), .val (tI rule), .val (tI row), .un] ∧ many ≤ row.length ∧ row.length ≤ 1000 ∧ InR q row) ?hc ?hg ?hh
  case hc =>
    walk_at "ev"
    rw [pDiv_int (by omega) (by omega)]
    walk_at "ev"
    rw [pMod_int (by omega)]
    walk_at "ev"
  case hg =>
    intro _
    walk_at "ev"
    have hrl : (row.take (rule.length : Int).toNat).length = rule.length := by
      rw [List.length_take, hl4]
      split <;> omega
    rw [cut_toI (by omega), made_ok (by omega) (by omega) r13 (by omega) (by split <;> omega) (by split <;> omega) (by omega)]
    walk_at "ev"
    refine ⟨_, rfl, ?_, ?_, ?_⟩
    · rw [List.length_take, gone_length]
      split <;> omega
    · rw [List.length_take, gone_length]
      split <;> omega
    · exact (gone_range (by omega) _ _ (hr4.take _)).take _
  case hh =>
    intro _
    walk_at "ev"
    refine ⟨row, rfl, ?_, ?_, hr4⟩
    · rw [hl4]
      split <;> omega
    · rw [hl4]
      split <;> omega
  obtain ⟨δ, rfl, row, rfl, hw, hz, hr⟩ := HH
  walk_at "ev"
  rw [cut_toI hmany0, pDiv_int (by omega) (by omega)]
  walk_at "ev"
  rw [pMod_int (by omega)]
  walk_at "ev"
  have hlen : (row.take many.toNat).length = many.toNat := by rw [List.length_take]; omega
  by_cases c1 : n / 576 % 3 = 0
  · rw [decide_eq_true c1]
    walk_at "ev"
    by_cases c2 : 0 < many
    · rw [decide_eq_true c2]
      walk_at "ev"
      rw [pDiv_int (by omega) (by omega)]
      walk_at "ev"
      rw [pMod_int c2]
      walk_at "ev"
      have a0 : 0 ≤ n / 1728 % many := Int.emod_nonneg _ (by omega)
      have a1 : n / 1728 % many < many := Int.emod_lt_of_pos _ c2
      generalize n / 1728 % many = at_ at *
      generalize hrow : row.take many.toNat = row2 at *
      have hr2 : InR q row2 := by rw [← hrow]; exact hr.take _
      obtain ⟨x, hx⟩ : ∃ x, row2[at_.toNat]? = some x := ⟨_, List.getElem?_eq_getElem (by omega)⟩
      rw [pIx_tI (x := x) (by rw [atI_nn a0 (by omega)]; exact hx), cut_toI a0, cut_from (show 0 ≤ at_ + 1 by omega)]
      walk_at "ev"
      rw [pMod_int (by omega)]
      walk_at "ev"
      rw [pAdd_tI (by rw [List.length_take, List.length_singleton]; omega)]
      walk_at "ev"
      rw [pAdd_tI (by rw [List.length_append, List.length_take, List.length_singleton, List.length_drop]; omega)]
      walk_at "ev"
      refine ⟨_, rfl, ?_, ?_⟩
      · rw [List.length_append, List.length_append, List.length_take, List.length_singleton, List.length_drop]
        omega
      · exact ((hr2.take _).app (.one ⟨Int.emod_nonneg _ (by omega), Int.emod_lt_of_pos _ (by omega)⟩)).app (hr2.drop _)
    · rw [decide_eq_false c2]
      walk_at "ev"
      exact ⟨_, rfl, by omega, hr.take _⟩
  · rw [decide_eq_false c1]
    walk_at "ev"
    exact ⟨_, rfl, by omega, hr.take _⟩
/-! l_is_row -/
theorem is_row_ok {xs : List Int} {q : Int} (hz : xs.length ≤ 10000) : d_l_is_row [tI xs, .int q] = .ok (.bool (decide (xs.length ≤ 30) && xs.all fun x => decide (0 ≤ x ∧ x ≤ q - 1))) := by
  show resOf (g_l_is_row [.val (tI xs), .val (.int q), .un]) = _
  unfold g_l_is_row
  walk_at "ev"
  show resOf (andThen (ofR _ ((pIsB isTuple (tI xs)).bind _ |>.bind _ |>.bind _) _) _) = _
  simp only [show pIsB isTuple (tI xs) = .ok (.bool true) from rfl]
  walk_at "ev"
  by_cases c : (30 : Int) < (xs.length : Int)
  · rw [decide_eq_true c]
    walk_at "ev"
    rw [decide_eq_false (by omega)]
    rfl
  · rw [decide_eq_false c]
    walk_at "ev"
    rw [comp_in (by rw [List.length_map]; omega) (comp_intF xs _ (fun x => !decide (0 ≤ x ∧ x ≤ q - 1)) (fun x => x) fun x hx => ?_)]
    · walk_at "ev"
      rw [lI_of, show PyData.list [] = lI [] from rfl]
      walk_at "ev"
      rw [decide_eq_true (show xs.length ≤ 30 by omega), Bool.true_and]
      congr 2
      rw [Bool.eq_iff_iff, decide_eq_true_iff, List.all_eq_true, List.map_eq_nil_iff, List.filter_eq_nil_iff]
      constructor
      · intro h x hx
        have := h x hx
        simpa using this
      · intro h x hx
        have := h x hx
        simpa using this
    · refine ⟨_, rfl, ?_, fun _ => ?_⟩
      · walk_at "ev"
        rw [number_ok]
        walk_at "ev"
      · walk_at "ev"
theorem number_any {q : Int} (d : P) : d_l_number [d, .int 0, .int (q - 1)] = .ok (.bool (partB q d)) := by
  show resOf (g_l_number [.val d, .val (.int 0), .val (.int (q - 1))]) = _
  unfold g_l_number
  cases d with
  | int x =>
    have e1 : pIsB isInt (.int x) = .ok (.bool true) := rfl
    have e2 : pIsB isBool (.int x) = .ok (.bool false) := rfl
    simp -implicitDefEqProofs (disch := omega) only [sRaise_ap, andThen_exc, resOf_exc, bind_exc, ofR_exc, sTryAs_ap, sTry_ap, tryTo_nx, tryTo_ret, tryO_nx, tryO_ret, still_ret, still_nx, unE_ret, unE_nx, dIsE_zero, dIsE_succ, pMod_int, pDiv_int, zipOf_tI, enumOf_tI, lI_of, pLen_lI, enumOf_lI, itemsOf_lI, sizedL_one, sizedL_two, pListOf_lI, pListOf_tI, dStep_ap, ixpair_ok, six_ok, pair_ok, dVar_zero, dVar_succ, dOwn_zero, dOwn_succ, dC_ap, dOp_ap, dUn_ap, dL_ap, dT_ap, dAnd_ap, dOr_ap, dNot_ap, tAndD_ap, tOrD_ap, tNotD_ap, dChain_ap, aNil_ap, aCons_ap, dTupl_ap, dList_ap, dCall_ap, oNone_ap, oSome_ap, dSl_ap, iUn_ap, iOp_ap, dComp_ap, cYes_ap, partOf_int, truthOf_bool, sSeq_ap, andThen_nx, andThen_ret, sNil_ap, sPass_ap, sRet_ap, sExpr_ap, sSet_ap, sSetOwn_ap, sIf_ap, sFor_ap, sPair_ap, sPar_ap, sApp_ap, sStore_ap, sPop_ap, sFrz_ap, frz_zero, frz_succ, ownAt_zero, ownAt_succ, ownTo_some, NxTo_nx, NxIf_nx, ofR_ok, Res.bind_ok, Res.mute_ok, set_zero, set_succ, wipe_nil, wipe_cons, bN_ap, bP_ap, resOf_ret, tI_nil, tI_one, pLen_tI, pSl_tI, itemsOf_tI, pLen_scr, pEq_tI, pNe_tI, pEq_lI, pNe_lI, pEq_int, pNe_int, pEq_bool, pNe_bool, pAdd_int, pSub_int, pNeg_int, pLt_int, pLe_int, pGt_int, pGe_int, pMax_int, pMin_int, pInt_int, pInt_bool, pIs_bool, pIsNot_bool, pTuple_lI, pTuple_tI, pSum_lI, sized_nil, sizedL_nil, sized_one, if_true, if_false, Bool.false_eq_true, decide_true, decide_false, Bool.not_true, Bool.not_false, reduceIte, eq_self, e1, e2]
    show _ = Res.ok (PyData.bool (decide (0 ≤ x ∧ x < q)))
    by_cases h : 0 ≤ x
    · rw [decide_eq_true h]
      simp -implicitDefEqProofs (disch := omega) only [sRaise_ap, andThen_exc, resOf_exc, bind_exc, ofR_exc, sTryAs_ap, sTry_ap, tryTo_nx, tryTo_ret, tryO_nx, tryO_ret, still_ret, still_nx, unE_ret, unE_nx, dIsE_zero, dIsE_succ, pMod_int, pDiv_int, zipOf_tI, enumOf_tI, lI_of, pLen_lI, enumOf_lI, itemsOf_lI, sizedL_one, sizedL_two, pListOf_lI, pListOf_tI, dStep_ap, ixpair_ok, six_ok, pair_ok, dVar_zero, dVar_succ, dOwn_zero, dOwn_succ, dC_ap, dOp_ap, dUn_ap, dL_ap, dT_ap, dAnd_ap, dOr_ap, dNot_ap, tAndD_ap, tOrD_ap, tNotD_ap, dChain_ap, aNil_ap, aCons_ap, dTupl_ap, dList_ap, dCall_ap, oNone_ap, oSome_ap, dSl_ap, iUn_ap, iOp_ap, dComp_ap, cYes_ap, partOf_int, truthOf_bool, sSeq_ap, andThen_nx, andThen_ret, sNil_ap, sPass_ap, sRet_ap, sExpr_ap, sSet_ap, sSetOwn_ap, sIf_ap, sFor_ap, sPair_ap, sPar_ap, sApp_ap, sStore_ap, sPop_ap, sFrz_ap, frz_zero, frz_succ, ownAt_zero, ownAt_succ, ownTo_some, NxTo_nx, NxIf_nx, ofR_ok, Res.bind_ok, Res.mute_ok, set_zero, set_succ, wipe_nil, wipe_cons, bN_ap, bP_ap, resOf_ret, tI_nil, tI_one, pLen_tI, pSl_tI, itemsOf_tI, pLen_scr, pEq_tI, pNe_tI, pEq_lI, pNe_lI, pEq_int, pNe_int, pEq_bool, pNe_bool, pAdd_int, pSub_int, pNeg_int, pLt_int, pLe_int, pGt_int, pGe_int, pMax_int, pMin_int, pInt_int, pInt_bool, pIs_bool, pIsNot_bool, pTuple_lI, pTuple_tI, pSum_lI, sized_nil, sizedL_nil, sized_one, if_true, if_false, Bool.false_eq_true, decide_true, decide_false, Bool.not_true, Bool.not_false, reduceIte, eq_self]
      congr 2
      rw [decide_eq_decide]
      omega
    · rw [decide_eq_false h]
      simp -implicitDefEqProofs (disch := omega) only [sRaise_ap, andThen_exc, resOf_exc, bind_exc, ofR_exc, sTryAs_ap, sTry_ap, tryTo_nx, tryTo_ret, tryO_nx, tryO_ret, still_ret, still_nx, unE_ret, unE_nx, dIsE_zero, dIsE_succ, pMod_int, pDiv_int, zipOf_tI, enumOf_tI, lI_of, pLen_lI, enumOf_lI, itemsOf_lI, sizedL_one, sizedL_two, pListOf_lI, pListOf_tI, dStep_ap, ixpair_ok, six_ok, pair_ok, dVar_zero, dVar_succ, dOwn_zero, dOwn_succ, dC_ap, dOp_ap, dUn_ap, dL_ap, dT_ap, dAnd_ap, dOr_ap, dNot_ap, tAndD_ap, tOrD_ap, tNotD_ap, dChain_ap, aNil_ap, aCons_ap, dTupl_ap, dList_ap, dCall_ap, oNone_ap, oSome_ap, dSl_ap, iUn_ap, iOp_ap, dComp_ap, cYes_ap, partOf_int, truthOf_bool, sSeq_ap, andThen_nx, andThen_ret, sNil_ap, sPass_ap, sRet_ap, sExpr_ap, sSet_ap, sSetOwn_ap, sIf_ap, sFor_ap, sPair_ap, sPar_ap, sApp_ap, sStore_ap, sPop_ap, sFrz_ap, frz_zero, frz_succ, ownAt_zero, ownAt_succ, ownTo_some, NxTo_nx, NxIf_nx, ofR_ok, Res.bind_ok, Res.mute_ok, set_zero, set_succ, wipe_nil, wipe_cons, bN_ap, bP_ap, resOf_ret, tI_nil, tI_one, pLen_tI, pSl_tI, itemsOf_tI, pLen_scr, pEq_tI, pNe_tI, pEq_lI, pNe_lI, pEq_int, pNe_int, pEq_bool, pNe_bool, pAdd_int, pSub_int, pNeg_int, pLt_int, pLe_int, pGt_int, pGe_int, pMax_int, pMin_int, pInt_int, pInt_bool, pIs_bool, pIsNot_bool, pTuple_lI, pTuple_tI, pSum_lI, sized_nil, sizedL_nil, sized_one, if_true, if_false, Bool.false_eq_true, decide_true, decide_false, Bool.not_true, Bool.not_false, reduceIte, eq_self]
      rw [decide_eq_false (fun z => h z.1)]
  | bool x =>
    have e1 : pIsB isInt (.bool x) = .ok (.bool true) := rfl
    have e2 : pIsB isBool (.bool x) = .ok (.bool true) := rfl
    simp -implicitDefEqProofs (disch := omega) only [sRaise_ap, andThen_exc, resOf_exc, bind_exc, ofR_exc, sTryAs_ap, sTry_ap, tryTo_nx, tryTo_ret, tryO_nx, tryO_ret, still_ret, still_nx, unE_ret, unE_nx, dIsE_zero, dIsE_succ, pMod_int, pDiv_int, zipOf_tI, enumOf_tI, lI_of, pLen_lI, enumOf_lI, itemsOf_lI, sizedL_one, sizedL_two, pListOf_lI, pListOf_tI, dStep_ap, ixpair_ok, six_ok, pair_ok, dVar_zero, dVar_succ, dOwn_zero, dOwn_succ, dC_ap, dOp_ap, dUn_ap, dL_ap, dT_ap, dAnd_ap, dOr_ap, dNot_ap, tAndD_ap, tOrD_ap, tNotD_ap, dChain_ap, aNil_ap, aCons_ap, dTupl_ap, dList_ap, dCall_ap, oNone_ap, oSome_ap, dSl_ap, iUn_ap, iOp_ap, dComp_ap, cYes_ap, partOf_int, truthOf_bool, sSeq_ap, andThen_nx, andThen_ret, sNil_ap, sPass_ap, sRet_ap, sExpr_ap, sSet_ap, sSetOwn_ap, sIf_ap, sFor_ap, sPair_ap, sPar_ap, sApp_ap, sStore_ap, sPop_ap, sFrz_ap, frz_zero, frz_succ, ownAt_zero, ownAt_succ, ownTo_some, NxTo_nx, NxIf_nx, ofR_ok, Res.bind_ok, Res.mute_ok, set_zero, set_succ, wipe_nil, wipe_cons, bN_ap, bP_ap, resOf_ret, tI_nil, tI_one, pLen_tI, pSl_tI, itemsOf_tI, pLen_scr, pEq_tI, pNe_tI, pEq_lI, pNe_lI, pEq_int, pNe_int, pEq_bool, pNe_bool, pAdd_int, pSub_int, pNeg_int, pLt_int, pLe_int, pGt_int, pGe_int, pMax_int, pMin_int, pInt_int, pInt_bool, pIs_bool, pIsNot_bool, pTuple_lI, pTuple_tI, pSum_lI, sized_nil, sizedL_nil, sized_one, if_true, if_false, Bool.false_eq_true, decide_true, decide_false, Bool.not_true, Bool.not_false, reduceIte, eq_self, e1, e2]
    rfl
  | none =>
    have e1 : pIsB isInt .none = .ok (.bool false) := rfl
    simp -implicitDefEqProofs (disch := omega) only [sRaise_ap, andThen_exc, resOf_exc, bind_exc, ofR_exc, sTryAs_ap, sTry_ap, tryTo_nx, tryTo_ret, tryO_nx, tryO_ret, still_ret, still_nx, unE_ret, unE_nx, dIsE_zero, dIsE_succ, pMod_int, pDiv_int, zipOf_tI, enumOf_tI, lI_of, pLen_lI, enumOf_lI, itemsOf_lI, sizedL_one, sizedL_two, pListOf_lI, pListOf_tI, dStep_ap, ixpair_ok, six_ok, pair_ok, dVar_zero, dVar_succ, dOwn_zero, dOwn_succ, dC_ap, dOp_ap, dUn_ap, dL_ap, dT_ap, dAnd_ap, dOr_ap, dNot_ap, tAndD_ap, tOrD_ap, tNotD_ap, dChain_ap, aNil_ap, aCons_ap, dTupl_ap, dList_ap, dCall_ap, oNone_ap, oSome_ap, dSl_ap, iUn_ap, iOp_ap, dComp_ap, cYes_ap, partOf_int, truthOf_bool, sSeq_ap, andThen_nx, andThen_ret, sNil_ap, sPass_ap, sRet_ap, sExpr_ap, sSet_ap, sSetOwn_ap, sIf_ap, sFor_ap, sPair_ap, sPar_ap, sApp_ap, sStore_ap, sPop_ap, sFrz_ap, frz_zero, frz_succ, ownAt_zero, ownAt_succ, ownTo_some, NxTo_nx, NxIf_nx, ofR_ok, Res.bind_ok, Res.mute_ok, set_zero, set_succ, wipe_nil, wipe_cons, bN_ap, bP_ap, resOf_ret, tI_nil, tI_one, pLen_tI, pSl_tI, itemsOf_tI, pLen_scr, pEq_tI, pNe_tI, pEq_lI, pNe_lI, pEq_int, pNe_int, pEq_bool, pNe_bool, pAdd_int, pSub_int, pNeg_int, pLt_int, pLe_int, pGt_int, pGe_int, pMax_int, pMin_int, pInt_int, pInt_bool, pIs_bool, pIsNot_bool, pTuple_lI, pTuple_tI, pSum_lI, sized_nil, sizedL_nil, sized_one, if_true, if_false, Bool.false_eq_true, decide_true, decide_false, Bool.not_true, Bool.not_false, reduceIte, eq_self, e1]
    rfl
  | str x =>
    have e1 : pIsB isInt (.str x) = .ok (.bool false) := rfl
    simp -implicitDefEqProofs (disch := omega) only [sRaise_ap, andThen_exc, resOf_exc, bind_exc, ofR_exc, sTryAs_ap, sTry_ap, tryTo_nx, tryTo_ret, tryO_nx, tryO_ret, still_ret, still_nx, unE_ret, unE_nx, dIsE_zero, dIsE_succ, pMod_int, pDiv_int, zipOf_tI, enumOf_tI, lI_of, pLen_lI, enumOf_lI, itemsOf_lI, sizedL_one, sizedL_two, pListOf_lI, pListOf_tI, dStep_ap, ixpair_ok, six_ok, pair_ok, dVar_zero, dVar_succ, dOwn_zero, dOwn_succ, dC_ap, dOp_ap, dUn_ap, dL_ap, dT_ap, dAnd_ap, dOr_ap, dNot_ap, tAndD_ap, tOrD_ap, tNotD_ap, dChain_ap, aNil_ap, aCons_ap, dTupl_ap, dList_ap, dCall_ap, oNone_ap, oSome_ap, dSl_ap, iUn_ap, iOp_ap, dComp_ap, cYes_ap, partOf_int, truthOf_bool, sSeq_ap, andThen_nx, andThen_ret, sNil_ap, sPass_ap, sRet_ap, sExpr_ap, sSet_ap, sSetOwn_ap, sIf_ap, sFor_ap, sPair_ap, sPar_ap, sApp_ap, sStore_ap, sPop_ap, sFrz_ap, frz_zero, frz_succ, ownAt_zero, ownAt_succ, ownTo_some, NxTo_nx, NxIf_nx, ofR_ok, Res.bind_ok, Res.mute_ok, set_zero, set_succ, wipe_nil, wipe_cons, bN_ap, bP_ap, resOf_ret, tI_nil, tI_one, pLen_tI, pSl_tI, itemsOf_tI, pLen_scr, pEq_tI, pNe_tI, pEq_lI, pNe_lI, pEq_int, pNe_int, pEq_bool, pNe_bool, pAdd_int, pSub_int, pNeg_int, pLt_int, pLe_int, pGt_int, pGe_int, pMax_int, pMin_int, pInt_int, pInt_bool, pIs_bool, pIsNot_bool, pTuple_lI, pTuple_tI, pSum_lI, sized_nil, sizedL_nil, sized_one, if_true, if_false, Bool.false_eq_true, decide_true, decide_false, Bool.not_true, Bool.not_false, reduceIte, eq_self, e1]
    rfl
  | list x =>
    have e1 : pIsB isInt (.list x) = .ok (.bool false) := rfl
    simp -implicitDefEqProofs (disch := omega) only [sRaise_ap, andThen_exc, resOf_exc, bind_exc, ofR_exc, sTryAs_ap, sTry_ap, tryTo_nx, tryTo_ret, tryO_nx, tryO_ret, still_ret, still_nx, unE_ret, unE_nx, dIsE_zero, dIsE_succ, pMod_int, pDiv_int, zipOf_tI, enumOf_tI, lI_of, pLen_lI, enumOf_lI, itemsOf_lI, sizedL_one, sizedL_two, pListOf_lI, pListOf_tI, dStep_ap, ixpair_ok, six_ok, pair_ok, dVar_zero, dVar_succ, dOwn_zero, dOwn_succ, dC_ap, dOp_ap, dUn_ap, dL_ap, dT_ap, dAnd_ap, dOr_ap, dNot_ap, tAndD_ap, tOrD_ap, tNotD_ap, dChain_ap, aNil_ap, aCons_ap, dTupl_ap, dList_ap, dCall_ap, oNone_ap, oSome_ap, dSl_ap, iUn_ap, iOp_ap, dComp_ap, cYes_ap, partOf_int, truthOf_bool, sSeq_ap, andThen_nx, andThen_ret, sNil_ap, sPass_ap, sRet_ap, sExpr_ap, sSet_ap, sSetOwn_ap, sIf_ap, sFor_ap, sPair_ap, sPar_ap, sApp_ap, sStore_ap, sPop_ap, sFrz_ap, frz_zero, frz_succ, ownAt_zero, ownAt_succ, ownTo_some, NxTo_nx, NxIf_nx, ofR_ok, Res.bind_ok, Res.mute_ok, set_zero, set_succ, wipe_nil, wipe_cons, bN_ap, bP_ap, resOf_ret, tI_nil, tI_one, pLen_tI, pSl_tI, itemsOf_tI, pLen_scr, pEq_tI, pNe_tI, pEq_lI, pNe_lI, pEq_int, pNe_int, pEq_bool, pNe_bool, pAdd_int, pSub_int, pNeg_int, pLt_int, pLe_int, pGt_int, pGe_int, pMax_int, pMin_int, pInt_int, pInt_bool, pIs_bool, pIsNot_bool, pTuple_lI, pTuple_tI, pSum_lI, sized_nil, sizedL_nil, sized_one, if_true, if_false, Bool.false_eq_true, decide_true, decide_false, Bool.not_true, Bool.not_false, reduceIte, eq_self, e1]
    rfl
  | tuple x =>
    have e1 : pIsB isInt (.tuple x) = .ok (.bool false) := rfl
    simp -implicitDefEqProofs (disch := omega) only [sRaise_ap, andThen_exc, resOf_exc, bind_exc, ofR_exc, sTryAs_ap, sTry_ap, tryTo_nx, tryTo_ret, tryO_nx, tryO_ret, still_ret, still_nx, unE_ret, unE_nx, dIsE_zero, dIsE_succ, pMod_int, pDiv_int, zipOf_tI, enumOf_tI, lI_of, pLen_lI, enumOf_lI, itemsOf_lI, sizedL_one, sizedL_two, pListOf_lI, pListOf_tI, dStep_ap, ixpair_ok, six_ok, pair_ok, dVar_zero, dVar_succ, dOwn_zero, dOwn_succ, dC_ap, dOp_ap, dUn_ap, dL_ap, dT_ap, dAnd_ap, dOr_ap, dNot_ap, tAndD_ap, tOrD_ap, tNotD_ap, dChain_ap, aNil_ap, aCons_ap, dTupl_ap, dList_ap, dCall_ap, oNone_ap, oSome_ap, dSl_ap, iUn_ap, iOp_ap, dComp_ap, cYes_ap, partOf_int, truthOf_bool, sSeq_ap, andThen_nx, andThen_ret, sNil_ap, sPass_ap, sRet_ap, sExpr_ap, sSet_ap, sSetOwn_ap, sIf_ap, sFor_ap, sPair_ap, sPar_ap, sApp_ap, sStore_ap, sPop_ap, sFrz_ap, frz_zero, frz_succ, ownAt_zero, ownAt_succ, ownTo_some, NxTo_nx, NxIf_nx, ofR_ok, Res.bind_ok, Res.mute_ok, set_zero, set_succ, wipe_nil, wipe_cons, bN_ap, bP_ap, resOf_ret, tI_nil, tI_one, pLen_tI, pSl_tI, itemsOf_tI, pLen_scr, pEq_tI, pNe_tI, pEq_lI, pNe_lI, pEq_int, pNe_int, pEq_bool, pNe_bool, pAdd_int, pSub_int, pNeg_int, pLt_int, pLe_int, pGt_int, pGe_int, pMax_int, pMin_int, pInt_int, pInt_bool, pIs_bool, pIsNot_bool, pTuple_lI, pTuple_tI, pSum_lI, sized_nil, sizedL_nil, sized_one, if_true, if_false, Bool.false_eq_true, decide_true, decide_false, Bool.not_true, Bool.not_false, reduceIte, eq_self, e1]
    rfl
  | dict x =>
    have e1 : pIsB isInt (.dict x) = .ok (.bool false) := rfl
    simp -implicitDefEqProofs (disch := omega) only [sRaise_ap, andThen_exc, resOf_exc, bind_exc, ofR_exc, sTryAs_ap, sTry_ap, tryTo_nx, tryTo_ret, tryO_nx, tryO_ret, still_ret, still_nx, unE_ret, unE_nx, dIsE_zero, dIsE_succ, pMod_int, pDiv_int, zipOf_tI, enumOf_tI, lI_of, pLen_lI, enumOf_lI, itemsOf_lI, sizedL_one, sizedL_two, pListOf_lI, pListOf_tI, dStep_ap, ixpair_ok, six_ok, pair_ok, dVar_zero, dVar_succ, dOwn_zero, dOwn_succ, dC_ap, dOp_ap, dUn_ap, dL_ap, dT_ap, dAnd_ap, dOr_ap, dNot_ap, tAndD_ap, tOrD_ap, tNotD_ap, dChain_ap, aNil_ap, aCons_ap, dTupl_ap, dList_ap, dCall_ap, oNone_ap, oSome_ap, dSl_ap, iUn_ap, iOp_ap, dComp_ap, cYes_ap, partOf_int, truthOf_bool, sSeq_ap, andThen_nx, andThen_ret, sNil_ap, sPass_ap, sRet_ap, sExpr_ap, sSet_ap, sSetOwn_ap, sIf_ap, sFor_ap, sPair_ap, sPar_ap, sApp_ap, sStore_ap, sPop_ap, sFrz_ap, frz_zero, frz_succ, ownAt_zero, ownAt_succ, ownTo_some, NxTo_nx, NxIf_nx, ofR_ok, Res.bind_ok, Res.mute_ok, set_zero, set_succ, wipe_nil, wipe_cons, bN_ap, bP_ap, resOf_ret, tI_nil, tI_one, pLen_tI, pSl_tI, itemsOf_tI, pLen_scr, pEq_tI, pNe_tI, pEq_lI, pNe_lI, pEq_int, pNe_int, pEq_bool, pNe_bool, pAdd_int, pSub_int, pNeg_int, pLt_int, pLe_int, pGt_int, pGe_int, pMax_int, pMin_int, pInt_int, pInt_bool, pIs_bool, pIsNot_bool, pTuple_lI, pTuple_tI, pSum_lI, sized_nil, sizedL_nil, sized_one, if_true, if_false, Bool.false_eq_true, decide_true, decide_false, Bool.not_true, Bool.not_false, reduceIte, eq_self, e1]
    rfl
theorem lrow_any {q : Int} {d : P} (h : Thing d) : d_l_is_row [d, .int q] = .ok (.bool (rowB q d)) := by
  show resOf (g_l_is_row [.val d, .val (.int q), .un]) = _
  unfold g_l_is_row
  have no : isTuple d = false → rowB q d = false → resOf (g_l_is_row [.val d, .val (.int q), .un]) = .ok (.bool (rowB q d)) := fun h1 h2 => by
    unfold g_l_is_row
    have e1 : pIsB isTuple d = .ok (.bool false) := by
      show Res.ok (PyData.bool (isTuple d)) = _
      rw [h1]
    simp -implicitDefEqProofs (disch := omega) only [sRaise_ap, andThen_exc, resOf_exc, bind_exc, ofR_exc, sTryAs_ap, sTry_ap, tryTo_nx, tryTo_ret, tryO_nx, tryO_ret, still_ret, still_nx, unE_ret, unE_nx, dIsE_zero, dIsE_succ, pMod_int, pDiv_int, zipOf_tI, enumOf_tI, lI_of, pLen_lI, enumOf_lI, itemsOf_lI, sizedL_one, sizedL_two, pListOf_lI, pListOf_tI, dStep_ap, ixpair_ok, six_ok, pair_ok, dVar_zero, dVar_succ, dOwn_zero, dOwn_succ, dC_ap, dOp_ap, dUn_ap, dL_ap, dT_ap, dAnd_ap, dOr_ap, dNot_ap, tAndD_ap, tOrD_ap, tNotD_ap, dChain_ap, aNil_ap, aCons_ap, dTupl_ap, dList_ap, dCall_ap, oNone_ap, oSome_ap, dSl_ap, iUn_ap, iOp_ap, dComp_ap, cYes_ap, partOf_int, truthOf_bool, sSeq_ap, andThen_nx, andThen_ret, sNil_ap, sPass_ap, sRet_ap, sExpr_ap, sSet_ap, sSetOwn_ap, sIf_ap, sFor_ap, sPair_ap, sPar_ap, sApp_ap, sStore_ap, sPop_ap, sFrz_ap, frz_zero, frz_succ, ownAt_zero, ownAt_succ, ownTo_some, NxTo_nx, NxIf_nx, ofR_ok, Res.bind_ok, Res.mute_ok, set_zero, set_succ, wipe_nil, wipe_cons, bN_ap, bP_ap, resOf_ret, tI_nil, tI_one, pLen_tI, pSl_tI, itemsOf_tI, pLen_scr, pEq_tI, pNe_tI, pEq_lI, pNe_lI, pEq_int, pNe_int, pEq_bool, pNe_bool, pAdd_int, pSub_int, pNeg_int, pLt_int, pLe_int, pGt_int, pGe_int, pMax_int, pMin_int, pInt_int, pInt_bool, pIs_bool, pIsNot_bool, pTuple_lI, pTuple_tI, pSum_lI, sized_nil, sizedL_nil, sized_one, if_true, if_false, Bool.false_eq_true, decide_true, decide_false, Bool.not_true, Bool.not_false, reduceIte, eq_self, e1, h2]
  cases d with
  | tuple ds =>
    have e1 : pIsB isTuple (.tuple ds) = .ok (.bool true) := rfl
    have hl := h.2 ds rfl
    have hn := nice_tuple.mp h.1
    simp -implicitDefEqProofs (disch := omega) only [sRaise_ap, andThen_exc, resOf_exc, bind_exc, ofR_exc, sTryAs_ap, sTry_ap, tryTo_nx, tryTo_ret, tryO_nx, tryO_ret, still_ret, still_nx, unE_ret, unE_nx, dIsE_zero, dIsE_succ, pMod_int, pDiv_int, zipOf_tI, enumOf_tI, lI_of, pLen_lI, enumOf_lI, itemsOf_lI, sizedL_one, sizedL_two, pListOf_lI, pListOf_tI, dStep_ap, ixpair_ok, six_ok, pair_ok, dVar_zero, dVar_succ, dOwn_zero, dOwn_succ, dC_ap, dOp_ap, dUn_ap, dL_ap, dT_ap, dAnd_ap, dOr_ap, dNot_ap, tAndD_ap, tOrD_ap, tNotD_ap, dChain_ap, aNil_ap, aCons_ap, dTupl_ap, dList_ap, dCall_ap, oNone_ap, oSome_ap, dSl_ap, iUn_ap, iOp_ap, dComp_ap, cYes_ap, partOf_int, truthOf_bool, sSeq_ap, andThen_nx, andThen_ret, sNil_ap, sPass_ap, sRet_ap, sExpr_ap, sSet_ap, sSetOwn_ap, sIf_ap, sFor_ap, sPair_ap, sPar_ap, sApp_ap, sStore_ap, sPop_ap, sFrz_ap, frz_zero, frz_succ, ownAt_zero, ownAt_succ, ownTo_some, NxTo_nx, NxIf_nx, ofR_ok, Res.bind_ok, Res.mute_ok, set_zero, set_succ, wipe_nil, wipe_cons, bN_ap, bP_ap, resOf_ret, tI_nil, tI_one, pLen_tI, pSl_tI, itemsOf_tI, pLen_scr, pEq_tI, pNe_tI, pEq_lI, pNe_lI, pEq_int, pNe_int, pEq_bool, pNe_bool, pAdd_int, pSub_int, pNeg_int, pLt_int, pLe_int, pGt_int, pGe_int, pMax_int, pMin_int, pInt_int, pInt_bool, pIs_bool, pIsNot_bool, pTuple_lI, pTuple_tI, pSum_lI, sized_nil, sizedL_nil, sized_one, if_true, if_false, Bool.false_eq_true, decide_true, decide_false, Bool.not_true, Bool.not_false, reduceIte, eq_self, e1, pLen_tup]
    by_cases c : (30 : Int) < (ds.length : Int)
    · rw [decide_eq_true c]
      simp -implicitDefEqProofs (disch := omega) only [sRaise_ap, andThen_exc, resOf_exc, bind_exc, ofR_exc, sTryAs_ap, sTry_ap, tryTo_nx, tryTo_ret, tryO_nx, tryO_ret, still_ret, still_nx, unE_ret, unE_nx, dIsE_zero, dIsE_succ, pMod_int, pDiv_int, zipOf_tI, enumOf_tI, lI_of, pLen_lI, enumOf_lI, itemsOf_lI, sizedL_one, sizedL_two, pListOf_lI, pListOf_tI, dStep_ap, ixpair_ok, six_ok, pair_ok, dVar_zero, dVar_succ, dOwn_zero, dOwn_succ, dC_ap, dOp_ap, dUn_ap, dL_ap, dT_ap, dAnd_ap, dOr_ap, dNot_ap, tAndD_ap, tOrD_ap, tNotD_ap, dChain_ap, aNil_ap, aCons_ap, dTupl_ap, dList_ap, dCall_ap, oNone_ap, oSome_ap, dSl_ap, iUn_ap, iOp_ap, dComp_ap, cYes_ap, partOf_int, truthOf_bool, sSeq_ap, andThen_nx, andThen_ret, sNil_ap, sPass_ap, sRet_ap, sExpr_ap, sSet_ap, sSetOwn_ap, sIf_ap, sFor_ap, sPair_ap, sPar_ap, sApp_ap, sStore_ap, sPop_ap, sFrz_ap, frz_zero, frz_succ, ownAt_zero, ownAt_succ, ownTo_some, NxTo_nx, NxIf_nx, ofR_ok, Res.bind_ok, Res.mute_ok, set_zero, set_succ, wipe_nil, wipe_cons, bN_ap, bP_ap, resOf_ret, tI_nil, tI_one, pLen_tI, pSl_tI, itemsOf_tI, pLen_scr, pEq_tI, pNe_tI, pEq_lI, pNe_lI, pEq_int, pNe_int, pEq_bool, pNe_bool, pAdd_int, pSub_int, pNeg_int, pLt_int, pLe_int, pGt_int, pGe_int, pMax_int, pMin_int, pInt_int, pInt_bool, pIs_bool, pIsNot_bool, pTuple_lI, pTuple_tI, pSum_lI, sized_nil, sizedL_nil, sized_one, if_true, if_false, Bool.false_eq_true, decide_true, decide_false, Bool.not_true, Bool.not_false, reduceIte, eq_self]
      show _ = Res.ok (PyData.bool (decide (ds.length ≤ 30) && ds.all (partB q)))
      rw [decide_eq_false (by omega), Bool.false_and]
    · rw [decide_eq_false c]
      simp -implicitDefEqProofs (disch := omega) only [sRaise_ap, andThen_exc, resOf_exc, bind_exc, ofR_exc, sTryAs_ap, sTry_ap, tryTo_nx, tryTo_ret, tryO_nx, tryO_ret, still_ret, still_nx, unE_ret, unE_nx, dIsE_zero, dIsE_succ, pMod_int, pDiv_int, zipOf_tI, enumOf_tI, lI_of, pLen_lI, enumOf_lI, itemsOf_lI, sizedL_one, sizedL_two, pListOf_lI, pListOf_tI, dStep_ap, ixpair_ok, six_ok, pair_ok, dVar_zero, dVar_succ, dOwn_zero, dOwn_succ, dC_ap, dOp_ap, dUn_ap, dL_ap, dT_ap, dAnd_ap, dOr_ap, dNot_ap, tAndD_ap, tOrD_ap, tNotD_ap, dChain_ap, aNil_ap, aCons_ap, dTupl_ap, dList_ap, dCall_ap, oNone_ap, oSome_ap, dSl_ap, iUn_ap, iOp_ap, dComp_ap, cYes_ap, partOf_int, truthOf_bool, sSeq_ap, andThen_nx, andThen_ret, sNil_ap, sPass_ap, sRet_ap, sExpr_ap, sSet_ap, sSetOwn_ap, sIf_ap, sFor_ap, sPair_ap, sPar_ap, sApp_ap, sStore_ap, sPop_ap, sFrz_ap, frz_zero, frz_succ, ownAt_zero, ownAt_succ, ownTo_some, NxTo_nx, NxIf_nx, ofR_ok, Res.bind_ok, Res.mute_ok, set_zero, set_succ, wipe_nil, wipe_cons, bN_ap, bP_ap, resOf_ret, tI_nil, tI_one, pLen_tI, pSl_tI, itemsOf_tI, pLen_scr, pEq_tI, pNe_tI, pEq_lI, pNe_lI, pEq_int, pNe_int, pEq_bool, pNe_bool, pAdd_int, pSub_int, pNeg_int, pLt_int, pLe_int, pGt_int, pGe_int, pMax_int, pMin_int, pInt_int, pInt_bool, pIs_bool, pIsNot_bool, pTuple_lI, pTuple_tI, pSum_lI, sized_nil, sizedL_nil, sized_one, if_true, if_false, Bool.false_eq_true, decide_true, decide_false, Bool.not_true, Bool.not_false, reduceIte, eq_self, itemsOf_tup]
      rw [comp_in (by omega) (comp_filterP (bd := bN 2) ds (fun d => !partB q d) fun d _ => ⟨_, rfl, by simp -implicitDefEqProofs (disch := omega) only [sRaise_ap, andThen_exc, resOf_exc, bind_exc, ofR_exc, sTryAs_ap, sTry_ap, tryTo_nx, tryTo_ret, tryO_nx, tryO_ret, still_ret, still_nx, unE_ret, unE_nx, dIsE_zero, dIsE_succ, pMod_int, pDiv_int, zipOf_tI, enumOf_tI, lI_of, pLen_lI, enumOf_lI, itemsOf_lI, sizedL_one, sizedL_two, pListOf_lI, pListOf_tI, dStep_ap, ixpair_ok, six_ok, pair_ok, dVar_zero, dVar_succ, dOwn_zero, dOwn_succ, dC_ap, dOp_ap, dUn_ap, dL_ap, dT_ap, dAnd_ap, dOr_ap, dNot_ap, tAndD_ap, tOrD_ap, tNotD_ap, dChain_ap, aNil_ap, aCons_ap, dTupl_ap, dList_ap, dCall_ap, oNone_ap, oSome_ap, dSl_ap, iUn_ap, iOp_ap, dComp_ap, cYes_ap, partOf_int, truthOf_bool, sSeq_ap, andThen_nx, andThen_ret, sNil_ap, sPass_ap, sRet_ap, sExpr_ap, sSet_ap, sSetOwn_ap, sIf_ap, sFor_ap, sPair_ap, sPar_ap, sApp_ap, sStore_ap, sPop_ap, sFrz_ap, frz_zero, frz_succ, ownAt_zero, ownAt_succ, ownTo_some, NxTo_nx, NxIf_nx, ofR_ok, Res.bind_ok, Res.mute_ok, set_zero, set_succ, wipe_nil, wipe_cons, bN_ap, bP_ap, resOf_ret, tI_nil, tI_one, pLen_tI, pSl_tI, itemsOf_tI, pLen_scr, pEq_tI, pNe_tI, pEq_lI, pNe_lI, pEq_int, pNe_int, pEq_bool, pNe_bool, pAdd_int, pSub_int, pNeg_int, pLt_int, pLe_int, pGt_int, pGe_int, pMax_int, pMin_int, pInt_int, pInt_bool, pIs_bool, pIsNot_bool, pTuple_lI, pTuple_tI, pSum_lI, sized_nil, sizedL_nil, sized_one, if_true, if_false, Bool.false_eq_true, decide_true, decide_false, Bool.not_true, Bool.not_false, reduceIte, eq_self, number_any], fun _ => by simp -implicitDefEqProofs (disch := omega) only [sRaise_ap, andThen_exc, resOf_exc, bind_exc, ofR_exc, sTryAs_ap, sTry_ap, tryTo_nx, tryTo_ret, tryO_nx, tryO_ret, still_ret, still_nx, unE_ret, unE_nx, dIsE_zero, dIsE_succ, pMod_int, pDiv_int, zipOf_tI, enumOf_tI, lI_of, pLen_lI, enumOf_lI, itemsOf_lI, sizedL_one, sizedL_two, pListOf_lI, pListOf_tI, dStep_ap, ixpair_ok, six_ok, pair_ok, dVar_zero, dVar_succ, dOwn_zero, dOwn_succ, dC_ap, dOp_ap, dUn_ap, dL_ap, dT_ap, dAnd_ap, dOr_ap, dNot_ap, tAndD_ap, tOrD_ap, tNotD_ap, dChain_ap, aNil_ap, aCons_ap, dTupl_ap, dList_ap, dCall_ap, oNone_ap, oSome_ap, dSl_ap, iUn_ap, iOp_ap, dComp_ap, cYes_ap, partOf_int, truthOf_bool, sSeq_ap, andThen_nx, andThen_ret, sNil_ap, sPass_ap, sRet_ap, sExpr_ap, sSet_ap, sSetOwn_ap, sIf_ap, sFor_ap, sPair_ap, sPar_ap, sApp_ap, sStore_ap, sPop_ap, sFrz_ap, frz_zero, frz_succ, ownAt_zero, ownAt_succ, ownTo_some, NxTo_nx, NxIf_nx, ofR_ok, Res.bind_ok, Res.mute_ok, set_zero, set_succ, wipe_nil, wipe_cons, bN_ap, bP_ap, resOf_ret, tI_nil, tI_one, pLen_tI, pSl_tI, itemsOf_tI, pLen_scr, pEq_tI, pNe_tI, pEq_lI, pNe_lI, pEq_int, pNe_int, pEq_bool, pNe_bool, pAdd_int, pSub_int, pNeg_int, pLt_int, pLe_int, pGt_int, pGe_int, pMax_int, pMin_int, pInt_int, pInt_bool, pIs_bool, pIsNot_bool, pTuple_lI, pTuple_tI, pSum_lI, sized_nil, sizedL_nil, sized_one, if_true, if_false, Bool.false_eq_true, decide_true, decide_false, Bool.not_true, Bool.not_false, reduceIte, eq_self]⟩)]
      simp -implicitDefEqProofs (disch := omega) only [sRaise_ap, andThen_exc, resOf_exc, bind_exc, ofR_exc, sTryAs_ap, sTry_ap, tryTo_nx, tryTo_ret, tryO_nx, tryO_ret, still_ret, still_nx, unE_ret, unE_nx, dIsE_zero, dIsE_succ, pMod_int, pDiv_int, zipOf_tI, enumOf_tI, lI_of, pLen_lI, enumOf_lI, itemsOf_lI, sizedL_one, sizedL_two, pListOf_lI, pListOf_tI, dStep_ap, ixpair_ok, six_ok, pair_ok, dVar_zero, dVar_succ, dOwn_zero, dOwn_succ, dC_ap, dOp_ap, dUn_ap, dL_ap, dT_ap, dAnd_ap, dOr_ap, dNot_ap, tAndD_ap, tOrD_ap, tNotD_ap, dChain_ap, aNil_ap, aCons_ap, dTupl_ap, dList_ap, dCall_ap, oNone_ap, oSome_ap, dSl_ap, iUn_ap, iOp_ap, dComp_ap, cYes_ap, partOf_int, truthOf_bool, sSeq_ap, andThen_nx, andThen_ret, sNil_ap, sPass_ap, sRet_ap, sExpr_ap, sSet_ap, sSetOwn_ap, sIf_ap, sFor_ap, sPair_ap, sPar_ap, sApp_ap, sStore_ap, sPop_ap, sFrz_ap, frz_zero, frz_succ, ownAt_zero, ownAt_succ, ownTo_some, NxTo_nx, NxIf_nx, ofR_ok, Res.bind_ok, Res.mute_ok, set_zero, set_succ, wipe_nil, wipe_cons, bN_ap, bP_ap, resOf_ret, tI_nil, tI_one, pLen_tI, pSl_tI, itemsOf_tI, pLen_scr, pEq_tI, pNe_tI, pEq_lI, pNe_lI, pEq_int, pNe_int, pEq_bool, pNe_bool, pAdd_int, pSub_int, pNeg_int, pLt_int, pLe_int, pGt_int, pGe_int, pMax_int, pMin_int, pInt_int, pInt_bool, pIs_bool, pIsNot_bool, pTuple_lI, pTuple_tI, pSum_lI, sized_nil, sizedL_nil, sized_one, if_true, if_false, Bool.false_eq_true, decide_true, decide_false, Bool.not_true, Bool.not_false, reduceIte, eq_self]
      rw [pEq_nil (n := 5) (fun d hd => hn d (List.mem_filter.mp hd).1) (by omega)]
      simp -implicitDefEqProofs (disch := omega) only [sRaise_ap, andThen_exc, resOf_exc, bind_exc, ofR_exc, sTryAs_ap, sTry_ap, tryTo_nx, tryTo_ret, tryO_nx, tryO_ret, still_ret, still_nx, unE_ret, unE_nx, dIsE_zero, dIsE_succ, pMod_int, pDiv_int, zipOf_tI, enumOf_tI, lI_of, pLen_lI, enumOf_lI, itemsOf_lI, sizedL_one, sizedL_two, pListOf_lI, pListOf_tI, dStep_ap, ixpair_ok, six_ok, pair_ok, dVar_zero, dVar_succ, dOwn_zero, dOwn_succ, dC_ap, dOp_ap, dUn_ap, dL_ap, dT_ap, dAnd_ap, dOr_ap, dNot_ap, tAndD_ap, tOrD_ap, tNotD_ap, dChain_ap, aNil_ap, aCons_ap, dTupl_ap, dList_ap, dCall_ap, oNone_ap, oSome_ap, dSl_ap, iUn_ap, iOp_ap, dComp_ap, cYes_ap, partOf_int, truthOf_bool, sSeq_ap, andThen_nx, andThen_ret, sNil_ap, sPass_ap, sRet_ap, sExpr_ap, sSet_ap, sSetOwn_ap, sIf_ap, sFor_ap, sPair_ap, sPar_ap, sApp_ap, sStore_ap, sPop_ap, sFrz_ap, frz_zero, frz_succ, ownAt_zero, ownAt_succ, ownTo_some, NxTo_nx, NxIf_nx, ofR_ok, Res.bind_ok, Res.mute_ok, set_zero, set_succ, wipe_nil, wipe_cons, bN_ap, bP_ap, resOf_ret, tI_nil, tI_one, pLen_tI, pSl_tI, itemsOf_tI, pLen_scr, pEq_tI, pNe_tI, pEq_lI, pNe_lI, pEq_int, pNe_int, pEq_bool, pNe_bool, pAdd_int, pSub_int, pNeg_int, pLt_int, pLe_int, pGt_int, pGe_int, pMax_int, pMin_int, pInt_int, pInt_bool, pIs_bool, pIsNot_bool, pTuple_lI, pTuple_tI, pSum_lI, sized_nil, sizedL_nil, sized_one, if_true, if_false, Bool.false_eq_true, decide_true, decide_false, Bool.not_true, Bool.not_false, reduceIte, eq_self]
      show _ = Res.ok (PyData.bool (decide (ds.length ≤ 30) && ds.all (partB q)))
      rw [decide_eq_true (by omega), Bool.true_and]
      congr 2
      rw [Bool.eq_iff_iff, List.isEmpty_iff, List.filter_eq_nil_iff, List.all_eq_true]
      simp
  | _ => exact no rfl rfl
theorem prow_any {q : Int} {d : P} (h : Thing d) : d_p_is_row_c208 [d, .int q] = .ok (.bool (rowB q d)) := by
  show resOf (g_p_is_row_c208 [.val d, .val (.int q), .un]) = _
  have no : isTuple d = false → rowB q d = false → resOf (g_p_is_row_c208 [.val d, .val (.int q), .un]) = .ok (.bool (rowB q d)) := fun h1 h2 => by
    unfold g_p_is_row_c208
    have e1 : pIsB isTuple d = .ok (.bool false) := by
      show Res.ok (PyData.bool (isTuple d)) = _
      rw [h1]
    simp -implicitDefEqProofs (disch := omega) only [sRaise_ap, andThen_exc, resOf_exc, bind_exc, ofR_exc, sTryAs_ap, sTry_ap, tryTo_nx, tryTo_ret, tryO_nx, tryO_ret, still_ret, still_nx, unE_ret, unE_nx, dIsE_zero, dIsE_succ, pMod_int, pDiv_int, zipOf_tI, enumOf_tI, lI_of, pLen_lI, enumOf_lI, itemsOf_lI, sizedL_one, sizedL_two, pListOf_lI, pListOf_tI, dStep_ap, ixpair_ok, six_ok, pair_ok, dVar_zero, dVar_succ, dOwn_zero, dOwn_succ, dC_ap, dOp_ap, dUn_ap, dL_ap, dT_ap, dAnd_ap, dOr_ap, dNot_ap, tAndD_ap, tOrD_ap, tNotD_ap, dChain_ap, aNil_ap, aCons_ap, dTupl_ap, dList_ap, dCall_ap, oNone_ap, oSome_ap, dSl_ap, iUn_ap, iOp_ap, dComp_ap, cYes_ap, partOf_int, truthOf_bool, sSeq_ap, andThen_nx, andThen_ret, sNil_ap, sPass_ap, sRet_ap, sExpr_ap, sSet_ap, sSetOwn_ap, sIf_ap, sFor_ap, sPair_ap, sPar_ap, sApp_ap, sStore_ap, sPop_ap, sFrz_ap, frz_zero, frz_succ, ownAt_zero, ownAt_succ, ownTo_some, NxTo_nx, NxIf_nx, ofR_ok, Res.bind_ok, Res.mute_ok, set_zero, set_succ, wipe_nil, wipe_cons, bN_ap, bP_ap, resOf_ret, tI_nil, tI_one, pLen_tI, pSl_tI, itemsOf_tI, pLen_scr, pEq_tI, pNe_tI, pEq_lI, pNe_lI, pEq_int, pNe_int, pEq_bool, pNe_bool, pAdd_int, pSub_int, pNeg_int, pLt_int, pLe_int, pGt_int, pGe_int, pMax_int, pMin_int, pInt_int, pInt_bool, pIs_bool, pIsNot_bool, pTuple_lI, pTuple_tI, pSum_lI, sized_nil, sizedL_nil, sized_one, if_true, if_false, Bool.false_eq_true, decide_true, decide_false, Bool.not_true, Bool.not_false, reduceIte, eq_self, e1, h2]
  cases d with
  | tuple ds =>
    unfold g_p_is_row_c208
    have e1 : pIsB isTuple (.tuple ds) = .ok (.bool true) := rfl
    have hl := h.2 ds rfl
    simp -implicitDefEqProofs (disch := omega) only [sRaise_ap, andThen_exc, resOf_exc, bind_exc, ofR_exc, sTryAs_ap, sTry_ap, tryTo_nx, tryTo_ret, tryO_nx, tryO_ret, still_ret, still_nx, unE_ret, unE_nx, dIsE_zero, dIsE_succ, pMod_int, pDiv_int, zipOf_tI, enumOf_tI, lI_of, pLen_lI, enumOf_lI, itemsOf_lI, sizedL_one, sizedL_two, pListOf_lI, pListOf_tI, dStep_ap, ixpair_ok, six_ok, pair_ok, dVar_zero, dVar_succ, dOwn_zero, dOwn_succ, dC_ap, dOp_ap, dUn_ap, dL_ap, dT_ap, dAnd_ap, dOr_ap, dNot_ap, tAndD_ap, tOrD_ap, tNotD_ap, dChain_ap, aNil_ap, aCons_ap, dTupl_ap, dList_ap, dCall_ap, oNone_ap, oSome_ap, dSl_ap, iUn_ap, iOp_ap, dComp_ap, cYes_ap, partOf_int, truthOf_bool, sSeq_ap, andThen_nx, andThen_ret, sNil_ap, sPass_ap, sRet_ap, sExpr_ap, sSet_ap, sSetOwn_ap, sIf_ap, sFor_ap, sPair_ap, sPar_ap, sApp_ap, sStore_ap, sPop_ap, sFrz_ap, frz_zero, frz_succ, ownAt_zero, ownAt_succ, ownTo_some, NxTo_nx, NxIf_nx, ofR_ok, Res.bind_ok, Res.mute_ok, set_zero, set_succ, wipe_nil, wipe_cons, bN_ap, bP_ap, resOf_ret, tI_nil, tI_one, pLen_tI, pSl_tI, itemsOf_tI, pLen_scr, pEq_tI, pNe_tI, pEq_lI, pNe_lI, pEq_int, pNe_int, pEq_bool, pNe_bool, pAdd_int, pSub_int, pNeg_int, pLt_int, pLe_int, pGt_int, pGe_int, pMax_int, pMin_int, pInt_int, pInt_bool, pIs_bool, pIsNot_bool, pTuple_lI, pTuple_tI, pSum_lI, sized_nil, sizedL_nil, sized_one, if_true, if_false, Bool.false_eq_true, decide_true, decide_false, Bool.not_true, Bool.not_false, reduceIte, eq_self, e1, pLen_tup]
    by_cases c : (30 : Int) < (ds.length : Int)
    · rw [decide_eq_true c]
      simp -implicitDefEqProofs (disch := omega) only [sRaise_ap, andThen_exc, resOf_exc, bind_exc, ofR_exc, sTryAs_ap, sTry_ap, tryTo_nx, tryTo_ret, tryO_nx, tryO_ret, still_ret, still_nx, unE_ret, unE_nx, dIsE_zero, dIsE_succ, pMod_int, pDiv_int, zipOf_tI, enumOf_tI, lI_of, pLen_lI, enumOf_lI, itemsOf_lI, sizedL_one, sizedL_two, pListOf_lI, pListOf_tI, dStep_ap, ixpair_ok, six_ok, pair_ok, dVar_zero, dVar_succ, dOwn_zero, dOwn_succ, dC_ap, dOp_ap, dUn_ap, dL_ap, dT_ap, dAnd_ap, dOr_ap, dNot_ap, tAndD_ap, tOrD_ap, tNotD_ap, dChain_ap, aNil_ap, aCons_ap, dTupl_ap, dList_ap, dCall_ap, oNone_ap, oSome_ap, dSl_ap, iUn_ap, iOp_ap, dComp_ap, cYes_ap, partOf_int, truthOf_bool, sSeq_ap, andThen_nx, andThen_ret, sNil_ap, sPass_ap, sRet_ap, sExpr_ap, sSet_ap, sSetOwn_ap, sIf_ap, sFor_ap, sPair_ap, sPar_ap, sApp_ap, sStore_ap, sPop_ap, sFrz_ap, frz_zero, frz_succ, ownAt_zero, ownAt_succ, ownTo_some, NxTo_nx, NxIf_nx, ofR_ok, Res.bind_ok, Res.mute_ok, set_zero, set_succ, wipe_nil, wipe_cons, bN_ap, bP_ap, resOf_ret, tI_nil, tI_one, pLen_tI, pSl_tI, itemsOf_tI, pLen_scr, pEq_tI, pNe_tI, pEq_lI, pNe_lI, pEq_int, pNe_int, pEq_bool, pNe_bool, pAdd_int, pSub_int, pNeg_int, pLt_int, pLe_int, pGt_int, pGe_int, pMax_int, pMin_int, pInt_int, pInt_bool, pIs_bool, pIsNot_bool, pTuple_lI, pTuple_tI, pSum_lI, sized_nil, sizedL_nil, sized_one, if_true, if_false, Bool.false_eq_true, decide_true, decide_false, Bool.not_true, Bool.not_false, reduceIte, eq_self]
      show _ = Res.ok (PyData.bool (decide (ds.length ≤ 30) && ds.all (partB q)))
      rw [decide_eq_false (by omega), Bool.false_and]
    · rw [decide_eq_false c]
      simp -implicitDefEqProofs (disch := omega) only [sRaise_ap, andThen_exc, resOf_exc, bind_exc, ofR_exc, sTryAs_ap, sTry_ap, tryTo_nx, tryTo_ret, tryO_nx, tryO_ret, still_ret, still_nx, unE_ret, unE_nx, dIsE_zero, dIsE_succ, pMod_int, pDiv_int, zipOf_tI, enumOf_tI, lI_of, pLen_lI, enumOf_lI, itemsOf_lI, sizedL_one, sizedL_two, pListOf_lI, pListOf_tI, dStep_ap, ixpair_ok, six_ok, pair_ok, dVar_zero, dVar_succ, dOwn_zero, dOwn_succ, dC_ap, dOp_ap, dUn_ap, dL_ap, dT_ap, dAnd_ap, dOr_ap, dNot_ap, tAndD_ap, tOrD_ap, tNotD_ap, dChain_ap, aNil_ap, aCons_ap, dTupl_ap, dList_ap, dCall_ap, oNone_ap, oSome_ap, dSl_ap, iUn_ap, iOp_ap, dComp_ap, cYes_ap, partOf_int, truthOf_bool, sSeq_ap, andThen_nx, andThen_ret, sNil_ap, sPass_ap, sRet_ap, sExpr_ap, sSet_ap, sSetOwn_ap, sIf_ap, sFor_ap, sPair_ap, sPar_ap, sApp_ap, sStore_ap, sPop_ap, sFrz_ap, frz_zero, frz_succ, ownAt_zero, ownAt_succ, ownTo_some, NxTo_nx, NxIf_nx, ofR_ok, Res.bind_ok, Res.mute_ok, set_zero, set_succ, wipe_nil, wipe_cons, bN_ap, bP_ap, resOf_ret, tI_nil, tI_one, pLen_tI, pSl_tI, itemsOf_tI, pLen_scr, pEq_tI, pNe_tI, pEq_lI, pNe_lI, pEq_int, pNe_int, pEq_bool, pNe_bool, pAdd_int, pSub_int, pNeg_int, pLt_int, pLe_int, pGt_int, pGe_int, pMax_int, pMin_int, pInt_int, pInt_bool, pIs_bool, pIsNot_bool, pTuple_lI, pTuple_tI, pSum_lI, sized_nil, sizedL_nil, sized_one, if_true, if_false, Bool.false_eq_true, decide_true, decide_false, Bool.not_true, Bool.not_false, reduceIte, eq_self, itemsOf_tup]
      rw [comp_in (by omega) (comp_boolP (bd := bN 2) ds (partB q) fun d _ => ⟨_, rfl, by
        simp -implicitDefEqProofs (disch := omega) only [sRaise_ap, andThen_exc, resOf_exc, bind_exc, ofR_exc, sTryAs_ap, sTry_ap, tryTo_nx, tryTo_ret, tryO_nx, tryO_ret, still_ret, still_nx, unE_ret, unE_nx, dIsE_zero, dIsE_succ, pMod_int, pDiv_int, zipOf_tI, enumOf_tI, lI_of, pLen_lI, enumOf_lI, itemsOf_lI, sizedL_one, sizedL_two, pListOf_lI, pListOf_tI, dStep_ap, ixpair_ok, six_ok, pair_ok, dVar_zero, dVar_succ, dOwn_zero, dOwn_succ, dC_ap, dOp_ap, dUn_ap, dL_ap, dT_ap, dAnd_ap, dOr_ap, dNot_ap, tAndD_ap, tOrD_ap, tNotD_ap, dChain_ap, aNil_ap, aCons_ap, dTupl_ap, dList_ap, dCall_ap, oNone_ap, oSome_ap, dSl_ap, iUn_ap, iOp_ap, dComp_ap, cYes_ap, partOf_int, truthOf_bool, sSeq_ap, andThen_nx, andThen_ret, sNil_ap, sPass_ap, sRet_ap, sExpr_ap, sSet_ap, sSetOwn_ap, sIf_ap, sFor_ap, sPair_ap, sPar_ap, sApp_ap, sStore_ap, sPop_ap, sFrz_ap, frz_zero, frz_succ, ownAt_zero, ownAt_succ, ownTo_some, NxTo_nx, NxIf_nx, ofR_ok, Res.bind_ok, Res.mute_ok, set_zero, set_succ, wipe_nil, wipe_cons, bN_ap, bP_ap, resOf_ret, tI_nil, tI_one, pLen_tI, pSl_tI, itemsOf_tI, pLen_scr, pEq_tI, pNe_tI, pEq_lI, pNe_lI, pEq_int, pNe_int, pEq_bool, pNe_bool, pAdd_int, pSub_int, pNeg_int, pLt_int, pLe_int, pGt_int, pGe_int, pMax_int, pMin_int, pInt_int, pInt_bool, pIs_bool, pIsNot_bool, pTuple_lI, pTuple_tI, pSum_lI, sized_nil, sizedL_nil, sized_one, if_true, if_false, Bool.false_eq_true, decide_true, decide_false, Bool.not_true, Bool.not_false, reduceIte, eq_self, whole_any]
        cases d with
        | int x =>
          simp -implicitDefEqProofs (disch := omega) only [sRaise_ap, andThen_exc, resOf_exc, bind_exc, ofR_exc, sTryAs_ap, sTry_ap, tryTo_nx, tryTo_ret, tryO_nx, tryO_ret, still_ret, still_nx, unE_ret, unE_nx, dIsE_zero, dIsE_succ, pMod_int, pDiv_int, zipOf_tI, enumOf_tI, lI_of, pLen_lI, enumOf_lI, itemsOf_lI, sizedL_one, sizedL_two, pListOf_lI, pListOf_tI, dStep_ap, ixpair_ok, six_ok, pair_ok, dVar_zero, dVar_succ, dOwn_zero, dOwn_succ, dC_ap, dOp_ap, dUn_ap, dL_ap, dT_ap, dAnd_ap, dOr_ap, dNot_ap, tAndD_ap, tOrD_ap, tNotD_ap, dChain_ap, aNil_ap, aCons_ap, dTupl_ap, dList_ap, dCall_ap, oNone_ap, oSome_ap, dSl_ap, iUn_ap, iOp_ap, dComp_ap, cYes_ap, partOf_int, truthOf_bool, sSeq_ap, andThen_nx, andThen_ret, sNil_ap, sPass_ap, sRet_ap, sExpr_ap, sSet_ap, sSetOwn_ap, sIf_ap, sFor_ap, sPair_ap, sPar_ap, sApp_ap, sStore_ap, sPop_ap, sFrz_ap, frz_zero, frz_succ, ownAt_zero, ownAt_succ, ownTo_some, NxTo_nx, NxIf_nx, ofR_ok, Res.bind_ok, Res.mute_ok, set_zero, set_succ, wipe_nil, wipe_cons, bN_ap, bP_ap, resOf_ret, tI_nil, tI_one, pLen_tI, pSl_tI, itemsOf_tI, pLen_scr, pEq_tI, pNe_tI, pEq_lI, pNe_lI, pEq_int, pNe_int, pEq_bool, pNe_bool, pAdd_int, pSub_int, pNeg_int, pLt_int, pLe_int, pGt_int, pGe_int, pMax_int, pMin_int, pInt_int, pInt_bool, pIs_bool, pIsNot_bool, pTuple_lI, pTuple_tI, pSum_lI, sized_nil, sizedL_nil, sized_one, if_true, if_false, Bool.false_eq_true, decide_true, decide_false, Bool.not_true, Bool.not_false, reduceIte, eq_self, show (isInt (.int x) && !isBool (.int x)) = true from rfl]
          show _ = Res.ok (PyData.bool (decide (0 ≤ x ∧ x < q)))
          by_cases hx : 0 ≤ x
          · rw [decide_eq_true hx]
            simp -implicitDefEqProofs (disch := omega) only [sRaise_ap, andThen_exc, resOf_exc, bind_exc, ofR_exc, sTryAs_ap, sTry_ap, tryTo_nx, tryTo_ret, tryO_nx, tryO_ret, still_ret, still_nx, unE_ret, unE_nx, dIsE_zero, dIsE_succ, pMod_int, pDiv_int, zipOf_tI, enumOf_tI, lI_of, pLen_lI, enumOf_lI, itemsOf_lI, sizedL_one, sizedL_two, pListOf_lI, pListOf_tI, dStep_ap, ixpair_ok, six_ok, pair_ok, dVar_zero, dVar_succ, dOwn_zero, dOwn_succ, dC_ap, dOp_ap, dUn_ap, dL_ap, dT_ap, dAnd_ap, dOr_ap, dNot_ap, tAndD_ap, tOrD_ap, tNotD_ap, dChain_ap, aNil_ap, aCons_ap, dTupl_ap, dList_ap, dCall_ap, oNone_ap, oSome_ap, dSl_ap, iUn_ap, iOp_ap, dComp_ap, cYes_ap, partOf_int, truthOf_bool, sSeq_ap, andThen_nx, andThen_ret, sNil_ap, sPass_ap, sRet_ap, sExpr_ap, sSet_ap, sSetOwn_ap, sIf_ap, sFor_ap, sPair_ap, sPar_ap, sApp_ap, sStore_ap, sPop_ap, sFrz_ap, frz_zero, frz_succ, ownAt_zero, ownAt_succ, ownTo_some, NxTo_nx, NxIf_nx, ofR_ok, Res.bind_ok, Res.mute_ok, set_zero, set_succ, wipe_nil, wipe_cons, bN_ap, bP_ap, resOf_ret, tI_nil, tI_one, pLen_tI, pSl_tI, itemsOf_tI, pLen_scr, pEq_tI, pNe_tI, pEq_lI, pNe_lI, pEq_int, pNe_int, pEq_bool, pNe_bool, pAdd_int, pSub_int, pNeg_int, pLt_int, pLe_int, pGt_int, pGe_int, pMax_int, pMin_int, pInt_int, pInt_bool, pIs_bool, pIsNot_bool, pTuple_lI, pTuple_tI, pSum_lI, sized_nil, sizedL_nil, sized_one, if_true, if_false, Bool.false_eq_true, decide_true, decide_false, Bool.not_true, Bool.not_false, reduceIte, eq_self]
            congr 2
            rw [decide_eq_decide]
            omega
          · rw [decide_eq_false hx]
            simp -implicitDefEqProofs (disch := omega) only [sRaise_ap, andThen_exc, resOf_exc, bind_exc, ofR_exc, sTryAs_ap, sTry_ap, tryTo_nx, tryTo_ret, tryO_nx, tryO_ret, still_ret, still_nx, unE_ret, unE_nx, dIsE_zero, dIsE_succ, pMod_int, pDiv_int, zipOf_tI, enumOf_tI, lI_of, pLen_lI, enumOf_lI, itemsOf_lI, sizedL_one, sizedL_two, pListOf_lI, pListOf_tI, dStep_ap, ixpair_ok, six_ok, pair_ok, dVar_zero, dVar_succ, dOwn_zero, dOwn_succ, dC_ap, dOp_ap, dUn_ap, dL_ap, dT_ap, dAnd_ap, dOr_ap, dNot_ap, tAndD_ap, tOrD_ap, tNotD_ap, dChain_ap, aNil_ap, aCons_ap, dTupl_ap, dList_ap, dCall_ap, oNone_ap, oSome_ap, dSl_ap, iUn_ap, iOp_ap, dComp_ap, cYes_ap, partOf_int, truthOf_bool, sSeq_ap, andThen_nx, andThen_ret, sNil_ap, sPass_ap, sRet_ap, sExpr_ap, sSet_ap, sSetOwn_ap, sIf_ap, sFor_ap, sPair_ap, sPar_ap, sApp_ap, sStore_ap, sPop_ap, sFrz_ap, frz_zero, frz_succ, ownAt_zero, ownAt_succ, ownTo_some, NxTo_nx, NxIf_nx, ofR_ok, Res.bind_ok, Res.mute_ok, set_zero, set_succ, wipe_nil, wipe_cons, bN_ap, bP_ap, resOf_ret, tI_nil, tI_one, pLen_tI, pSl_tI, itemsOf_tI, pLen_scr, pEq_tI, pNe_tI, pEq_lI, pNe_lI, pEq_int, pNe_int, pEq_bool, pNe_bool, pAdd_int, pSub_int, pNeg_int, pLt_int, pLe_int, pGt_int, pGe_int, pMax_int, pMin_int, pInt_int, pInt_bool, pIs_bool, pIsNot_bool, pTuple_lI, pTuple_tI, pSum_lI, sized_nil, sizedL_nil, sized_one, if_true, if_false, Bool.false_eq_true, decide_true, decide_false, Bool.not_true, Bool.not_false, reduceIte, eq_self]
            rw [decide_eq_false (fun z => hx z.1)]
        | bool x =>
          simp -implicitDefEqProofs (disch := omega) only [sRaise_ap, andThen_exc, resOf_exc, bind_exc, ofR_exc, sTryAs_ap, sTry_ap, tryTo_nx, tryTo_ret, tryO_nx, tryO_ret, still_ret, still_nx, unE_ret, unE_nx, dIsE_zero, dIsE_succ, pMod_int, pDiv_int, zipOf_tI, enumOf_tI, lI_of, pLen_lI, enumOf_lI, itemsOf_lI, sizedL_one, sizedL_two, pListOf_lI, pListOf_tI, dStep_ap, ixpair_ok, six_ok, pair_ok, dVar_zero, dVar_succ, dOwn_zero, dOwn_succ, dC_ap, dOp_ap, dUn_ap, dL_ap, dT_ap, dAnd_ap, dOr_ap, dNot_ap, tAndD_ap, tOrD_ap, tNotD_ap, dChain_ap, aNil_ap, aCons_ap, dTupl_ap, dList_ap, dCall_ap, oNone_ap, oSome_ap, dSl_ap, iUn_ap, iOp_ap, dComp_ap, cYes_ap, partOf_int, truthOf_bool, sSeq_ap, andThen_nx, andThen_ret, sNil_ap, sPass_ap, sRet_ap, sExpr_ap, sSet_ap, sSetOwn_ap, sIf_ap, sFor_ap, sPair_ap, sPar_ap, sApp_ap, sStore_ap, sPop_ap, sFrz_ap, frz_zero, frz_succ, ownAt_zero, ownAt_succ, ownTo_some, NxTo_nx, NxIf_nx, ofR_ok, Res.bind_ok, Res.mute_ok, set_zero, set_succ, wipe_nil, wipe_cons, bN_ap, bP_ap, resOf_ret, tI_nil, tI_one, pLen_tI, pSl_tI, itemsOf_tI, pLen_scr, pEq_tI, pNe_tI, pEq_lI, pNe_lI, pEq_int, pNe_int, pEq_bool, pNe_bool, pAdd_int, pSub_int, pNeg_int, pLt_int, pLe_int, pGt_int, pGe_int, pMax_int, pMin_int, pInt_int, pInt_bool, pIs_bool, pIsNot_bool, pTuple_lI, pTuple_tI, pSum_lI, sized_nil, sizedL_nil, sized_one, if_true, if_false, Bool.false_eq_true, decide_true, decide_false, Bool.not_true, Bool.not_false, reduceIte, eq_self, show (isInt (.bool x) && !isBool (.bool x)) = false from rfl]
          rfl
        | none =>
          simp -implicitDefEqProofs (disch := omega) only [sRaise_ap, andThen_exc, resOf_exc, bind_exc, ofR_exc, sTryAs_ap, sTry_ap, tryTo_nx, tryTo_ret, tryO_nx, tryO_ret, still_ret, still_nx, unE_ret, unE_nx, dIsE_zero, dIsE_succ, pMod_int, pDiv_int, zipOf_tI, enumOf_tI, lI_of, pLen_lI, enumOf_lI, itemsOf_lI, sizedL_one, sizedL_two, pListOf_lI, pListOf_tI, dStep_ap, ixpair_ok, six_ok, pair_ok, dVar_zero, dVar_succ, dOwn_zero, dOwn_succ, dC_ap, dOp_ap, dUn_ap, dL_ap, dT_ap, dAnd_ap, dOr_ap, dNot_ap, tAndD_ap, tOrD_ap, tNotD_ap, dChain_ap, aNil_ap, aCons_ap, dTupl_ap, dList_ap, dCall_ap, oNone_ap, oSome_ap, dSl_ap, iUn_ap, iOp_ap, dComp_ap, cYes_ap, partOf_int, truthOf_bool, sSeq_ap, andThen_nx, andThen_ret, sNil_ap, sPass_ap, sRet_ap, sExpr_ap, sSet_ap, sSetOwn_ap, sIf_ap, sFor_ap, sPair_ap, sPar_ap, sApp_ap, sStore_ap, sPop_ap, sFrz_ap, frz_zero, frz_succ, ownAt_zero, ownAt_succ, ownTo_some, NxTo_nx, NxIf_nx, ofR_ok, Res.bind_ok, Res.mute_ok, set_zero, set_succ, wipe_nil, wipe_cons, bN_ap, bP_ap, resOf_ret, tI_nil, tI_one, pLen_tI, pSl_tI, itemsOf_tI, pLen_scr, pEq_tI, pNe_tI, pEq_lI, pNe_lI, pEq_int, pNe_int, pEq_bool, pNe_bool, pAdd_int, pSub_int, pNeg_int, pLt_int, pLe_int, pGt_int, pGe_int, pMax_int, pMin_int, pInt_int, pInt_bool, pIs_bool, pIsNot_bool, pTuple_lI, pTuple_tI, pSum_lI, sized_nil, sizedL_nil, sized_one, if_true, if_false, Bool.false_eq_true, decide_true, decide_false, Bool.not_true, Bool.not_false, reduceIte, eq_self, show (isInt .none && !isBool .none) = false from rfl]
          rfl
        | str x =>
          simp -implicitDefEqProofs (disch := omega) only [sRaise_ap, andThen_exc, resOf_exc, bind_exc, ofR_exc, sTryAs_ap, sTry_ap, tryTo_nx, tryTo_ret, tryO_nx, tryO_ret, still_ret, still_nx, unE_ret, unE_nx, dIsE_zero, dIsE_succ, pMod_int, pDiv_int, zipOf_tI, enumOf_tI, lI_of, pLen_lI, enumOf_lI, itemsOf_lI, sizedL_one, sizedL_two, pListOf_lI, pListOf_tI, dStep_ap, ixpair_ok, six_ok, pair_ok, dVar_zero, dVar_succ, dOwn_zero, dOwn_succ, dC_ap, dOp_ap, dUn_ap, dL_ap, dT_ap, dAnd_ap, dOr_ap, dNot_ap, tAndD_ap, tOrD_ap, tNotD_ap, dChain_ap, aNil_ap, aCons_ap, dTupl_ap, dList_ap, dCall_ap, oNone_ap, oSome_ap, dSl_ap, iUn_ap, iOp_ap, dComp_ap, cYes_ap, partOf_int, truthOf_bool, sSeq_ap, andThen_nx, andThen_ret, sNil_ap, sPass_ap, sRet_ap, sExpr_ap, sSet_ap, sSetOwn_ap, sIf_ap, sFor_ap, sPair_ap, sPar_ap, sApp_ap, sStore_ap, sPop_ap, sFrz_ap, frz_zero, frz_succ, ownAt_zero, ownAt_succ, ownTo_some, NxTo_nx, NxIf_nx, ofR_ok, Res.bind_ok, Res.mute_ok, set_zero, set_succ, wipe_nil, wipe_cons, bN_ap, bP_ap, resOf_ret, tI_nil, tI_one, pLen_tI, pSl_tI, itemsOf_tI, pLen_scr, pEq_tI, pNe_tI, pEq_lI, pNe_lI, pEq_int, pNe_int, pEq_bool, pNe_bool, pAdd_int, pSub_int, pNeg_int, pLt_int, pLe_int, pGt_int, pGe_int, pMax_int, pMin_int, pInt_int, pInt_bool, pIs_bool, pIsNot_bool, pTuple_lI, pTuple_tI, pSum_lI, sized_nil, sizedL_nil, sized_one, if_true, if_false, Bool.false_eq_true, decide_true, decide_false, Bool.not_true, Bool.not_false, reduceIte, eq_self, show (isInt (.str x) && !isBool (.str x)) = false from rfl]
          rfl
        | list x =>
          simp -implicitDefEqProofs (disch := omega) only [sRaise_ap, andThen_exc, resOf_exc, bind_exc, ofR_exc, sTryAs_ap, sTry_ap, tryTo_nx, tryTo_ret, tryO_nx, tryO_ret, still_ret, still_nx, unE_ret, unE_nx, dIsE_zero, dIsE_succ, pMod_int, pDiv_int, zipOf_tI, enumOf_tI, lI_of, pLen_lI, enumOf_lI, itemsOf_lI, sizedL_one, sizedL_two, pListOf_lI, pListOf_tI, dStep_ap, ixpair_ok, six_ok, pair_ok, dVar_zero, dVar_succ, dOwn_zero, dOwn_succ, dC_ap, dOp_ap, dUn_ap, dL_ap, dT_ap, dAnd_ap, dOr_ap, dNot_ap, tAndD_ap, tOrD_ap, tNotD_ap, dChain_ap, aNil_ap, aCons_ap, dTupl_ap, dList_ap, dCall_ap, oNone_ap, oSome_ap, dSl_ap, iUn_ap, iOp_ap, dComp_ap, cYes_ap, partOf_int, truthOf_bool, sSeq_ap, andThen_nx, andThen_ret, sNil_ap, sPass_ap, sRet_ap, sExpr_ap, sSet_ap, sSetOwn_ap, sIf_ap, sFor_ap, sPair_ap, sPar_ap, sApp_ap, sStore_ap, sPop_ap, sFrz_ap, frz_zero, frz_succ, ownAt_zero, ownAt_succ, ownTo_some, NxTo_nx, NxIf_nx, ofR_ok, Res.bind_ok, Res.mute_ok, set_zero, set_succ, wipe_nil, wipe_cons, bN_ap, bP_ap, resOf_ret, tI_nil, tI_one, pLen_tI, pSl_tI, itemsOf_tI, pLen_scr, pEq_tI, pNe_tI, pEq_lI, pNe_lI, pEq_int, pNe_int, pEq_bool, pNe_bool, pAdd_int, pSub_int, pNeg_int, pLt_int, pLe_int, pGt_int, pGe_int, pMax_int, pMin_int, pInt_int, pInt_bool, pIs_bool, pIsNot_bool, pTuple_lI, pTuple_tI, pSum_lI, sized_nil, sizedL_nil, sized_one, if_true, if_false, Bool.false_eq_true, decide_true, decide_false, Bool.not_true, Bool.not_false, reduceIte, eq_self, show (isInt (.list x) && !isBool (.list x)) = false from rfl]
          rfl
        | tuple x =>
          simp -implicitDefEqProofs (disch := omega) only [sRaise_ap, andThen_exc, resOf_exc, bind_exc, ofR_exc, sTryAs_ap, sTry_ap, tryTo_nx, tryTo_ret, tryO_nx, tryO_ret, still_ret, still_nx, unE_ret, unE_nx, dIsE_zero, dIsE_succ, pMod_int, pDiv_int, zipOf_tI, enumOf_tI, lI_of, pLen_lI, enumOf_lI, itemsOf_lI, sizedL_one, sizedL_two, pListOf_lI, pListOf_tI, dStep_ap, ixpair_ok, six_ok, pair_ok, dVar_zero, dVar_succ, dOwn_zero, dOwn_succ, dC_ap, dOp_ap, dUn_ap, dL_ap, dT_ap, dAnd_ap, dOr_ap, dNot_ap, tAndD_ap, tOrD_ap, tNotD_ap, dChain_ap, aNil_ap, aCons_ap, dTupl_ap, dList_ap, dCall_ap, oNone_ap, oSome_ap, dSl_ap, iUn_ap, iOp_ap, dComp_ap, cYes_ap, partOf_int, truthOf_bool, sSeq_ap, andThen_nx, andThen_ret, sNil_ap, sPass_ap, sRet_ap, sExpr_ap, sSet_ap, sSetOwn_ap, sIf_ap, sFor_ap, sPair_ap, sPar_ap, sApp_ap, sStore_ap, sPop_ap, sFrz_ap, frz_zero, frz_succ, ownAt_zero, ownAt_succ, ownTo_some, NxTo_nx, NxIf_nx, ofR_ok, Res.bind_ok, Res.mute_ok, set_zero, set_succ, wipe_nil, wipe_cons, bN_ap, bP_ap, resOf_ret, tI_nil, tI_one, pLen_tI, pSl_tI, itemsOf_tI, pLen_scr, pEq_tI, pNe_tI, pEq_lI, pNe_lI, pEq_int, pNe_int, pEq_bool, pNe_bool, pAdd_int, pSub_int, pNeg_int, pLt_int, pLe_int, pGt_int, pGe_int, pMax_int, pMin_int, pInt_int, pInt_bool, pIs_bool, pIsNot_bool, pTuple_lI, pTuple_tI, pSum_lI, sized_nil, sizedL_nil, sized_one, if_true, if_false, Bool.false_eq_true, decide_true, decide_false, Bool.not_true, Bool.not_false, reduceIte, eq_self, show (isInt (.tuple x) && !isBool (.tuple x)) = false from rfl]
          rfl
        | dict x =>
          simp -implicitDefEqProofs (disch := omega) only [sRaise_ap, andThen_exc, resOf_exc, bind_exc, ofR_exc, sTryAs_ap, sTry_ap, tryTo_nx, tryTo_ret, tryO_nx, tryO_ret, still_ret, still_nx, unE_ret, unE_nx, dIsE_zero, dIsE_succ, pMod_int, pDiv_int, zipOf_tI, enumOf_tI, lI_of, pLen_lI, enumOf_lI, itemsOf_lI, sizedL_one, sizedL_two, pListOf_lI, pListOf_tI, dStep_ap, ixpair_ok, six_ok, pair_ok, dVar_zero, dVar_succ, dOwn_zero, dOwn_succ, dC_ap, dOp_ap, dUn_ap, dL_ap, dT_ap, dAnd_ap, dOr_ap, dNot_ap, tAndD_ap, tOrD_ap, tNotD_ap, dChain_ap, aNil_ap, aCons_ap, dTupl_ap, dList_ap, dCall_ap, oNone_ap, oSome_ap, dSl_ap, iUn_ap, iOp_ap, dComp_ap, cYes_ap, partOf_int, truthOf_bool, sSeq_ap, andThen_nx, andThen_ret, sNil_ap, sPass_ap, sRet_ap, sExpr_ap, sSet_ap, sSetOwn_ap, sIf_ap, sFor_ap, sPair_ap, sPar_ap, sApp_ap, sStore_ap, sPop_ap, sFrz_ap, frz_zero, frz_succ, ownAt_zero, ownAt_succ, ownTo_some, NxTo_nx, NxIf_nx, ofR_ok, Res.bind_ok, Res.mute_ok, set_zero, set_succ, wipe_nil, wipe_cons, bN_ap, bP_ap, resOf_ret, tI_nil, tI_one, pLen_tI, pSl_tI, itemsOf_tI, pLen_scr, pEq_tI, pNe_tI, pEq_lI, pNe_lI, pEq_int, pNe_int, pEq_bool, pNe_bool, pAdd_int, pSub_int, pNeg_int, pLt_int, pLe_int, pGt_int, pGe_int, pMax_int, pMin_int, pInt_int, pInt_bool, pIs_bool, pIsNot_bool, pTuple_lI, pTuple_tI, pSum_lI, sized_nil, sizedL_nil, sized_one, if_true, if_false, Bool.false_eq_true, decide_true, decide_false, Bool.not_true, Bool.not_false, reduceIte, eq_self, show (isInt (.dict x) && !isBool (.dict x)) = false from rfl]
          rfl⟩)]
      simp -implicitDefEqProofs (disch := omega) only [sRaise_ap, andThen_exc, resOf_exc, bind_exc, ofR_exc, sTryAs_ap, sTry_ap, tryTo_nx, tryTo_ret, tryO_nx, tryO_ret, still_ret, still_nx, unE_ret, unE_nx, dIsE_zero, dIsE_succ, pMod_int, pDiv_int, zipOf_tI, enumOf_tI, lI_of, pLen_lI, enumOf_lI, itemsOf_lI, sizedL_one, sizedL_two, pListOf_lI, pListOf_tI, dStep_ap, ixpair_ok, six_ok, pair_ok, dVar_zero, dVar_succ, dOwn_zero, dOwn_succ, dC_ap, dOp_ap, dUn_ap, dL_ap, dT_ap, dAnd_ap, dOr_ap, dNot_ap, tAndD_ap, tOrD_ap, tNotD_ap, dChain_ap, aNil_ap, aCons_ap, dTupl_ap, dList_ap, dCall_ap, oNone_ap, oSome_ap, dSl_ap, iUn_ap, iOp_ap, dComp_ap, cYes_ap, partOf_int, truthOf_bool, sSeq_ap, andThen_nx, andThen_ret, sNil_ap, sPass_ap, sRet_ap, sExpr_ap, sSet_ap, sSetOwn_ap, sIf_ap, sFor_ap, sPair_ap, sPar_ap, sApp_ap, sStore_ap, sPop_ap, sFrz_ap, frz_zero, frz_succ, ownAt_zero, ownAt_succ, ownTo_some, NxTo_nx, NxIf_nx, ofR_ok, Res.bind_ok, Res.mute_ok, set_zero, set_succ, wipe_nil, wipe_cons, bN_ap, bP_ap, resOf_ret, tI_nil, tI_one, pLen_tI, pSl_tI, itemsOf_tI, pLen_scr, pEq_tI, pNe_tI, pEq_lI, pNe_lI, pEq_int, pNe_int, pEq_bool, pNe_bool, pAdd_int, pSub_int, pNeg_int, pLt_int, pLe_int, pGt_int, pGe_int, pMax_int, pMin_int, pInt_int, pInt_bool, pIs_bool, pIsNot_bool, pTuple_lI, pTuple_tI, pSum_lI, sized_nil, sizedL_nil, sized_one, if_true, if_false, Bool.false_eq_true, decide_true, decide_false, Bool.not_true, Bool.not_false, reduceIte, eq_self]
      rw [pAll_bs]
      simp -implicitDefEqProofs (disch := omega) only [sRaise_ap, andThen_exc, resOf_exc, bind_exc, ofR_exc, sTryAs_ap, sTry_ap, tryTo_nx, tryTo_ret, tryO_nx, tryO_ret, still_ret, still_nx, unE_ret, unE_nx, dIsE_zero, dIsE_succ, pMod_int, pDiv_int, zipOf_tI, enumOf_tI, lI_of, pLen_lI, enumOf_lI, itemsOf_lI, sizedL_one, sizedL_two, pListOf_lI, pListOf_tI, dStep_ap, ixpair_ok, six_ok, pair_ok, dVar_zero, dVar_succ, dOwn_zero, dOwn_succ, dC_ap, dOp_ap, dUn_ap, dL_ap, dT_ap, dAnd_ap, dOr_ap, dNot_ap, tAndD_ap, tOrD_ap, tNotD_ap, dChain_ap, aNil_ap, aCons_ap, dTupl_ap, dList_ap, dCall_ap, oNone_ap, oSome_ap, dSl_ap, iUn_ap, iOp_ap, dComp_ap, cYes_ap, partOf_int, truthOf_bool, sSeq_ap, andThen_nx, andThen_ret, sNil_ap, sPass_ap, sRet_ap, sExpr_ap, sSet_ap, sSetOwn_ap, sIf_ap, sFor_ap, sPair_ap, sPar_ap, sApp_ap, sStore_ap, sPop_ap, sFrz_ap, frz_zero, frz_succ, ownAt_zero, ownAt_succ, ownTo_some, NxTo_nx, NxIf_nx, ofR_ok, Res.bind_ok, Res.mute_ok, set_zero, set_succ, wipe_nil, wipe_cons, bN_ap, bP_ap, resOf_ret, tI_nil, tI_one, pLen_tI, pSl_tI, itemsOf_tI, pLen_scr, pEq_tI, pNe_tI, pEq_lI, pNe_lI, pEq_int, pNe_int, pEq_bool, pNe_bool, pAdd_int, pSub_int, pNeg_int, pLt_int, pLe_int, pGt_int, pGe_int, pMax_int, pMin_int, pInt_int, pInt_bool, pIs_bool, pIsNot_bool, pTuple_lI, pTuple_tI, pSum_lI, sized_nil, sizedL_nil, sized_one, if_true, if_false, Bool.false_eq_true, decide_true, decide_false, Bool.not_true, Bool.not_false, reduceIte, eq_self]
      show _ = Res.ok (PyData.bool (decide (ds.length ≤ 30) && ds.all (partB q)))
      rw [decide_eq_true (by omega), Bool.true_and, List.all_map]
      rfl
  | _ => exact no rfl rfl
theorem prule_any {q : Int} {d : P} (h : Thing d) : d_p_is_rule [d, .int q] = .ok (.bool (rowB q d)) := by
  show resOf (g_p_is_rule [.val d, .val (.int q)]) = _
  unfold g_p_is_rule
  simp -implicitDefEqProofs (disch := omega) only [sRaise_ap, andThen_exc, resOf_exc, bind_exc, ofR_exc, sTryAs_ap, sTry_ap, tryTo_nx, tryTo_ret, tryO_nx, tryO_ret, still_ret, still_nx, unE_ret, unE_nx, dIsE_zero, dIsE_succ, pMod_int, pDiv_int, zipOf_tI, enumOf_tI, lI_of, pLen_lI, enumOf_lI, itemsOf_lI, sizedL_one, sizedL_two, pListOf_lI, pListOf_tI, dStep_ap, ixpair_ok, six_ok, pair_ok, dVar_zero, dVar_succ, dOwn_zero, dOwn_succ, dC_ap, dOp_ap, dUn_ap, dL_ap, dT_ap, dAnd_ap, dOr_ap, dNot_ap, tAndD_ap, tOrD_ap, tNotD_ap, dChain_ap, aNil_ap, aCons_ap, dTupl_ap, dList_ap, dCall_ap, oNone_ap, oSome_ap, dSl_ap, iUn_ap, iOp_ap, dComp_ap, cYes_ap, partOf_int, truthOf_bool, sSeq_ap, andThen_nx, andThen_ret, sNil_ap, sPass_ap, sRet_ap, sExpr_ap, sSet_ap, sSetOwn_ap, sIf_ap, sFor_ap, sPair_ap, sPar_ap, sApp_ap, sStore_ap, sPop_ap, sFrz_ap, frz_zero, frz_succ, ownAt_zero, ownAt_succ, ownTo_some, NxTo_nx, NxIf_nx, ofR_ok, Res.bind_ok, Res.mute_ok, set_zero, set_succ, wipe_nil, wipe_cons, bN_ap, bP_ap, resOf_ret, tI_nil, tI_one, pLen_tI, pSl_tI, itemsOf_tI, pLen_scr, pEq_tI, pNe_tI, pEq_lI, pNe_lI, pEq_int, pNe_int, pEq_bool, pNe_bool, pAdd_int, pSub_int, pNeg_int, pLt_int, pLe_int, pGt_int, pGe_int, pMax_int, pMin_int, pInt_int, pInt_bool, pIs_bool, pIsNot_bool, pTuple_lI, pTuple_tI, pSum_lI, sized_nil, sizedL_nil, sized_one, if_true, if_false, Bool.false_eq_true, decide_true, decide_false, Bool.not_true, Bool.not_false, reduceIte, eq_self, prow_any h]
theorem same_ok {a b : Bool} : d_l_same [.bool a, .bool b] = .ok (.bool (decide (a = b))) := by
  show resOf (g_l_same [.val (.bool a), .val (.bool b)]) = _
  unfold g_l_same
  have e1 : pIsB isBool (.bool a) = .ok (.bool true) := rfl
  simp -implicitDefEqProofs (disch := omega) only [sRaise_ap, andThen_exc, resOf_exc, bind_exc, ofR_exc, sTryAs_ap, sTry_ap, tryTo_nx, tryTo_ret, tryO_nx, tryO_ret, still_ret, still_nx, unE_ret, unE_nx, dIsE_zero, dIsE_succ, pMod_int, pDiv_int, zipOf_tI, enumOf_tI, lI_of, pLen_lI, enumOf_lI, itemsOf_lI, sizedL_one, sizedL_two, pListOf_lI, pListOf_tI, dStep_ap, ixpair_ok, six_ok, pair_ok, dVar_zero, dVar_succ, dOwn_zero, dOwn_succ, dC_ap, dOp_ap, dUn_ap, dL_ap, dT_ap, dAnd_ap, dOr_ap, dNot_ap, tAndD_ap, tOrD_ap, tNotD_ap, dChain_ap, aNil_ap, aCons_ap, dTupl_ap, dList_ap, dCall_ap, oNone_ap, oSome_ap, dSl_ap, iUn_ap, iOp_ap, dComp_ap, cYes_ap, partOf_int, truthOf_bool, sSeq_ap, andThen_nx, andThen_ret, sNil_ap, sPass_ap, sRet_ap, sExpr_ap, sSet_ap, sSetOwn_ap, sIf_ap, sFor_ap, sPair_ap, sPar_ap, sApp_ap, sStore_ap, sPop_ap, sFrz_ap, frz_zero, frz_succ, ownAt_zero, ownAt_succ, ownTo_some, NxTo_nx, NxIf_nx, ofR_ok, Res.bind_ok, Res.mute_ok, set_zero, set_succ, wipe_nil, wipe_cons, bN_ap, bP_ap, resOf_ret, tI_nil, tI_one, pLen_tI, pSl_tI, itemsOf_tI, pLen_scr, pEq_tI, pNe_tI, pEq_lI, pNe_lI, pEq_int, pNe_int, pEq_bool, pNe_bool, pAdd_int, pSub_int, pNeg_int, pLt_int, pLe_int, pGt_int, pGe_int, pMax_int, pMin_int, pInt_int, pInt_bool, pIs_bool, pIsNot_bool, pTuple_lI, pTuple_tI, pSum_lI, sized_nil, sizedL_nil, sized_one, if_true, if_false, Bool.false_eq_true, decide_true, decide_false, Bool.not_true, Bool.not_false, reduceIte, eq_self, e1]
theorem fin_ix {n : Nat} {L : List P} {k : Int} (h0 : 0 ≤ k) (hl : k < L.length) (hT : ∀ d ∈ L, ThingN n d) : ∃ d, pIx (.list L) (.int k) = .ok d ∧ ThingN n d := by
  obtain ⟨d, hd, e⟩ := pIx_any h0 hl
  exact ⟨d, e, hT d hd⟩
theorem fin_list {n : Nat} {L : List P} {k : Int} {δ : DEnv} (h0 : 0 ≤ k) (hl : k < L.length) (hT : ∀ d ∈ L, ThingN n d) : ∃ d, resOf (ofR δ (pIx (.list L) (.int k)) fun d => .ret d) = .ok d ∧ ThingN n d := by
  obtain ⟨d, hd, e⟩ := pIx_any h0 hl
  refine ⟨d, ?_, hT d hd⟩
  rw [e]
  rfl
theorem cellL_ok (ns : List Int) {k : Int} (h : 0 ≤ k) : d_l_cell_at [lI ns, .int k] = .ok (.int (cellAt ns k)) := by
  show resOf (g_l_cell_at [.val (lI ns), .val (.int k)]) = _
  unfold g_l_cell_at
  simp -implicitDefEqProofs (disch := omega) only [sRaise_ap, andThen_exc, resOf_exc, bind_exc, ofR_exc, sTryAs_ap, sTry_ap, tryTo_nx, tryTo_ret, tryO_nx, tryO_ret, still_ret, still_nx, unE_ret, unE_nx, dIsE_zero, dIsE_succ, pMod_int, pDiv_int, zipOf_tI, enumOf_tI, lI_of, pLen_lI, enumOf_lI, itemsOf_lI, sizedL_one, sizedL_two, pListOf_lI, pListOf_tI, dStep_ap, ixpair_ok, six_ok, pair_ok, dVar_zero, dVar_succ, dOwn_zero, dOwn_succ, dC_ap, dOp_ap, dUn_ap, dL_ap, dT_ap, dAnd_ap, dOr_ap, dNot_ap, tAndD_ap, tOrD_ap, tNotD_ap, dChain_ap, aNil_ap, aCons_ap, dTupl_ap, dList_ap, dCall_ap, oNone_ap, oSome_ap, dSl_ap, iUn_ap, iOp_ap, dComp_ap, cYes_ap, partOf_int, truthOf_bool, sSeq_ap, andThen_nx, andThen_ret, sNil_ap, sPass_ap, sRet_ap, sExpr_ap, sSet_ap, sSetOwn_ap, sIf_ap, sFor_ap, sPair_ap, sPar_ap, sApp_ap, sStore_ap, sPop_ap, sFrz_ap, frz_zero, frz_succ, ownAt_zero, ownAt_succ, ownTo_some, NxTo_nx, NxIf_nx, ofR_ok, Res.bind_ok, Res.mute_ok, set_zero, set_succ, wipe_nil, wipe_cons, bN_ap, bP_ap, resOf_ret, tI_nil, tI_one, pLen_tI, pSl_tI, itemsOf_tI, pLen_scr, pEq_tI, pNe_tI, pEq_lI, pNe_lI, pEq_int, pNe_int, pEq_bool, pNe_bool, pAdd_int, pSub_int, pNeg_int, pLt_int, pLe_int, pGt_int, pGe_int, pMax_int, pMin_int, pInt_int, pInt_bool, pIs_bool, pIsNot_bool, pTuple_lI, pTuple_tI, pSum_lI, sized_nil, sizedL_nil, sized_one, if_true, if_false, Bool.false_eq_true, decide_true, decide_false, Bool.not_true, Bool.not_false, reduceIte, eq_self]
  unfold cellAt
  by_cases q : k < (ns.length : Nat)
  · rw [decide_eq_true q]
    have hk : k.toNat < ns.length := by omega
    have e := pIx_lI (xs := ns) (i := k) (x := ns[k.toNat]) (by rw [atI_nn h q]; simp [hk])
    simp -implicitDefEqProofs (disch := omega) only [sRaise_ap, andThen_exc, resOf_exc, bind_exc, ofR_exc, sTryAs_ap, sTry_ap, tryTo_nx, tryTo_ret, tryO_nx, tryO_ret, still_ret, still_nx, unE_ret, unE_nx, dIsE_zero, dIsE_succ, pMod_int, pDiv_int, zipOf_tI, enumOf_tI, lI_of, pLen_lI, enumOf_lI, itemsOf_lI, sizedL_one, sizedL_two, pListOf_lI, pListOf_tI, dStep_ap, ixpair_ok, six_ok, pair_ok, dVar_zero, dVar_succ, dOwn_zero, dOwn_succ, dC_ap, dOp_ap, dUn_ap, dL_ap, dT_ap, dAnd_ap, dOr_ap, dNot_ap, tAndD_ap, tOrD_ap, tNotD_ap, dChain_ap, aNil_ap, aCons_ap, dTupl_ap, dList_ap, dCall_ap, oNone_ap, oSome_ap, dSl_ap, iUn_ap, iOp_ap, dComp_ap, cYes_ap, partOf_int, truthOf_bool, sSeq_ap, andThen_nx, andThen_ret, sNil_ap, sPass_ap, sRet_ap, sExpr_ap, sSet_ap, sSetOwn_ap, sIf_ap, sFor_ap, sPair_ap, sPar_ap, sApp_ap, sStore_ap, sPop_ap, sFrz_ap, frz_zero, frz_succ, ownAt_zero, ownAt_succ, ownTo_some, NxTo_nx, NxIf_nx, ofR_ok, Res.bind_ok, Res.mute_ok, set_zero, set_succ, wipe_nil, wipe_cons, bN_ap, bP_ap, resOf_ret, tI_nil, tI_one, pLen_tI, pSl_tI, itemsOf_tI, pLen_scr, pEq_tI, pNe_tI, pEq_lI, pNe_lI, pEq_int, pNe_int, pEq_bool, pNe_bool, pAdd_int, pSub_int, pNeg_int, pLt_int, pLe_int, pGt_int, pGe_int, pMax_int, pMin_int, pInt_int, pInt_bool, pIs_bool, pIsNot_bool, pTuple_lI, pTuple_tI, pSum_lI, sized_nil, sizedL_nil, sized_one, if_true, if_false, Bool.false_eq_true, decide_true, decide_false, Bool.not_true, Bool.not_false, reduceIte, eq_self, e]
    simp [hk]
  · rw [decide_eq_false q]
    simp -implicitDefEqProofs (disch := omega) only [sRaise_ap, andThen_exc, resOf_exc, bind_exc, ofR_exc, sTryAs_ap, sTry_ap, tryTo_nx, tryTo_ret, tryO_nx, tryO_ret, still_ret, still_nx, unE_ret, unE_nx, dIsE_zero, dIsE_succ, pMod_int, pDiv_int, zipOf_tI, enumOf_tI, lI_of, pLen_lI, enumOf_lI, itemsOf_lI, sizedL_one, sizedL_two, pListOf_lI, pListOf_tI, dStep_ap, ixpair_ok, six_ok, pair_ok, dVar_zero, dVar_succ, dOwn_zero, dOwn_succ, dC_ap, dOp_ap, dUn_ap, dL_ap, dT_ap, dAnd_ap, dOr_ap, dNot_ap, tAndD_ap, tOrD_ap, tNotD_ap, dChain_ap, aNil_ap, aCons_ap, dTupl_ap, dList_ap, dCall_ap, oNone_ap, oSome_ap, dSl_ap, iUn_ap, iOp_ap, dComp_ap, cYes_ap, partOf_int, truthOf_bool, sSeq_ap, andThen_nx, andThen_ret, sNil_ap, sPass_ap, sRet_ap, sExpr_ap, sSet_ap, sSetOwn_ap, sIf_ap, sFor_ap, sPair_ap, sPar_ap, sApp_ap, sStore_ap, sPop_ap, sFrz_ap, frz_zero, frz_succ, ownAt_zero, ownAt_succ, ownTo_some, NxTo_nx, NxIf_nx, ofR_ok, Res.bind_ok, Res.mute_ok, set_zero, set_succ, wipe_nil, wipe_cons, bN_ap, bP_ap, resOf_ret, tI_nil, tI_one, pLen_tI, pSl_tI, itemsOf_tI, pLen_scr, pEq_tI, pNe_tI, pEq_lI, pNe_lI, pEq_int, pNe_int, pEq_bool, pNe_bool, pAdd_int, pSub_int, pNeg_int, pLt_int, pLe_int, pGt_int, pGe_int, pMax_int, pMin_int, pInt_int, pInt_bool, pIs_bool, pIsNot_bool, pTuple_lI, pTuple_tI, pSum_lI, sized_nil, sizedL_nil, sized_one, if_true, if_false, Bool.false_eq_true, decide_true, decide_false, Bool.not_true, Bool.not_false, reduceIte, eq_self]
    have hk : ns.length ≤ k.toNat := by omega
    simp [hk]
theorem mixedL_ok (ns : List Int) {k : Int} (h : 0 ≤ k) (h2 : k ≤ 1000) : ∃ m, d_l_mixed [lI ns, .int k] = .ok (.int m) ∧ 0 ≤ m ∧ m < 2147483629 := by
  show ∃ m, resOf (g_l_mixed [.val (lI ns), .val (.int k), .un]) = _ ∧ _
  unfold g_l_mixed
  walk_at "ev"
  rw [cellL_ok ns h]
  walk_at "ev"
  rw [pMul_l (x := 7919) (by omega)]
  walk_at "ev"
  rw [pMul_r (y := 48271) (by omega)]
  walk_at "ev"
  rw [pMod_int (by omega)]
  walk_at "ev"
  generalize hd : (cellAt ns k + 7919 * k + 1) * 48271 % 2147483647 = d
  have d0 : 0 ≤ d := by rw [← hd]; exact Int.emod_nonneg _ (by omega)
  have d1 : d < 2147483647 := by rw [← hd]; exact Int.emod_lt_of_pos _ (by omega)
  rw [pMul_l (x := d) (y := d) (by omega), pMul_l (x := 7) (by omega)]
  walk_at "ev"
  rw [pMod_int (by omega)]
  walk_at "ev"
  exact ⟨_, rfl, Int.emod_nonneg _ (by omega), Int.emod_lt_of_pos _ (by omega)⟩
/-! places -/
theorem place_int {x : Int} {w : P} (u : Nat) : dr_l_places_in (u + 1) [.int x, w] = .ok (.list [w]) := by
  show resOf (g_l_places_in (dr_l_places_in u) [.val (.int x), .val w, .un, .un, .un]) = _
  unfold g_l_places_in
  have e1 : pIsB isTuple (.int x) = .ok (.bool false) := rfl
  have s1 : sizedL [w] = .ok [w] := rfl
  simp -implicitDefEqProofs (disch := omega) only [sRaise_ap, andThen_exc, resOf_exc, bind_exc, ofR_exc, sTryAs_ap, sTry_ap, tryTo_nx, tryTo_ret, tryO_nx, tryO_ret, still_ret, still_nx, unE_ret, unE_nx, dIsE_zero, dIsE_succ, pMod_int, pDiv_int, zipOf_tI, enumOf_tI, lI_of, pLen_lI, enumOf_lI, itemsOf_lI, sizedL_one, sizedL_two, pListOf_lI, pListOf_tI, dStep_ap, ixpair_ok, six_ok, pair_ok, dVar_zero, dVar_succ, dOwn_zero, dOwn_succ, dC_ap, dOp_ap, dUn_ap, dL_ap, dT_ap, dAnd_ap, dOr_ap, dNot_ap, tAndD_ap, tOrD_ap, tNotD_ap, dChain_ap, aNil_ap, aCons_ap, dTupl_ap, dList_ap, dCall_ap, oNone_ap, oSome_ap, dSl_ap, iUn_ap, iOp_ap, dComp_ap, cYes_ap, partOf_int, truthOf_bool, sSeq_ap, andThen_nx, andThen_ret, sNil_ap, sPass_ap, sRet_ap, sExpr_ap, sSet_ap, sSetOwn_ap, sIf_ap, sFor_ap, sPair_ap, sPar_ap, sApp_ap, sStore_ap, sPop_ap, sFrz_ap, frz_zero, frz_succ, ownAt_zero, ownAt_succ, ownTo_some, NxTo_nx, NxIf_nx, ofR_ok, Res.bind_ok, Res.mute_ok, set_zero, set_succ, wipe_nil, wipe_cons, bN_ap, bP_ap, resOf_ret, tI_nil, tI_one, pLen_tI, pSl_tI, itemsOf_tI, pLen_scr, pEq_tI, pNe_tI, pEq_lI, pNe_lI, pEq_int, pNe_int, pEq_bool, pNe_bool, pAdd_int, pSub_int, pNeg_int, pLt_int, pLe_int, pGt_int, pGe_int, pMax_int, pMin_int, pInt_int, pInt_bool, pIs_bool, pIsNot_bool, pTuple_lI, pTuple_tI, pSum_lI, sized_nil, sizedL_nil, sized_one, if_true, if_false, Bool.false_eq_true, decide_true, decide_false, Bool.not_true, Bool.not_false, reduceIte, eq_self, e1, s1]
def waysV (n : Nat) : List P := tI [] :: (List.range n).map fun i : Nat => tI [(i : Int)]
theorem waysV_len (n : Nat) : (waysV n).length = n + 1 := by
  unfold waysV
  rw [List.length_cons, List.length_map, List.length_range]
theorem waysV_snoc (n : Nat) : waysV n ++ [tI [(n : Int)]] = waysV (n + 1) := by
  unfold waysV
  rw [List.range_succ, List.map_append]
  rfl
theorem places_ok {xs : List Int} (hl : xs.length ≤ 31) : d_l_places_in [tI xs, tI []] = .ok (.list (waysV xs.length)) := by
  show resOf (g_l_places_in (dr_l_places_in 1) [.val (tI xs), .val (tI []), .un, .un, .un]) = _
  unfold g_l_places_in
  have e1 : pIsB isTuple (tI xs) = .ok (.bool true) := rfl
  have s1 : sizedL [tI []] = .ok [tI []] := rfl
  simp -implicitDefEqProofs (disch := omega) only [sRaise_ap, andThen_exc, resOf_exc, bind_exc, ofR_exc, sTryAs_ap, sTry_ap, tryTo_nx, tryTo_ret, tryO_nx, tryO_ret, still_ret, still_nx, unE_ret, unE_nx, dIsE_zero, dIsE_succ, pMod_int, pDiv_int, zipOf_tI, enumOf_tI, lI_of, pLen_lI, enumOf_lI, itemsOf_lI, sizedL_one, sizedL_two, pListOf_lI, pListOf_tI, dStep_ap, ixpair_ok, six_ok, pair_ok, dVar_zero, dVar_succ, dOwn_zero, dOwn_succ, dC_ap, dOp_ap, dUn_ap, dL_ap, dT_ap, dAnd_ap, dOr_ap, dNot_ap, tAndD_ap, tOrD_ap, tNotD_ap, dChain_ap, aNil_ap, aCons_ap, dTupl_ap, dList_ap, dCall_ap, oNone_ap, oSome_ap, dSl_ap, iUn_ap, iOp_ap, dComp_ap, cYes_ap, partOf_int, truthOf_bool, sSeq_ap, andThen_nx, andThen_ret, sNil_ap, sPass_ap, sRet_ap, sExpr_ap, sSet_ap, sSetOwn_ap, sIf_ap, sFor_ap, sPair_ap, sPar_ap, sApp_ap, sStore_ap, sPop_ap, sFrz_ap, frz_zero, frz_succ, ownAt_zero, ownAt_succ, ownTo_some, NxTo_nx, NxIf_nx, ofR_ok, Res.bind_ok, Res.mute_ok, set_zero, set_succ, wipe_nil, wipe_cons, bN_ap, bP_ap, resOf_ret, tI_nil, tI_one, pLen_tI, pSl_tI, itemsOf_tI, pLen_scr, pEq_tI, pNe_tI, pEq_lI, pNe_lI, pEq_int, pNe_int, pEq_bool, pNe_bool, pAdd_int, pSub_int, pNeg_int, pLt_int, pLe_int, pGt_int, pGe_int, pMax_int, pMin_int, pInt_int, pInt_bool, pIs_bool, pIsNot_bool, pTuple_lI, pTuple_tI, pSum_lI, sized_nil, sizedL_nil, sized_one, if_true, if_false, Bool.false_eq_true, decide_true, decide_false, Bool.not_true, Bool.not_false, reduceIte, eq_self, e1, s1]
  generalize hF : forGo _ _ _ _ = r
  obtain ⟨δ, e2, hδ⟩ := for_ind' hF (fun i δ => ∃ s3 s4, δ = [.val (tI xs), .val (tI []), .val (.list (waysV i)), s3, s4]) ⟨.un, .un, rfl⟩ fun i d δ hd ⟨s3, s4, hδ⟩ => by
    subst hδ
    obtain ⟨hi, hd⟩ := List.getElem?_eq_some_iff.mp hd
    have hi : i < xs.length := by simpa using hi
    have hd : d = .tuple [.int (i : Int), .int (at0 xs i)] := by
      rw [← hd, List.getElem_map, List.getElem_zipIdx, at0_lt hi]
      simp
    subst hd
    refine ⟨_, rfl, ?_⟩
    have a1 : pAdd (tI []) (tI [(i : Int)]) = .ok (tI [(i : Int)]) := pAdd_tI (by simp)
    have a2 := pAddL_any (a := waysV i) (b := [tI [(i : Int)]]) (by rw [waysV_len, List.length_singleton]; omega)
    rw [waysV_snoc] at a2
    simp -implicitDefEqProofs (disch := omega) only [sRaise_ap, andThen_exc, resOf_exc, bind_exc, ofR_exc, sTryAs_ap, sTry_ap, tryTo_nx, tryTo_ret, tryO_nx, tryO_ret, still_ret, still_nx, unE_ret, unE_nx, dIsE_zero, dIsE_succ, pMod_int, pDiv_int, zipOf_tI, enumOf_tI, lI_of, pLen_lI, enumOf_lI, itemsOf_lI, sizedL_one, sizedL_two, pListOf_lI, pListOf_tI, dStep_ap, ixpair_ok, six_ok, pair_ok, dVar_zero, dVar_succ, dOwn_zero, dOwn_succ, dC_ap, dOp_ap, dUn_ap, dL_ap, dT_ap, dAnd_ap, dOr_ap, dNot_ap, tAndD_ap, tOrD_ap, tNotD_ap, dChain_ap, aNil_ap, aCons_ap, dTupl_ap, dList_ap, dCall_ap, oNone_ap, oSome_ap, dSl_ap, iUn_ap, iOp_ap, dComp_ap, cYes_ap, partOf_int, truthOf_bool, sSeq_ap, andThen_nx, andThen_ret, sNil_ap, sPass_ap, sRet_ap, sExpr_ap, sSet_ap, sSetOwn_ap, sIf_ap, sFor_ap, sPair_ap, sPar_ap, sApp_ap, sStore_ap, sPop_ap, sFrz_ap, frz_zero, frz_succ, ownAt_zero, ownAt_succ, ownTo_some, NxTo_nx, NxIf_nx, ofR_ok, Res.bind_ok, Res.mute_ok, set_zero, set_succ, wipe_nil, wipe_cons, bN_ap, bP_ap, resOf_ret, tI_nil, tI_one, pLen_tI, pSl_tI, itemsOf_tI, pLen_scr, pEq_tI, pNe_tI, pEq_lI, pNe_lI, pEq_int, pNe_int, pEq_bool, pNe_bool, pAdd_int, pSub_int, pNeg_int, pLt_int, pLe_int, pGt_int, pGe_int, pMax_int, pMin_int, pInt_int, pInt_bool, pIs_bool, pIsNot_bool, pTuple_lI, pTuple_tI, pSum_lI, sized_nil, sizedL_nil, sized_one, if_true, if_false, Bool.false_eq_true, decide_true, decide_false, Bool.not_true, Bool.not_false, reduceIte, eq_self, a1, place_int (u := 0), a2]
    exact ⟨_, _, rfl⟩
  obtain ⟨s3, s4, rfl⟩ := hδ
  rw [List.length_map, List.length_zipIdx] at e2
  subst e2
  simp -implicitDefEqProofs (disch := omega) only [sRaise_ap, andThen_exc, resOf_exc, bind_exc, ofR_exc, sTryAs_ap, sTry_ap, tryTo_nx, tryTo_ret, tryO_nx, tryO_ret, still_ret, still_nx, unE_ret, unE_nx, dIsE_zero, dIsE_succ, pMod_int, pDiv_int, zipOf_tI, enumOf_tI, lI_of, pLen_lI, enumOf_lI, itemsOf_lI, sizedL_one, sizedL_two, pListOf_lI, pListOf_tI, dStep_ap, ixpair_ok, six_ok, pair_ok, dVar_zero, dVar_succ, dOwn_zero, dOwn_succ, dC_ap, dOp_ap, dUn_ap, dL_ap, dT_ap, dAnd_ap, dOr_ap, dNot_ap, tAndD_ap, tOrD_ap, tNotD_ap, dChain_ap, aNil_ap, aCons_ap, dTupl_ap, dList_ap, dCall_ap, oNone_ap, oSome_ap, dSl_ap, iUn_ap, iOp_ap, dComp_ap, cYes_ap, partOf_int, truthOf_bool, sSeq_ap, andThen_nx, andThen_ret, sNil_ap, sPass_ap, sRet_ap, sExpr_ap, sSet_ap, sSetOwn_ap, sIf_ap, sFor_ap, sPair_ap, sPar_ap, sApp_ap, sStore_ap, sPop_ap, sFrz_ap, frz_zero, frz_succ, ownAt_zero, ownAt_succ, ownTo_some, NxTo_nx, NxIf_nx, ofR_ok, Res.bind_ok, Res.mute_ok, set_zero, set_succ, wipe_nil, wipe_cons, bN_ap, bP_ap, resOf_ret, tI_nil, tI_one, pLen_tI, pSl_tI, itemsOf_tI, pLen_scr, pEq_tI, pNe_tI, pEq_lI, pNe_lI, pEq_int, pNe_int, pEq_bool, pNe_bool, pAdd_int, pSub_int, pNeg_int, pLt_int, pLe_int, pGt_int, pGe_int, pMax_int, pMin_int, pInt_int, pInt_bool, pIs_bool, pIsNot_bool, pTuple_lI, pTuple_tI, pSum_lI, sized_nil, sizedL_nil, sized_one, if_true, if_false, Bool.false_eq_true, decide_true, decide_false, Bool.not_true, Bool.not_false, reduceIte, eq_self]
/-! put at a place -/
theorem dBy_ap {f : Addr} {i : Nat} {by_ : P → Res P} {fe : DE P} {δ : DEnv} : dBy f i by_ fe δ = (fe δ).bind fun d => rawIs δ i f (by_ d).mute := rfl
theorem dSelf_ap {f : Addr} {i : Nat} {self : List P → Res P} {f1 f2 : DE P} {δ : DEnv} : dSelf f i self f1 f2 δ = (f1 δ).bind fun a => (f2 δ).bind fun b => rawIs δ i f (self [a, b]).mute := rfl
theorem raw2 {β : Type} {a b : Slot} {f : Addr} {l : DEnv} {r : Res β} : rawIs (a :: b :: .raw (.ref f) :: l) 2 f r = r := if_pos rfl
theorem put_here {f : Addr} {by_ : P → Res P} {d r : P} {u : Nat} (h : by_ d = .ok r) : putR g_l_put_at f by_ (u + 1) [d, tI []] = .ok r := by
  show resOf (g_l_put_at f by_ (putR g_l_put_at f by_ u) [.val d, .val (tI []), .raw (.ref f), .un, .un]) = _
  unfold g_l_put_at
  simp -implicitDefEqProofs (disch := omega) only [sRaise_ap, andThen_exc, resOf_exc, bind_exc, ofR_exc, sTryAs_ap, sTry_ap, tryTo_nx, tryTo_ret, tryO_nx, tryO_ret, still_ret, still_nx, unE_ret, unE_nx, dIsE_zero, dIsE_succ, pMod_int, pDiv_int, zipOf_tI, enumOf_tI, lI_of, pLen_lI, enumOf_lI, itemsOf_lI, sizedL_one, sizedL_two, pListOf_lI, pListOf_tI, dStep_ap, ixpair_ok, six_ok, pair_ok, dVar_zero, dVar_succ, dOwn_zero, dOwn_succ, dC_ap, dOp_ap, dUn_ap, dL_ap, dT_ap, dAnd_ap, dOr_ap, dNot_ap, tAndD_ap, tOrD_ap, tNotD_ap, dChain_ap, aNil_ap, aCons_ap, dTupl_ap, dList_ap, dCall_ap, oNone_ap, oSome_ap, dSl_ap, iUn_ap, iOp_ap, dComp_ap, cYes_ap, partOf_int, truthOf_bool, sSeq_ap, andThen_nx, andThen_ret, sNil_ap, sPass_ap, sRet_ap, sExpr_ap, sSet_ap, sSetOwn_ap, sIf_ap, sFor_ap, sPair_ap, sPar_ap, sApp_ap, sStore_ap, sPop_ap, sFrz_ap, frz_zero, frz_succ, ownAt_zero, ownAt_succ, ownTo_some, NxTo_nx, NxIf_nx, ofR_ok, Res.bind_ok, Res.mute_ok, set_zero, set_succ, wipe_nil, wipe_cons, bN_ap, bP_ap, resOf_ret, tI_nil, tI_one, pLen_tI, pSl_tI, itemsOf_tI, pLen_scr, pEq_tI, pNe_tI, pEq_lI, pNe_lI, pEq_int, pNe_int, pEq_bool, pNe_bool, pAdd_int, pSub_int, pNeg_int, pLt_int, pLe_int, pGt_int, pGe_int, pMax_int, pMin_int, pInt_int, pInt_bool, pIs_bool, pIsNot_bool, pTuple_lI, pTuple_tI, pSum_lI, sized_nil, sizedL_nil, sized_one, if_true, if_false, Bool.false_eq_true, decide_true, decide_false, Bool.not_true, Bool.not_false, reduceIte, eq_self, dBy_ap, raw2, h]
theorem put_in' {f : Addr} {by_ : P → Res P} {G : List P → Res P} {xs : List Int} {p : P} {j : Nat} (hj : j < xs.length) (hl : xs.length ≤ 31) (h : G [.int (at0 xs j), tI []] = .ok p) : resOf (g_l_put_at f by_ G [.val (tI xs), .val (tI [(j : Int)]), .raw (.ref f), .un, .un]) = .ok (.tuple ((xs.take j).map PyData.int ++ [p] ++ (xs.drop (j + 1)).map PyData.int)) := by
  unfold g_l_put_at
  have ne : decide ([(j : Int)] = []) = false := rfl
  have i0 : pIx (tI [(j : Int)]) (.int 0) = .ok (.int (j : Int)) := rfl
  have c1 : cut [(j : Int)] (some 1) none = [] := rfl
  have ix := pIx_tN hj
  have ct : cut xs none (some (j : Int)) = xs.take j := by rw [cut_toI (by omega), Int.toNat_natCast]
  have cf : cut xs (some ((j : Int) + 1)) none = xs.drop (j + 1) := by rw [cut_from (by omega)]; rfl
  have s1 : sizedT [p] = .ok (.tuple [p]) := rfl
  have a1 : pAdd (tI (xs.take j)) (.tuple [p]) = .ok (.tuple ((xs.take j).map PyData.int ++ [p])) := pAdd_tup (by rw [List.length_map, List.length_take, List.length_singleton]; omega)
  have a2 : pAdd (.tuple ((xs.take j).map PyData.int ++ [p])) (tI (xs.drop (j + 1))) = .ok (.tuple ((xs.take j).map PyData.int ++ [p] ++ (xs.drop (j + 1)).map PyData.int)) := pAdd_tup (by rw [List.length_append, List.length_map, List.length_map, List.length_take, List.length_singleton, List.length_drop]; omega)
  simp -implicitDefEqProofs (disch := omega) only [sRaise_ap, andThen_exc, resOf_exc, bind_exc, ofR_exc, sTryAs_ap, sTry_ap, tryTo_nx, tryTo_ret, tryO_nx, tryO_ret, still_ret, still_nx, unE_ret, unE_nx, dIsE_zero, dIsE_succ, pMod_int, pDiv_int, zipOf_tI, enumOf_tI, lI_of, pLen_lI, enumOf_lI, itemsOf_lI, sizedL_one, sizedL_two, pListOf_lI, pListOf_tI, dStep_ap, ixpair_ok, six_ok, pair_ok, dVar_zero, dVar_succ, dOwn_zero, dOwn_succ, dC_ap, dOp_ap, dUn_ap, dL_ap, dT_ap, dAnd_ap, dOr_ap, dNot_ap, tAndD_ap, tOrD_ap, tNotD_ap, dChain_ap, aNil_ap, aCons_ap, dTupl_ap, dList_ap, dCall_ap, oNone_ap, oSome_ap, dSl_ap, iUn_ap, iOp_ap, dComp_ap, cYes_ap, partOf_int, truthOf_bool, sSeq_ap, andThen_nx, andThen_ret, sNil_ap, sPass_ap, sRet_ap, sExpr_ap, sSet_ap, sSetOwn_ap, sIf_ap, sFor_ap, sPair_ap, sPar_ap, sApp_ap, sStore_ap, sPop_ap, sFrz_ap, frz_zero, frz_succ, ownAt_zero, ownAt_succ, ownTo_some, NxTo_nx, NxIf_nx, ofR_ok, Res.bind_ok, Res.mute_ok, set_zero, set_succ, wipe_nil, wipe_cons, bN_ap, bP_ap, resOf_ret, tI_nil, tI_one, pLen_tI, pSl_tI, itemsOf_tI, pLen_scr, pEq_tI, pNe_tI, pEq_lI, pNe_lI, pEq_int, pNe_int, pEq_bool, pNe_bool, pAdd_int, pSub_int, pNeg_int, pLt_int, pLe_int, pGt_int, pGe_int, pMax_int, pMin_int, pInt_int, pInt_bool, pIs_bool, pIsNot_bool, pTuple_lI, pTuple_tI, pSum_lI, sized_nil, sizedL_nil, sized_one, if_true, if_false, Bool.false_eq_true, decide_true, decide_false, Bool.not_true, Bool.not_false, reduceIte, eq_self, ne, i0, c1, ix, dSelf_ap, raw2, h, ct, cf, s1, a1, a2]
theorem put_in {f : Addr} {by_ : P → Res P} {xs : List Int} {p : P} {j u : Nat} (hj : j < xs.length) (hl : xs.length ≤ 31) (h : by_ (.int (at0 xs j)) = .ok p) : putR g_l_put_at f by_ (u + 2) [tI xs, tI [(j : Int)]] = .ok (.tuple ((xs.take j).map PyData.int ++ [p] ++ (xs.drop (j + 1)).map PyData.int)) := put_in' hj hl (put_here h)
/-! spoilt -/
theorem oth_int {x : Int} (h0 : 0 ≤ x) (h1 : x ≤ 12) (n : Int) : ∃ d, d_l_otherwise [.int x, .int n] = .ok d ∧ ThingN 5 d := by
  show ∃ d, resOf (g_l_otherwise [.val (.int x), .val (.int n), .un]) = .ok d ∧ _
  unfold g_l_otherwise
  have e1 : pIsB isTuple (.int x) = .ok (.bool false) := rfl
  have e2 : pIsB isBool (.int x) = .ok (.bool false) := rfl
  have e3 : pIsB isInt (.int x) = .ok (.bool true) := rfl
  have st : pStr (.int x) = .ok (.str (Str.ofString (toString x))) := if_pos (by
    have key : ∀ n ∈ List.range 13, ((n : Int)).natAbs.log2 < 1920 := by decide +kernel
    have := key x.toNat (List.mem_range.mpr (by omega))
    rwa [Int.toNat_of_nonneg h0] at this)
  have s4 : ∀ a b c d : P, sizedL [a, b, c, d] = .ok [a, b, c, d] := fun _ _ _ _ => rfl
  have z1 : ∀ a : P, sizedL [a] = .ok [a] := fun _ => rfl
  have ad : ∀ a b c d e : P, pAddL (.list [a, b, c, d]) (.list [e]) = .ok [a, b, c, d, e] := fun _ _ _ _ _ => rfl
  obtain ⟨d, ed, hd⟩ := fin_ix (n := 5) (L := [.bool true, .none, .str (Str.ofString (toString x)), tI [x], .int (-1 - x)]) (k := n % 5) (by omega) (by simp; omega) fun d hd => by
    simp only [List.mem_cons, List.not_mem_nil, or_false] at hd
    rcases hd with rfl | rfl | rfl | rfl | rfl
    · exact thing_plain (nice_bool _) rfl
    · exact thing_plain nice_none rfl
    · exact thing_str (strOk_int h0 h1)
    · exact thing_tI (xs := [x]) (by simp)
    · exact thing_int _
  simp -implicitDefEqProofs (disch := omega) only [sRaise_ap, andThen_exc, resOf_exc, bind_exc, ofR_exc, sTryAs_ap, sTry_ap, tryTo_nx, tryTo_ret, tryO_nx, tryO_ret, still_ret, still_nx, unE_ret, unE_nx, dIsE_zero, dIsE_succ, pMod_int, pDiv_int, zipOf_tI, enumOf_tI, lI_of, pLen_lI, enumOf_lI, itemsOf_lI, sizedL_one, sizedL_two, pListOf_lI, pListOf_tI, dStep_ap, ixpair_ok, six_ok, pair_ok, dVar_zero, dVar_succ, dOwn_zero, dOwn_succ, dC_ap, dOp_ap, dUn_ap, dL_ap, dT_ap, dAnd_ap, dOr_ap, dNot_ap, tAndD_ap, tOrD_ap, tNotD_ap, dChain_ap, aNil_ap, aCons_ap, dTupl_ap, dList_ap, dCall_ap, oNone_ap, oSome_ap, dSl_ap, iUn_ap, iOp_ap, dComp_ap, cYes_ap, partOf_int, truthOf_bool, sSeq_ap, andThen_nx, andThen_ret, sNil_ap, sPass_ap, sRet_ap, sExpr_ap, sSet_ap, sSetOwn_ap, sIf_ap, sFor_ap, sPair_ap, sPar_ap, sApp_ap, sStore_ap, sPop_ap, sFrz_ap, frz_zero, frz_succ, ownAt_zero, ownAt_succ, ownTo_some, NxTo_nx, NxIf_nx, ofR_ok, Res.bind_ok, Res.mute_ok, set_zero, set_succ, wipe_nil, wipe_cons, bN_ap, bP_ap, resOf_ret, tI_nil, tI_one, pLen_tI, pSl_tI, itemsOf_tI, pLen_scr, pEq_tI, pNe_tI, pEq_lI, pNe_lI, pEq_int, pNe_int, pEq_bool, pNe_bool, pAdd_int, pSub_int, pNeg_int, pLt_int, pLe_int, pGt_int, pGe_int, pMax_int, pMin_int, pInt_int, pInt_bool, pIs_bool, pIsNot_bool, pTuple_lI, pTuple_tI, pSum_lI, sized_nil, sizedL_nil, sized_one, if_true, if_false, Bool.false_eq_true, decide_true, decide_false, Bool.not_true, Bool.not_false, reduceIte, eq_self, e1, e2, e3, st, s4, z1, ad, ed]
  exact ⟨d, rfl, hd⟩
theorem oth_tup {xs : List Int} (hl : xs.length ≤ 31) (n : Int) : ∃ d, d_l_otherwise [tI xs, .int n] = .ok d ∧ Thing d := by
  show ∃ d, resOf (g_l_otherwise [.val (tI xs), .val (.int n), .un]) = .ok d ∧ _
  unfold g_l_otherwise
  have e1 : pIsB isTuple (tI xs) = .ok (.bool true) := rfl
  have s3 : ∀ a b c : P, sizedL [a, b, c] = .ok [a, b, c] := fun _ _ _ => rfl
  have s2 : ∀ a b : P, sizedL [a, b] = .ok [a, b] := fun _ _ => rfl
  have z1 : ∀ a : P, sizedL [a] = .ok [a] := fun _ => rfl
  have ad : ∀ a b c d e : P, pAddL (.list [a, b, c]) (.list [d, e]) = .ok [a, b, c, d, e] := fun _ _ _ _ _ => rfl
  have cl : ∀ a b, (cut xs a b).length ≤ xs.length := fun a b => by
    unfold cut
    rw [List.length_take, List.length_drop]
    omega
  have a1 : pAdd (tI xs) (tI (cut xs none (some 1))) = .ok (tI (xs ++ cut xs none (some 1))) := pAdd_tI (by have := cl none (some 1); omega)
  obtain ⟨d, ed, hd⟩ := fin_ix (n := 6) (L := [lI xs, lI xs, tI (xs ++ cut xs none (some 1)), tI (cut xs (some 1) none), .list [tI xs]]) (k := n % 5) (by omega) (by simp; omega) fun d hd => by
    have c1 := cl none (some 1)
    have c2 := cl (some 1) none
    simp only [List.mem_cons, List.not_mem_nil, or_false] at hd
    rcases hd with rfl | rfl | rfl | rfl | rfl
    · exact thing_lI _
    · exact thing_lI _
    · exact thing_tI (by rw [List.length_append]; omega)
    · exact thing_tI (by omega)
    · exact thing_plain (nice_list.mpr fun d hd => by rw [List.mem_singleton.mp hd]; exact nice_tI _) rfl
  simp -implicitDefEqProofs (disch := omega) only [sRaise_ap, andThen_exc, resOf_exc, bind_exc, ofR_exc, sTryAs_ap, sTry_ap, tryTo_nx, tryTo_ret, tryO_nx, tryO_ret, still_ret, still_nx, unE_ret, unE_nx, dIsE_zero, dIsE_succ, pMod_int, pDiv_int, zipOf_tI, enumOf_tI, lI_of, pLen_lI, enumOf_lI, itemsOf_lI, sizedL_one, sizedL_two, pListOf_lI, pListOf_tI, dStep_ap, ixpair_ok, six_ok, pair_ok, dVar_zero, dVar_succ, dOwn_zero, dOwn_succ, dC_ap, dOp_ap, dUn_ap, dL_ap, dT_ap, dAnd_ap, dOr_ap, dNot_ap, tAndD_ap, tOrD_ap, tNotD_ap, dChain_ap, aNil_ap, aCons_ap, dTupl_ap, dList_ap, dCall_ap, oNone_ap, oSome_ap, dSl_ap, iUn_ap, iOp_ap, dComp_ap, cYes_ap, partOf_int, truthOf_bool, sSeq_ap, andThen_nx, andThen_ret, sNil_ap, sPass_ap, sRet_ap, sExpr_ap, sSet_ap, sSetOwn_ap, sIf_ap, sFor_ap, sPair_ap, sPar_ap, sApp_ap, sStore_ap, sPop_ap, sFrz_ap, frz_zero, frz_succ, ownAt_zero, ownAt_succ, ownTo_some, NxTo_nx, NxIf_nx, ofR_ok, Res.bind_ok, Res.mute_ok, set_zero, set_succ, wipe_nil, wipe_cons, bN_ap, bP_ap, resOf_ret, tI_nil, tI_one, pLen_tI, pSl_tI, itemsOf_tI, pLen_scr, pEq_tI, pNe_tI, pEq_lI, pNe_lI, pEq_int, pNe_int, pEq_bool, pNe_bool, pAdd_int, pSub_int, pNeg_int, pLt_int, pLe_int, pGt_int, pGe_int, pMax_int, pMin_int, pInt_int, pInt_bool, pIs_bool, pIsNot_bool, pTuple_lI, pTuple_tI, pSum_lI, sized_nil, sizedL_nil, sized_one, if_true, if_false, Bool.false_eq_true, decide_true, decide_false, Bool.not_true, Bool.not_false, reduceIte, eq_self, e1, a1, s3, s2, z1, ad, ed]
  exact ⟨d, rfl, hd⟩
theorem dPut_ap {gf : Addr → (P → Res P) → (List P → Res P) → DEnv → SRes} {fb : DE P} {m j q : Nat} {f1 f2 : DE P} {δ : DEnv} : dPut gf fb m j q f1 f2 δ = (f1 δ).bind fun a => (f2 δ).bind fun b => numAt δ j fun n => putV gf (fun d => fb (lamD m j n d)) q a b := rfl
theorem spoilt_ok {xs : List Int} {q : Int} (hx : InR q xs) (hq : q ≤ 13) (hq0 : 0 < q) (hl : xs.length ≤ 31) (n deep : Int) : ∃ d, d_l_spoilt_85ed [tI xs, .int n, .int deep] = .ok d ∧ Thing d := by
  show ∃ d, resOf (g_l_spoilt_85ed [.val (tI xs), .val (.int n), .val (.int deep), .un, .un]) = .ok d ∧ _
  unfold g_l_spoilt_85ed
  have pl : pLen (.list (waysV xs.length)) = .ok (.int ((xs.length : Int) + 1)) := by
    show Res.ok (PyData.int ((waysV xs.length).length : Int)) = _
    rw [waysV_len]
    rfl
  obtain ⟨k, hk, hk2⟩ := nat_mod n (n := (xs.length : Int) + 1) (by omega)
  obtain ⟨w, hw, ew⟩ := pIx_any (ds := waysV xs.length) (k := (k : Int)) (by omega) (by rw [waysV_len]; omega)
  have by_ok : ∀ d : P, (dCall d_l_otherwise (aCons (dVar 5) (aCons (dOp pDiv (dVar 1) (dC (.int 4096))) aNil))) (lamD 5 1 n d) = d_l_otherwise [d, .int (n / 4096)] := fun d => by
    show (dCall d_l_otherwise (aCons (dVar 5) (aCons (dOp pDiv (dVar 1) (dC (.int 4096))) aNil))) [.un, .val (.int n), .un, .un, .un, .val d] = _
    simp -implicitDefEqProofs (disch := omega) only [sRaise_ap, andThen_exc, resOf_exc, bind_exc, ofR_exc, sTryAs_ap, sTry_ap, tryTo_nx, tryTo_ret, tryO_nx, tryO_ret, still_ret, still_nx, unE_ret, unE_nx, dIsE_zero, dIsE_succ, pMod_int, pDiv_int, zipOf_tI, enumOf_tI, lI_of, pLen_lI, enumOf_lI, itemsOf_lI, sizedL_one, sizedL_two, pListOf_lI, pListOf_tI, dStep_ap, ixpair_ok, six_ok, pair_ok, dVar_zero, dVar_succ, dOwn_zero, dOwn_succ, dC_ap, dOp_ap, dUn_ap, dL_ap, dT_ap, dAnd_ap, dOr_ap, dNot_ap, tAndD_ap, tOrD_ap, tNotD_ap, dChain_ap, aNil_ap, aCons_ap, dTupl_ap, dList_ap, dCall_ap, oNone_ap, oSome_ap, dSl_ap, iUn_ap, iOp_ap, dComp_ap, cYes_ap, partOf_int, truthOf_bool, sSeq_ap, andThen_nx, andThen_ret, sNil_ap, sPass_ap, sRet_ap, sExpr_ap, sSet_ap, sSetOwn_ap, sIf_ap, sFor_ap, sPair_ap, sPar_ap, sApp_ap, sStore_ap, sPop_ap, sFrz_ap, frz_zero, frz_succ, ownAt_zero, ownAt_succ, ownTo_some, NxTo_nx, NxIf_nx, ofR_ok, Res.bind_ok, Res.mute_ok, set_zero, set_succ, wipe_nil, wipe_cons, bN_ap, bP_ap, resOf_ret, tI_nil, tI_one, pLen_tI, pSl_tI, itemsOf_tI, pLen_scr, pEq_tI, pNe_tI, pEq_lI, pNe_lI, pEq_int, pNe_int, pEq_bool, pNe_bool, pAdd_int, pSub_int, pNeg_int, pLt_int, pLe_int, pGt_int, pGe_int, pMax_int, pMin_int, pInt_int, pInt_bool, pIs_bool, pIsNot_bool, pTuple_lI, pTuple_tI, pSum_lI, sized_nil, sizedL_nil, sized_one, if_true, if_false, Bool.false_eq_true, decide_true, decide_false, Bool.not_true, Bool.not_false, reduceIte, eq_self]
  have key : ∃ r, putV g_l_put_at (fun d => (dCall d_l_otherwise (aCons (dVar 5) (aCons (dOp pDiv (dVar 1) (dC (.int 4096))) aNil))) (lamD 5 1 n d)) 2 (tI xs) w = .ok r ∧ Thing r := by
    unfold waysV at hw
    rcases List.mem_cons.mp hw with rfl | hw
    · obtain ⟨d, ed, hd⟩ := oth_tup hl (n / 4096)
      exact ⟨d, putV_ok fun f => put_here (u := 1) (by rw [by_ok]; exact ed), hd⟩
    · obtain ⟨j, hj, rfl⟩ := List.mem_map.mp hw
      have hj := List.mem_range.mp hj
      have xin := at0_in hx hq0 j
      obtain ⟨p, ep, hp⟩ := oth_int (x := at0 xs j) (by omega) (by omega) (n / 4096)
      refine ⟨_, putV_ok fun f => put_in (u := 0) hj hl (by rw [by_ok]; exact ep), thing_tup (n := 5) (fun d hd => ?_) ?_⟩
      · simp only [List.mem_append, List.mem_map, List.mem_singleton] at hd
        rcases hd with (⟨z, _, rfl⟩ | rfl) | ⟨z, _, rfl⟩
        · exact nice_int z
        · exact hp.1
        · exact nice_int z
      · rw [List.length_append, List.length_append, List.length_map, List.length_map, List.length_take, List.length_singleton, List.length_drop]
        omega
  obtain ⟨r, er, hr⟩ := key
  have ep : dPut g_l_put_at (dCall d_l_otherwise (aCons (dVar 5) (aCons (dOp pDiv (dVar 1) (dC (.int 4096))) aNil))) 5 1 2 (dVar 0) (dVar 4) [.val (tI xs), .val (.int n), .val (.int deep), .val (.list (waysV xs.length)), .val w] = .ok r := er
  simp -implicitDefEqProofs (disch := omega) only [sRaise_ap, andThen_exc, resOf_exc, bind_exc, ofR_exc, sTryAs_ap, sTry_ap, tryTo_nx, tryTo_ret, tryO_nx, tryO_ret, still_ret, still_nx, unE_ret, unE_nx, dIsE_zero, dIsE_succ, pMod_int, pDiv_int, zipOf_tI, enumOf_tI, lI_of, pLen_lI, enumOf_lI, itemsOf_lI, sizedL_one, sizedL_two, pListOf_lI, pListOf_tI, dStep_ap, ixpair_ok, six_ok, pair_ok, dVar_zero, dVar_succ, dOwn_zero, dOwn_succ, dC_ap, dOp_ap, dUn_ap, dL_ap, dT_ap, dAnd_ap, dOr_ap, dNot_ap, tAndD_ap, tOrD_ap, tNotD_ap, dChain_ap, aNil_ap, aCons_ap, dTupl_ap, dList_ap, dCall_ap, oNone_ap, oSome_ap, dSl_ap, iUn_ap, iOp_ap, dComp_ap, cYes_ap, partOf_int, truthOf_bool, sSeq_ap, andThen_nx, andThen_ret, sNil_ap, sPass_ap, sRet_ap, sExpr_ap, sSet_ap, sSetOwn_ap, sIf_ap, sFor_ap, sPair_ap, sPar_ap, sApp_ap, sStore_ap, sPop_ap, sFrz_ap, frz_zero, frz_succ, ownAt_zero, ownAt_succ, ownTo_some, NxTo_nx, NxIf_nx, ofR_ok, Res.bind_ok, Res.mute_ok, set_zero, set_succ, wipe_nil, wipe_cons, bN_ap, bP_ap, resOf_ret, tI_nil, tI_one, pLen_tI, pSl_tI, itemsOf_tI, pLen_scr, pEq_tI, pNe_tI, pEq_lI, pNe_lI, pEq_int, pNe_int, pEq_bool, pNe_bool, pAdd_int, pSub_int, pNeg_int, pLt_int, pLe_int, pGt_int, pGe_int, pMax_int, pMin_int, pInt_int, pInt_bool, pIs_bool, pIsNot_bool, pTuple_lI, pTuple_tI, pSum_lI, sized_nil, sizedL_nil, sized_one, if_true, if_false, Bool.false_eq_true, decide_true, decide_false, Bool.not_true, Bool.not_false, reduceIte, eq_self, places_ok hl, pl, hk, ew, ep]
  exact ⟨r, rfl, hr⟩
theorem once_ok (ns : List Int) : d_l_once [lI ns] = .ok (.bool true) := by
  show resOf (g_l_once [.val (lI ns), .un, .un, .un, .un]) = _
  unfold g_l_once
  obtain ⟨m0, e0, m0a, m0b⟩ := mixedL_ok ns (k := 0) (by omega) (by omega)
  obtain ⟨m1, e1, m1a, m1b⟩ := mixedL_ok ns (k := 1) (by omega) (by omega)
  obtain ⟨m2, e2, m2a, m2b⟩ := mixedL_ok ns (k := 2) (by omega) (by omega)
  obtain ⟨m3, e3, _⟩ := mixedL_ok ns (k := 3) (by omega) (by omega)
  obtain ⟨m4, e4, _⟩ := mixedL_ok ns (k := 4) (by omega) (by omega)
  obtain ⟨q, eq, hq⟩ := clock_ok m0
  obtain ⟨hq2, hq13⟩ := clock_le hq
  have hq0 : 0 < q := by omega
  obtain ⟨row, ew, hwl, hwr⟩ := row_ok m1 hq2 hq13 (most := 16) (by omega) (by omega)
  obtain ⟨long, el, hll, hlr⟩ := numbers_ok m1 (q := q) (many := 30 + m2 / 8 % 2) (by omega) hq13 (by omega) (by omega)
  simp -implicitDefEqProofs (disch := omega) only [sRaise_ap, andThen_exc, resOf_exc, bind_exc, ofR_exc, sTryAs_ap, sTry_ap, tryTo_nx, tryTo_ret, tryO_nx, tryO_ret, still_ret, still_nx, unE_ret, unE_nx, dIsE_zero, dIsE_succ, pMod_int, pDiv_int, zipOf_tI, enumOf_tI, lI_of, pLen_lI, enumOf_lI, itemsOf_lI, sizedL_one, sizedL_two, pListOf_lI, pListOf_tI, dStep_ap, ixpair_ok, six_ok, pair_ok, dVar_zero, dVar_succ, dOwn_zero, dOwn_succ, dC_ap, dOp_ap, dUn_ap, dL_ap, dT_ap, dAnd_ap, dOr_ap, dNot_ap, tAndD_ap, tOrD_ap, tNotD_ap, dChain_ap, aNil_ap, aCons_ap, dTupl_ap, dList_ap, dCall_ap, oNone_ap, oSome_ap, dSl_ap, iUn_ap, iOp_ap, dComp_ap, cYes_ap, partOf_int, truthOf_bool, sSeq_ap, andThen_nx, andThen_ret, sNil_ap, sPass_ap, sRet_ap, sExpr_ap, sSet_ap, sSetOwn_ap, sFor_ap, sPair_ap, sPar_ap, sApp_ap, sStore_ap, sPop_ap, sFrz_ap, frz_zero, frz_succ, ownAt_zero, ownAt_succ, ownTo_some, NxTo_nx, NxIf_nx, ofR_ok, Res.bind_ok, Res.mute_ok, set_zero, set_succ, wipe_nil, wipe_cons, bN_ap, bP_ap, resOf_ret, tI_nil, tI_one, pLen_tI, pSl_tI, itemsOf_tI, pLen_scr, pEq_tI, pNe_tI, pEq_lI, pNe_lI, pEq_int, pNe_int, pEq_bool, pNe_bool, pAdd_int, pSub_int, pNeg_int, pLt_int, pLe_int, pGt_int, pGe_int, pMax_int, pMin_int, pInt_int, pInt_bool, pIs_bool, pIsNot_bool, pTuple_lI, pTuple_tI, pSum_lI, sized_nil, sizedL_nil, sized_one, if_true, if_false, Bool.false_eq_true, decide_true, decide_false, Bool.not_true, Bool.not_false, reduceIte, eq_self, e0, eq]
  simp -implicitDefEqProofs (disch := omega) only [sRaise_ap, andThen_exc, resOf_exc, bind_exc, ofR_exc, sTryAs_ap, sTry_ap, tryTo_nx, tryTo_ret, tryO_nx, tryO_ret, still_ret, still_nx, unE_ret, unE_nx, dIsE_zero, dIsE_succ, pMod_int, pDiv_int, zipOf_tI, enumOf_tI, lI_of, pLen_lI, enumOf_lI, itemsOf_lI, sizedL_one, sizedL_two, pListOf_lI, pListOf_tI, dStep_ap, ixpair_ok, six_ok, pair_ok, dVar_zero, dVar_succ, dOwn_zero, dOwn_succ, dC_ap, dOp_ap, dUn_ap, dL_ap, dT_ap, dAnd_ap, dOr_ap, dNot_ap, tAndD_ap, tOrD_ap, tNotD_ap, dChain_ap, aNil_ap, aCons_ap, dTupl_ap, dList_ap, dCall_ap, oNone_ap, oSome_ap, dSl_ap, iUn_ap, iOp_ap, dComp_ap, cYes_ap, partOf_int, truthOf_bool, sSeq_ap, andThen_nx, andThen_ret, sNil_ap, sPass_ap, sRet_ap, sExpr_ap, sSet_ap, sSetOwn_ap, sFor_ap, sPair_ap, sPar_ap, sApp_ap, sStore_ap, sPop_ap, sFrz_ap, frz_zero, frz_succ, ownAt_zero, ownAt_succ, ownTo_some, NxTo_nx, NxIf_nx, ofR_ok, Res.bind_ok, Res.mute_ok, set_zero, set_succ, wipe_nil, wipe_cons, bN_ap, bP_ap, resOf_ret, tI_nil, tI_one, pLen_tI, pSl_tI, itemsOf_tI, pLen_scr, pEq_tI, pNe_tI, pEq_lI, pNe_lI, pEq_int, pNe_int, pEq_bool, pNe_bool, pAdd_int, pSub_int, pNeg_int, pLt_int, pLe_int, pGt_int, pGe_int, pMax_int, pMin_int, pInt_int, pInt_bool, pIs_bool, pIsNot_bool, pTuple_lI, pTuple_tI, pSum_lI, sized_nil, sizedL_nil, sized_one, if_true, if_false, Bool.false_eq_true, decide_true, decide_false, Bool.not_true, Bool.not_false, reduceIte, eq_self, e1, ew, e2]
  generalize hF : sIf _ _ _ _ = r
  have HH := if_ind' hF (decide (m2 % 8 = 3)) (fun δ => ∃ xs : List Int, δ = [.val (lI ns), .val (.int q), .val (tI xs), .val (.int m2), .un] ∧ xs.length ≤ 31 ∧ InR q xs) ?hc ?hg ?hh
  case hc => simp -implicitDefEqProofs (disch := omega) only [sRaise_ap, andThen_exc, resOf_exc, bind_exc, ofR_exc, sTryAs_ap, sTry_ap, tryTo_nx, tryTo_ret, tryO_nx, tryO_ret, still_ret, still_nx, unE_ret, unE_nx, dIsE_zero, dIsE_succ, pMod_int, pDiv_int, zipOf_tI, enumOf_tI, lI_of, pLen_lI, enumOf_lI, itemsOf_lI, sizedL_one, sizedL_two, pListOf_lI, pListOf_tI, dStep_ap, ixpair_ok, six_ok, pair_ok, dVar_zero, dVar_succ, dOwn_zero, dOwn_succ, dC_ap, dOp_ap, dUn_ap, dL_ap, dT_ap, dAnd_ap, dOr_ap, dNot_ap, tAndD_ap, tOrD_ap, tNotD_ap, dChain_ap, aNil_ap, aCons_ap, dTupl_ap, dList_ap, dCall_ap, oNone_ap, oSome_ap, dSl_ap, iUn_ap, iOp_ap, dComp_ap, cYes_ap, partOf_int, truthOf_bool, sSeq_ap, andThen_nx, andThen_ret, sNil_ap, sPass_ap, sRet_ap, sExpr_ap, sSet_ap, sSetOwn_ap, sFor_ap, sPair_ap, sPar_ap, sApp_ap, sStore_ap, sPop_ap, sFrz_ap, frz_zero, frz_succ, ownAt_zero, ownAt_succ, ownTo_some, NxTo_nx, NxIf_nx, ofR_ok, Res.bind_ok, Res.mute_ok, set_zero, set_succ, wipe_nil, wipe_cons, bN_ap, bP_ap, resOf_ret, tI_nil, tI_one, pLen_tI, pSl_tI, itemsOf_tI, pLen_scr, pEq_tI, pNe_tI, pEq_lI, pNe_lI, pEq_int, pNe_int, pEq_bool, pNe_bool, pAdd_int, pSub_int, pNeg_int, pLt_int, pLe_int, pGt_int, pGe_int, pMax_int, pMin_int, pInt_int, pInt_bool, pIs_bool, pIsNot_bool, pTuple_lI, pTuple_tI, pSum_lI, sized_nil, sizedL_nil, sized_one, if_true, if_false, Bool.false_eq_true, decide_true, decide_false, Bool.not_true, Bool.not_false, reduceIte, eq_self]
  case hh =>
    intro _
    simp -implicitDefEqProofs (disch := omega) only [sRaise_ap, andThen_exc, resOf_exc, bind_exc, ofR_exc, sTryAs_ap, sTry_ap, tryTo_nx, tryTo_ret, tryO_nx, tryO_ret, still_ret, still_nx, unE_ret, unE_nx, dIsE_zero, dIsE_succ, pMod_int, pDiv_int, zipOf_tI, enumOf_tI, lI_of, pLen_lI, enumOf_lI, itemsOf_lI, sizedL_one, sizedL_two, pListOf_lI, pListOf_tI, dStep_ap, ixpair_ok, six_ok, pair_ok, dVar_zero, dVar_succ, dOwn_zero, dOwn_succ, dC_ap, dOp_ap, dUn_ap, dL_ap, dT_ap, dAnd_ap, dOr_ap, dNot_ap, tAndD_ap, tOrD_ap, tNotD_ap, dChain_ap, aNil_ap, aCons_ap, dTupl_ap, dList_ap, dCall_ap, oNone_ap, oSome_ap, dSl_ap, iUn_ap, iOp_ap, dComp_ap, cYes_ap, partOf_int, truthOf_bool, sSeq_ap, andThen_nx, andThen_ret, sNil_ap, sPass_ap, sRet_ap, sExpr_ap, sSet_ap, sSetOwn_ap, sFor_ap, sPair_ap, sPar_ap, sApp_ap, sStore_ap, sPop_ap, sFrz_ap, frz_zero, frz_succ, ownAt_zero, ownAt_succ, ownTo_some, NxTo_nx, NxIf_nx, ofR_ok, Res.bind_ok, Res.mute_ok, set_zero, set_succ, wipe_nil, wipe_cons, bN_ap, bP_ap, resOf_ret, tI_nil, tI_one, pLen_tI, pSl_tI, itemsOf_tI, pLen_scr, pEq_tI, pNe_tI, pEq_lI, pNe_lI, pEq_int, pNe_int, pEq_bool, pNe_bool, pAdd_int, pSub_int, pNeg_int, pLt_int, pLe_int, pGt_int, pGe_int, pMax_int, pMin_int, pInt_int, pInt_bool, pIs_bool, pIsNot_bool, pTuple_lI, pTuple_tI, pSum_lI, sized_nil, sizedL_nil, sized_one, if_true, if_false, Bool.false_eq_true, decide_true, decide_false, Bool.not_true, Bool.not_false, reduceIte, eq_self]
    exact ⟨row, rfl, by omega, hwr⟩
  case hg =>
    intro _
    simp -implicitDefEqProofs (disch := omega) only [sRaise_ap, andThen_exc, resOf_exc, bind_exc, ofR_exc, sTryAs_ap, sTry_ap, tryTo_nx, tryTo_ret, tryO_nx, tryO_ret, still_ret, still_nx, unE_ret, unE_nx, dIsE_zero, dIsE_succ, pMod_int, pDiv_int, zipOf_tI, enumOf_tI, lI_of, pLen_lI, enumOf_lI, itemsOf_lI, sizedL_one, sizedL_two, pListOf_lI, pListOf_tI, dStep_ap, ixpair_ok, six_ok, pair_ok, dVar_zero, dVar_succ, dOwn_zero, dOwn_succ, dC_ap, dOp_ap, dUn_ap, dL_ap, dT_ap, dAnd_ap, dOr_ap, dNot_ap, tAndD_ap, tOrD_ap, tNotD_ap, dChain_ap, aNil_ap, aCons_ap, dTupl_ap, dList_ap, dCall_ap, oNone_ap, oSome_ap, dSl_ap, iUn_ap, iOp_ap, dComp_ap, cYes_ap, partOf_int, truthOf_bool, sSeq_ap, andThen_nx, andThen_ret, sNil_ap, sPass_ap, sRet_ap, sExpr_ap, sSet_ap, sSetOwn_ap, sFor_ap, sPair_ap, sPar_ap, sApp_ap, sStore_ap, sPop_ap, sFrz_ap, frz_zero, frz_succ, ownAt_zero, ownAt_succ, ownTo_some, NxTo_nx, NxIf_nx, ofR_ok, Res.bind_ok, Res.mute_ok, set_zero, set_succ, wipe_nil, wipe_cons, bN_ap, bP_ap, resOf_ret, tI_nil, tI_one, pLen_tI, pSl_tI, itemsOf_tI, pLen_scr, pEq_tI, pNe_tI, pEq_lI, pNe_lI, pEq_int, pNe_int, pEq_bool, pNe_bool, pAdd_int, pSub_int, pNeg_int, pLt_int, pLe_int, pGt_int, pGe_int, pMax_int, pMin_int, pInt_int, pInt_bool, pIs_bool, pIsNot_bool, pTuple_lI, pTuple_tI, pSum_lI, sized_nil, sizedL_nil, sized_one, if_true, if_false, Bool.false_eq_true, decide_true, decide_false, Bool.not_true, Bool.not_false, reduceIte, eq_self, e1, el]
    exact ⟨long, rfl, by omega, hlr⟩
  obtain ⟨δ, rfl, xs, rfl, hxl, hxr⟩ := HH
  obtain ⟨sd, es, hs⟩ := spoilt_ok hxr hq13 hq0 hxl m4 (m3 / 2 % 3)
  simp -implicitDefEqProofs (disch := omega) only [sRaise_ap, andThen_exc, resOf_exc, bind_exc, ofR_exc, sTryAs_ap, sTry_ap, tryTo_nx, tryTo_ret, tryO_nx, tryO_ret, still_ret, still_nx, unE_ret, unE_nx, dIsE_zero, dIsE_succ, pMod_int, pDiv_int, zipOf_tI, enumOf_tI, lI_of, pLen_lI, enumOf_lI, itemsOf_lI, sizedL_one, sizedL_two, pListOf_lI, pListOf_tI, dStep_ap, ixpair_ok, six_ok, pair_ok, dVar_zero, dVar_succ, dOwn_zero, dOwn_succ, dC_ap, dOp_ap, dUn_ap, dL_ap, dT_ap, dAnd_ap, dOr_ap, dNot_ap, tAndD_ap, tOrD_ap, tNotD_ap, dChain_ap, aNil_ap, aCons_ap, dTupl_ap, dList_ap, dCall_ap, oNone_ap, oSome_ap, dSl_ap, iUn_ap, iOp_ap, dComp_ap, cYes_ap, partOf_int, truthOf_bool, sSeq_ap, andThen_nx, andThen_ret, sNil_ap, sPass_ap, sRet_ap, sExpr_ap, sSet_ap, sSetOwn_ap, sFor_ap, sPair_ap, sPar_ap, sApp_ap, sStore_ap, sPop_ap, sFrz_ap, frz_zero, frz_succ, ownAt_zero, ownAt_succ, ownTo_some, NxTo_nx, NxIf_nx, ofR_ok, Res.bind_ok, Res.mute_ok, set_zero, set_succ, wipe_nil, wipe_cons, bN_ap, bP_ap, resOf_ret, tI_nil, tI_one, pLen_tI, pSl_tI, itemsOf_tI, pLen_scr, pEq_tI, pNe_tI, pEq_lI, pNe_lI, pEq_int, pNe_int, pEq_bool, pNe_bool, pAdd_int, pSub_int, pNeg_int, pLt_int, pLe_int, pGt_int, pGe_int, pMax_int, pMin_int, pInt_int, pInt_bool, pIs_bool, pIsNot_bool, pTuple_lI, pTuple_tI, pSum_lI, sized_nil, sizedL_nil, sized_one, if_true, if_false, Bool.false_eq_true, decide_true, decide_false, Bool.not_true, Bool.not_false, reduceIte, eq_self]
  generalize hF : sIf _ _ _ _ = r
  have HH := if_ind' hF (decide (m3 % 2 = 1)) (fun δ => ∃ d : P, δ = [.val (lI ns), .val (.int q), .val d, .val (.int m2), .un] ∧ Thing d) ?hc2 ?hg2 ?hh2
  case hc2 => simp -implicitDefEqProofs (disch := omega) only [sRaise_ap, andThen_exc, resOf_exc, bind_exc, ofR_exc, sTryAs_ap, sTry_ap, tryTo_nx, tryTo_ret, tryO_nx, tryO_ret, still_ret, still_nx, unE_ret, unE_nx, dIsE_zero, dIsE_succ, pMod_int, pDiv_int, zipOf_tI, enumOf_tI, lI_of, pLen_lI, enumOf_lI, itemsOf_lI, sizedL_one, sizedL_two, pListOf_lI, pListOf_tI, dStep_ap, ixpair_ok, six_ok, pair_ok, dVar_zero, dVar_succ, dOwn_zero, dOwn_succ, dC_ap, dOp_ap, dUn_ap, dL_ap, dT_ap, dAnd_ap, dOr_ap, dNot_ap, tAndD_ap, tOrD_ap, tNotD_ap, dChain_ap, aNil_ap, aCons_ap, dTupl_ap, dList_ap, dCall_ap, oNone_ap, oSome_ap, dSl_ap, iUn_ap, iOp_ap, dComp_ap, cYes_ap, partOf_int, truthOf_bool, sSeq_ap, andThen_nx, andThen_ret, sNil_ap, sPass_ap, sRet_ap, sExpr_ap, sSet_ap, sSetOwn_ap, sFor_ap, sPair_ap, sPar_ap, sApp_ap, sStore_ap, sPop_ap, sFrz_ap, frz_zero, frz_succ, ownAt_zero, ownAt_succ, ownTo_some, NxTo_nx, NxIf_nx, ofR_ok, Res.bind_ok, Res.mute_ok, set_zero, set_succ, wipe_nil, wipe_cons, bN_ap, bP_ap, resOf_ret, tI_nil, tI_one, pLen_tI, pSl_tI, itemsOf_tI, pLen_scr, pEq_tI, pNe_tI, pEq_lI, pNe_lI, pEq_int, pNe_int, pEq_bool, pNe_bool, pAdd_int, pSub_int, pNeg_int, pLt_int, pLe_int, pGt_int, pGe_int, pMax_int, pMin_int, pInt_int, pInt_bool, pIs_bool, pIsNot_bool, pTuple_lI, pTuple_tI, pSum_lI, sized_nil, sizedL_nil, sized_one, if_true, if_false, Bool.false_eq_true, decide_true, decide_false, Bool.not_true, Bool.not_false, reduceIte, eq_self, e3]
  case hh2 =>
    intro _
    simp -implicitDefEqProofs (disch := omega) only [sRaise_ap, andThen_exc, resOf_exc, bind_exc, ofR_exc, sTryAs_ap, sTry_ap, tryTo_nx, tryTo_ret, tryO_nx, tryO_ret, still_ret, still_nx, unE_ret, unE_nx, dIsE_zero, dIsE_succ, pMod_int, pDiv_int, zipOf_tI, enumOf_tI, lI_of, pLen_lI, enumOf_lI, itemsOf_lI, sizedL_one, sizedL_two, pListOf_lI, pListOf_tI, dStep_ap, ixpair_ok, six_ok, pair_ok, dVar_zero, dVar_succ, dOwn_zero, dOwn_succ, dC_ap, dOp_ap, dUn_ap, dL_ap, dT_ap, dAnd_ap, dOr_ap, dNot_ap, tAndD_ap, tOrD_ap, tNotD_ap, dChain_ap, aNil_ap, aCons_ap, dTupl_ap, dList_ap, dCall_ap, oNone_ap, oSome_ap, dSl_ap, iUn_ap, iOp_ap, dComp_ap, cYes_ap, partOf_int, truthOf_bool, sSeq_ap, andThen_nx, andThen_ret, sNil_ap, sPass_ap, sRet_ap, sExpr_ap, sSet_ap, sSetOwn_ap, sFor_ap, sPair_ap, sPar_ap, sApp_ap, sStore_ap, sPop_ap, sFrz_ap, frz_zero, frz_succ, ownAt_zero, ownAt_succ, ownTo_some, NxTo_nx, NxIf_nx, ofR_ok, Res.bind_ok, Res.mute_ok, set_zero, set_succ, wipe_nil, wipe_cons, bN_ap, bP_ap, resOf_ret, tI_nil, tI_one, pLen_tI, pSl_tI, itemsOf_tI, pLen_scr, pEq_tI, pNe_tI, pEq_lI, pNe_lI, pEq_int, pNe_int, pEq_bool, pNe_bool, pAdd_int, pSub_int, pNeg_int, pLt_int, pLe_int, pGt_int, pGe_int, pMax_int, pMin_int, pInt_int, pInt_bool, pIs_bool, pIsNot_bool, pTuple_lI, pTuple_tI, pSum_lI, sized_nil, sizedL_nil, sized_one, if_true, if_false, Bool.false_eq_true, decide_true, decide_false, Bool.not_true, Bool.not_false, reduceIte, eq_self]
    exact ⟨_, rfl, thing_tI (by omega)⟩
  case hg2 =>
    intro _
    simp -implicitDefEqProofs (disch := omega) only [sRaise_ap, andThen_exc, resOf_exc, bind_exc, ofR_exc, sTryAs_ap, sTry_ap, tryTo_nx, tryTo_ret, tryO_nx, tryO_ret, still_ret, still_nx, unE_ret, unE_nx, dIsE_zero, dIsE_succ, pMod_int, pDiv_int, zipOf_tI, enumOf_tI, lI_of, pLen_lI, enumOf_lI, itemsOf_lI, sizedL_one, sizedL_two, pListOf_lI, pListOf_tI, dStep_ap, ixpair_ok, six_ok, pair_ok, dVar_zero, dVar_succ, dOwn_zero, dOwn_succ, dC_ap, dOp_ap, dUn_ap, dL_ap, dT_ap, dAnd_ap, dOr_ap, dNot_ap, tAndD_ap, tOrD_ap, tNotD_ap, dChain_ap, aNil_ap, aCons_ap, dTupl_ap, dList_ap, dCall_ap, oNone_ap, oSome_ap, dSl_ap, iUn_ap, iOp_ap, dComp_ap, cYes_ap, partOf_int, truthOf_bool, sSeq_ap, andThen_nx, andThen_ret, sNil_ap, sPass_ap, sRet_ap, sExpr_ap, sSet_ap, sSetOwn_ap, sFor_ap, sPair_ap, sPar_ap, sApp_ap, sStore_ap, sPop_ap, sFrz_ap, frz_zero, frz_succ, ownAt_zero, ownAt_succ, ownTo_some, NxTo_nx, NxIf_nx, ofR_ok, Res.bind_ok, Res.mute_ok, set_zero, set_succ, wipe_nil, wipe_cons, bN_ap, bP_ap, resOf_ret, tI_nil, tI_one, pLen_tI, pSl_tI, itemsOf_tI, pLen_scr, pEq_tI, pNe_tI, pEq_lI, pNe_lI, pEq_int, pNe_int, pEq_bool, pNe_bool, pAdd_int, pSub_int, pNeg_int, pLt_int, pLe_int, pGt_int, pGe_int, pMax_int, pMin_int, pInt_int, pInt_bool, pIs_bool, pIsNot_bool, pTuple_lI, pTuple_tI, pSum_lI, sized_nil, sizedL_nil, sized_one, if_true, if_false, Bool.false_eq_true, decide_true, decide_false, Bool.not_true, Bool.not_false, reduceIte, eq_self, e4, e3, es]
    exact ⟨_, rfl, hs⟩
  obtain ⟨δ, rfl, d, rfl, hd⟩ := HH
  simp -implicitDefEqProofs (disch := omega) only [sRaise_ap, andThen_exc, resOf_exc, bind_exc, ofR_exc, sTryAs_ap, sTry_ap, tryTo_nx, tryTo_ret, tryO_nx, tryO_ret, still_ret, still_nx, unE_ret, unE_nx, dIsE_zero, dIsE_succ, pMod_int, pDiv_int, zipOf_tI, enumOf_tI, lI_of, pLen_lI, enumOf_lI, itemsOf_lI, sizedL_one, sizedL_two, pListOf_lI, pListOf_tI, dStep_ap, ixpair_ok, six_ok, pair_ok, dVar_zero, dVar_succ, dOwn_zero, dOwn_succ, dC_ap, dOp_ap, dUn_ap, dL_ap, dT_ap, dAnd_ap, dOr_ap, dNot_ap, tAndD_ap, tOrD_ap, tNotD_ap, dChain_ap, aNil_ap, aCons_ap, dTupl_ap, dList_ap, dCall_ap, oNone_ap, oSome_ap, dSl_ap, iUn_ap, iOp_ap, dComp_ap, cYes_ap, partOf_int, truthOf_bool, sSeq_ap, andThen_nx, andThen_ret, sNil_ap, sPass_ap, sRet_ap, sExpr_ap, sSet_ap, sSetOwn_ap, sIf_ap, sFor_ap, sPair_ap, sPar_ap, sApp_ap, sStore_ap, sPop_ap, sFrz_ap, frz_zero, frz_succ, ownAt_zero, ownAt_succ, ownTo_some, NxTo_nx, NxIf_nx, ofR_ok, Res.bind_ok, Res.mute_ok, set_zero, set_succ, wipe_nil, wipe_cons, bN_ap, bP_ap, resOf_ret, tI_nil, tI_one, pLen_tI, pSl_tI, itemsOf_tI, pLen_scr, pEq_tI, pNe_tI, pEq_lI, pNe_lI, pEq_int, pNe_int, pEq_bool, pNe_bool, pAdd_int, pSub_int, pNeg_int, pLt_int, pLe_int, pGt_int, pGe_int, pMax_int, pMin_int, pInt_int, pInt_bool, pIs_bool, pIsNot_bool, pTuple_lI, pTuple_tI, pSum_lI, sized_nil, sizedL_nil, sized_one, if_true, if_false, Bool.false_eq_true, decide_true, decide_false, Bool.not_true, Bool.not_false, reduceIte, eq_self, lrow_any hd, prow_any hd, prule_any hd, same_ok]
end Ey

set_option Elab.async false
set_option linter.all false
set_option maxRecDepth 100000
set_option maxHeartbeats 4000000
namespace Ey
open PySem DL
local macro_rules | `(tactic| walk_at "ns") => `(tactic| simp -implicitDefEqProofs only [dVar_zero, dVar_succ, dOwn_zero, dOwn_succ, dC_ap, dOp_ap, dUn_ap, dL_ap, dT_ap, dAnd_ap, dOr_ap, dNot_ap, tAndD_ap, tOrD_ap, tNotD_ap, dChain_ap, aNil_ap, aCons_ap, dTupl_ap, dList_ap, dCall_ap, oNone_ap, oSome_ap, dSl_ap, iUn_ap, iOp_ap, dComp_ap, cYes_ap, partOf_int, truthOf_bool, sSeq_ap, andThen_nx, andThen_ret, sNil_ap, sPass_ap, sRet_ap, sExpr_ap, sSet_ap, sSetOwn_ap, sFor_ap, sPair_ap, sPar_ap, sApp_ap, sStore_ap, sPop_ap, sFrz_ap, frz_zero, frz_succ, ownAt_zero, ownAt_succ, ownTo_some, NxTo_nx, NxIf_nx, ofR_ok, Res.bind_ok, Res.mute_ok, set_zero, set_succ, wipe_nil, wipe_cons, bN_ap, bP_ap, resOf_ret, tI_nil, tI_one, pLen_tI, pSl_tI, itemsOf_tI, pLen_scr, pEq_tI, pNe_tI, pEq_lI, pNe_lI, pEq_int, pNe_int, pEq_bool, pNe_bool, pAdd_int, pSub_int, pNeg_int, pLt_int, pLe_int, pGt_int, pGe_int, pMax_int, pMin_int, pInt_int, pInt_bool, pIs_bool, pIsNot_bool, pTuple_lI, pTuple_tI, pSum_lI, sized_nil, sizedL_nil, sized_one, if_true, if_false, Bool.false_eq_true, decide_true, decide_false, Bool.not_true, Bool.not_false, reduceIte])
local macro_rules | `(tactic| walk_at "ev") => `(tactic| simp -implicitDefEqProofs only [dVar_zero, dVar_succ, dOwn_zero, dOwn_succ, dC_ap, dOp_ap, dUn_ap, dL_ap, dT_ap, dAnd_ap, dOr_ap, dNot_ap, tAndD_ap, tOrD_ap, tNotD_ap, dChain_ap, aNil_ap, aCons_ap, dTupl_ap, dList_ap, dCall_ap, oNone_ap, oSome_ap, dSl_ap, iUn_ap, iOp_ap, dComp_ap, cYes_ap, partOf_int, truthOf_bool, sSeq_ap, andThen_nx, andThen_ret, sNil_ap, sPass_ap, sRet_ap, sExpr_ap, sSet_ap, sSetOwn_ap, sIf_ap, sFor_ap, sPair_ap, sPar_ap, sApp_ap, sStore_ap, sPop_ap, sFrz_ap, frz_zero, frz_succ, ownAt_zero, ownAt_succ, ownTo_some, NxTo_nx, NxIf_nx, ofR_ok, Res.bind_ok, Res.mute_ok, set_zero, set_succ, wipe_nil, wipe_cons, bN_ap, bP_ap, resOf_ret, tI_nil, tI_one, pLen_tI, pSl_tI, itemsOf_tI, pLen_scr, pEq_tI, pNe_tI, pEq_lI, pNe_lI, pEq_int, pNe_int, pEq_bool, pNe_bool, pAdd_int, pSub_int, pNeg_int, pLt_int, pLe_int, pGt_int, pGe_int, pMax_int, pMin_int, pInt_int, pInt_bool, pIs_bool, pIsNot_bool, pTuple_lI, pTuple_tI, pSum_lI, sized_nil, sizedL_nil, sized_one, if_true, if_false, Bool.false_eq_true, decide_true, decide_false, Bool.not_true, Bool.not_false, reduceIte])
local macro_rules | `(tactic| walk_at "go") => `(tactic| simp -implicitDefEqProofs (disch := omega) only [sRaise_ap, andThen_exc, resOf_exc, bind_exc, ofR_exc, sTryAs_ap, sTry_ap, tryTo_nx, tryTo_ret, tryO_nx, tryO_ret, still_ret, still_nx, unE_ret, unE_nx, dIsE_zero, dIsE_succ, pMod_int, pDiv_int, zipOf_tI, enumOf_tI, lI_of, pLen_lI, enumOf_lI, itemsOf_lI, sizedL_one, sizedL_two, pListOf_lI, pListOf_tI, dStep_ap, ixpair_ok, six_ok, pair_ok, dVar_zero, dVar_succ, dOwn_zero, dOwn_succ, dC_ap, dOp_ap, dUn_ap, dL_ap, dT_ap, dAnd_ap, dOr_ap, dNot_ap, tAndD_ap, tOrD_ap, tNotD_ap, dChain_ap, aNil_ap, aCons_ap, dTupl_ap, dList_ap, dCall_ap, oNone_ap, oSome_ap, dSl_ap, iUn_ap, iOp_ap, dComp_ap, cYes_ap, partOf_int, truthOf_bool, sSeq_ap, andThen_nx, andThen_ret, sNil_ap, sPass_ap, sRet_ap, sExpr_ap, sSet_ap, sSetOwn_ap, sFor_ap, sPair_ap, sPar_ap, sApp_ap, sStore_ap, sPop_ap, sFrz_ap, frz_zero, frz_succ, ownAt_zero, ownAt_succ, ownTo_some, NxTo_nx, NxIf_nx, ofR_ok, Res.bind_ok, Res.mute_ok, set_zero, set_succ, wipe_nil, wipe_cons, bN_ap, bP_ap, resOf_ret, tI_nil, tI_one, pLen_tI, pSl_tI, itemsOf_tI, pLen_scr, pEq_tI, pNe_tI, pEq_lI, pNe_lI, pEq_int, pNe_int, pEq_bool, pNe_bool, pAdd_int, pSub_int, pNeg_int, pLt_int, pLe_int, pGt_int, pGe_int, pMax_int, pMin_int, pInt_int, pInt_bool, pIs_bool, pIsNot_bool, pTuple_lI, pTuple_tI, pSum_lI, sized_nil, sizedL_nil, sized_one, if_true, if_false, Bool.false_eq_true, decide_true, decide_false, Bool.not_true, Bool.not_false, reduceIte])
local macro_rules | `(tactic| walk_at "gi") => `(tactic| simp -implicitDefEqProofs (disch := omega) only [sRaise_ap, andThen_exc, resOf_exc, bind_exc, ofR_exc, sTryAs_ap, sTry_ap, tryTo_nx, tryTo_ret, tryO_nx, tryO_ret, still_ret, still_nx, unE_ret, unE_nx, dIsE_zero, dIsE_succ, pMod_int, pDiv_int, zipOf_tI, enumOf_tI, lI_of, pLen_lI, enumOf_lI, itemsOf_lI, sizedL_one, sizedL_two, pListOf_lI, pListOf_tI, dStep_ap, ixpair_ok, six_ok, pair_ok, dVar_zero, dVar_succ, dOwn_zero, dOwn_succ, dC_ap, dOp_ap, dUn_ap, dL_ap, dT_ap, dAnd_ap, dOr_ap, dNot_ap, tAndD_ap, tOrD_ap, tNotD_ap, dChain_ap, aNil_ap, aCons_ap, dTupl_ap, dList_ap, dCall_ap, oNone_ap, oSome_ap, dSl_ap, iUn_ap, iOp_ap, dComp_ap, cYes_ap, partOf_int, truthOf_bool, sSeq_ap, andThen_nx, andThen_ret, sNil_ap, sPass_ap, sRet_ap, sExpr_ap, sSet_ap, sSetOwn_ap, sIf_ap, sFor_ap, sPair_ap, sPar_ap, sApp_ap, sStore_ap, sPop_ap, sFrz_ap, frz_zero, frz_succ, ownAt_zero, ownAt_succ, ownTo_some, NxTo_nx, NxIf_nx, ofR_ok, Res.bind_ok, Res.mute_ok, set_zero, set_succ, wipe_nil, wipe_cons, bN_ap, bP_ap, resOf_ret, tI_nil, tI_one, pLen_tI, pSl_tI, itemsOf_tI, pLen_scr, pEq_tI, pNe_tI, pEq_lI, pNe_lI, pEq_int, pNe_int, pEq_bool, pNe_bool, pAdd_int, pSub_int, pNeg_int, pLt_int, pLe_int, pGt_int, pGe_int, pMax_int, pMin_int, pInt_int, pInt_bool, pIs_bool, pIsNot_bool, pTuple_lI, pTuple_tI, pSum_lI, sized_nil, sizedL_nil, sized_one, if_true, if_false, Bool.false_eq_true, decide_true, decide_false, Bool.not_true, Bool.not_false, reduceIte])
local macro_rules | `(tactic| walk_at "ob") => `(tactic| simp -implicitDefEqProofs (disch := omega) only [sRaise_ap, andThen_exc, resOf_exc, bind_exc, ofR_exc, sTryAs_ap, sTry_ap, tryTo_nx, tryTo_ret, tryO_nx, tryO_ret, still_ret, still_nx, unE_ret, unE_nx, dIsE_zero, dIsE_succ, pMod_int, pDiv_int, zipOf_tI, enumOf_tI, lI_of, pLen_lI, enumOf_lI, itemsOf_lI, sizedL_one, sizedL_two, pListOf_lI, pListOf_tI, dStep_ap, ixpair_ok, six_ok, pair_ok, dVar_zero, dVar_succ, dOwn_zero, dOwn_succ, dC_ap, dOp_ap, dUn_ap, dL_ap, dT_ap, dAnd_ap, dOr_ap, dNot_ap, tAndD_ap, tOrD_ap, tNotD_ap, dChain_ap, aNil_ap, aCons_ap, dTupl_ap, dList_ap, dCall_ap, oNone_ap, oSome_ap, dSl_ap, iUn_ap, iOp_ap, dComp_ap, cYes_ap, partOf_int, truthOf_bool, sSeq_ap, andThen_nx, andThen_ret, sNil_ap, sPass_ap, sRet_ap, sExpr_ap, sSet_ap, sSetOwn_ap, sIf_ap, sFor_ap, sPair_ap, sPar_ap, sApp_ap, sStore_ap, sPop_ap, sFrz_ap, frz_zero, frz_succ, ownAt_zero, ownAt_succ, ownTo_some, NxTo_nx, NxIf_nx, ofR_ok, Res.bind_ok, Res.mute_ok, set_zero, set_succ, wipe_nil, wipe_cons, bN_ap, bP_ap, resOf_ret, tI_nil, tI_one, pLen_tI, pSl_tI, itemsOf_tI, pLen_scr, pEq_tI, pNe_tI, pEq_lI, pNe_lI, pEq_int, pNe_int, pEq_bool, pNe_bool, pAdd_int, pSub_int, pNeg_int, pLt_int, pLe_int, pGt_int, pGe_int, pMax_int, pMin_int, pInt_int, pInt_bool, pIs_bool, pIsNot_bool, pTuple_lI, pTuple_tI, pSum_lI, sized_nil, sizedL_nil, sized_one, if_true, if_false, Bool.false_eq_true, decide_true, decide_false, Bool.not_true, Bool.not_false, reduceIte, objAt_zero, objAt_succ, objTo_some, freeTo_free, dFld_ap, dDGet_ap, dKeys_ap, dDLen_ap, dMethR_ap, sFldSet_ap, sFldNew_ap, sDPut_ap, kTo_int, sMethM_ap, mTo_ok, sMake_ap, mkTo_ok, sRetO_ap, sRetE_ap, oTo_ok, sPairO_ap, dSecond_ap, msTo_some, andThen_retE, andThen_retO, fsL_size, fsL_wide, fsL_marks, List.length_cons, List.length_nil, Nat.reduceAdd, true_and, and_true, true_or, or_true])
local macro_rules | `(tactic| walk_at "lo") => `(tactic| simp -implicitDefEqProofs (disch := omega) only [sRaise_ap, andThen_exc, resOf_exc, bind_exc, ofR_exc, sTryAs_ap, sTry_ap, tryTo_nx, tryTo_ret, tryO_nx, tryO_ret, still_ret, still_nx, unE_ret, unE_nx, dIsE_zero, dIsE_succ, pMod_int, pDiv_int, zipOf_tI, enumOf_tI, lI_of, pLen_lI, enumOf_lI, itemsOf_lI, sizedL_one, sizedL_two, pListOf_lI, pListOf_tI, dStep_ap, ixpair_ok, six_ok, pair_ok, dVar_zero, dVar_succ, dOwn_zero, dOwn_succ, dC_ap, dOp_ap, dUn_ap, dL_ap, dT_ap, dAnd_ap, dOr_ap, dNot_ap, tAndD_ap, tOrD_ap, tNotD_ap, dChain_ap, aNil_ap, aCons_ap, dTupl_ap, dList_ap, dCall_ap, oNone_ap, oSome_ap, dSl_ap, iUn_ap, iOp_ap, dComp_ap, cYes_ap, partOf_int, truthOf_bool, sSeq_ap, andThen_nx, andThen_ret, sNil_ap, sPass_ap, sRet_ap, sExpr_ap, sSet_ap, sSetOwn_ap, sIf_ap, sFor_ap, sPair_ap, sPar_ap, sApp_ap, sStore_ap, sPop_ap, sFrz_ap, frz_zero, frz_succ, ownAt_zero, ownAt_succ, ownTo_some, NxTo_nx, NxIf_nx, ofR_ok, Res.bind_ok, Res.mute_ok, set_zero, set_succ, wipe_nil, wipe_cons, bN_ap, bP_ap, resOf_ret, tI_nil, tI_one, pLen_tI, pSl_tI, itemsOf_tI, pLen_scr, pEq_tI, pNe_tI, pEq_lI, pNe_lI, pEq_int, pNe_int, pEq_bool, pNe_bool, pAdd_int, pSub_int, pNeg_int, pLt_int, pLe_int, pGt_int, pGe_int, pMax_int, pMin_int, pInt_int, pInt_bool, pIs_bool, pIsNot_bool, pTuple_lI, pTuple_tI, pSum_lI, sized_nil, sizedL_nil, sized_one, if_true, if_false, Bool.false_eq_true, decide_true, decide_false, Bool.not_true, Bool.not_false, reduceIte, objAt_zero, objAt_succ, objTo_some, freeTo_free, dFld_ap, dDGet_ap, dKeys_ap, dDLen_ap, dMethR_ap, sFldSet_ap, sFldNew_ap, sDPut_ap, kTo_int, sMethM_ap, mTo_ok, sMake_ap, mkTo_ok, sRetO_ap, sRetE_ap, oTo_ok, sPairO_ap, dSecond_ap, msTo_some, andThen_retE, andThen_retO, fsL_size, fsL_wide, fsL_marks, List.length_cons, List.length_nil, Nat.reduceAdd, true_and, and_true, true_or, or_true, eMeth_ap, outG_ok, outG_exc, sIfNe_ap, ifNe_ret, sRetX_ap, retX_ret, retX_exc, tryTo_retE, unE_retE, dIsE2_zero, dIsE2_succ, fsI_size, fsI_row, fsI_gone, fsI_putRow, fsI_putGone, fsI_len, fsI_no, tI_noD, Nat.reduceLT])
theorem law_true : ∀ ns : List Int, ns.length ≤ 63 → d_l_law [scriptD ns] = .ok (.bool true) := by
  intro ns hl
  show resOf (g_l_law [.val (scriptD ns), .un, .un]) = _
  unfold g_l_law
  have rg := rangeOf1_int (n := 8) (by omega) (by omega)
  simp -implicitDefEqProofs (disch := omega) only [sRaise_ap, andThen_exc, resOf_exc, bind_exc, ofR_exc, sTryAs_ap, sTry_ap, tryTo_nx, tryTo_ret, tryO_nx, tryO_ret, still_ret, still_nx, unE_ret, unE_nx, dIsE_zero, dIsE_succ, pMod_int, pDiv_int, zipOf_tI, enumOf_tI, lI_of, pLen_lI, enumOf_lI, itemsOf_lI, sizedL_one, sizedL_two, pListOf_lI, pListOf_tI, dStep_ap, ixpair_ok, six_ok, pair_ok, dVar_zero, dVar_succ, dOwn_zero, dOwn_succ, dC_ap, dOp_ap, dUn_ap, dL_ap, dT_ap, dAnd_ap, dOr_ap, dNot_ap, tAndD_ap, tOrD_ap, tNotD_ap, dChain_ap, aNil_ap, aCons_ap, dTupl_ap, dList_ap, dCall_ap, oNone_ap, oSome_ap, dSl_ap, iUn_ap, iOp_ap, dComp_ap, cYes_ap, partOf_int, truthOf_bool, sSeq_ap, andThen_nx, andThen_ret, sNil_ap, sPass_ap, sRet_ap, sExpr_ap, sSet_ap, sSetOwn_ap, sIf_ap, sFor_ap, sPair_ap, sPar_ap, sApp_ap, sStore_ap, sPop_ap, sFrz_ap, frz_zero, frz_succ, ownAt_zero, ownAt_succ, ownTo_some, NxTo_nx, NxIf_nx, ofR_ok, Res.bind_ok, Res.mute_ok, set_zero, set_succ, wipe_nil, wipe_cons, bN_ap, bP_ap, resOf_ret, tI_nil, tI_one, pLen_tI, pSl_tI, itemsOf_tI, pLen_scr, pEq_tI, pNe_tI, pEq_lI, pNe_lI, pEq_int, pNe_int, pEq_bool, pNe_bool, pAdd_int, pSub_int, pNeg_int, pLt_int, pLe_int, pGt_int, pGe_int, pMax_int, pMin_int, pInt_int, pInt_bool, pIs_bool, pIsNot_bool, pTuple_lI, pTuple_tI, pSum_lI, sized_nil, sizedL_nil, sized_one, if_true, if_false, Bool.false_eq_true, decide_true, decide_false, Bool.not_true, Bool.not_false, reduceIte, eq_self, rg]
  generalize hF : forGo _ _ _ _ = r
  obtain ⟨δ, e2, hδ⟩ := for_ind' hF (fun i δ => ∃ s1, δ = [.val (scriptD ns), s1, .un]) ⟨.un, rfl⟩ fun i d δ hd ⟨s1, hδ⟩ => by
    subst hδ
    obtain ⟨rfl, hi⟩ := rangeItems_get hd
    refine ⟨_, rfl, ?_⟩
    have hi : (i : Int) < 8 := by
      have : (8 : Int).toNat = 8 := rfl
      omega
    have it : itemsOf (scriptD ns) = .ok (ns.map PyData.int) := rfl
    have cm := comp_in (ds := ns.map PyData.int) (by rw [List.length_map]; omega) (comp_int (bd := bN 2) (e := dOp pAdd (dVar 2) (dOp pMul (dC (.int 104729)) (dVar 1))) (δ := [.val (scriptD ns), .val (.int (0 + (i : Nat))), .un]) ns PyData.int (fun x => x + 104729 * (0 + (i : Nat))) fun a _ => ⟨_, rfl, by
      have m := pMul_l (x := 104729) (y := (0 + (i : Nat) : Int)) (by omega)
      simp -implicitDefEqProofs (disch := omega) only [sRaise_ap, andThen_exc, resOf_exc, bind_exc, ofR_exc, sTryAs_ap, sTry_ap, tryTo_nx, tryTo_ret, tryO_nx, tryO_ret, still_ret, still_nx, unE_ret, unE_nx, dIsE_zero, dIsE_succ, pMod_int, pDiv_int, zipOf_tI, enumOf_tI, lI_of, pLen_lI, enumOf_lI, itemsOf_lI, sizedL_one, sizedL_two, pListOf_lI, pListOf_tI, dStep_ap, ixpair_ok, six_ok, pair_ok, dVar_zero, dVar_succ, dOwn_zero, dOwn_succ, dC_ap, dOp_ap, dUn_ap, dL_ap, dT_ap, dAnd_ap, dOr_ap, dNot_ap, tAndD_ap, tOrD_ap, tNotD_ap, dChain_ap, aNil_ap, aCons_ap, dTupl_ap, dList_ap, dCall_ap, oNone_ap, oSome_ap, dSl_ap, iUn_ap, iOp_ap, dComp_ap, cYes_ap, partOf_int, truthOf_bool, sSeq_ap, andThen_nx, andThen_ret, sNil_ap, sPass_ap, sRet_ap, sExpr_ap, sSet_ap, sSetOwn_ap, sIf_ap, sFor_ap, sPair_ap, sPar_ap, sApp_ap, sStore_ap, sPop_ap, sFrz_ap, frz_zero, frz_succ, ownAt_zero, ownAt_succ, ownTo_some, NxTo_nx, NxIf_nx, ofR_ok, Res.bind_ok, Res.mute_ok, set_zero, set_succ, wipe_nil, wipe_cons, bN_ap, bP_ap, resOf_ret, tI_nil, tI_one, pLen_tI, pSl_tI, itemsOf_tI, pLen_scr, pEq_tI, pNe_tI, pEq_lI, pNe_lI, pEq_int, pNe_int, pEq_bool, pNe_bool, pAdd_int, pSub_int, pNeg_int, pLt_int, pLe_int, pGt_int, pGe_int, pMax_int, pMin_int, pInt_int, pInt_bool, pIs_bool, pIsNot_bool, pTuple_lI, pTuple_tI, pSum_lI, sized_nil, sizedL_nil, sized_one, if_true, if_false, Bool.false_eq_true, decide_true, decide_false, Bool.not_true, Bool.not_false, reduceIte, eq_self, m]⟩)
    have ad := pAddL_lI (xs := ns.map fun x => x + 104729 * (0 + (i : Nat) : Int)) (ys := [(0 + (i : Nat) : Int)]) (by rw [List.length_map, List.length_singleton]; omega)
    simp -implicitDefEqProofs (disch := omega) only [sRaise_ap, andThen_exc, resOf_exc, bind_exc, ofR_exc, sTryAs_ap, sTry_ap, tryTo_nx, tryTo_ret, tryO_nx, tryO_ret, still_ret, still_nx, unE_ret, unE_nx, dIsE_zero, dIsE_succ, pMod_int, pDiv_int, zipOf_tI, enumOf_tI, lI_of, pLen_lI, enumOf_lI, itemsOf_lI, sizedL_one, sizedL_two, pListOf_lI, pListOf_tI, dStep_ap, ixpair_ok, six_ok, pair_ok, dVar_zero, dVar_succ, dOwn_zero, dOwn_succ, dC_ap, dOp_ap, dUn_ap, dL_ap, dT_ap, dAnd_ap, dOr_ap, dNot_ap, tAndD_ap, tOrD_ap, tNotD_ap, dChain_ap, aNil_ap, aCons_ap, dTupl_ap, dList_ap, dCall_ap, oNone_ap, oSome_ap, dSl_ap, iUn_ap, iOp_ap, dComp_ap, cYes_ap, partOf_int, truthOf_bool, sSeq_ap, andThen_nx, andThen_ret, sNil_ap, sPass_ap, sRet_ap, sExpr_ap, sSet_ap, sSetOwn_ap, sIf_ap, sFor_ap, sPair_ap, sPar_ap, sApp_ap, sStore_ap, sPop_ap, sFrz_ap, frz_zero, frz_succ, ownAt_zero, ownAt_succ, ownTo_some, NxTo_nx, NxIf_nx, ofR_ok, Res.bind_ok, Res.mute_ok, set_zero, set_succ, wipe_nil, wipe_cons, bN_ap, bP_ap, resOf_ret, tI_nil, tI_one, pLen_tI, pSl_tI, itemsOf_tI, pLen_scr, pEq_tI, pNe_tI, pEq_lI, pNe_lI, pEq_int, pNe_int, pEq_bool, pNe_bool, pAdd_int, pSub_int, pNeg_int, pLt_int, pLe_int, pGt_int, pGe_int, pMax_int, pMin_int, pInt_int, pInt_bool, pIs_bool, pIsNot_bool, pTuple_lI, pTuple_tI, pSum_lI, sized_nil, sizedL_nil, sized_one, if_true, if_false, Bool.false_eq_true, decide_true, decide_false, Bool.not_true, Bool.not_false, reduceIte, eq_self, it]
    rw [cm]
    simp -implicitDefEqProofs (disch := omega) only [sRaise_ap, andThen_exc, resOf_exc, bind_exc, ofR_exc, sTryAs_ap, sTry_ap, tryTo_nx, tryTo_ret, tryO_nx, tryO_ret, still_ret, still_nx, unE_ret, unE_nx, dIsE_zero, dIsE_succ, pMod_int, pDiv_int, zipOf_tI, enumOf_tI, lI_of, pLen_lI, enumOf_lI, itemsOf_lI, sizedL_one, sizedL_two, pListOf_lI, pListOf_tI, dStep_ap, ixpair_ok, six_ok, pair_ok, dVar_zero, dVar_succ, dOwn_zero, dOwn_succ, dC_ap, dOp_ap, dUn_ap, dL_ap, dT_ap, dAnd_ap, dOr_ap, dNot_ap, tAndD_ap, tOrD_ap, tNotD_ap, dChain_ap, aNil_ap, aCons_ap, dTupl_ap, dList_ap, dCall_ap, oNone_ap, oSome_ap, dSl_ap, iUn_ap, iOp_ap, dComp_ap, cYes_ap, partOf_int, truthOf_bool, sSeq_ap, andThen_nx, andThen_ret, sNil_ap, sPass_ap, sRet_ap, sExpr_ap, sSet_ap, sSetOwn_ap, sIf_ap, sFor_ap, sPair_ap, sPar_ap, sApp_ap, sStore_ap, sPop_ap, sFrz_ap, frz_zero, frz_succ, ownAt_zero, ownAt_succ, ownTo_some, NxTo_nx, NxIf_nx, ofR_ok, Res.bind_ok, Res.mute_ok, set_zero, set_succ, wipe_nil, wipe_cons, bN_ap, bP_ap, resOf_ret, tI_nil, tI_one, pLen_tI, pSl_tI, itemsOf_tI, pLen_scr, pEq_tI, pNe_tI, pEq_lI, pNe_lI, pEq_int, pNe_int, pEq_bool, pNe_bool, pAdd_int, pSub_int, pNeg_int, pLt_int, pLe_int, pGt_int, pGe_int, pMax_int, pMin_int, pInt_int, pInt_bool, pIs_bool, pIsNot_bool, pTuple_lI, pTuple_tI, pSum_lI, sized_nil, sizedL_nil, sized_one, if_true, if_false, Bool.false_eq_true, decide_true, decide_false, Bool.not_true, Bool.not_false, reduceIte, eq_self, ad, once_ok]
    exact ⟨_, rfl⟩
  obtain ⟨s1, rfl⟩ := hδ
  subst e2
  simp -implicitDefEqProofs (disch := omega) only [sRaise_ap, andThen_exc, resOf_exc, bind_exc, ofR_exc, sTryAs_ap, sTry_ap, tryTo_nx, tryTo_ret, tryO_nx, tryO_ret, still_ret, still_nx, unE_ret, unE_nx, dIsE_zero, dIsE_succ, pMod_int, pDiv_int, zipOf_tI, enumOf_tI, lI_of, pLen_lI, enumOf_lI, itemsOf_lI, sizedL_one, sizedL_two, pListOf_lI, pListOf_tI, dStep_ap, ixpair_ok, six_ok, pair_ok, dVar_zero, dVar_succ, dOwn_zero, dOwn_succ, dC_ap, dOp_ap, dUn_ap, dL_ap, dT_ap, dAnd_ap, dOr_ap, dNot_ap, tAndD_ap, tOrD_ap, tNotD_ap, dChain_ap, aNil_ap, aCons_ap, dTupl_ap, dList_ap, dCall_ap, oNone_ap, oSome_ap, dSl_ap, iUn_ap, iOp_ap, dComp_ap, cYes_ap, partOf_int, truthOf_bool, sSeq_ap, andThen_nx, andThen_ret, sNil_ap, sPass_ap, sRet_ap, sExpr_ap, sSet_ap, sSetOwn_ap, sIf_ap, sFor_ap, sPair_ap, sPar_ap, sApp_ap, sStore_ap, sPop_ap, sFrz_ap, frz_zero, frz_succ, ownAt_zero, ownAt_succ, ownTo_some, NxTo_nx, NxIf_nx, ofR_ok, Res.bind_ok, Res.mute_ok, set_zero, set_succ, wipe_nil, wipe_cons, bN_ap, bP_ap, resOf_ret, tI_nil, tI_one, pLen_tI, pSl_tI, itemsOf_tI, pLen_scr, pEq_tI, pNe_tI, pEq_lI, pNe_lI, pEq_int, pNe_int, pEq_bool, pNe_bool, pAdd_int, pSub_int, pNeg_int, pLt_int, pLe_int, pGt_int, pGe_int, pMax_int, pMin_int, pInt_int, pInt_bool, pIs_bool, pIsNot_bool, pTuple_lI, pTuple_tI, pSum_lI, sized_nil, sizedL_nil, sized_one, if_true, if_false, Bool.false_eq_true, decide_true, decide_false, Bool.not_true, Bool.not_false, reduceIte, eq_self]
end Ey

set_option Elab.async false
set_option linter.all false
set_option maxRecDepth 100000
set_option maxHeartbeats 4000000
namespace Ey
open PySem L2 DL PyProof.Rows
def top (i : Nat) : Stmt := PySem.Challenge.pw_echoyard_k09_lists_anywhere.main.body.getD i (.Pass ⟨0, 0, 0, 0⟩)
/-- what the law leans on in its module -/
structure Txt (K : PySem.W.Frag) (mg : Str → Option Value) : Prop where
  n_isinstance : mg "isinstance" = none
  n_int : mg "int" = none
  n_bool : mg "bool" = none
  n_tuple : mg "tuple" = none
  n_len : mg "len" = none
  n_all : mg "all" = none
  n_sum : mg "sum" = none
  n_enumerate : mg "enumerate" = none
  n_range : mg "range" = none
  n_max : mg "max" = none
  n_list : mg "list" = none
  n_str : mg "str" = none
  c_MOST : GConst K mg "MOST" (.int 30)
section
variable [LTab] {P₀ : Program} {w : World} {K : PySem.W.Frag} {mg : Str → Option Value} {base : Heap}
abbrev s_p_is_whole : Stmt := top 2
abbrev N_p_is_whole : List Str := ["thing"]
theorem sc_p_is_whole : FnScope N_p_is_whole ["thing"] (defScope s_p_is_whole) := ⟨rfl, rfl, rfl, by decide +kernel, rfl, by decide +kernel, by decide +kernel⟩
theorem ok_p_is_whole (T : Txt K mg)  {f : Addr} {fd : FuncData} (Fn : Fun K "is_whole" "is_whole" s_p_is_whole f fd) : FnOk P₀ w K mg base (L2.CX P₀ w) 1 f fd ["thing"] (spD K mg 1 d_p_is_whole) :=
  okD (N := N_p_is_whole) Fn sc_p_is_whole rfl rfl fun cdv A outer s H E hr =>
  (sx_one (sx_ret (px_and (px_isinst (T := "int") kit_int PyProof.Rows.boot_int (by decide) (by decide) (by rfl) T.n_isinstance (by rfl) T.n_int (pb (px_var 0))) (px_one (px_not (px_isinst (T := "bool") kit_bool PyProof.Rows.boot_bool (by decide) (by decide) (by rfl) T.n_isinstance (by rfl) T.n_bool (pb (px_var 0))))))))

abbrev s_p_is_row_c208 : Stmt := top 3
abbrev N_p_is_row_c208 : List Str := ["thing", "size", "part"]
theorem sc_p_is_row_c208 : FnScope N_p_is_row_c208 ["thing", "size"] (defScope s_p_is_row_c208) := ⟨rfl, rfl, rfl, by decide +kernel, rfl, by decide +kernel, by decide +kernel⟩
theorem ok_p_is_row_c208 (T : Txt K mg) (C_p_is_whole : Callable P₀ w K mg base "is_whole" 1 1 d_p_is_whole) {f : Addr} {fd : FuncData} (Fn : Fun K "is_row" "is_row" s_p_is_row_c208 f fd) : FnOk P₀ w K mg base (L2.CX P₀ w) 2 f fd ["thing", "size"] (spD K mg 2 d_p_is_row_c208) :=
  okD (N := N_p_is_row_c208) Fn sc_p_is_row_c208 rfl rfl fun cdv A outer s H E hr =>
  (sx_cons (sx_if (PW.pt (pw_orD (pt_notD (pt_e (px_isinst (T := "tuple") kit_tuple PyProof.Rows.boot_tuple (by decide) (by decide) (by rfl) T.n_isinstance (by rfl) T.n_tuple (pb (px_var 0))))) (pw_one1O (pt_gt (pb (px_len (by rfl) T.n_len (pb (px_var 0)))) (pb (px_globC (by rfl) T.c_MOST))))))
    (sx_one (sx_ret px_bl))
    sx_nil)
  (sx_one (sx_ret (px_all rfl (by rfl) T.n_all (pb (px_l (pl_lc rfl sc_p_is_row_c208.nd (ix_seq' (px_var 0)) (blkOk_by (own := [("part", 2)]) (N := N_p_is_row_c208) (sc := defScope s_p_is_row_c208) (by decide +kernel)) rfl (by decide) (fun _ _ _ _ _ => (gx_name (i := 2) sc_p_is_row_c208.nd rfl (.inl rfl))) (fun _ _ _ _ _ => tsi_nil) (fun _ _ _ _ _ => (px_and (px_call C_p_is_whole hr (by rfl) takes0 (ax_cons (px_var 2) ax_nil)) (px_one (px_le_lt (pb px_int) (pb (px_var 2)) (pb (px_var 1)))))))))))))

abbrev s_p_is_rule : Stmt := top 4
abbrev N_p_is_rule : List Str := ["thing", "size"]
theorem sc_p_is_rule : FnScope N_p_is_rule ["thing", "size"] (defScope s_p_is_rule) := ⟨rfl, rfl, rfl, by decide +kernel, rfl, by decide +kernel, by decide +kernel⟩
theorem ok_p_is_rule (T : Txt K mg) (C_p_is_row_c208 : Callable P₀ w K mg base "is_row" 2 2 d_p_is_row_c208) {f : Addr} {fd : FuncData} (Fn : Fun K "is_rule" "is_rule" s_p_is_rule f fd) : FnOk P₀ w K mg base (L2.CX P₀ w) 3 f fd ["thing", "size"] (spD K mg 2 d_p_is_rule) :=
  okD (N := N_p_is_rule) Fn sc_p_is_rule rfl rfl fun cdv A outer s H E hr =>
  (sx_one (sx_ret (px_call C_p_is_row_c208 hr (by rfl) tkD (ax_cons (px_var 0) (ax_cons (px_var 1) ax_nil)))))

abbrev s_l_cell_at : Stmt := top 6
abbrev N_l_cell_at : List Str := ["_law_script", "_law_k"]
theorem sc_l_cell_at : FnScope N_l_cell_at ["_law_script", "_law_k"] (defScope s_l_cell_at) := ⟨rfl, rfl, rfl, by decide +kernel, rfl, by decide +kernel, by decide +kernel⟩
theorem ok_l_cell_at (T : Txt K mg)  {f : Addr} {fd : FuncData} (Fn : Fun K "_law_cell_at" "_law_cell_at" s_l_cell_at f fd) : FnOk P₀ w K mg base (L2.CX P₀ w) 1 f fd ["_law_script", "_law_k"] (spD K mg 2 d_l_cell_at) :=
  okD (N := N_l_cell_at) Fn sc_l_cell_at rfl rfl fun cdv A outer s H E hr =>
  (sx_cons (sx_if (pt_lt (pb (px_var 1)) (pb (px_len (by rfl) T.n_len (pb (px_var 0)))))
    (sx_one (sx_ret (px_ix (pb (px_var 0)) (pb (px_var 1)))))
    sx_nil)
  (sx_one (sx_ret px_int)))

abbrev s_l_mixed : Stmt := top 7
abbrev N_l_mixed : List Str := ["_law_script", "_law_k", "_law_drawn_here"]
theorem sc_l_mixed : FnScope N_l_mixed ["_law_script", "_law_k"] (defScope s_l_mixed) := ⟨rfl, rfl, rfl, by decide +kernel, rfl, by decide +kernel, by decide +kernel⟩
theorem ok_l_mixed (T : Txt K mg) (C_l_cell_at : Callable P₀ w K mg base "_law_cell_at" 1 2 d_l_cell_at) {f : Addr} {fd : FuncData} (Fn : Fun K "_law_mixed" "_law_mixed" s_l_mixed f fd) : FnOk P₀ w K mg base (L2.CX P₀ w) 2 f fd ["_law_script", "_law_k"] (spD K mg 2 d_l_mixed) :=
  okD (N := N_l_mixed) Fn sc_l_mixed rfl rfl fun cdv A outer s H E hr =>
  (sx_cons (sx_set (i := 2) sc_l_mixed.nd rfl (.inl rfl) (px_mod (pb (px_mul (pb (px_add (pb (px_add (pb (px_call C_l_cell_at hr (by rfl) tkD (ax_cons (px_var 0) (ax_cons (px_var 1) ax_nil)))) (pb (px_mul (pb px_int) (pb (px_var 1)))))) (pb px_int))) (pb px_int))) (pb px_int)))
  (sx_one (sx_ret (px_mod (pb (px_add (pb (px_add (pb (px_mul (pb (px_var 2)) (pb (px_var 2)))) (pb (px_mul (pb px_int) (pb (px_var 2)))))) (pb (px_var 1)))) (pb px_int)))))

abbrev s_l_drawn : Stmt := top 8
abbrev N_l_drawn : List Str := ["_law_number_here", "_law_k", "_law_drawn_here"]
theorem sc_l_drawn : FnScope N_l_drawn ["_law_number_here", "_law_k"] (defScope s_l_drawn) := ⟨rfl, rfl, rfl, by decide +kernel, rfl, by decide +kernel, by decide +kernel⟩
theorem ok_l_drawn (T : Txt K mg)  {f : Addr} {fd : FuncData} (Fn : Fun K "_law_drawn" "_law_drawn" s_l_drawn f fd) : FnOk P₀ w K mg base (L2.CX P₀ w) 1 f fd ["_law_number_here", "_law_k"] (spD K mg 2 d_l_drawn) :=
  okD (N := N_l_drawn) Fn sc_l_drawn rfl rfl fun cdv A outer s H E hr =>
  (sx_cons (sx_set (i := 2) sc_l_drawn.nd rfl (.inl rfl) (px_mod (pb (px_mul (pb (px_add (pb (px_add (pb (px_var 0)) (pb (px_mul (pb px_int) (pb (px_var 1)))))) (pb px_int))) (pb px_int))) (pb px_int)))
  (sx_one (sx_ret (px_mod (pb (px_add (pb (px_add (pb (px_mul (pb (px_var 2)) (pb (px_var 2)))) (pb (px_mul (pb px_int) (pb (px_var 2)))))) (pb (px_var 1)))) (pb px_int)))))

abbrev s_l_number : Stmt := top 9
abbrev N_l_number : List Str := ["_law_thing", "_law_low", "_law_high"]
theorem sc_l_number : FnScope N_l_number ["_law_thing", "_law_low", "_law_high"] (defScope s_l_number) := ⟨rfl, rfl, rfl, by decide +kernel, rfl, by decide +kernel, by decide +kernel⟩
theorem ok_l_number (T : Txt K mg)  {f : Addr} {fd : FuncData} (Fn : Fun K "_law_number" "_law_number" s_l_number f fd) : FnOk P₀ w K mg base (L2.CX P₀ w) 1 f fd ["_law_thing", "_law_low", "_law_high"] (spD K mg 3 d_l_number) :=
  okD (N := N_l_number) Fn sc_l_number rfl rfl fun cdv A outer s H E hr =>
  (sx_one (sx_ret (px_and (px_isinst (T := "int") kit_int PyProof.Rows.boot_int (by decide) (by decide) (by rfl) T.n_isinstance (by rfl) T.n_int (pb (px_var 0))) (px_and (px_not (px_isinst (T := "bool") kit_bool PyProof.Rows.boot_bool (by decide) (by decide) (by rfl) T.n_isinstance (by rfl) T.n_bool (pb (px_var 0)))) (px_one (px_le_le (pb (px_var 1)) (pb (px_var 0)) (pb (px_var 2))))))))

abbrev s_l_next : Stmt := top 10
abbrev N_l_next : List Str := ["_law_row_here", "_law_rule", "_law_size", "_law_at", "_law_part"]
theorem sc_l_next : FnScope N_l_next ["_law_row_here", "_law_rule", "_law_size"] (defScope s_l_next) := ⟨rfl, rfl, rfl, by decide +kernel, rfl, by decide +kernel, by decide +kernel⟩
theorem ok_l_next (T : Txt K mg)  {f : Addr} {fd : FuncData} (Fn : Fun K "_law_next" "_law_next" s_l_next f fd) : FnOk P₀ w K mg base (L2.CX P₀ w) 1 f fd ["_law_row_here", "_law_rule", "_law_size"] (spD K mg 3 d_l_next) :=
  okD (N := N_l_next) Fn sc_l_next rfl rfl fun cdv A outer s H E hr =>
  (sx_one (sx_ret (px_mod (pb (px_sum rfl (by rfl) T.n_sum (pb (px_l (pl_lc rfl sc_l_next.nd (ix_enum (by rfl) T.n_enumerate (px_var 1)) (blkOk_by (own := [("_law_at", 3), ("_law_part", 4)]) (N := N_l_next) (sc := defScope s_l_next) (by decide +kernel)) rfl (by decide) (fun _ _ _ _ _ => (gx_pair (i := 3) (j := 4) rfl sc_l_next.nd rfl (.inl rfl) rfl (.inl rfl))) (fun _ _ _ _ _ => tsi_nil) (fun _ _ _ _ _ => (px_mul (pb (px_var 4)) (pb (px_ix (pb (px_var 0)) (pb (px_sub (pb (px_neg (pb px_int))) (pb (px_var 3))))))))))))) (pb (px_var 2)))))

abbrev s_l_numbers : Stmt := top 11
abbrev N_l_numbers : List Str := ["_law_number_here", "_law_size", "_law_many", "_law_rare", "_law_found", "_law_k", "_law_drawn_here"]
theorem sc_l_numbers : FnScope N_l_numbers ["_law_number_here", "_law_size", "_law_many"] (defScope s_l_numbers) := ⟨rfl, rfl, rfl, by decide +kernel, rfl, by decide +kernel, by decide +kernel⟩
theorem ok_l_numbers (T : Txt K mg) (C_l_drawn : Callable P₀ w K mg base "_law_drawn" 1 2 d_l_drawn) {f : Addr} {fd : FuncData} (Fn : Fun K "_law_numbers" "_law_numbers" s_l_numbers f fd) : FnOk P₀ w K mg base (L2.CX P₀ w) 2 f fd ["_law_number_here", "_law_size", "_law_many"] (spD K mg 3 d_l_numbers) :=
  okD (N := N_l_numbers) Fn sc_l_numbers rfl rfl fun cdv A outer s H E hr =>
  (sx_cons (sx_set (i := 3) sc_l_numbers.nd rfl (.inl rfl) (px_mod (pb (px_var 0)) (pb px_int)))
  (sx_cons (sx_setOwn (i := 4) sc_l_numbers.nd rfl (.inl rfl) (pl_lst ax_nil))
  (sx_cons (sx_for hpD rfl (ix_range1 (by rfl) T.n_range (pb (px_var 2))) (gx_name (i := 5) sc_l_numbers.nd rfl (.inl rfl))
    (sx_cons (sx_set (i := 6) sc_l_numbers.nd rfl (.inl rfl) (px_call C_l_drawn hr (by rfl) tkD (ax_cons (px_var 0) (ax_cons (px_var 5) ax_nil))))
    (sx_one (sx_app (i := 4) rfl (.inl rfl) (px_mul (pb (px_mod (pb (px_div (pb (px_var 6)) (pb px_int))) (pb (px_var 1)))) (pb (px_toInt (by rfl) T.n_int (pb (px_or (px_gt (pb (px_var 3)) (pb px_int)) (px_one (px_eq hr (pb (px_mod (pb (px_var 6)) (pb px_int))) (pb px_int)))))))) (hpe := fun h a => pe_bm PySem.F.plainAttrs_list PySem.F.slot_list_append PySem.F.type_list_append mt_append h a)))))
  (sx_one (sx_ret (px_tuple (by rfl) T.n_tuple (pb_own 4)))))))

abbrev s_l_made : Stmt := top 12
abbrev N_l_made : List Str := ["_law_start", "_law_rule", "_law_size", "_law_many", "_law_found"]
theorem sc_l_made : FnScope N_l_made ["_law_start", "_law_rule", "_law_size", "_law_many"] (defScope s_l_made) := ⟨rfl, rfl, rfl, by decide +kernel, rfl, by decide +kernel, by decide +kernel⟩
theorem ok_l_made (T : Txt K mg) (C_l_next : Callable P₀ w K mg base "_law_next" 1 3 d_l_next) {f : Addr} {fd : FuncData} (Fn : Fun K "_law_made" "_law_made" s_l_made f fd) : FnOk P₀ w K mg base (L2.CX P₀ w) 2 f fd ["_law_start", "_law_rule", "_law_size", "_law_many"] (spD K mg 4 d_l_made) :=
  okD (N := N_l_made) Fn sc_l_made rfl rfl fun cdv A outer s H E hr =>
  (sx_cons (sx_set (i := 4) sc_l_made.nd rfl (.inl rfl) (px_var 0))
  (sx_cons (sx_while 2000 hpD (pt_lt (pb (px_len (by rfl) T.n_len (pb (px_var 4)))) (pb (px_var 3)))
    (sx_one (sx_set (i := 4) sc_l_made.nd rfl (.inl rfl) (px_add (pb (px_var 4)) (pb (px_tup (ax_cons (px_call C_l_next hr (by rfl) tkD (ax_cons (px_var 4) (ax_cons (px_var 1) (ax_cons (px_var 2) ax_nil)))) ax_nil)))))))
  (sx_one (sx_ret (px_sl (pb (px_var 4)) px_onone (px_osome (pb (px_var 3))))))))

abbrev s_l_row : Stmt := top 13
abbrev N_l_row : List Str := ["_law_number_here", "_law_size", "_law_most", "_law_many", "_law_rule", "_law_row_here", "_law_at"]
theorem sc_l_row : FnScope N_l_row ["_law_number_here", "_law_size", "_law_most"] (defScope s_l_row) := ⟨rfl, rfl, rfl, by decide +kernel, rfl, by decide +kernel, by decide +kernel⟩
theorem ok_l_row (T : Txt K mg) (C_l_numbers : Callable P₀ w K mg base "_law_numbers" 2 3 d_l_numbers) (C_l_drawn : Callable P₀ w K mg base "_law_drawn" 1 2 d_l_drawn) (C_l_made : Callable P₀ w K mg base "_law_made" 2 4 d_l_made) {f : Addr} {fd : FuncData} (Fn : Fun K "_law_row" "_law_row" s_l_row f fd) : FnOk P₀ w K mg base (L2.CX P₀ w) 3 f fd ["_law_number_here", "_law_size", "_law_most"] (spD K mg 3 d_l_row) :=
  okD (N := N_l_row) Fn sc_l_row rfl rfl fun cdv A outer s H E hr =>
  (sx_cons (sx_set (i := 3) sc_l_row.nd rfl (.inl rfl) (px_mod (pb (px_var 0)) (pb (px_add (pb (px_var 2)) (pb px_int)))))
  (sx_cons (sx_set (i := 4) sc_l_row.nd rfl (.inl rfl) (px_call C_l_numbers hr (by rfl) tkD (ax_cons (px_call C_l_drawn hr (by rfl) tkD (ax_cons (px_var 0) (ax_cons px_int ax_nil))) (ax_cons (px_var 1) (ax_cons (px_mod (pb (px_div (pb (px_var 0)) (pb px_int))) (pb px_int)) ax_nil)))))
  (sx_cons (sx_set (i := 5) sc_l_row.nd rfl (.inl rfl) (px_call C_l_numbers hr (by rfl) tkD (ax_cons (px_call C_l_drawn hr (by rfl) tkD (ax_cons (px_var 0) (ax_cons px_int ax_nil))) (ax_cons (px_var 1) (ax_cons (px_max rfl (by rfl) T.n_max (pb (px_var 3)) (pb (px_len (by rfl) T.n_len (pb (px_var 4))))) ax_nil)))))
  (sx_cons (sx_if (pt_gt (pb (px_mod (pb (px_div (pb (px_var 0)) (pb px_int))) (pb px_int))) (pb px_int))
    (sx_one (sx_set (i := 5) sc_l_row.nd rfl (.inl rfl) (px_call C_l_made hr (by rfl) tkD (ax_cons (px_sl (pb (px_var 5)) px_onone (px_osome (pb (px_len (by rfl) T.n_len (pb (px_var 4)))))) (ax_cons (px_var 4) (ax_cons (px_var 1) (ax_cons (px_max rfl (by rfl) T.n_max (pb (px_var 3)) (pb (px_len (by rfl) T.n_len (pb (px_var 4))))) ax_nil)))))))
    sx_nil)
  (sx_cons (sx_set (i := 5) sc_l_row.nd rfl (.inl rfl) (px_sl (pb (px_var 5)) px_onone (px_osome (pb (px_var 3)))))
  (sx_cons (sx_if (PW.pt (pw_andD (pt_eq hr (pb (px_mod (pb (px_div (pb (px_var 0)) (pb px_int))) (pb px_int))) (pb px_int)) (pw_one1A (pt_gt (pb (px_var 3)) (pb px_int)))))
    (sx_cons (sx_set (i := 6) sc_l_row.nd rfl (.inl rfl) (px_mod (pb (px_div (pb (px_var 0)) (pb px_int))) (pb (px_var 3))))
    (sx_one (sx_set (i := 5) sc_l_row.nd rfl (.inl rfl) (px_add (pb (px_add (pb (px_sl (pb (px_var 5)) px_onone (px_osome (pb (px_var 6))))) (pb (px_tup (ax_cons (px_mod (pb (px_add (pb (px_ix (pb (px_var 5)) (pb (px_var 6)))) (pb px_int))) (pb (px_var 1))) ax_nil))))) (pb (px_sl (pb (px_var 5)) (px_osome (pb (px_add (pb (px_var 6)) (pb px_int)))) px_onone))))))
    sx_nil)
  (sx_one (sx_ret (px_var 5)))))))))

abbrev s_l_is_row : Stmt := top 14
abbrev N_l_is_row : List Str := ["_law_thing", "_law_size", "_law_part"]
theorem sc_l_is_row : FnScope N_l_is_row ["_law_thing", "_law_size"] (defScope s_l_is_row) := ⟨rfl, rfl, rfl, by decide +kernel, rfl, by decide +kernel, by decide +kernel⟩
theorem ok_l_is_row (T : Txt K mg) (C_l_number : Callable P₀ w K mg base "_law_number" 1 3 d_l_number) {f : Addr} {fd : FuncData} (Fn : Fun K "_law_is_row" "_law_is_row" s_l_is_row f fd) : FnOk P₀ w K mg base (L2.CX P₀ w) 2 f fd ["_law_thing", "_law_size"] (spD K mg 2 d_l_is_row) :=
  okD (N := N_l_is_row) Fn sc_l_is_row rfl rfl fun cdv A outer s H E hr =>
  (sx_cons (sx_if (PW.pt (pw_orD (pt_notD (pt_e (px_isinst (T := "tuple") kit_tuple PyProof.Rows.boot_tuple (by decide) (by decide) (by rfl) T.n_isinstance (by rfl) T.n_tuple (pb (px_var 0))))) (pw_one1O (pt_gt (pb (px_len (by rfl) T.n_len (pb (px_var 0)))) (pb px_int)))))
    (sx_one (sx_ret px_bl))
    sx_nil)
  (sx_one (sx_ret (px_eq hr (pb (px_l (pl_lc rfl sc_l_is_row.nd (ix_seq' (px_var 0)) (blkOk_by (own := [("_law_part", 2)]) (N := N_l_is_row) (sc := defScope s_l_is_row) (by decide +kernel)) rfl (by decide) (fun _ _ _ _ _ => (gx_name (i := 2) sc_l_is_row.nd rfl (.inl rfl))) (fun _ _ _ _ _ => (tsi_one (pt_notD (pt_e (px_call C_l_number hr (by rfl) takes0 (ax_cons (px_var 2) (ax_cons px_int (ax_cons (px_sub (pb (px_var 1)) (pb px_int)) ax_nil)))))))) (fun _ _ _ _ _ => (px_var 2))))) (pb (px_l (pl_lst ax_nil)))))))

abbrev s_l_same : Stmt := top 15
abbrev N_l_same : List Str := ["_law_found", "_law_due"]
theorem sc_l_same : FnScope N_l_same ["_law_found", "_law_due"] (defScope s_l_same) := ⟨rfl, rfl, rfl, by decide +kernel, rfl, by decide +kernel, by decide +kernel⟩
theorem ok_l_same (T : Txt K mg)  {f : Addr} {fd : FuncData} (Fn : Fun K "_law_same" "_law_same" s_l_same f fd) : FnOk P₀ w K mg base (L2.CX P₀ w) 1 f fd ["_law_found", "_law_due"] (spD K mg 2 d_l_same) :=
  okD (N := N_l_same) Fn sc_l_same rfl rfl fun cdv A outer s H E hr =>
  (sx_one (sx_ret (px_and (px_isinst (T := "bool") kit_bool PyProof.Rows.boot_bool (by decide) (by decide) (by rfl) T.n_isinstance (by rfl) T.n_bool (pb (px_var 0))) (px_one (px_eq hr (pb (px_var 0)) (pb (px_var 1)))))))

abbrev s_l_places_in : Stmt := top 16
abbrev N_l_places_in : List Str := ["_law_bent_one", "_law_bent_way", "_law_bent_ways", "_law_bent_at", "_law_bent_part"]
theorem sc_l_places_in : FnScope N_l_places_in ["_law_bent_one", "_law_bent_way"] (defScope s_l_places_in) := ⟨rfl, rfl, rfl, by decide +kernel, rfl, by decide +kernel, by decide +kernel⟩
theorem okz_l_places_in (T : Txt K mg)  {f : Addr} {fd : FuncData} (Fn : Fun K "_law_places_in" "_law_places_in" s_l_places_in f fd) : FnOk P₀ w K mg base (L2.CX P₀ w) 1 f fd ["_law_bent_one", "_law_bent_way"] (spD K mg 2 (dr_l_places_in 0)) :=
  okD (N := N_l_places_in) Fn sc_l_places_in rfl rfl fun _ _ _ _ _ _ _ => ps_void
theorem oks_l_places_in (T : Txt K mg)  {q : Nat} (C_self : Callable P₀ w K mg base "_law_places_in" (1 + q) 2 (dr_l_places_in q)) {f : Addr} {fd : FuncData} (Fn : Fun K "_law_places_in" "_law_places_in" s_l_places_in f fd) : FnOk P₀ w K mg base (L2.CX P₀ w) (1 + q + 1) f fd ["_law_bent_one", "_law_bent_way"] (spD K mg 2 (dr_l_places_in (q + 1))) :=
  okD (N := N_l_places_in) Fn sc_l_places_in rfl rfl fun cdv A outer s H E hr =>
  (sx_cons (sx_set (i := 2) sc_l_places_in.nd rfl (.inl rfl) (px_l (pl_lst (ax_cons (px_var 1) ax_nil))))
  (sx_cons (sx_if (pt_e (px_isinst (T := "tuple") kit_tuple PyProof.Rows.boot_tuple (by decide) (by decide) (by rfl) T.n_isinstance (by rfl) T.n_tuple (pb (px_var 0))))
    (sx_one (sx_for hpD rfl (ix_enum (by rfl) T.n_enumerate (px_var 0)) (gx_pair (i := 3) (j := 4) rfl sc_l_places_in.nd rfl (.inl rfl) rfl (.inl rfl))
      (sx_one (sx_set (i := 2) sc_l_places_in.nd rfl (.inl rfl) (px_l (pl_add (pb (px_var 2)) (pb (px_call C_self hr (by rfl) tkD (ax_cons (px_var 4) (ax_cons (px_add (pb (px_var 1)) (pb (px_tup (ax_cons (px_var 3) ax_nil)))) ax_nil)) (by omega)))))))))
    sx_nil)
  (sx_one (sx_ret (px_var 2)))))

abbrev s_l_put_at : Stmt := top 17
abbrev N_l_put_at : List Str := ["_law_bent_one", "_law_bent_way", "_law_bent_by", "_law_bent_at", "_law_bent_part"]
theorem sc_l_put_at : FnScope N_l_put_at ["_law_bent_one", "_law_bent_way", "_law_bent_by"] (defScope s_l_put_at) := ⟨rfl, rfl, rfl, by decide +kernel, rfl, by decide +kernel, by decide +kernel⟩
theorem body_l_put_at {X : Cx} (T : Txt X.K X.mg) : PutBody X "_law_put_at" "_law_bent_one" "_law_bent_by" s_l_put_at N_l_put_at g_l_put_at := fun g f by_ self cdv A out sg Hg kk hr hby hself =>
  (sx_cons (sx_if (pt_eq hr (pb (px_var 1)) (pb (px_tup ax_nil)))
    (sx_one (sx_ret (hby _ _ _)))
    sx_nil)
  (sx_cons (sx_set (i := 3) sc_l_put_at.nd rfl (.inl rfl) (px_ix (pb (px_var 1)) (pb px_int)))
  (sx_cons (sx_set (i := 4) sc_l_put_at.nd rfl (.inl rfl) (hself _ _ _ (fun _ => rfl) (fun _ => rfl) (px_ix (pb (px_var 0)) (pb (px_var 3))) (px_sl (pb (px_var 1)) (px_osome (pb px_int)) px_onone)))
  (sx_one (sx_ret (px_add (pb (px_add (pb (px_sl (pb (px_var 0)) px_onone (px_osome (pb (px_var 3))))) (pb (px_tup (ax_cons (px_var 4) ax_nil))))) (pb (px_sl (pb (px_var 0)) (px_osome (pb (px_add (pb (px_var 3)) (pb px_int)))) px_onone))))))))

abbrev s_l_otherwise : Stmt := top 18
abbrev N_l_otherwise : List Str := ["_law_bent_one", "_law_bent_number", "_law_bent_some"]
theorem sc_l_otherwise : FnScope N_l_otherwise ["_law_bent_one", "_law_bent_number"] (defScope s_l_otherwise) := ⟨rfl, rfl, rfl, by decide +kernel, rfl, by decide +kernel, by decide +kernel⟩
theorem ok_l_otherwise (T : Txt K mg)  {f : Addr} {fd : FuncData} (Fn : Fun K "_law_otherwise" "_law_otherwise" s_l_otherwise f fd) : FnOk P₀ w K mg base (L2.CX P₀ w) 1 f fd ["_law_bent_one", "_law_bent_number"] (spD K mg 2 d_l_otherwise) :=
  okD (N := N_l_otherwise) Fn sc_l_otherwise rfl rfl fun cdv A outer s H E hr =>
  (sx_cons (sx_if (pt_e (px_isinst (T := "tuple") kit_tuple PyProof.Rows.boot_tuple (by decide) (by decide) (by rfl) T.n_isinstance (by rfl) T.n_tuple (pb (px_var 0))))
    (sx_cons (sx_set (i := 2) sc_l_otherwise.nd rfl (.inl rfl) (px_l (pl_lst (ax_cons (px_l (pl_list (by rfl) T.n_list (pb (px_var 0)))) (ax_cons (px_l (pl_list (by rfl) T.n_list (pb (px_var 0)))) (ax_cons (px_add (pb (px_var 0)) (pb (px_sl (pb (px_var 0)) px_onone (px_osome (pb px_int))))) ax_nil))))))
    (sx_one (sx_ret (px_ix (pb (px_l (pl_add (pb (px_var 2)) (pb (px_l (pl_lst (ax_cons (px_sl (pb (px_var 0)) (px_osome (pb px_int)) px_onone) (ax_cons (px_l (pl_lst (ax_cons (px_var 0) ax_nil))) ax_nil)))))))) (pb (px_mod (pb (px_var 1)) (pb px_int)))))))
    sx_nil)
  (sx_cons (sx_if (pt_e (px_isinst (T := "bool") kit_bool PyProof.Rows.boot_bool (by decide) (by decide) (by rfl) T.n_isinstance (by rfl) T.n_bool (pb (px_var 0))))
    (sx_one (sx_ret (px_ix (pb (px_l (pl_lst (ax_cons (px_toInt (by rfl) T.n_int (pb (px_var 0))) (ax_cons px_non (ax_cons (px_toStr (by rfl) T.n_str (pb (px_var 0))) ax_nil)))))) (pb (px_mod (pb (px_var 1)) (pb px_int))))))
    sx_nil)
  (sx_cons (sx_if (pt_e (px_isinst (T := "int") kit_int PyProof.Rows.boot_int (by decide) (by decide) (by rfl) T.n_isinstance (by rfl) T.n_int (pb (px_var 0))))
    (sx_cons (sx_set (i := 2) sc_l_otherwise.nd rfl (.inl rfl) (px_l (pl_lst (ax_cons px_bl (ax_cons px_non (ax_cons (px_toStr (by rfl) T.n_str (pb (px_var 0))) (ax_cons (px_tup (ax_cons (px_var 0) ax_nil)) ax_nil)))))))
    (sx_one (sx_ret (px_ix (pb (px_l (pl_add (pb (px_var 2)) (pb (px_l (pl_lst (ax_cons (px_sub (pb (px_neg (pb px_int))) (pb (px_var 0))) ax_nil))))))) (pb (px_mod (pb (px_var 1)) (pb px_int)))))))
    sx_nil)
  (sx_one (sx_ret (px_ix (pb (px_l (pl_lst (ax_cons px_non (ax_cons (px_tup (ax_cons (px_var 0) ax_nil)) (ax_cons (px_l (pl_lst (ax_cons (px_var 0) ax_nil))) (ax_cons px_str (ax_cons px_int ax_nil)))))))) (pb (px_mod (pb (px_var 1)) (pb px_int)))))))))

abbrev s_l_spoilt_85ed : Stmt := top 19
abbrev N_l_spoilt_85ed : List Str := ["_law_thing", "_law_number_here", "_law_deep", "_law_bent_ways", "_law_bent_way"]
theorem sc_l_spoilt_85ed : FnScope N_l_spoilt_85ed ["_law_thing", "_law_number_here", "_law_deep"] (defScope s_l_spoilt_85ed) := ⟨rfl, rfl, rfl, by decide +kernel, rfl, by decide +kernel, by decide +kernel⟩
theorem ok_l_spoilt_85ed (T : Txt K mg) (C_l_places_in : Callable P₀ w K mg base "_law_places_in" 3 2 d_l_places_in) (C_l_put_at : Putter K mg "_law_put_at" "_law_bent_one" "_law_bent_way" "_law_bent_by" s_l_put_at) (C_l_otherwise : Callable P₀ w K mg base "_law_otherwise" 1 2 d_l_otherwise) {f cM PT : Addr} {oc kV dc pm ct : Value} {od an : Option Addr} {sl : Array (Option Value)} (lk : K.lookup f = some ⟨oc, od, .func (PySem.W.fnOf "_law_spoilt" "_law_spoilt" (defArgs s_l_spoilt_85ed) (defBody s_l_spoilt_85ed) (defScope s_l_spoilt_85ed) .none kV dc pm an (.ref cM) ct), sl⟩) (hcd : PySem.W.codeIn K (.ref cM) "_law_spoilt" = true) (TB : LamX.TabB base mg cM PT)
    (hmT : (PT, (envOfC "_law_spoilt" (defScope s_l_spoilt_85ed) 0 0 .none).qual ++ "<lambda>") ∈ LTab.tabs) (hu : ∀ p ∈ LTab.tabs, p.1 = PT → p.2 = (envOfC "_law_spoilt" (defScope s_l_spoilt_85ed) 0 0 .none).qual ++ "<lambda>") : FnOk P₀ w K mg base (L2.CX P₀ w) 7 f (PySem.W.fnOf "_law_spoilt" "_law_spoilt" (defArgs s_l_spoilt_85ed) (defBody s_l_spoilt_85ed) (defScope s_l_spoilt_85ed) .none kV dc pm an (.ref cM) ct) ["_law_thing", "_law_number_here", "_law_deep"] (spD K mg 3 d_l_spoilt_85ed) :=
  okDc (N := N_l_spoilt_85ed) lk hcd sc_l_spoilt_85ed rfl rfl fun A outer s H E hr =>
  (sx_cons (sx_set (i := 3) sc_l_spoilt_85ed.nd rfl (.inl rfl) (px_call C_l_places_in hr (by rfl) tkD (ax_cons (px_var 0) (ax_cons (px_tup ax_nil) ax_nil))))
  (sx_cons (sx_set (i := 4) sc_l_spoilt_85ed.nd rfl (.inl rfl) (px_ix (pb (px_var 3)) (pb (px_mod (pb (px_var 1)) (pb (px_len (by rfl) T.n_len (pb (px_var 3))))))))
  (sx_one (sx_ret (px_put (a := "_law_bent_part") (N := N_l_put_at) (k := 3) (m := 5) (j := 1) (q := 2) (gf := g_l_put_at) (by rfl) C_l_put_at sc_l_put_at rfl rfl rfl (by first | exact Or.inl rfl | exact Or.inr (Or.inl rfl) | exact Or.inr (Or.inr rfl)) (by first | exact Or.inl rfl | exact Or.inr (Or.inl rfl) | exact Or.inr (Or.inr rfl)) rfl (body_l_put_at T) TB rfl hmT hu hr (lamS1_by (sc := defScope s_l_spoilt_85ed) (by decide +kernel)) (show ¬ ("_law_bent_part" : Str) ∈ N_l_spoilt_85ed from by decide) rfl rfl (fun _ _ _ _ _ => rfl) (fun A outer s H E f c' hr => (px_call C_l_otherwise hr (by rfl) tkL1 (ax_cons (px_var 5) (ax_cons (px_div (pb (px_var 1)) (pb px_int)) ax_nil)))) (px_var 0) (px_var 4))))))

abbrev s_l_once : Stmt := top 20
abbrev N_l_once : List Str := ["_law_script", "_law_size", "_law_thing", "_law_number_here", "_law_due"]
theorem sc_l_once : FnScope N_l_once ["_law_script"] (defScope s_l_once) := ⟨rfl, rfl, rfl, by decide +kernel, rfl, by decide +kernel, by decide +kernel⟩
theorem ok_l_once (T : Txt K mg) (C_l_row : Callable P₀ w K mg base "_law_row" 3 3 d_l_row) (C_l_mixed : Callable P₀ w K mg base "_law_mixed" 2 2 d_l_mixed) (C_l_is_row : Callable P₀ w K mg base "_law_is_row" 2 2 d_l_is_row) (C_l_numbers : Callable P₀ w K mg base "_law_numbers" 2 3 d_l_numbers) (C_l_spoilt_85ed : Callable P₀ w K mg base "_law_spoilt" 7 3 d_l_spoilt_85ed) (C_l_same : Callable P₀ w K mg base "_law_same" 1 2 d_l_same) (C_p_is_row_c208 : Callable P₀ w K mg base "is_row" 2 2 d_p_is_row_c208) (C_p_is_rule : Callable P₀ w K mg base "is_rule" 3 2 d_p_is_rule) {f : Addr} {fd : FuncData} (Fn : Fun K "_law_once" "_law_once" s_l_once f fd) : FnOk P₀ w K mg base (L2.CX P₀ w) 8 f fd ["_law_script"] (spD K mg 1 d_l_once) :=
  okD (N := N_l_once) Fn sc_l_once rfl rfl fun cdv A outer s H E hr =>
  (sx_cons (sx_set (i := 1) sc_l_once.nd rfl (.inl rfl) (px_ix (pb (px_tup (ax_cons px_int (ax_cons px_int (ax_cons px_int (ax_cons px_int (ax_cons px_int (ax_cons px_int ax_nil)))))))) (pb (px_mod (pb (px_call C_l_mixed hr (by rfl) tkD (ax_cons (px_var 0) (ax_cons px_int ax_nil)))) (pb px_int)))))
  (sx_cons (sx_set (i := 2) sc_l_once.nd rfl (.inl rfl) (px_call C_l_row hr (by rfl) tkD (ax_cons (px_call C_l_mixed hr (by rfl) tkD (ax_cons (px_var 0) (ax_cons px_int ax_nil))) (ax_cons (px_var 1) (ax_cons px_int ax_nil)))))
  (sx_cons (sx_set (i := 3) sc_l_once.nd rfl (.inl rfl) (px_call C_l_mixed hr (by rfl) tkD (ax_cons (px_var 0) (ax_cons px_int ax_nil))))
  (sx_cons (sx_if (pt_eq hr (pb (px_mod (pb (px_var 3)) (pb px_int))) (pb px_int))
    (sx_one (sx_set (i := 2) sc_l_once.nd rfl (.inl rfl) (px_call C_l_numbers hr (by rfl) tkD (ax_cons (px_call C_l_mixed hr (by rfl) tkD (ax_cons (px_var 0) (ax_cons px_int ax_nil))) (ax_cons (px_var 1) (ax_cons (px_add (pb px_int) (pb (px_mod (pb (px_div (pb (px_var 3)) (pb px_int))) (pb px_int)))) ax_nil))))))
    sx_nil)
  (sx_cons (sx_if (pt_eq hr (pb (px_mod (pb (px_call C_l_mixed hr (by rfl) tkD (ax_cons (px_var 0) (ax_cons px_int ax_nil)))) (pb px_int))) (pb px_int))
    (sx_one (sx_set (i := 2) sc_l_once.nd rfl (.inl rfl) (px_call C_l_spoilt_85ed hr (by rfl) tkD (ax_cons (px_var 2) (ax_cons (px_call C_l_mixed hr (by rfl) tkD (ax_cons (px_var 0) (ax_cons px_int ax_nil))) (ax_cons (px_mod (pb (px_div (pb (px_call C_l_mixed hr (by rfl) tkD (ax_cons (px_var 0) (ax_cons px_int ax_nil)))) (pb px_int))) (pb px_int)) ax_nil))))))
    sx_nil)
  (sx_cons (sx_set (i := 4) sc_l_once.nd rfl (.inl rfl) (px_call C_l_is_row hr (by rfl) tkD (ax_cons (px_var 2) (ax_cons (px_var 1) ax_nil))))
  (sx_one (sx_ret (px_and (px_call C_l_same hr (by rfl) tkD (ax_cons (px_call C_p_is_row_c208 hr (by rfl) tkD (ax_cons (px_var 2) (ax_cons (px_var 1) ax_nil))) (ax_cons (px_var 4) ax_nil))) (px_one (px_call C_l_same hr (by rfl) tkD (ax_cons (px_call C_p_is_rule hr (by rfl) tkD (ax_cons (px_var 2) (ax_cons (px_var 1) ax_nil))) (ax_cons (px_var 4) ax_nil)))))))))))))

abbrev s_l_law : Stmt := top 21
abbrev N_l_law : List Str := ["_law_script", "_law_bent_turn", "_law_bent_cell"]
theorem sc_l_law : FnScope N_l_law ["_law_script"] (defScope s_l_law) := ⟨rfl, rfl, rfl, by decide +kernel, rfl, by decide +kernel, by decide +kernel⟩
theorem ok_l_law (T : Txt K mg) (C_l_once : Callable P₀ w K mg base "_law_once" 8 1 d_l_once) {f : Addr} {fd : FuncData} (Fn : Fun K "law" "law" s_l_law f fd) : FnOk P₀ w K mg base (L2.CX P₀ w) 9 f fd ["_law_script"] (spD K mg 1 d_l_law) :=
  okD (N := N_l_law) Fn sc_l_law rfl rfl fun cdv A outer s H E hr =>
  (sx_cons (sx_for hpD rfl (ix_range1 (by rfl) T.n_range (pb px_int)) (gx_name (i := 1) sc_l_law.nd rfl (.inr rfl))
    (sx_one (sx_if (pt_notD (pt_e (px_call C_l_once hr (by rfl) tkD (ax_cons (px_l (pl_add (pb (px_l (pl_lc rfl sc_l_law.nd (ix_seq' (px_var 0)) (blkOk_by (own := [("_law_bent_cell", 2)]) (N := N_l_law) (sc := defScope s_l_law) (by decide +kernel)) rfl (by decide) (fun _ _ _ _ _ => (gx_name (i := 2) sc_l_law.nd rfl (.inl rfl))) (fun _ _ _ _ _ => tsi_nil) (fun _ _ _ _ _ => (px_add (pb (px_var 2)) (pb (px_mul (pb px_int) (pb (px_var 1))))))))) (pb (px_l (pl_lst (ax_cons (px_var 1) ax_nil)))))) ax_nil))))
      (sx_one (sx_ret px_bl))
      sx_nil)))
  (sx_one (sx_ret px_bl)))
end

end Ey

set_option Elab.async false
set_option linter.all false
set_option maxRecDepth 100000
set_option maxHeartbeats 4000000
namespace Ey
open PySem L2 DL PyProof.Rows
theorem all_mk [iT : LTab] {l : PySem.W.OpenLaw} {w : World} {K : PySem.W.Frag} {h : Heap} {mg : Str → Option Value} {fa : Addr} (X : K.In h) (G : h.Ns mainGlobals mg) (hfa : mg "law" = some (.ref fa))
    (hlaw : ∀ ns : List Int, ns.length ≤ 63 → d_l_law [scriptD ns] = .ok (.bool true))
    {f0 : Addr} {od0 an0 : Option Addr} {sl0 : Array (Option Value)} {oc0 kV0 dc0 pm0 cd0 ct0 : Value}
    {f1 : Addr} {od1 an1 : Option Addr} {sl1 : Array (Option Value)} {oc1 kV1 dc1 pm1 cd1 ct1 : Value}
    {f2 : Addr} {od2 an2 : Option Addr} {sl2 : Array (Option Value)} {oc2 kV2 dc2 pm2 cd2 ct2 : Value}
    {f3 : Addr} {od3 an3 : Option Addr} {sl3 : Array (Option Value)} {oc3 kV3 dc3 pm3 cd3 ct3 : Value}
    {f4 : Addr} {od4 an4 : Option Addr} {sl4 : Array (Option Value)} {oc4 kV4 dc4 pm4 cd4 ct4 : Value}
    {f5 : Addr} {od5 an5 : Option Addr} {sl5 : Array (Option Value)} {oc5 kV5 dc5 pm5 cd5 ct5 : Value}
    {f6 : Addr} {od6 an6 : Option Addr} {sl6 : Array (Option Value)} {oc6 kV6 dc6 pm6 cd6 ct6 : Value}
    {f7 : Addr} {od7 an7 : Option Addr} {sl7 : Array (Option Value)} {oc7 kV7 dc7 pm7 cd7 ct7 : Value}
    {f8 : Addr} {od8 an8 : Option Addr} {sl8 : Array (Option Value)} {oc8 kV8 dc8 pm8 cd8 ct8 : Value}
    {f9 : Addr} {od9 an9 : Option Addr} {sl9 : Array (Option Value)} {oc9 kV9 dc9 pm9 cd9 ct9 : Value}
    {f10 : Addr} {od10 an10 : Option Addr} {sl10 : Array (Option Value)} {oc10 kV10 dc10 pm10 cd10 ct10 : Value}
    {f11 : Addr} {od11 an11 : Option Addr} {sl11 : Array (Option Value)} {oc11 kV11 dc11 pm11 cd11 ct11 : Value}
    {f12 : Addr} {od12 an12 : Option Addr} {sl12 : Array (Option Value)} {oc12 kV12 dc12 pm12 cd12 ct12 : Value}
    {f13 : Addr} {od13 an13 : Option Addr} {sl13 : Array (Option Value)} {oc13 kV13 dc13 pm13 cd13 ct13 : Value}
    {f14 : Addr} {od14 an14 : Option Addr} {sl14 : Array (Option Value)} {oc14 kV14 dc14 pm14 cd14 ct14 : Value}
    {f15 : Addr} {od15 an15 : Option Addr} {sl15 : Array (Option Value)} {oc15 kV15 dc15 pm15 cd15 ct15 : Value}
    {f16 : Addr} {od16 an16 : Option Addr} {sl16 : Array (Option Value)} {oc16 kV16 dc16 pm16 cd16 ct16 : Value}
    {f17 : Addr} {od17 an17 : Option Addr} {sl17 : Array (Option Value)} {oc17 kV17 dc17 pm17 cd17 ct17 : Value}
    {f18 : Addr} {od18 an18 : Option Addr} {sl18 : Array (Option Value)} {oc18 kV18 dc18 pm18 cd18 ct18 : Value}
    {t_MOST : Tok}
    (a0 : PySem.W.nsIn K mainGlobals "is_whole" = some (some (.ref f0)))
    (l0 : K.lookup f0 = some ⟨oc0, od0, .func (PySem.W.fnOf "is_whole" "is_whole" (defArgs s_p_is_whole) (defBody s_p_is_whole) (defScope s_p_is_whole) .none kV0 dc0 pm0 an0 cd0 ct0), sl0⟩)
    (c0 : PySem.W.codeIn K cd0 "is_whole" = true)
    (k0 : PySem.W.keepIn K (.ref f0) = true)
    (a1 : PySem.W.nsIn K mainGlobals "is_row" = some (some (.ref f1)))
    (l1 : K.lookup f1 = some ⟨oc1, od1, .func (PySem.W.fnOf "is_row" "is_row" (defArgs s_p_is_row_c208) (defBody s_p_is_row_c208) (defScope s_p_is_row_c208) .none kV1 dc1 pm1 an1 cd1 ct1), sl1⟩)
    (c1 : PySem.W.codeIn K cd1 "is_row" = true)
    (k1 : PySem.W.keepIn K (.ref f1) = true)
    (a2 : PySem.W.nsIn K mainGlobals "is_rule" = some (some (.ref f2)))
    (l2 : K.lookup f2 = some ⟨oc2, od2, .func (PySem.W.fnOf "is_rule" "is_rule" (defArgs s_p_is_rule) (defBody s_p_is_rule) (defScope s_p_is_rule) .none kV2 dc2 pm2 an2 cd2 ct2), sl2⟩)
    (c2 : PySem.W.codeIn K cd2 "is_rule" = true)
    (k2 : PySem.W.keepIn K (.ref f2) = true)
    (a3 : PySem.W.nsIn K mainGlobals "_law_cell_at" = some (some (.ref f3)))
    (l3 : K.lookup f3 = some ⟨oc3, od3, .func (PySem.W.fnOf "_law_cell_at" "_law_cell_at" (defArgs s_l_cell_at) (defBody s_l_cell_at) (defScope s_l_cell_at) .none kV3 dc3 pm3 an3 cd3 ct3), sl3⟩)
    (c3 : PySem.W.codeIn K cd3 "_law_cell_at" = true)
    (k3 : PySem.W.keepIn K (.ref f3) = true)
    (a4 : PySem.W.nsIn K mainGlobals "_law_mixed" = some (some (.ref f4)))
    (l4 : K.lookup f4 = some ⟨oc4, od4, .func (PySem.W.fnOf "_law_mixed" "_law_mixed" (defArgs s_l_mixed) (defBody s_l_mixed) (defScope s_l_mixed) .none kV4 dc4 pm4 an4 cd4 ct4), sl4⟩)
    (c4 : PySem.W.codeIn K cd4 "_law_mixed" = true)
    (k4 : PySem.W.keepIn K (.ref f4) = true)
    (a5 : PySem.W.nsIn K mainGlobals "_law_drawn" = some (some (.ref f5)))
    (l5 : K.lookup f5 = some ⟨oc5, od5, .func (PySem.W.fnOf "_law_drawn" "_law_drawn" (defArgs s_l_drawn) (defBody s_l_drawn) (defScope s_l_drawn) .none kV5 dc5 pm5 an5 cd5 ct5), sl5⟩)
    (c5 : PySem.W.codeIn K cd5 "_law_drawn" = true)
    (k5 : PySem.W.keepIn K (.ref f5) = true)
    (a6 : PySem.W.nsIn K mainGlobals "_law_number" = some (some (.ref f6)))
    (l6 : K.lookup f6 = some ⟨oc6, od6, .func (PySem.W.fnOf "_law_number" "_law_number" (defArgs s_l_number) (defBody s_l_number) (defScope s_l_number) .none kV6 dc6 pm6 an6 cd6 ct6), sl6⟩)
    (c6 : PySem.W.codeIn K cd6 "_law_number" = true)
    (k6 : PySem.W.keepIn K (.ref f6) = true)
    (a7 : PySem.W.nsIn K mainGlobals "_law_next" = some (some (.ref f7)))
    (l7 : K.lookup f7 = some ⟨oc7, od7, .func (PySem.W.fnOf "_law_next" "_law_next" (defArgs s_l_next) (defBody s_l_next) (defScope s_l_next) .none kV7 dc7 pm7 an7 cd7 ct7), sl7⟩)
    (c7 : PySem.W.codeIn K cd7 "_law_next" = true)
    (k7 : PySem.W.keepIn K (.ref f7) = true)
    (a8 : PySem.W.nsIn K mainGlobals "_law_numbers" = some (some (.ref f8)))
    (l8 : K.lookup f8 = some ⟨oc8, od8, .func (PySem.W.fnOf "_law_numbers" "_law_numbers" (defArgs s_l_numbers) (defBody s_l_numbers) (defScope s_l_numbers) .none kV8 dc8 pm8 an8 cd8 ct8), sl8⟩)
    (c8 : PySem.W.codeIn K cd8 "_law_numbers" = true)
    (k8 : PySem.W.keepIn K (.ref f8) = true)
    (a9 : PySem.W.nsIn K mainGlobals "_law_made" = some (some (.ref f9)))
    (l9 : K.lookup f9 = some ⟨oc9, od9, .func (PySem.W.fnOf "_law_made" "_law_made" (defArgs s_l_made) (defBody s_l_made) (defScope s_l_made) .none kV9 dc9 pm9 an9 cd9 ct9), sl9⟩)
    (c9 : PySem.W.codeIn K cd9 "_law_made" = true)
    (k9 : PySem.W.keepIn K (.ref f9) = true)
    (a10 : PySem.W.nsIn K mainGlobals "_law_row" = some (some (.ref f10)))
    (l10 : K.lookup f10 = some ⟨oc10, od10, .func (PySem.W.fnOf "_law_row" "_law_row" (defArgs s_l_row) (defBody s_l_row) (defScope s_l_row) .none kV10 dc10 pm10 an10 cd10 ct10), sl10⟩)
    (c10 : PySem.W.codeIn K cd10 "_law_row" = true)
    (k10 : PySem.W.keepIn K (.ref f10) = true)
    (a11 : PySem.W.nsIn K mainGlobals "_law_is_row" = some (some (.ref f11)))
    (l11 : K.lookup f11 = some ⟨oc11, od11, .func (PySem.W.fnOf "_law_is_row" "_law_is_row" (defArgs s_l_is_row) (defBody s_l_is_row) (defScope s_l_is_row) .none kV11 dc11 pm11 an11 cd11 ct11), sl11⟩)
    (c11 : PySem.W.codeIn K cd11 "_law_is_row" = true)
    (k11 : PySem.W.keepIn K (.ref f11) = true)
    (a12 : PySem.W.nsIn K mainGlobals "_law_same" = some (some (.ref f12)))
    (l12 : K.lookup f12 = some ⟨oc12, od12, .func (PySem.W.fnOf "_law_same" "_law_same" (defArgs s_l_same) (defBody s_l_same) (defScope s_l_same) .none kV12 dc12 pm12 an12 cd12 ct12), sl12⟩)
    (c12 : PySem.W.codeIn K cd12 "_law_same" = true)
    (k12 : PySem.W.keepIn K (.ref f12) = true)
    (a13 : PySem.W.nsIn K mainGlobals "_law_places_in" = some (some (.ref f13)))
    (l13 : K.lookup f13 = some ⟨oc13, od13, .func (PySem.W.fnOf "_law_places_in" "_law_places_in" (defArgs s_l_places_in) (defBody s_l_places_in) (defScope s_l_places_in) .none kV13 dc13 pm13 an13 cd13 ct13), sl13⟩)
    (c13 : PySem.W.codeIn K cd13 "_law_places_in" = true)
    (k13 : PySem.W.keepIn K (.ref f13) = true)
    (a14 : PySem.W.nsIn K mainGlobals "_law_put_at" = some (some (.ref f14)))
    (l14 : K.lookup f14 = some ⟨oc14, od14, .func (PySem.W.fnOf "_law_put_at" "_law_put_at" (defArgs s_l_put_at) (defBody s_l_put_at) (defScope s_l_put_at) .none kV14 dc14 pm14 an14 cd14 ct14), sl14⟩)
    (c14 : PySem.W.codeIn K cd14 "_law_put_at" = true)
    (k14 : PySem.W.keepIn K (.ref f14) = true)
    (a15 : PySem.W.nsIn K mainGlobals "_law_otherwise" = some (some (.ref f15)))
    (l15 : K.lookup f15 = some ⟨oc15, od15, .func (PySem.W.fnOf "_law_otherwise" "_law_otherwise" (defArgs s_l_otherwise) (defBody s_l_otherwise) (defScope s_l_otherwise) .none kV15 dc15 pm15 an15 cd15 ct15), sl15⟩)
    (c15 : PySem.W.codeIn K cd15 "_law_otherwise" = true)
    (k15 : PySem.W.keepIn K (.ref f15) = true)
    (a16 : PySem.W.nsIn K mainGlobals "_law_spoilt" = some (some (.ref f16)))
    (l16 : K.lookup f16 = some ⟨oc16, od16, .func (PySem.W.fnOf "_law_spoilt" "_law_spoilt" (defArgs s_l_spoilt_85ed) (defBody s_l_spoilt_85ed) (defScope s_l_spoilt_85ed) .none kV16 dc16 pm16 an16 cd16 ct16), sl16⟩)
    (c16 : PySem.W.codeIn K cd16 "_law_spoilt" = true)
    (k16 : PySem.W.keepIn K (.ref f16) = true)
    (a17 : PySem.W.nsIn K mainGlobals "_law_once" = some (some (.ref f17)))
    (l17 : K.lookup f17 = some ⟨oc17, od17, .func (PySem.W.fnOf "_law_once" "_law_once" (defArgs s_l_once) (defBody s_l_once) (defScope s_l_once) .none kV17 dc17 pm17 an17 cd17 ct17), sl17⟩)
    (c17 : PySem.W.codeIn K cd17 "_law_once" = true)
    (k17 : PySem.W.keepIn K (.ref f17) = true)
    (a18 : PySem.W.nsIn K mainGlobals "law" = some (some (.ref f18)))
    (l18 : K.lookup f18 = some ⟨oc18, od18, .func (PySem.W.fnOf "law" "law" (defArgs s_l_law) (defBody s_l_law) (defScope s_l_law) .none kV18 dc18 pm18 an18 cd18 ct18), sl18⟩)
    (c18 : PySem.W.codeIn K cd18 "law" = true)
    (k18 : PySem.W.keepIn K (.ref f18) = true)
    (z_isinstance : PySem.W.nsIn K mainGlobals "isinstance" = some none)
    (z_int : PySem.W.nsIn K mainGlobals "int" = some none)
    (z_bool : PySem.W.nsIn K mainGlobals "bool" = some none)
    (z_tuple : PySem.W.nsIn K mainGlobals "tuple" = some none)
    (z_len : PySem.W.nsIn K mainGlobals "len" = some none)
    (z_all : PySem.W.nsIn K mainGlobals "all" = some none)
    (z_sum : PySem.W.nsIn K mainGlobals "sum" = some none)
    (z_enumerate : PySem.W.nsIn K mainGlobals "enumerate" = some none)
    (z_range : PySem.W.nsIn K mainGlobals "range" = some none)
    (z_max : PySem.W.nsIn K mainGlobals "max" = some none)
    (z_list : PySem.W.nsIn K mainGlobals "list" = some none)
    (z_str : PySem.W.nsIn K mainGlobals "str" = some none)
    (g_MOST : PySem.W.nsIn K mainGlobals "MOST" = some (some (.int 30 t_MOST)))
    {fm cM TT : Addr} {om : Obj} {fdm : FuncData} (m1 : mg "_law_spoilt" = some (.ref fm)) (m2 : h.get? fm = some om) (m3 : om.data = .func fdm) (m4 : fdm.code = .ref cM) (hI : LTab.tabs = [(TT, (envOfC "_law_spoilt" (defScope s_l_spoilt_85ed) 0 0 .none).qual ++ "<lambda>")]) :
    ∃ fd : FuncData, (∀ (s : Shared) (v : Value), BindsTo s fd ⟨[v], []⟩ [("_law_script", v)]) ∧ ∀ base : Heap, K.In base → base.Ns mainGlobals mg → LamX.TabB base mg cM TT → FnOk l.prog w K mg base (L2.CX l.prog w) 9 fa fd ["_law_script"] (spLawD K 63) := by
  have e := hfa.symm.trans (PySem.W.mg_of X G a18)
  cases e
  have T : Txt K mg := ⟨PySem.W.mg_none_of X G z_isinstance, PySem.W.mg_none_of X G z_int, PySem.W.mg_none_of X G z_bool, PySem.W.mg_none_of X G z_tuple, PySem.W.mg_none_of X G z_len, PySem.W.mg_none_of X G z_all, PySem.W.mg_none_of X G z_sum, PySem.W.mg_none_of X G z_enumerate, PySem.W.mg_none_of X G z_range, PySem.W.mg_none_of X G z_max, PySem.W.mg_none_of X G z_list, PySem.W.mg_none_of X G z_str, gconst_int (PySem.W.mg_of X G g_MOST)⟩
  have e1 := m1.symm.trans (PySem.W.mg_of X G a16)
  cases e1
  have e2 := (X _ _ l16).symm.trans m2
  cases e2
  cases m3
  have e4 : cd16 = .ref cM := m4
  subst e4
  have hmT : (TT, (envOfC "_law_spoilt" (defScope s_l_spoilt_85ed) 0 0 .none).qual ++ "<lambda>") ∈ LTab.tabs := by rw [hI]; exact List.mem_singleton.mpr rfl
  have hu : ∀ p ∈ LTab.tabs, p.1 = TT → p.2 = (envOfC "_law_spoilt" (defScope s_l_spoilt_85ed) 0 0 .none).qual ++ "<lambda>" := fun p hp _ => by
    rw [hI] at hp
    rw [List.mem_singleton.mp hp]
  have F0 := fun_mk (st := s_p_is_whole) l0 c0 k0
  have F1 := fun_mk (st := s_p_is_row_c208) l1 c1 k1
  have F2 := fun_mk (st := s_p_is_rule) l2 c2 k2
  have F3 := fun_mk (st := s_l_cell_at) l3 c3 k3
  have F4 := fun_mk (st := s_l_mixed) l4 c4 k4
  have F5 := fun_mk (st := s_l_drawn) l5 c5 k5
  have F6 := fun_mk (st := s_l_number) l6 c6 k6
  have F7 := fun_mk (st := s_l_next) l7 c7 k7
  have F8 := fun_mk (st := s_l_numbers) l8 c8 k8
  have F9 := fun_mk (st := s_l_made) l9 c9 k9
  have F10 := fun_mk (st := s_l_row) l10 c10 k10
  have F11 := fun_mk (st := s_l_is_row) l11 c11 k11
  have F12 := fun_mk (st := s_l_same) l12 c12 k12
  have F13 := fun_mk (st := s_l_places_in) l13 c13 k13
  have F14 := fun_mk (st := s_l_put_at) l14 c14 k14
  have F15 := fun_mk (st := s_l_otherwise) l15 c15 k15
  have F16 := fun_mk (st := s_l_spoilt_85ed) l16 c16 k16
  have F17 := fun_mk (st := s_l_once) l17 c17 k17
  have F18 := fun_mk (st := s_l_law) l18 c18 k18
  have b0 := F0.binds (ps := ["thing"]) fun _ _ _ _ _ _ us hl => match us, hl with | [_], _ => rfl
  have b1 := F1.binds (ps := ["thing", "size"]) fun _ _ _ _ _ _ us hl => match us, hl with | [_, _], _ => rfl
  have b2 := F2.binds (ps := ["thing", "size"]) fun _ _ _ _ _ _ us hl => match us, hl with | [_, _], _ => rfl
  have b3 := F3.binds (ps := ["_law_script", "_law_k"]) fun _ _ _ _ _ _ us hl => match us, hl with | [_, _], _ => rfl
  have b4 := F4.binds (ps := ["_law_script", "_law_k"]) fun _ _ _ _ _ _ us hl => match us, hl with | [_, _], _ => rfl
  have b5 := F5.binds (ps := ["_law_number_here", "_law_k"]) fun _ _ _ _ _ _ us hl => match us, hl with | [_, _], _ => rfl
  have b6 := F6.binds (ps := ["_law_thing", "_law_low", "_law_high"]) fun _ _ _ _ _ _ us hl => match us, hl with | [_, _, _], _ => rfl
  have b7 := F7.binds (ps := ["_law_row_here", "_law_rule", "_law_size"]) fun _ _ _ _ _ _ us hl => match us, hl with | [_, _, _], _ => rfl
  have b8 := F8.binds (ps := ["_law_number_here", "_law_size", "_law_many"]) fun _ _ _ _ _ _ us hl => match us, hl with | [_, _, _], _ => rfl
  have b9 := F9.binds (ps := ["_law_start", "_law_rule", "_law_size", "_law_many"]) fun _ _ _ _ _ _ us hl => match us, hl with | [_, _, _, _], _ => rfl
  have b10 := F10.binds (ps := ["_law_number_here", "_law_size", "_law_most"]) fun _ _ _ _ _ _ us hl => match us, hl with | [_, _, _], _ => rfl
  have b11 := F11.binds (ps := ["_law_thing", "_law_size"]) fun _ _ _ _ _ _ us hl => match us, hl with | [_, _], _ => rfl
  have b12 := F12.binds (ps := ["_law_found", "_law_due"]) fun _ _ _ _ _ _ us hl => match us, hl with | [_, _], _ => rfl
  have b13 := F13.binds (ps := ["_law_bent_one", "_law_bent_way"]) fun _ _ _ _ _ _ us hl => match us, hl with | [_, _], _ => rfl
  have b14 := F14.binds (ps := ["_law_bent_one", "_law_bent_way", "_law_bent_by"]) fun _ _ _ _ _ _ us hl => match us, hl with | [_, _, _], _ => rfl
  have b15 := F15.binds (ps := ["_law_bent_one", "_law_bent_number"]) fun _ _ _ _ _ _ us hl => match us, hl with | [_, _], _ => rfl
  have b16 := F16.binds (ps := ["_law_thing", "_law_number_here", "_law_deep"]) fun _ _ _ _ _ _ us hl => match us, hl with | [_, _, _], _ => rfl
  have b17 := F17.binds (ps := ["_law_script"]) fun _ _ _ _ _ _ us hl => match us, hl with | [_], _ => rfl
  refine ⟨PySem.W.fnOf "law" "law" (defArgs s_l_law) (defBody s_l_law) (defScope s_l_law) .none kV18 dc18 pm18 an18 cd18 ct18, fun s v => .of_eq rfl, fun base _ _ TB => ?_⟩
  have C_p_is_whole : Callable l.prog w K mg base "is_whole" 1 1 d_p_is_whole := callable (PySem.W.mg_of X G a0) k0 b0 (ok_p_is_whole T  F0) defD_len
  have C_p_is_row_c208 : Callable l.prog w K mg base "is_row" 2 2 d_p_is_row_c208 := callable (PySem.W.mg_of X G a1) k1 b1 (ok_p_is_row_c208 T C_p_is_whole F1) defD_len
  have C_p_is_rule : Callable l.prog w K mg base "is_rule" 3 2 d_p_is_rule := callable (PySem.W.mg_of X G a2) k2 b2 (ok_p_is_rule T C_p_is_row_c208 F2) defD_len
  have C_l_cell_at : Callable l.prog w K mg base "_law_cell_at" 1 2 d_l_cell_at := callable (PySem.W.mg_of X G a3) k3 b3 (ok_l_cell_at T  F3) defD_len
  have C_l_mixed : Callable l.prog w K mg base "_law_mixed" 2 2 d_l_mixed := callable (PySem.W.mg_of X G a4) k4 b4 (ok_l_mixed T C_l_cell_at F4) defD_len
  have C_l_drawn : Callable l.prog w K mg base "_law_drawn" 1 2 d_l_drawn := callable (PySem.W.mg_of X G a5) k5 b5 (ok_l_drawn T  F5) defD_len
  have C_l_number : Callable l.prog w K mg base "_law_number" 1 3 d_l_number := callable (PySem.W.mg_of X G a6) k6 b6 (ok_l_number T  F6) defD_len
  have C_l_next : Callable l.prog w K mg base "_law_next" 1 3 d_l_next := callable (PySem.W.mg_of X G a7) k7 b7 (ok_l_next T  F7) defD_len
  have C_l_numbers : Callable l.prog w K mg base "_law_numbers" 2 3 d_l_numbers := callable (PySem.W.mg_of X G a8) k8 b8 (ok_l_numbers T C_l_drawn F8) defD_len
  have C_l_made : Callable l.prog w K mg base "_law_made" 2 4 d_l_made := callable (PySem.W.mg_of X G a9) k9 b9 (ok_l_made T C_l_next F9) defD_len
  have C_l_row : Callable l.prog w K mg base "_law_row" 3 3 d_l_row := callable (PySem.W.mg_of X G a10) k10 b10 (ok_l_row T C_l_numbers C_l_drawn C_l_made F10) defD_len
  have C_l_is_row : Callable l.prog w K mg base "_law_is_row" 2 2 d_l_is_row := callable (PySem.W.mg_of X G a11) k11 b11 (ok_l_is_row T C_l_number F11) defD_len
  have C_l_same : Callable l.prog w K mg base "_law_same" 1 2 d_l_same := callable (PySem.W.mg_of X G a12) k12 b12 (ok_l_same T  F12) defD_len
  have C_l_places_in_0 : Callable l.prog w K mg base "_law_places_in" 1 2 (dr_l_places_in 0) := callable (PySem.W.mg_of X G a13) k13 b13 (okz_l_places_in T  F13) defD_len
  have C_l_places_in_1 : Callable l.prog w K mg base "_law_places_in" (1 + 0 + 1) 2 (dr_l_places_in (0 + 1)) := callable (PySem.W.mg_of X G a13) k13 b13 (oks_l_places_in (q := 0) T  C_l_places_in_0 F13) defD_len
  have C_l_places_in_2 : Callable l.prog w K mg base "_law_places_in" (1 + 1 + 1) 2 (dr_l_places_in (1 + 1)) := callable (PySem.W.mg_of X G a13) k13 b13 (oks_l_places_in (q := 1) T  C_l_places_in_1 F13) defD_len
  have C_l_places_in : Callable l.prog w K mg base "_law_places_in" 3 2 d_l_places_in := C_l_places_in_2
  have C_l_put_at : Putter K mg "_law_put_at" "_law_bent_one" "_law_bent_way" "_law_bent_by" s_l_put_at := ⟨⟨f14, _, PySem.W.mg_of X G a14, k14, F14, b14⟩⟩
  have C_l_otherwise : Callable l.prog w K mg base "_law_otherwise" 1 2 d_l_otherwise := callable (PySem.W.mg_of X G a15) k15 b15 (ok_l_otherwise T  F15) defD_len
  have C_l_spoilt_85ed : Callable l.prog w K mg base "_law_spoilt" 7 3 d_l_spoilt_85ed := callable (PySem.W.mg_of X G a16) k16 b16 (ok_l_spoilt_85ed T C_l_places_in C_l_put_at C_l_otherwise l16 c16 TB hmT hu) defD_len
  have C_l_once : Callable l.prog w K mg base "_law_once" 8 1 d_l_once := callable (PySem.W.mg_of X G a17) k17 b17 (ok_l_once T C_l_row C_l_mixed C_l_is_row C_l_numbers C_l_spoilt_85ed C_l_same C_p_is_row_c208 C_p_is_rule F17) defD_len
  exact lawOk (ok_l_law T C_l_once F18) hlaw

end Ey
open PySem PySem.W PyProof.Rows in
set_option maxRecDepth 100000 in
set_option maxHeartbeats 0 in
theorem PySem.Challenge.cw_echoyard_k09_lists_anywhere_holds : PySem.Challenge.rw_echoyard_k09_lists_anywhere.Holds := by
  w_on; o_law; k_head; (case hw => w_witness2)
  k_fill
  refine DL.walkT (l := PySem.Challenge.rw_echoyard_k09_lists_anywhere) (most := 63) (room := 9) (par := "_law_script") (q := (envOfC "_law_spoilt" (L2.defScope Ey.s_l_spoilt_85ed) 0 0 .none).qual ++ "<lambda>") "_law_spoilt" rfl (by decide) rfl ⟨rfl, by decide, by decide⟩ (fun w h Y => PySem.W.km_in_of Y) rfl ?hnt ?F
  case hnt =>
    intro p
    first | rfl | k_is | kit_is
  case F =>
    intro w mg fa h KX G hmg fm om fdm cM TT m1 m2 m3 m4
    refine' Ey.all_mk (iT := ⟨[(TT, (envOfC "_law_spoilt" (L2.defScope Ey.s_l_spoilt_85ed) 0 0 .none).qual ++ "<lambda>")]⟩) KX G hmg Ey.law_true ?a0 ?l0 ?c0 ?k0 ?a1 ?l1 ?c1 ?k1 ?a2 ?l2 ?c2 ?k2 ?a3 ?l3 ?c3 ?k3 ?a4 ?l4 ?c4 ?k4 ?a5 ?l5 ?c5 ?k5 ?a6 ?l6 ?c6 ?k6 ?a7 ?l7 ?c7 ?k7 ?a8 ?l8 ?c8 ?k8 ?a9 ?l9 ?c9 ?k9 ?a10 ?l10 ?c10 ?k10 ?a11 ?l11 ?c11 ?k11 ?a12 ?l12 ?c12 ?k12 ?a13 ?l13 ?c13 ?k13 ?a14 ?l14 ?c14 ?k14 ?a15 ?l15 ?c15 ?k15 ?a16 ?l16 ?c16 ?k16 ?a17 ?l17 ?c17 ?k17 ?a18 ?l18 ?c18 ?k18 ?z_isinstance ?z_int ?z_bool ?z_tuple ?z_len ?z_all ?z_sum ?z_enumerate ?z_range ?z_max ?z_list ?z_str ?g_MOST m1 m2 m3 m4 rfl
    (case a0 => k_is)
    (case l0 => k_is)
    (case c0 => k_is)
    (case k0 => k_is)
    (case a1 => k_is)
    (case l1 => k_is)
    (case c1 => k_is)
    (case k1 => k_is)
    (case a2 => k_is)
    (case l2 => k_is)
    (case c2 => k_is)
    (case k2 => k_is)
    (case a3 => k_is)
    (case l3 => k_is)
    (case c3 => k_is)
    (case k3 => k_is)
    (case a4 => k_is)
    (case l4 => k_is)
    (case c4 => k_is)
    (case k4 => k_is)
    (case a5 => k_is)
    (case l5 => k_is)
    (case c5 => k_is)
    (case k5 => k_is)
    (case a6 => k_is)
    (case l6 => k_is)
    (case c6 => k_is)
    (case k6 => k_is)
    (case a7 => k_is)
    (case l7 => k_is)
    (case c7 => k_is)
    (case k7 => k_is)
    (case a8 => k_is)
    (case l8 => k_is)
    (case c8 => k_is)
    (case k8 => k_is)
    (case a9 => k_is)
    (case l9 => k_is)
    (case c9 => k_is)
    (case k9 => k_is)
    (case a10 => k_is)
    (case l10 => k_is)
    (case c10 => k_is)
    (case k10 => k_is)
    (case a11 => k_is)
    (case l11 => k_is)
    (case c11 => k_is)
    (case k11 => k_is)
    (case a12 => k_is)
    (case l12 => k_is)
    (case c12 => k_is)
    (case k12 => k_is)
    (case a13 => k_is)
    (case l13 => k_is)
    (case c13 => k_is)
    (case k13 => k_is)
    (case a14 => k_is)
    (case l14 => k_is)
    (case c14 => k_is)
    (case k14 => k_is)
    (case a15 => k_is)
    (case l15 => k_is)
    (case c15 => k_is)
    (case k15 => k_is)
    (case a16 => k_is)
    (case l16 => k_is)
    (case c16 => k_is)
    (case k16 => k_is)
    (case a17 => k_is)
    (case l17 => k_is)
    (case c17 => k_is)
    (case k17 => k_is)
    (case a18 => k_is)
    (case l18 => k_is)
    (case c18 => k_is)
    (case k18 => k_is)
    (case z_isinstance => k_is)
    (case z_int => k_is)
    (case z_bool => k_is)
    (case z_tuple => k_is)
    (case z_len => k_is)
    (case z_all => k_is)
    (case z_sum => k_is)
    (case z_enumerate => k_is)
    (case z_range => k_is)
    (case z_max => k_is)
    (case z_list => k_is)
    (case z_str => k_is)
    (case g_MOST => k_is)

