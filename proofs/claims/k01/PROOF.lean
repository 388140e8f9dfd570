import PyProof.Rows.All
import Wide.All
import OpenK.AllK
import Wide.FinOn
import KE.KStateDown
import HandS.Base
import HandS.Call
import HandS.List
import HandS.Comp
import HandS.Ends
import HandS.Dict
import HandS.Iter
import HandS.Text
import HandS.More
import HandS.Exc
import HandS.Words
import HandS.WordsExc
import HandS.Defaults
import HandS.CallSlots
import HandS.Lambda
import HandS.ExcCtx
import HandS.HotCalls
import HandS.ExcInit
import HandS.ExcIs
import HandS.ExcField
import HandS.ExcOwn
import HandS.Star
import HandS.Wide
import HandS.WideBits
import HandS.Style
import HandS.TupAny
import PyProof.StrBlock2
import HandS.Flow
import HandS.IsInst
import HandS.FStr
import HandS.Deep
import HandS.Walk
import HandS.Conv
import HandS.RaiseMore
import PyProof.ReprRoads
import HandS.WordsDict
import HandS.WordsList
import HandS.MakeKw
import HandS.New
import HandS.EndBits
import HandS.Head0
import HandS.Head1
import HandS.Head2
import HandS.HeadHook1
import HandS.HeadHook2
import KE.GoesMore
import PyProof.EnumMake
import PyProof.Draws
import PyProof.AssignAttr
import HandS.MakeKwOnly
import HandS.DictSub
import OpenK.KOps
import KE.KCallOwn
import KE.KFmtOwn
import HandS.SlotsOwn
import PyProof.InstEq
import HandS.EndTab
import HandS.NestedK
import HandS.HeadHook4
import HandS.DictComp
import HandS.ClsMeth
import HandS.HeadNt
import HandS.Replace
import PyProof.FitsInt
import PyProof.Rows.ReprOcc
import KE.KTryMore
import KE.KExcIs
import Lean
import Open.Tops
import PyProof.ReprDict
import HandS.SortInts
import PyProof.Rows.SortKeyStr
import KE.SortKeyHeap
import HandS.ExcValue
import PyProof.TupleOfSeq
import KE.KExcInit
import PySem.Challenge.RW_glimpserounds_k01_constants_and_errors
set_option Elab.async false
set_option linter.all false
set_option maxRecDepth 100000
set_option maxHeartbeats 0
section
open PySem PySem.W PySem.Calls PyProof.Rows
open_shared k01s for PySem.Challenge.pw_glimpserounds_k01_constants_and_errors leaving 12
end
/-! Dy1: data by value over the abstract heap: Dm, Rep; slots, memory; the state's relation. -/
namespace Dy
open PySem
open PySem.Spec
open L2

/-- a datum: lists, tuples, dicts and instances by value; ref i: the i-th object of the memory -/
inductive Dm where
  | non
  | bl (b : Bool)
  | int (i : Int)
  | str (x : Str)
  | tup (xs : List Dm)
  | lst (xs : List Dm)
  | frl (xs : List Dm)
  | dic (kvs : List (Key × Dm))
  | obj (C : Str) (fs : List (Str × Dm))
  | exc (C : Str) (fs : List (Str × Dm))
  | ref (i : Nat)
  | glo (x : Str)
  | ty (n : String)
  | hot (C : Str) (fs : List (Str × Dm))

abbrev Av := Addr → Prop
/-- all that stands and is not written stays so; tables of code objects may grow -/
def Ext (N : Av) (H : Hp) (N' : Av) (H' : Hp) : Prop := ∀ a o, H a = some o → (∀ ps, o ≠ .tbl ps) → ¬ N a → H' a = some o ∧ ¬ N' a
theorem Ext.refl {N : Av} {H : Hp} : Ext N H N H := fun _ _ h _ n => ⟨h, n⟩
theorem Ext.trans {N N1 N2 : Av} {H H1 H2 : Hp} (a : Ext N H N1 H1) (b : Ext N1 H1 N2 H2) : Ext N H N2 H2 := fun c o h t n =>
  let ⟨h1, n1⟩ := a c o h t n
  b c o h1 t n1
theorem Ext.less {N N1 N2 : Av} {H H1 : Hp} (a : Ext N H N1 H1) (h : ∀ x, N2 x → N1 x) : Ext N H N2 H1 := fun c o e t n =>
  let ⟨h1, n1⟩ := a c o e t n
  ⟨h1, fun z => n1 (h c z)⟩
/-- a new object is laid -/
theorem Ext.new {N : Av} {H : Hp} {p : Addr} {o : HO} (hp : H p = none) : Ext N H N (upd H p o) := fun c u h _ n => ⟨by rw [upd_ne (ne_of_none h hp)]; exact h, n⟩
/-- an object that may be written is written -/
theorem Ext.put {N : Av} {H : Hp} {p : Addr} {o : HO} (hp : N p) : Ext N H N (upd H p o) := fun c u h _ n => ⟨by rw [upd_ne (fun e => n (by rw [e]; exact hp))]; exact h, n⟩

/-- the entry of the frame -/
structure Bs where
  F : Av
  H0 : Hp
  W0 : Av
  im0 : List Addr
/-- tables of code objects; where the frame began; the exception that is handled: itself, its class, its dict; the lambda that was handed over -/
structure Tb where
  tabs : List (Addr × Str)
  codes : List (Addr × Str)
  rt : Option Bs
  hot : Option (Addr × Addr × Option Addr)
  pin : Option Addr
/-- the module: the written part, the globals, the tables -/
structure Gm where
  K : PySem.W.Frag
  mg : Str → Option Value
  T : Tb

/-- a sequence of the written part -/
def KL (K : PySem.W.Frag) (a : Addr) (xs : List V) : Prop := SqL K (fun _ => none) a xs
def KT (K : PySem.W.Frag) (a : Addr) (xs : List V) : Prop := SqT K (fun _ => none) a xs
theorem KL.to {K : PySem.W.Frag} {a : Addr} {xs : List V} (h : KL K a xs) (H : Hp) : SqL K H a xs := by
  rcases h with (h | ⟨_, h⟩) | h
  · cases h
  · cases h
  · exact .inr h
theorem KT.to {K : PySem.W.Frag} {a : Addr} {xs : List V} (h : KT K a xs) (H : Hp) : SqT K H a xs := by
  rcases h with (h | ⟨_, h⟩) | h
  · cases h
  · cases h
  · exact .inr h
/-- read at a, and a is not to be written -/
def Kp (N : Av) (H : Hp) (a : Addr) (u : HO) : Prop := Rd H a u ∧ ¬ N a
def SL (K : PySem.W.Frag) (N : Av) (H : Hp) (a : Addr) (xs : List V) : Prop := Kp N H a (.lst xs) ∨ KL K a xs
def ST (K : PySem.W.Frag) (N : Av) (H : Hp) (a : Addr) (xs : List V) : Prop := Kp N H a (.tup xs) ∨ KT K a xs
theorem SL.sq {K : PySem.W.Frag} {N : Av} {H : Hp} {a : Addr} {xs : List V} (h : SL K N H a xs) : SqL K H a xs := by
  rcases h with h | h
  · exact .inl h.1
  · exact h.to H
theorem ST.sq {K : PySem.W.Frag} {N : Av} {H : Hp} {a : Addr} {xs : List V} (h : ST K N H a xs) : SqT K H a xs := by
  rcases h with h | h
  · exact .inl h.1
  · exact h.to H

/-- the script, or a list of the written part -/
def SZ (K : PySem.W.Frag) (N : Av) (H : Hp) (a : Addr) (xs : List V) : Prop := (∃ o, H a = some (.frz o (.lst xs)) ∧ ¬ N a) ∨ KL K a xs
theorem SZ.sq {K : PySem.W.Frag} {N : Av} {H : Hp} {a : Addr} {xs : List V} (h : SZ K N H a xs) : SqL K H a xs := by
  rcases h with ⟨o, h, _⟩ | h
  · exact .inl (.inr ⟨o, h⟩)
  · exact h.to H

/-- an exception object of the class at C, its own dict (none: it has no attribute) -/
def EXO (C : Addr) (d : Option Addr) (a : Addr) : HO := .ext fun h => ∃ (oe : Obj) (vs : Array Value), h.get? a = some oe ∧ Zc (.ref C) d oe ∧ oe.data = .fields vs ∧ vs[1]? = some .none
/-- its attributes -/
def ExAt (H : Hp) (d : Option Addr) (fs : List (Str × V)) : Prop :=
  match d with
  | none => fs = []
  | some x => H x = some (.xd fs)

mutual
/-- the value v is the datum d; N: what may be written (no datum names it) -/
inductive Rep (g : Gm) (N : Av) (im : List Addr) (H : Hp) : V → Dm → Prop
  | non : Rep g N im H .non .non
  | bl (b : Bool) : Rep g N im H (.bl b) (.bl b)
  | int (i : Int) : Rep g N im H (.int i) (.int i)
  | str (x : Str) : Rep g N im H (.str x) (.str x)
  | tup {a : Addr} {xs : List V} {ds : List Dm} : ST g.K N H a xs → Reps g N im H xs ds → Rep g N im H (.ref a) (.tup ds)
  | lst {a : Addr} {xs : List V} {ds : List Dm} : H a = some (.lst xs) → ¬ N a → Reps g N im H xs ds → Rep g N im H (.ref a) (.lst ds)
  | frl {a : Addr} {xs : List V} {ds : List Dm} : SZ g.K N H a xs → Reps g N im H xs ds → Rep g N im H (.ref a) (.frl ds)
  | dic {a : Addr} {xs : List (Key × V)} {ds : List (Key × Dm)} : H a = some (.dK xs) → ¬ N a → RepK g N im H xs ds → Rep g N im H (.ref a) (.dic ds)
  | obj {a Ca dx : Addr} {C : Str} {xs : List (Str × V)} {ds : List (Str × Dm)} : g.mg C = some (.ref Ca) → H a = some (.ins Ca dx xs) → ¬ N a → RepF g N im H xs ds → Rep g N im H (.ref a) (.obj C ds)
  | exc {a Ca : Addr} {d : Option Addr} {C : Str} {xs : List (Str × V)} {ds : List (Str × Dm)} : g.mg C = some (.ref Ca) → H a = some (EXO Ca d a) → ¬ N a → ExAt H d xs → (∀ x, d = some x → ¬ N x) → RepF g N im H xs ds → Rep g N im H (.ref a) (.exc C ds)
  | ref {i : Nat} {a : Addr} : im[i]? = some a → Rep g N im H (.ref a) (.ref i)
  | glo {x : Str} {v : V} {u : Value} : g.mg x = some u → RelV v u → Rep g N im H v (.glo x)
  | ty (n : String) : Rep g N im H (.ty n) (.ty n)
  | hot {a Ca : Addr} {d : Option Addr} {C : Str} {xs : List (Str × V)} {ds : List (Str × Dm)} : g.T.hot = some (a, Ca, d) → g.mg C = some (.ref Ca) → ExAt H d xs → (∀ x, d = some x → ¬ N x) → RepF g N im H xs ds → Rep g N im H (.ref a) (.hot C ds)
inductive Reps (g : Gm) (N : Av) (im : List Addr) (H : Hp) : List V → List Dm → Prop
  | nil : Reps g N im H [] []
  | cons {v : V} {d : Dm} {vs : List V} {ds : List Dm} : Rep g N im H v d → Reps g N im H vs ds → Reps g N im H (v :: vs) (d :: ds)
inductive RepK (g : Gm) (N : Av) (im : List Addr) (H : Hp) : List (Key × V) → List (Key × Dm) → Prop
  | nil : RepK g N im H [] []
  | cons {k : Key} {v : V} {d : Dm} {vs : List (Key × V)} {ds : List (Key × Dm)} : Rep g N im H v d → RepK g N im H vs ds → RepK g N im H ((k, v) :: vs) ((k, d) :: ds)
inductive RepF (g : Gm) (N : Av) (im : List Addr) (H : Hp) : List (Str × V) → List (Str × Dm) → Prop
  | nil : RepF g N im H [] []
  | cons {k : Str} {v : V} {d : Dm} {vs : List (Str × V)} {ds : List (Str × Dm)} : Rep g N im H v d → RepF g N im H vs ds → RepF g N im H ((k, v) :: vs) ((k, d) :: ds)
end

theorem Kp.mono {N N' : Av} {H H' : Hp} (x : Ext N H N' H') {a : Addr} {u : HO} (hu : ∀ ps, u ≠ .tbl ps) (h : Kp N H a u) : Kp N' H' a u := by
  obtain ⟨h | ⟨o, h⟩, n⟩ := h
  · obtain ⟨h1, n1⟩ := x a _ h hu n
    exact ⟨.inl h1, n1⟩
  · obtain ⟨h1, n1⟩ := x a _ h (fun ps e => by cases e) n
    exact ⟨.inr ⟨o, h1⟩, n1⟩
theorem SL.mono {K : PySem.W.Frag} {N N' : Av} {H H' : Hp} (x : Ext N H N' H') {a : Addr} {xs : List V} (h : SL K N H a xs) : SL K N' H' a xs := by
  rcases h with h | h
  · exact .inl (h.mono x fun ps e => by cases e)
  · exact .inr h
theorem ST.mono {K : PySem.W.Frag} {N N' : Av} {H H' : Hp} (x : Ext N H N' H') {a : Addr} {xs : List V} (h : ST K N H a xs) : ST K N' H' a xs := by
  rcases h with h | h
  · exact .inl (h.mono x fun ps e => by cases e)
  · exact .inr h
theorem SZ.mono {K : PySem.W.Frag} {N N' : Av} {H H' : Hp} (x : Ext N H N' H') {a : Addr} {xs : List V} (h : SZ K N H a xs) : SZ K N' H' a xs := by
  rcases h with ⟨o, h, n⟩ | h
  · obtain ⟨h1, n1⟩ := x a _ h (fun ps e => by cases e) n
    exact .inl ⟨o, h1, n1⟩
  · exact .inr h
theorem pre_get {α : Type} {l l' : List α} (p : l <+: l') {i : Nat} {a : α} (h : l[i]? = some a) : l'[i]? = some a := by
  obtain ⟨m, rfl⟩ := p
  rw [List.getElem?_append_left (List.getElem?_eq_some_iff.mp h).1]
  exact h
section
variable {g : Gm} {N N' : Av} {im im' : List Addr} {H H' : Hp}
mutual
theorem Rep.mono (x : Ext N H N' H') (p : im <+: im') : ∀ {v : V} {d : Dm}, Rep g N im H v d → Rep g N' im' H' v d
  | _, _, .non => .non
  | _, _, .bl b => .bl b
  | _, _, .int i => .int i
  | _, _, .str y => .str y
  | _, _, .tup h r => .tup (h.mono x) (Reps.mono x p r)
  | _, _, .lst h n r => .lst (x _ _ h (fun ps e => by cases e) n).1 (x _ _ h (fun ps e => by cases e) n).2 (Reps.mono x p r)
  | _, _, .frl h r => .frl (h.mono x) (Reps.mono x p r)
  | _, _, .dic h n r => .dic (x _ _ h (fun ps e => by cases e) n).1 (x _ _ h (fun ps e => by cases e) n).2 (RepK.mono x p r)
  | _, _, .obj c h n r => .obj c (x _ _ h (fun ps e => by cases e) n).1 (x _ _ h (fun ps e => by cases e) n).2 (RepF.mono x p r)
  | _, _, .exc (d := d) c h n e ne r => .exc c (x _ _ h (fun ps e => by unfold EXO at e; cases e) n).1 (x _ _ h (fun ps e => by unfold EXO at e; cases e) n).2
      (by
        cases d with
        | none => exact e
        | some y => exact (x _ _ e (fun ps z => by cases z) (ne y rfl)).1)
      (fun y hy => by
        subst hy
        exact (x _ _ e (fun ps z => by cases z) (ne y rfl)).2) (RepF.mono x p r)
  | _, _, .ref h => .ref (pre_get p h)
  | _, _, .glo h r => .glo h r
  | _, _, .ty n => .ty n
  | _, _, .hot (d := d) h c e ne r => .hot h c
      (by
        cases d with
        | none => exact e
        | some y => exact (x _ _ e (fun ps z => by cases z) (ne y rfl)).1)
      (fun y hy => by
        subst hy
        exact (x _ _ e (fun ps z => by cases z) (ne y rfl)).2) (RepF.mono x p r)
theorem Reps.mono (x : Ext N H N' H') (p : im <+: im') : ∀ {v : List V} {d : List Dm}, Reps g N im H v d → Reps g N' im' H' v d
  | _, _, .nil => .nil
  | _, _, .cons h r => .cons (Rep.mono x p h) (Reps.mono x p r)
theorem RepK.mono (x : Ext N H N' H') (p : im <+: im') : ∀ {v : List (Key × V)} {d : List (Key × Dm)}, RepK g N im H v d → RepK g N' im' H' v d
  | _, _, .nil => .nil
  | _, _, .cons h r => .cons (Rep.mono x p h) (RepK.mono x p r)
theorem RepF.mono (x : Ext N H N' H') (p : im <+: im') : ∀ {v : List (Str × V)} {d : List (Str × Dm)}, RepF g N im H v d → RepF g N' im' H' v d
  | _, _, .nil => .nil
  | _, _, .cons h r => .cons (Rep.mono x p h) (RepF.mono x p r)
end
theorem Reps.length : ∀ {v : List V} {d : List Dm}, Reps g N im H v d → v.length = d.length
  | _, _, .nil => rfl
  | _, _, .cons _ r => congrArg (· + 1) r.length
theorem Reps.append : ∀ {v w : List V} {d e : List Dm}, Reps g N im H v d → Reps g N im H w e → Reps g N im H (v ++ w) (d ++ e)
  | _, _, _, _, .nil, s => s
  | _, _, _, _, .cons h r, s => .cons h (r.append s)
theorem Reps.get : ∀ {v : List V} {d : List Dm} {i : Nat} {y : Dm}, Reps g N im H v d → d[i]? = some y → ∃ x, v[i]? = some x ∧ Rep g N im H x y
  | _, _, _, _, .nil, e => by simp at e
  | _, _, 0, _, .cons h _, e => by
    have e' := Option.some.inj (show some _ = some _ from e)
    subst e'
    exact ⟨_, rfl, h⟩
  | _, _, i + 1, _, .cons _ r, e => Reps.get (i := i) r e
theorem Reps.getV : ∀ {v : List V} {d : List Dm} {i : Nat} {x : V}, Reps g N im H v d → v[i]? = some x → ∃ y, d[i]? = some y ∧ Rep g N im H x y
  | _, _, _, _, .nil, e => by simp at e
  | _, _, 0, _, .cons h _, e => by
    have e' := Option.some.inj (show some _ = some _ from e)
    subst e'
    exact ⟨_, rfl, h⟩
  | _, _, i + 1, _, .cons _ r, e => Reps.getV (i := i) r e
theorem Reps.set : ∀ {v : List V} {d : List Dm} (i : Nat) {x : V} {y : Dm}, Reps g N im H v d → Rep g N im H x y → Reps g N im H (v.set i x) (d.set i y)
  | _, _, _, _, _, .nil, _ => .nil
  | _, _, 0, _, _, .cons _ r, q => .cons q r
  | _, _, i + 1, _, _, .cons h r, q => .cons h (r.set i q)
theorem Reps.take : ∀ {v : List V} {d : List Dm} (n : Nat), Reps g N im H v d → Reps g N im H (v.take n) (d.take n)
  | _, _, 0, _ => .nil
  | _, _, _ + 1, .nil => .nil
  | _, _, n + 1, .cons h r => .cons h (r.take n)
theorem Reps.drop : ∀ {v : List V} {d : List Dm} (n : Nat), Reps g N im H v d → Reps g N im H (v.drop n) (d.drop n)
  | _, _, 0, r => r
  | _, _, _ + 1, .nil => .nil
  | _, _, n + 1, .cons _ r => Reps.drop n r
end
/-- the tables stand, and the code objects that are told -/
def TabsC (t : Tb) (H : Hp) : Prop := LamX.Tabs t.tabs H ∧ ∀ p ∈ t.codes, H p.1 = some (LamX.CodeO p.1 p.2)
/-- the tables play no part in what a datum is, but for the exception that is handled -/
def Gm.to (g : Gm) (T : Tb) : Gm := ⟨g.K, g.mg, T⟩
section
variable {g : Gm} {N : Av} {im : List Addr} {H : Hp} {T : Tb} (hh : g.T.hot = T.hot)
include hh
mutual
theorem Rep.cg : ∀ {v : V} {d : Dm}, Rep g N im H v d → Rep (g.to T) N im H v d
  | _, _, .non => .non
  | _, _, .bl b => .bl b
  | _, _, .int i => .int i
  | _, _, .str y => .str y
  | _, _, .tup h r => .tup h (Reps.cg r)
  | _, _, .lst h n r => .lst h n (Reps.cg r)
  | _, _, .frl h r => .frl h (Reps.cg r)
  | _, _, .dic h n r => .dic h n (RepK.cg r)
  | _, _, .obj c h n r => .obj c h n (RepF.cg r)
  | _, _, .exc c h n e ne r => .exc c h n e ne (RepF.cg r)
  | _, _, .ref h => .ref h
  | _, _, .glo h r => .glo h r
  | _, _, .ty n => .ty n
  | _, _, .hot h c e ne r => .hot (hh ▸ h) c e ne (RepF.cg r)
theorem Reps.cg : ∀ {v : List V} {d : List Dm}, Reps g N im H v d → Reps (g.to T) N im H v d
  | _, _, .nil => .nil
  | _, _, .cons h r => .cons (Rep.cg h) (Reps.cg r)
theorem RepK.cg : ∀ {v : List (Key × V)} {d : List (Key × Dm)}, RepK g N im H v d → RepK (g.to T) N im H v d
  | _, _, .nil => .nil
  | _, _, .cons h r => .cons (Rep.cg h) (RepK.cg r)
theorem RepF.cg : ∀ {v : List (Str × V)} {d : List (Str × Dm)}, RepF g N im H v d → RepF (g.to T) N im H v d
  | _, _, .nil => .nil
  | _, _, .cons h r => .cons (Rep.cg h) (RepF.cg r)
end
end
/-- data that do not name the exception that is handled -/
def nh : Nat → Dm → Bool
  | 0, _ => false
  | n + 1, .tup ds => ds.all (nh n)
  | n + 1, .lst ds => ds.all (nh n)
  | n + 1, .frl ds => ds.all (nh n)
  | n + 1, .dic ds => ds.all fun p => nh n p.2
  | n + 1, .obj _ ds => ds.all fun p => nh n p.2
  | n + 1, .exc _ ds => ds.all fun p => nh n p.2
  | _ + 1, .hot _ _ => false
  | _ + 1, _ => true
section
variable {g : Gm} {N : Av} {im : List Addr} {H : Hp} (T : Tb)
mutual
theorem Rep.nh : ∀ (n : Nat) {v : V} {d : Dm}, Rep g N im H v d → Dy.nh n d = true → Rep (g.to T) N im H v d
  | 0, _, _, _, h => by cases h
  | n + 1, _, _, .non, _ => .non
  | n + 1, _, _, .bl b, _ => .bl b
  | n + 1, _, _, .int i, _ => .int i
  | n + 1, _, _, .str y, _ => .str y
  | n + 1, _, _, .tup h r, q => .tup h (Reps.nh n r q)
  | n + 1, _, _, .lst h k r, q => .lst h k (Reps.nh n r q)
  | n + 1, _, _, .frl h r, q => .frl h (Reps.nh n r q)
  | n + 1, _, _, .dic h k r, q => .dic h k (RepK.nh n r q)
  | n + 1, _, _, .obj c h k r, q => .obj c h k (RepF.nh n r q)
  | n + 1, _, _, .exc c h k e ne r, q => .exc c h k e ne (RepF.nh n r q)
  | n + 1, _, _, .ref h, _ => .ref h
  | n + 1, _, _, .glo h r, _ => .glo h r
  | n + 1, _, _, .ty y, _ => .ty y
  | n + 1, _, _, .hot .., q => by cases q
theorem Reps.nh : ∀ (n : Nat) {v : List V} {d : List Dm}, Reps g N im H v d → d.all (Dy.nh n) = true → Reps (g.to T) N im H v d
  | _, _, _, .nil, _ => .nil
  | n, _, _, .cons h r, q => .cons (Rep.nh n h (Bool.and_eq_true_iff.mp q).1) (Reps.nh n r (Bool.and_eq_true_iff.mp q).2)
theorem RepK.nh : ∀ (n : Nat) {v : List (Key × V)} {d : List (Key × Dm)}, RepK g N im H v d → (d.all fun p => Dy.nh n p.2) = true → RepK (g.to T) N im H v d
  | _, _, _, .nil, _ => .nil
  | n, _, _, .cons h r, q => .cons (Rep.nh n h (Bool.and_eq_true_iff.mp q).1) (RepK.nh n r (Bool.and_eq_true_iff.mp q).2)
theorem RepF.nh : ∀ (n : Nat) {v : List (Str × V)} {d : List (Str × Dm)}, RepF g N im H v d → (d.all fun p => Dy.nh n p.2) = true → RepF (g.to T) N im H v d
  | _, _, _, .nil, _ => .nil
  | n, _, _, .cons h r, q => .cons (Rep.nh n h (Bool.and_eq_true_iff.mp q).1) (RepF.nh n r (Bool.and_eq_true_iff.mp q).2)
end
end
end Dy

/-! Dy2: memory, slots, the state's relation, what is wanted behind an expression, a statement, a call. -/
namespace Dy
open PySem
open PySem.Spec
open L2

/-- an object that may be changed -/
inductive MO where
  | lst (ds : List Dm)
  | dic (ds : List (Key × Dm))
  | ins (C : Str) (fs : List (Str × Dm))
abbrev Mem := List MO
/-- a name of the frame: unset, a datum, or an object of its own that nothing else names -/
inductive Slot where
  | un
  | val (d : Dm)
  | own (m : MO)
  | pin
inductive R (α : Type) where
  | ok (a : α) (M : Mem)
  | ex (C : Str) (fs : List (Str × Dm)) (M : Mem)
  | bad
def R.bind {α β : Type} (r : R α) (k : α → Mem → R β) : R β := match r with
  | .ok a M => k a M
  | .ex C fs M => .ex C fs M
  | .bad => .bad
abbrev Sl := List Slot
inductive RS where
  | nx (r : Sl) (M : Mem)
  | rt (d : Dm) (M : Mem)
  | rf (m : MO) (M : Mem)
  | bk (r : Sl) (M : Mem)
  | ct (r : Sl) (M : Mem)
  | ex (r : Sl) (C : Str) (fs : List (Str × Dm)) (M : Mem)
  | bad
def RS.seq (r : RS) (k : Sl → Mem → RS) : RS := match r with
  | .nx r M => k r M
  | r => r
def RS.of {α : Type} (r : R α) (q : Sl) (k : α → Mem → RS) : RS := match r with
  | .ok a M => k a M
  | .ex C fs M => .ex q C fs M
  | .bad => .bad

def MoOk (g : Gm) (N : Av) (im : List Addr) (H : Hp) (a : Addr) : MO → Prop
  | .lst ds => ∃ xs, H a = some (.lst xs) ∧ Reps g N im H xs ds
  | .dic ds => ∃ xs, H a = some (.dK xs) ∧ RepK g N im H xs ds
  | .ins C ds => ∃ Ca dx xs, g.mg C = some (.ref Ca) ∧ H a = some (.ins Ca dx xs) ∧ RepF g N im H xs ds
abbrev Ow := Nat → Option Addr
def noOw : Ow := fun _ => none
/-- what this frame or its callees may write -/
def wr (im : List Addr) (ow : Ow) : Av := fun a => a ∈ im ∨ ∃ i, ow i = some a
/-- what no datum names -/
def ns (F : Av) (im : List Addr) (ow : Ow) : Av := fun a => F a ∨ wr im ow a
def SlotOk (g : Gm) (N : Av) (im : List Addr) (H : Hp) (v : Option (Option V)) (o : Option Addr) : Slot → Prop
  | .un => o = none
  | .val d => o = none ∧ ∃ x, v = some (some x) ∧ Rep g N im H x d
  | .own m => ∃ a, o = some a ∧ v = some (some (.ref a)) ∧ MoOk g N im H a m
  | .pin => o = none ∧ ∃ a, g.T.pin = some a ∧ v = some (some (.ref a))
/-- the frame's beginning: what stood there, neither forbidden nor written, is so still -/
def RtOk (t : Tb) (B : Bs) : Prop := ∀ R, t.rt = some R → Ext (fun a => R.F a ∨ R.W0 a) R.H0 (fun a => B.F a ∨ B.W0 a) B.H0 ∧ R.im0 <+: B.im0
theorem RtOk.step {t : Tb} {B B' : Bs} (h : RtOk t B) (x : Ext (fun a => B.F a ∨ B.W0 a) B.H0 (fun a => B'.F a ∨ B'.W0 a) B'.H0) (p : B.im0 <+: B'.im0) : RtOk t B' := fun R e => let ⟨a, b⟩ := h R e; ⟨a.trans x, b.trans p⟩
theorem RtOk.now {t : Tb} {B : Bs} (h : RtOk t B) {W : Av} {H : Hp} {im : List Addr} (x : Ext B.W0 B.H0 W H) (p : B.im0 <+: im) : RtOk t ⟨B.F, H, W, im⟩ :=
  h.step (fun a o e tt n => let ⟨e1, n1⟩ := x a o e tt fun z => n (.inr z); ⟨e1, fun z => z.elim (fun z => n (.inl z)) n1⟩) p
theorem RtOk.less {t : Tb} {B : Bs} (h : RtOk t B) {F : Av} (x : ∀ a, F a → B.F a) : RtOk t ⟨F, B.H0, B.W0, B.im0⟩ := h.step (fun _ _ e _ n => ⟨e, fun z => z.elim (fun z => n (.inl (x _ z))) fun z => n (.inr z)⟩) (List.prefix_refl _)
theorem RtOk.not {t : Tb} (h : t.rt = none) (B : Bs) : RtOk t B := fun R e => by
  rw [h] at e
  cases e
structure StRel (g : Gm) (B : Bs) (im : List Addr) (ow : Ow) (r : Sl) (M : Mem) (σ : St) (H : Hp) : Prop where
  len : σ.length = r.length
  sl : ∀ (i : Nat) (s : Slot), r[i]? = some s → SlotOk g (ns B.F im ow) im H σ[i]? (ow i) s
  out : ∀ (i : Nat), r.length ≤ i → ow i = none
  inj : ∀ (i j : Nat) (a : Addr), ow i = some a → ow j = some a → i = j
  sep : ∀ (i : Nat) (a : Addr), ow i = some a → a ∉ im ∧ ¬ B.F a
  tr : ∀ (i : Nat) (a : Addr), ow i = some a → ∃ o, H a = some o ∧ ∀ ps, o ≠ .tbl ps
  mlen : im.length = M.length
  nd : im.Nodup
  mem : ∀ (i : Nat) (m : MO), M[i]? = some m → ∃ a, im[i]? = some a ∧ MoOk g (ns B.F im ow) im H a m
  imF : ∀ a ∈ im, ¬ B.F a
  fr : ∀ a, B.F a → ∃ o, H a = some o ∧ ∀ ps, o ≠ .tbl ps
  ext : Ext B.W0 B.H0 (wr im ow) H
  pre : B.im0 <+: im
  tab : TabsC g.T H
  root : RtOk g.T B
section
variable {g : Gm} {B : Bs} {im im' : List Addr} {ow ow' : Ow} {r r' : Sl} {M M' : Mem} {σ σ' : St} {H H' : Hp} {F : Av} {a p : Addr}
theorem MoOk.mono {N N' : Av} (x : Ext N H N' H') (q : im <+: im') (hk : ∀ o, H a = some o → (∀ ps, o ≠ .tbl ps) → H' a = some o) : ∀ {m : MO}, MoOk g N im H a m → MoOk g N' im' H' a m
  | .lst ds, ⟨xs, h, e⟩ => ⟨xs, hk _ h (fun ps e => by cases e), e.mono x q⟩
  | .dic ds, ⟨xs, h, e⟩ => ⟨xs, hk _ h (fun ps e => by cases e), e.mono x q⟩
  | .ins C ds, ⟨Ca, dx, xs, c, h, e⟩ => ⟨Ca, dx, xs, c, hk _ h (fun ps e => by cases e), e.mono x q⟩
theorem MoOk.there {N : Av} : ∀ {m : MO}, MoOk g N im H a m → ∃ o, H a = some o ∧ ∀ ps, o ≠ .tbl ps
  | .lst ds, ⟨xs, h, e⟩ => ⟨_, h, fun ps e => by cases e⟩
  | .dic ds, ⟨xs, h, e⟩ => ⟨_, h, fun ps e => by cases e⟩
  | .ins C ds, ⟨Ca, dx, xs, c, h, e⟩ => ⟨_, h, fun ps e => by cases e⟩
/-- what is kept, with the callers' things -/
theorem Ext.ns (x : Ext (wr im ow) H (wr im' ow') H') : Ext (ns F im ow) H (Dy.ns F im' ow') H' := fun a o h t n => by
  have n1 : ¬ wr im ow a := fun z => n (.inr z)
  obtain ⟨h1, h2⟩ := x a o h t n1
  exact ⟨h1, fun z => z.elim (fun z => n (.inl z)) h2⟩
theorem StRel.in_im (S : StRel g B im ow r M σ H) (h : a ∈ im) : ∃ (i : Nat) (m : MO), im[i]? = some a ∧ M[i]? = some m ∧ MoOk g (ns B.F im ow) im H a m := by
  obtain ⟨i, hi, e⟩ := List.getElem_of_mem h
  have hi2 : i < M.length := by rw [← S.mlen]; exact hi
  obtain ⟨b, hb, ok⟩ := S.mem i _ (List.getElem?_eq_getElem hi2)
  have eb : b = a := by
    rw [List.getElem?_eq_getElem hi, e] at hb
    exact (Option.some.inj hb).symm
  subst eb
  exact ⟨i, _, hb, List.getElem?_eq_getElem hi2, ok⟩
/-- a new address is neither written nor a caller's -/
theorem StRel.fresh (S : StRel g B im ow r M σ H) (h : H p = none) : ¬ ns B.F im ow p := by
  rintro (z | z | ⟨i, z⟩)
  · obtain ⟨o, e, _⟩ := S.fr p z
    rw [h] at e
    cases e
  · obtain ⟨_, _, _, _, ok⟩ := S.in_im z
    obtain ⟨o, e, _⟩ := ok.there
    rw [h] at e
    cases e
  · obtain ⟨o, e, _⟩ := S.tr i p z
    rw [h] at e
    cases e
/-- the heap grows or changes where the relation does not look; the memory's part is said anew -/
theorem StRel.move (S : StRel g B im ow r M σ H) (x : Ext (wr im ow) H (wr im' ow) H') (q : im <+: im') (hl : im'.length = M'.length) (hn : im'.Nodup) (hF : ∀ a ∈ im', ¬ B.F a)
    (hk : ∀ i b o, ow i = some b → H b = some o → H' b = some o) (ho : ∀ i b, ow i = some b → b ∉ im')
    (hm : ∀ (i : Nat) (m : MO), M'[i]? = some m → ∃ a, im'[i]? = some a ∧ MoOk g (ns B.F im' ow) im' H' a m) (ht : TabsC g.T H') : StRel g B im' ow r M' σ H' where
  len := S.len
  sl := fun i s e => by
    have h := S.sl i s e
    cases s with
    | un => exact h
    | val d =>
      obtain ⟨h1, y, h2, h3⟩ := h
      exact ⟨h1, y, h2, h3.mono x.ns q⟩
    | own m =>
      obtain ⟨b, h1, h2, h3⟩ := h
      exact ⟨b, h1, h2, h3.mono x.ns q fun o e _ => hk i b o h1 e⟩
    | pin => exact h
  out := S.out
  inj := S.inj
  sep := fun i b h => ⟨ho i b h, (S.sep i b h).2⟩
  tr := fun i b h => by
    obtain ⟨o, e, t⟩ := S.tr i b h
    exact ⟨o, hk i b o h e, t⟩
  mlen := hl
  nd := hn
  mem := hm
  imF := hF
  fr := fun b h => by
    obtain ⟨o, e, t⟩ := S.fr b h
    have nw : ¬ wr im ow b := by
      rintro (z | ⟨i, z⟩)
      · exact S.imF b z h
      · exact (S.sep i b z).2 h
    exact ⟨o, (x b o e t nw).1, t⟩
  ext := S.ext.trans x
  pre := S.pre.trans q
  tab := ht
  root := S.root
/-- .. the memory stays -/
theorem StRel.grow (S : StRel g B im ow r M σ H) (x : Ext (wr im ow) H (wr im ow) H') (hk : ∀ b o, wr im ow b → H b = some o → H' b = some o) (ht : TabsC g.T H') : StRel g B im ow r M σ H' :=
  S.move x (List.prefix_refl _) S.mlen S.nd S.imF (fun i b o h e => hk b o (.inr ⟨i, h⟩) e) (fun i b h => (S.sep i b h).1) (fun i m e => by
    obtain ⟨a, h1, h2⟩ := S.mem i m e
    exact ⟨a, h1, h2.mono x.ns (List.prefix_refl _) fun o e _ => hk a o (.inl (List.mem_of_getElem? h1)) e⟩) ht
theorem tabs_new {t : Tb} (ht : TabsC t H) (hp : H p = none) (o : HO) : TabsC t (upd H p o) := ⟨ht.1.ext fun b u e => by rw [upd_ne (ne_of_none e hp)]; exact e, fun q hq => by
  have e := ht.2 q hq
  rw [upd_ne (ne_of_none e hp)]
  exact e⟩
/-- a new object is laid -/
theorem StRel.new (S : StRel g B im ow r M σ H) (hp : H p = none) (o : HO) : StRel g B im ow r M σ (upd H p o) :=
  S.grow (Ext.new hp) (fun b u _ e => by rw [upd_ne (ne_of_none e hp)]; exact e) (tabs_new S.tab hp o)
end

/-! ### what is wanted -/
section
variable {α β γ δ : Type}
abbrev Rl (β α : Type) := Gm → Av → List Addr → Hp → β → α → Prop
def rlV : Rl V Dm := Rep
def rlB : Rl Bool Bool := fun _ _ _ _ x y => x = y
def rlVs : Rl (List V) (List Dm) := Reps
/-- behind an expression: r is what it gives -/
def Post (rl : Rl β α) (g : Gm) (B : Bs) (W : WX) (im : List Addr) (ow : Ow) (r : Sl) (σ : St) (H : Hp) (q : R α) (Q : β → Hp → Prop) : Prop := match q with
  | .ok d M' => ∀ v im' H', StRel g B im' ow r M' σ H' → Ext (wr im ow) H (wr im' ow) H' → im <+: im' → rl g (ns B.F im' ow) im' H' v d → Q v H'
  | .ex C fs M' => ∀ Ca dd xs im' H', StRel g B im' ow r M' σ H' → Ext (wr im ow) H (wr im' ow) H' → im <+: im' → g.mg C = some (.ref Ca) → ExAt H' dd xs → (∀ x, dd = some x → ¬ ns B.F im' ow x) → RepF g (ns B.F im' ow) im' H' xs fs → W (.ref Ca) dd σ H'
  | .bad => False
abbrev SE (α : Type) := Sl → Mem → R α
def tG (rl : Rl β α) (g : Gm) (W : WX) (f : SE α) : St → Hp → (β → Hp → Prop) → Prop := fun σ H Q =>
  ∃ B im ow r M, StRel g B im ow r M σ H ∧ Post rl g B W im ow r σ H (f r M) Q
def tD (g : Gm) (W : WX) (f : SE Dm) : TE := tG rlV g W f
def tB (g : Gm) (W : WX) (f : SE Bool) : TT := tG rlB g W f
def tA (g : Gm) (W : WX) (f : SE (List Dm)) : TA := tG rlVs g W f
variable {g : Gm} {B : Bs} {W : WX} {im im1 : List Addr} {ow : Ow} {r : Sl} {M M1 : Mem} {σ : St} {H H1 : Hp} {rl : Rl β α} {rl' : Rl δ γ}
theorem Post.rebase {q : R α} {Q : β → Hp → Prop} (h : Post rl g B W im ow r σ H q Q) (x : Ext (wr im ow) H (wr im1 ow) H1) (p : im <+: im1) : Post rl g B W im1 ow r σ H1 q Q := by
  cases q with
  | ok d M' => exact fun v im' H' S e p' k => h v im' H' S (x.trans e) (p.trans p') k
  | ex C fs M' => exact fun Ca dd xs im' H' S e p' => h Ca dd xs im' H' S (x.trans e) (p.trans p')
  | bad => exact h
theorem Post.bind {q : R α} {k : α → Mem → R γ} {Q : δ → Hp → Prop} {Q1 : β → Hp → Prop} (h : Post rl' g B W im ow r σ H (q.bind k) Q)
    (n : ∀ a M1 x im1 H1, q = .ok a M1 → StRel g B im1 ow r M1 σ H1 → Ext (wr im ow) H (wr im1 ow) H1 → im <+: im1 → rl g (ns B.F im1 ow) im1 H1 x a → Post rl' g B W im1 ow r σ H1 (k a M1) Q → Q1 x H1) : Post rl g B W im ow r σ H q Q1 := by
  cases q with
  | ok a M' => exact fun v im' H' S e p' rr => n a M' v im' H' rfl S e p' rr (Post.rebase h e p')
  | ex C fs M' => exact h
  | bad => exact h
/-- the value is had without a step -/
theorem Post.here {d : α} {v : β} {Q : β → Hp → Prop} (h : Post rl g B W im ow r σ H (.ok d M) Q) (S : StRel g B im ow r M σ H) (k : rl g (ns B.F im ow) im H v d) : Q v H := h v im H S Ext.refl (List.prefix_refl _) k
/-- the value is a new object -/
theorem Post.new {d : α} {v : β} {Q : β → Hp → Prop} {p : Addr} {o : HO} (h : Post rl g B W im ow r σ H (.ok d M) Q) (S : StRel g B im ow r M σ H) (hp : H p = none) (k : rl g (ns B.F im ow) im (upd H p o) v d) : Q v (upd H p o) :=
  h v im _ (S.new hp o) (Ext.new hp) (List.prefix_refl _) k
theorem Post.imp {q : R α} {Q Q' : β → Hp → Prop} (h : Post rl g B W im ow r σ H q Q) (n : ∀ x H, Q x H → Q' x H) : Post rl g B W im ow r σ H q Q' := by
  cases q with
  | ok d M' => exact fun v im' H' S e p' rr => n _ _ (h v im' H' S e p' rr)
  | ex C fs M' => exact h
  | bad => exact h
end
/-- forbidden besides -/
def Bs.plus (B : Bs) (p : Addr) : Bs := { B with F := fun a => B.F a ∨ a = p }
/-- p is new -/
theorem RtOk.plus {t : Tb} {B : Bs} (h : RtOk t B) {W : Av} {H : Hp} {p : Addr} (x : Ext B.W0 B.H0 W H) (hp : H p = none) : RtOk t (B.plus p) := h.step (fun a o e tt n => ⟨e, fun z => by
  rcases z with (z | z) | z
  · exact n (.inl z)
  · obtain ⟨e1, _⟩ := x a o e tt fun z => n (.inr z)
    rw [z, hp] at e1
    cases e1
  · exact n (.inr z)⟩) (List.prefix_refl _)
theorem RtOk.plusN {t : Tb} {B B' : Bs} (h : RtOk t B) {p : Addr} (h2 : RtOk t (Bs.plus B' p)) : RtOk t (B.plus p) := fun R e => by
  obtain ⟨a, b⟩ := h R e
  obtain ⟨a2, _⟩ := h2 R e
  refine ⟨fun c o e1 tt n => ?_, b⟩
  obtain ⟨e2, n2⟩ := a c o e1 tt n
  obtain ⟨_, n3⟩ := a2 c o e1 tt n
  exact ⟨e2, fun z => z.elim (fun z => z.elim (fun z => n2 (.inl z)) fun z => n3 (.inl (.inr z))) fun z => n2 (.inr z)⟩
/-- what p was ahead of it: nothing that is kept -/
def Frh (W0 : Av) (H0 : Hp) (p : Addr) : Prop := ∀ o, H0 p = some o → (∀ ps, o ≠ .tbl ps) → W0 p
/-- a new object at p, named by nothing else -/
structure New (g : Gm) (B : Bs) (im : List Addr) (ow : Ow) (r : Sl) (M : Mem) (σ : St) (H : Hp) (p : Addr) (m : MO) : Prop where
  st : StRel g (B.plus p) im ow r M σ H
  nw : ¬ wr im ow p
  nF : ¬ B.F p
  ok : MoOk g (ns (B.plus p).F im ow) im H p m
section
variable {g : Gm} {B : Bs} {W : WX}
/-- behind a statement -/
def PostS (g : Gm) (B : Bs) (W : WX) (E : Ends) (q : RS) : Prop := match q with
  | .nx r M => ∀ im ow σ H, StRel g B im ow r M σ H → E.nx σ H
  | .bk r M => ∀ im ow σ H, StRel g B im ow r M σ H → E.bk σ H
  | .ct r M => ∀ im ow σ H, StRel g B im ow r M σ H → E.ct σ H
  | .rt d M => ∀ v im ow r σ H, StRel g B im ow r M σ H → Rep g (ns B.F im ow) im H v d → E.rt v H
  | .rf m M => ∀ p im ow r σ H, New g B im ow r M σ H p m → Frh B.W0 B.H0 p → E.rt (.ref p) H
  | .ex r C fs M => ∀ Ca dd xs im ow σ H, StRel g B im ow r M σ H → g.mg C = some (.ref Ca) → ExAt H dd xs → (∀ x, dd = some x → ¬ ns B.F im ow x) → RepF g (ns B.F im ow) im H xs fs → W (.ref Ca) dd σ H
  | .bad => False
abbrev SS := Sl → Mem → RS
def tS (g : Gm) (W : WX) (f : SS) : TS := fun E σ H => ∃ B im ow r M, StRel g B im ow r M σ H ∧ PostS g B W E (f r M)
/-- an expression's end within a statement -/
theorem PostS.of {α β : Type} {rl : Rl β α} {im : List Addr} {ow : Ow} {r : Sl} {σ : St} {H : Hp} {q : R α} {k : α → Mem → RS} {E : Ends} {Q : β → Hp → Prop} (h : PostS g B W E (RS.of q r k))
    (n : ∀ a M1 x im1 H1, q = .ok a M1 → StRel g B im1 ow r M1 σ H1 → Ext (wr im ow) H (wr im1 ow) H1 → im <+: im1 → rl g (ns B.F im1 ow) im1 H1 x a → PostS g B W E (k a M1) → Q x H1) : Post rl g B W im ow r σ H q Q := by
  cases q with
  | ok a M' => exact fun v im' H' S e p' rr => n a M' v im' H' rfl S e p' rr h
  | ex C fs M' => exact fun Ca dd xs im' H' S e p' c x y z => h Ca dd xs im' ow σ H' S c x y z
  | bad => exact h
end
/-! ### a def's promise -/
abbrev SF := List Dm → Mem → R Dm
def wE (E : XK) : WX := fun c d _ H => E c d H
def spD (g : Gm) (n : Nat) (f : SF) : Sp := fun vs H Q E => vs.length = n ∧ ∃ B im M ds, StRel g B im noOw [] M [] H ∧ Reps g (ns B.F im noOw) im H vs ds ∧ Post rlV g B (wE E) im noOw [] [] H (f ds M) Q
/-- a body, run at the parameters, k further names -/
def runB (k : Nat) (f : SS) : SF := fun ds M => match f (ds.map Slot.val ++ List.replicate k .un) M with
  | .nx _ M' => .ok .non M'
  | .rt d M' => .ok d M'
  | .ex _ C fs M' => .ex C fs M'
  | _ => .bad

/-- a def that gives a new object, which may be changed -/
def PostF (g : Gm) (B : Bs) (W : WX) (im : List Addr) (ow : Ow) (r : Sl) (σ : St) (H : Hp) (q : R MO) (Q : VK) : Prop := match q with
  | .ok m M' => ∀ p im' H', New g B im' ow r M' σ H' p m → Ext (wr im ow) H (wr im' ow) H' → im <+: im' → Frh (wr im ow) H p → Q (.ref p) H'
  | .ex C fs M' => Post rlV g B W im ow r σ H (.ex C fs M') Q
  | .bad => False
abbrev SFm := List Dm → Mem → R MO
def spF (g : Gm) (n : Nat) (f : SFm) : Sp := fun vs H Q E => vs.length = n ∧ ∃ B im M ds, StRel g B im noOw [] M [] H ∧ Reps g (ns B.F im noOw) im H vs ds ∧ PostF g B (wE E) im noOw [] [] H (f ds M) Q
def runF (k : Nat) (f : SS) : SFm := fun ds M => match f (ds.map Slot.val ++ List.replicate k .un) M with
  | .rf m M' => .ok m M'
  | .ex _ C fs M' => .ex C fs M'
  | _ => .bad
def tF (g : Gm) (W : WX) (f : SE MO) : TE := fun σ H Q => ∃ B im ow r M, StRel g B im ow r M σ H ∧ PostF g B W im ow r σ H (f r M) Q

section
variable {X : Cx} {T : Tb} {W : WX}
abbrev gm (X : Cx) (T : Tb) : Gm := ⟨X.K, X.mg, T⟩
abbrev DE (X : Cx) (T : Tb) (W : WX) (e : Expr) (f : SE Dm) : Prop := PE X e (tD (gm X T) W f)
abbrev DF (X : Cx) (T : Tb) (W : WX) (e : Expr) (f : SE MO) : Prop := PE X e (tF ⟨X.K, X.mg, T⟩ W f)
abbrev DT (X : Cx) (T : Tb) (W : WX) (e : Expr) (f : SE Bool) : Prop := PT X e (tB (gm X T) W f)
abbrev DA (X : Cx) (T : Tb) (W : WX) (es : List Expr) (f : SE (List Dm)) : Prop := PA X es (tA (gm X T) W f)
abbrev DS (X : Cx) (T : Tb) (W : WX) (st : Stmt) (f : SS) : Prop := PS X st (tS (gm X T) W f)
abbrev DB (X : Cx) (T : Tb) (W : WX) (st : List Stmt) (f : SS) : Prop := PSs X st (tS (gm X T) W f)
theorem pe_le {e : Expr} {t u : TE} (h : PE X e t) (i : ∀ σ H Q, u σ H Q → t σ H Q) : PE X e u := ⟨fun p s σ H Q I w => h.run p s σ H Q I (i σ H Q w)⟩
theorem pt_le {e : Expr} {t u : TT} (h : PT X e t) (i : ∀ σ H Q, u σ H Q → t σ H Q) : PT X e u := ⟨fun p s σ H Q I w => h.run p s σ H Q I (i σ H Q w)⟩
theorem pw_le {e : Expr} {t u : TT} (h : PW X e t) (i : ∀ σ H Q, u σ H Q → t σ H Q) : PW X e u := ⟨fun z p s σ H Q I w => h.run z p s σ H Q I (i σ H Q w)⟩
theorem pa_le {e : List Expr} {t u : TA} (h : PA X e t) (i : ∀ σ H Q, u σ H Q → t σ H Q) : PA X e u := ⟨fun o p s σ H Q I w => h.run o p s σ H Q I (i σ H Q w)⟩
theorem ps_le {e : Stmt} {t u : TS} (h : PS X e t) (i : ∀ σ H Q, u Q σ H → t Q σ H) : PS X e u := ⟨fun p s σ H Q I w => h.run p s σ H Q I (i σ H Q w)⟩
theorem pss_le {e : List Stmt} {t u : TS} (h : PSs X e t) (i : ∀ σ H Q, u Q σ H → t Q σ H) : PSs X e u := ⟨fun p s σ H Q I w => h.run p s σ H Q I (i σ H Q w)⟩
end
end Dy

/-! Dy3: expressions over data: names, constants, operators, comparisons, tests, displays, arguments. -/
namespace Dy
open PySem
open PySem.Spec
open L2

section
variable {X : Cx} {T : Tb} {W : WX} {a b c e : Expr} {fa fb fc : SE Dm} {pos : Pos}

/-! ### names and constants -/
def sVar (i : Nat) : SE Dm := fun r M => match r[i]? with
  | some (.val d) => .ok d M
  | _ => .bad
def sC (d : Dm) : SE Dm := fun _ M => .ok d M
theorem de_var {i : Nat} {x : Str} (hN : X.N[i]? = some x) (hv : Vis X.env.scope x) (hd : (x == ("__debug__" : Str)) = false := by decide) (hc : (x == ("__classdict__" : Str)) = false := by decide) : DE X T W (.Name x pos) (sVar i) :=
  pe_le (pe_var hN hv hd hc) fun σ H Q ⟨B, im, ow, r, M, S, P⟩ => by
    unfold sVar at P
    cases h : r[i]? with
    | none =>
      rw [h] at P
      exact P.elim
    | some s =>
      rw [h] at P
      cases s with
      | val d =>
        obtain ⟨_, v, e1, e2⟩ := S.sl i _ h
        exact ⟨v, e1, P.here S e2⟩
      | _ => exact P.elim
theorem de_int {i : Int} {j : Nat} : DE X T W (.Constant (.int i) j pos) (sC (.int i)) := pe_le pe_int fun σ H Q ⟨B, im, ow, r, M, S, P⟩ => P.here S (.int i)
theorem de_bl {i : Bool} {j : Nat} : DE X T W (.Constant (.bool i) j pos) (sC (.bl i)) := pe_le pe_bl fun σ H Q ⟨B, im, ow, r, M, S, P⟩ => P.here S (.bl i)
theorem de_non {j : Nat} : DE X T W (.Constant .none j pos) (sC .non) := pe_le pe_non fun σ H Q ⟨B, im, ow, r, M, S, P⟩ => P.here S .non
theorem de_str {x : Str} {j : Nat} : DE X T W (.Constant (.str x) j pos) (sC (.str x)) := pe_le pe_str fun σ H Q ⟨B, im, ow, r, M, S, P⟩ => P.here S (.str x)
/-- a module's name as a value: a class, a def -/
theorem de_glo {x : Str} {v : V} {u : Value} (hg : Gl X x) (hm : X.mg x = some u) (r : RelV v u) (hd : (x == ("__debug__" : Str)) = false := by decide) : DE X T W (.Name x pos) (sC (.glo x)) :=
  pe_le (pe_glob hg hm r hd) fun σ H Q ⟨B, im, ow, r', M, S, P⟩ => P.here S (.glo hm r)
/-- a module's constant by value -/
theorem de_gint {x : Str} {i : Int} (hg : Gl X x) (hm : ∃ t, X.mg x = some (.int i t)) (hd : (x == ("__debug__" : Str)) = false := by decide) : DE X T W (.Name x pos) (sC (.int i)) := by
  obtain ⟨t, hm⟩ := hm
  exact pe_le (pe_glob (v := .int i) hg hm ⟨t, rfl⟩ hd) fun σ H Q ⟨B, im, ow, r', M, S, P⟩ => P.here S (.int i)
theorem de_gstr {x z : Str} (hg : Gl X x) (hm : ∃ t, X.mg x = some (.str z t)) (hd : (x == ("__debug__" : Str)) = false := by decide) : DE X T W (.Name x pos) (sC (.str z)) := by
  obtain ⟨t, hm⟩ := hm
  exact pe_le (pe_glob (v := .str z) hg hm ⟨t, rfl⟩ hd) fun σ H Q ⟨B, im, ow, r', M, S, P⟩ => P.here S (.str z)
theorem de_bty {x : Str} {n : String} (hg : Gl X x) (hm : X.mg x = none) (hv : bootBuiltins x = some (.type n)) (hn : x ≠ "__name__" := by decide) (hd : (x == ("__debug__" : Str)) = false := by decide) : DE X T W (.Name x pos) (sC (.ty n)) :=
  pe_le (pe_bltn (v := .ty n) hg hm hv rfl hn hd) fun σ H Q ⟨B, im, ow, r', M, S, P⟩ => P.here S (.ty n)

/-! ### two-place operations by values -/
def sBin (o : Dm → Dm → Mem → R Dm) (fa fb : SE Dm) : SE Dm := fun r M => (fa r M).bind fun x M1 => (fb r M1).bind fun y M2 => o x y M2
/-- what a rule by values asks, from the data -/
def Sound (X : Cx) (T : Tb) (W : WX) (rr : R2) (o : Dm → Dm → Mem → R Dm) : Prop :=
  ∀ (B : Bs) (im : List Addr) (ow : Ow) (r : Sl) (M : Mem) (σ : St) (H : Hp) (x y : Dm) (v w : V) (Q : VK), StRel (gm X T) B im ow r M σ H → Rep (gm X T) (ns B.F im ow) im H v x → Rep (gm X T) (ns B.F im ow) im H w y →
    Post rlV (gm X T) B W im ow r σ H (o x y M) Q → rr v w H Q
theorem R.bind_bind {α β γ : Type} (q : R α) (k : α → Mem → R β) (l : β → Mem → R γ) : (q.bind k).bind l = q.bind fun a M => (k a M).bind l := by cases q <;> rfl
theorem bin_le {o : Dm → Dm → Mem → R Dm} {rr : R2} {β : Type} {α : Type} {rl : Rl β α} {k : Dm → Mem → R α} {K' : (β → Hp → Prop) → VK} (hs : Sound X T W rr o)
    {σ : St} {H : Hp} {Q : β → Hp → Prop} (h : tG rl (gm X T) W (fun r M => ((sBin o fa fb) r M).bind k) σ H Q)
    (hk : ∀ B im ow r M H1 d v, StRel (gm X T) B im ow r M σ H1 → Rep (gm X T) (ns B.F im ow) im H1 v d → Post rl (gm X T) B W im ow r σ H1 (k d M) Q → K' Q v H1) :
    tOp rr (tD (gm X T) W fa) (tD (gm X T) W fb) σ H (K' Q) := by
  obtain ⟨B, im, ow, r, M, S, P⟩ := h
  have P' : Post rl (gm X T) B W im ow r σ H ((fa r M).bind fun x M1 => ((fb r M1).bind fun y M2 => (o x y M2).bind k)) Q := by
    have e : (((sBin o fa fb) r M).bind k) = ((fa r M).bind fun x M1 => ((fb r M1).bind fun y M2 => (o x y M2).bind k)) := by
      unfold sBin
      rw [R.bind_bind]
      congr 1
      funext x M1
      rw [R.bind_bind]
    rw [← e]
    exact P
  refine ⟨B, im, ow, r, M, S, P'.bind fun x M1 v im1 H1 _ S1 E1 p1 r1 P1 => ⟨B, im1, ow, r, M1, S1, P1.bind fun y M2 w im2 H2 _ S2 E2 p2 r2 P2 => ?_⟩⟩
  refine hs B im2 ow r M2 σ H2 x y v w _ S2 (r1.mono E2.ns p2) r2 ?_
  exact P2.bind fun d M3 u im3 H3 _ S3 E3 p3 r3 P3 => hk B im3 ow r M3 H3 d u S3 r3 P3
theorem R.bind_ok {α : Type} (q : R α) : q.bind .ok = q := by cases q <;> rfl
theorem bin_val {o : Dm → Dm → Mem → R Dm} {rr : R2} (hs : Sound X T W rr o) {σ : St} {H : Hp} {Q : VK} (h : tD (gm X T) W (sBin o fa fb) σ H Q) : tOp rr (tD (gm X T) W fa) (tD (gm X T) W fb) σ H Q := by
  refine bin_le (rl := rlV) (k := .ok) (K' := fun Q => Q) hs ?_ fun B im ow r M H1 d v S R P => P.here S R
  obtain ⟨B, im, ow, r, M, S, P⟩ := h
  refine ⟨B, im, ow, r, M, S, ?_⟩
  show Post rlV _ _ _ _ _ _ _ _ ((sBin o fa fb r M).bind .ok) _
  rw [R.bind_ok]
  exact P
def toB : Dm → Mem → R Bool
  | .bl b, M => .ok b M
  | _, _ => .bad
theorem bin_test {o : Dm → Dm → Mem → R Dm} {rr : R2} (hs : Sound X T W rr o) {σ : St} {H : Hp} {Q : Bool → Hp → Prop} (h : tB (gm X T) W (fun r M => ((sBin o fa fb) r M).bind toB) σ H Q) : tTest (tOp rr (tD (gm X T) W fa) (tD (gm X T) W fb)) σ H Q :=
  bin_le (rl := rlB) (k := toB) (K' := fun Q => fun x H' => ∃ k, x = .bl k ∧ Q k H') hs h fun B im ow r M H1 d v S R P => by
    cases R with
    | bl b => exact ⟨b, rfl, P.here S rfl⟩
    | _ => exact P.elim
theorem de_op {op : Operator} {rr : R2} {o : Dm → Dm → Mem → R Dm} (ho : OpR X (binaryOp op) rr) (hs : Sound X T W rr o) (ha : DE X T W a fa) (hb : DE X T W b fb) : DE X T W (.BinOp a op b pos) (sBin o fa fb) := pe_le (pe_op ho ha hb) fun _ _ _ h => bin_val hs h
theorem de_cmp {op : CmpOp} {rr : R2} {o : Dm → Dm → Mem → R Dm} (ho : OpR X (compareOp op) rr) (hs : Sound X T W rr o) (ha : DE X T W a fa) (hb : DE X T W b fb) (hm : behindInMarks op b = false) : DE X T W (.Compare a [op] [b] pos) (sBin o fa fb) := pe_le (pe_cmpR ho ha hb hm) fun _ _ _ h => bin_val hs h
theorem dt_cmp {op : CmpOp} {rr : R2} {o : Dm → Dm → Mem → R Dm} (ho : OpR X (compareOp op) rr) (hs : Sound X T W rr o) (ha : DE X T W a fa) (hb : DE X T W b fb) (hm : behindInMarks op b = false) : DT X T W (.Compare a [op] [b] pos) (fun r M => (sBin o fa fb r M).bind toB) := pe_le' (pt_cmpR ho ha hb hm) fun _ _ _ h => bin_test hs h
where pe_le' {e : Expr} {t u : TT} (h : PT X e t) (i : ∀ σ H Q, u σ H Q → t σ H Q) : PT X e u := pt_le h i
theorem Sound.or {rr rr' : R2} {o : Dm → Dm → Mem → R Dm} {C : Dm → Dm → Prop} (h1 : ∀ B im ow r M σ H x y v w Q, C x y → StRel (gm X T) B im ow r M σ H → Rep (gm X T) (ns B.F im ow) im H v x → Rep (gm X T) (ns B.F im ow) im H w y → Post rlV (gm X T) B W im ow r σ H (o x y M) Q → rr v w H Q)
    (h2 : ∀ B im ow r M σ H x y v w Q, ¬ C x y → StRel (gm X T) B im ow r M σ H → Rep (gm X T) (ns B.F im ow) im H v x → Rep (gm X T) (ns B.F im ow) im H w y → Post rlV (gm X T) B W im ow r σ H (o x y M) Q → rr' v w H Q) :
    Sound X T W (fun x y H Q => rr x y H Q ∨ rr' x y H Q) o := fun B im ow r M σ H x y v w Q S r1 r2 P => by
  by_cases c : C x y
  · exact .inl (h1 B im ow r M σ H x y v w Q c S r1 r2 P)
  · exact .inr (h2 B im ow r M σ H x y v w Q c S r1 r2 P)

/-! ### ints -/
def oI (g : Int → Int → Option Dm) : Dm → Dm → Mem → R Dm
  | .int i, .int j, M => match g i j with
    | some d => .ok d M
    | none => .bad
  | _, _, _ => .bad
theorem sound_I {C : Int → Int → Prop} {f : Int → Int → V} {g : Int → Int → Option Dm} (h : ∀ i j d, g i j = some d → C i j ∧ ∀ G N im H, Rep G N im H (f i j) d) : Sound X T W (rI C f) (oI g) := fun B im ow r M σ H x y v w Q S r1 r2 P => by
  cases r1 with
  | int i =>
    cases r2 with
    | int j =>
      unfold oI at P
      dsimp only at P
      cases e : g i j with
      | none =>
        rw [e] at P
        exact P.elim
      | some d =>
        rw [e] at P
        obtain ⟨c, k⟩ := h i j d e
        exact ⟨i, j, rfl, rfl, c, P.here S (k _ _ _ _)⟩
    | _ => exact P.elim
  | _ => exact P.elim
theorem sound_I0 {f : Int → Int → V} {g : Int → Int → Option Dm} (h : ∀ i j d, g i j = some d → ∀ G N im H, Rep G N im H (f i j) d) : Sound X T W (rI0 f) (oI g) := fun B im ow r M σ H x y v w Q S r1 r2 P => by
  obtain ⟨i, j, h1, h2, _, q⟩ := sound_I (C := fun _ _ => True) (f := f) (g := g) (fun i j d e => ⟨trivial, h i j d e⟩) B im ow r M σ H x y v w Q S r1 r2 P
  exact ⟨i, j, h1, h2, q⟩
def gSub2 (i j : Int) : Option Dm := some (.int (i - j))
def gMod (i j : Int) : Option Dm := if 0 < j then some (.int (i % j)) else none
def gDiv (i j : Int) : Option Dm := if 0 < j ∧ j.natAbs.log2 < 9000 then some (.int (i / j)) else none
def gPow (i j : Int) : Option Dm := if 0 ≤ j ∧ j ≤ 1000 ∧ i.natAbs < 2 ^ 64 then some (.int (i ^ j.toNat)) else none
def gLt (i j : Int) : Option Dm := some (.bl (decide (i < j)))
def gLe (i j : Int) : Option Dm := some (.bl (decide (i ≤ j)))
def gGt (i j : Int) : Option Dm := some (.bl (decide (j < i)))
def gGe (i j : Int) : Option Dm := some (.bl (decide (j ≤ i)))
theorem s_sub : Sound X T W (rI0 fun i j => .int (i - j)) (oI gSub2) := sound_I0 fun i j d e _ _ _ _ => by cases e; exact .int _
theorem s_lt : Sound X T W (rI0 fun i j => .bl (decide (i < j))) (oI gLt) := sound_I0 fun i j d e _ _ _ _ => by cases e; exact .bl _
theorem s_le : Sound X T W (rI0 fun i j => .bl (decide (i ≤ j))) (oI gLe) := sound_I0 fun i j d e _ _ _ _ => by cases e; exact .bl _
theorem s_gt : Sound X T W (rI0 fun i j => .bl (decide (j < i))) (oI gGt) := sound_I0 fun i j d e _ _ _ _ => by cases e; exact .bl _
theorem s_ge : Sound X T W (rI0 fun i j => .bl (decide (j ≤ i))) (oI gGe) := sound_I0 fun i j d e _ _ _ _ => by cases e; exact .bl _
theorem s_mod : Sound X T W (rI (fun _ j => 0 < j) fun i j => .int (i % j)) (oI gMod) := sound_I fun i j d e => by
  unfold gMod at e
  split at e
  · rename_i h
    cases e
    exact ⟨h, fun _ _ _ _ => .int _⟩
  · cases e
theorem s_div : Sound X T W (rI CDivW fun i j => .int (i / j)) (oI gDiv) := sound_I fun i j d e => by
  unfold gDiv at e
  split at e
  · rename_i h
    cases e
    exact ⟨h, fun _ _ _ _ => .int _⟩
  · cases e
theorem s_pow : Sound X T W (rI CPow fun i j => .int (i ^ j.toNat)) (oI gPow) := sound_I fun i j d e => by
  unfold gPow at e
  split at e
  · rename_i h
    cases e
    exact ⟨⟨h.1, by omega, h.2.2⟩, fun _ _ _ _ => .int _⟩
  · cases e

/-! ### + -/
def oAdd : Dm → Dm → Mem → R Dm
  | .int i, .int j, M => .ok (.int (i + j)) M
  | .str x, .str y, M => if x.length + y.length ≤ sizeLine then .ok (.str (x ++ y)) M else .bad
  | .lst x, .lst y, M => if x.length + y.length ≤ sizeLine then .ok (.lst (x ++ y)) M else .bad
  | .tup x, .tup y, M => if x.length + y.length ≤ sizeLine then .ok (.tup (x ++ y)) M else .bad
  | _, _, _ => .bad
def rAdd3 : R2 := fun x y H Q => rI0 (fun i j => .int (i + j)) x y H Q ∨ ((∃ i j, x = .str i ∧ y = .str j ∧ i.length + j.length ≤ sizeLine ∧ Q (.str (i ++ j)) H) ∨ rCat x y H Q)
theorem op_add3 : OpR X (binaryOp .Add) rAdd3 := op_add.or (op_add_str.or op_cat)
def rAdd4 (K : PySem.W.Frag) : R2 := fun x y H Q => rAdd3 x y H Q ∨ rCatA K x y H Q
theorem op_add4 : OpR X (binaryOp .Add) (rAdd4 X.K) := op_add3.or op_catA
theorem s_add : Sound X T W (rAdd4 X.K) oAdd := fun B im ow r M σ H x y v w Q S r1 r2 P => by
  cases r1 with
  | int i =>
    cases r2 with
    | int j => exact .inl (.inl ⟨i, j, rfl, rfl, P.here S (.int _)⟩)
    | _ => exact P.elim
  | str i =>
    cases r2 with
    | str j =>
      unfold oAdd at P
      dsimp only at P
      split at P
      · rename_i h
        exact .inl (.inr (.inl ⟨i, j, rfl, rfl, h, P.here S (.str _)⟩))
      · exact P.elim
    | _ => exact P.elim
  | lst h1 n1 q1 =>
    cases r2 with
    | lst h2 n2 q2 =>
      unfold oAdd at P
      dsimp only at P
      split at P
      · rename_i h
        refine .inl (.inr (.inr ⟨_, _, _, _, rfl, rfl, h1, h2, by rw [q1.length, q2.length]; exact h, fun p hp => ?_⟩))
        exact P.new S hp (.lst upd_same (S.fresh hp) ((q1.mono (Ext.new hp) (List.prefix_refl _)).append (q2.mono (Ext.new hp) (List.prefix_refl _))))
      · exact P.elim
    | _ => exact P.elim
  | tup h1 q1 =>
    cases r2 with
    | tup h2 q2 =>
      unfold oAdd at P
      dsimp only at P
      split at P
      · rename_i h
        refine .inr ⟨_, _, _, _, rfl, rfl, h1.sq, h2.sq, by rw [q1.length, q2.length]; exact h, fun e => ?_, fun e1 e2 => ?_, fun e1 e2 p hp => ?_⟩
        · subst e
          cases q1
          exact P.here S (.tup h2 q2)
        · subst e2
          cases q2
          rw [List.append_nil] at P
          exact P.here S (.tup h1 q1)
        · exact P.new S hp (.tup (.inl ⟨.inl upd_same, S.fresh hp⟩) ((q1.mono (Ext.new hp) (List.prefix_refl _)).append (q2.mono (Ext.new hp) (List.prefix_refl _))))
      · exact P.elim
    | _ => exact P.elim
  | _ => exact P.elim
/-! ### * -/
/-- a text times an int -/
theorem op_mulS : OpR X (binaryOp .Mult) (fun x y H Q => ∃ a k, x = .str a ∧ y = .int k ∧ MulOk a k ∧ Q (.str (Txt.mul a k)) H) := by
  intro pins s σ H x y v u Q I rx ry h
  obtain ⟨a, k, rfl, rfl, ok, q⟩ := h
  obtain ⟨t, rfl⟩ := (show ∃ t, v = Value.str a t from rx)
  obtain ⟨t2, rfl⟩ := (show ∃ t, u = Value.int k t from ry)
  exact SB.mul ok fun t' n => ⟨.str (Txt.mul a k), H, I.tok _, ⟨_, rfl⟩, q⟩
/-- a text's repetition that fits: how often, how long -/
theorem mulOk_of {a : Str} {k : Int} (h1 : -1000 < k) (h2 : k < 1000) (h3 : a.length ≤ 1000) : MulOk a k := by
  refine ⟨by simp; omega, fun h _ => ?_, fun h _ => ?_⟩
  · have h0 : 0 < k := by omega
    have e : (1000 : Int) ≤ (2 ^ 63 - 1) / k := Int.le_ediv_of_mul_le h0 (by omega)
    omega
  · unfold Builtin.Str.tooLong
    have e : a.length * k.toNat ≤ 1000 * 1000 := Nat.mul_le_mul h3 (by omega)
    have z : (1000000 : Nat) ≤ sizeLine := by decide
    exact decide_eq_false (by omega)
def oMul : Dm → Dm → Mem → R Dm
  | .int i, .int j, M => if i.natAbs < 2 ^ 64 ∨ j.natAbs < 2 ^ 64 ∨ i.natAbs.log2 + j.natAbs.log2 < 1000000 then .ok (.int (i * j)) M else .bad
  | .lst x, .int k, M => if k < 1000 ∧ -1000 < k ∧ x.length * k.toNat ≤ sizeLine then .ok (.lst (List.replicate k.toNat x).flatten) M else .bad
  | .str x, .int k, M => if -1000 < k ∧ k < 1000 ∧ x.length ≤ 1000 then .ok (.str (Txt.mul x k)) M else .bad
  | _, _, _ => .bad
theorem Reps.rep {g : Gm} {N : Av} {im : List Addr} {H : Hp} {v : List V} {d : List Dm} (h : Reps g N im H v d) : ∀ n, Reps g N im H (List.replicate n v).flatten (List.replicate n d).flatten
  | 0 => .nil
  | n + 1 => by
    rw [List.replicate_succ, List.replicate_succ, List.flatten_cons, List.flatten_cons]
    exact h.append (h.rep n)
def rMul4 : R2 := fun x y H Q => ((rI CMulW (fun i j => .int (i * j)) x y H Q ∨ rI CMul (fun i j => .int (i * j)) x y H Q) ∨ rRep x y H Q) ∨ ∃ a k, x = .str a ∧ y = .int k ∧ MulOk a k ∧ Q (.str (Txt.mul a k)) H
theorem op_mul4 : OpR X (binaryOp .Mult) rMul4 := ((op_mulW.or op_mul).or op_rep).or op_mulS
theorem s_mul : Sound X T W rMul4 oMul := fun B im ow r M σ H x y v w Q S r1 r2 P => by
  cases r1 with
  | int i =>
    cases r2 with
    | int j =>
      unfold oMul at P
      dsimp only at P
      split at P
      · rename_i h
        rcases h with h | h | h
        · exact .inl (.inl (.inr ⟨i, j, rfl, rfl, .inl ⟨by omega, by omega⟩, P.here S (.int _)⟩))
        · exact .inl (.inl (.inr ⟨i, j, rfl, rfl, .inr ⟨by omega, by omega⟩, P.here S (.int _)⟩))
        · exact .inl (.inl (.inl ⟨i, j, rfl, rfl, h, P.here S (.int _)⟩))
      · exact P.elim
    | _ => exact P.elim
  | str x =>
    cases r2 with
    | int k =>
      unfold oMul at P
      dsimp only at P
      split at P
      · rename_i h
        exact .inr ⟨x, k, rfl, rfl, mulOk_of h.1 h.2.1 h.2.2, P.here S (.str _)⟩
      · exact P.elim
    | _ => exact P.elim
  | lst h1 n1 q1 =>
    cases r2 with
    | int k =>
      unfold oMul at P
      dsimp only at P
      split at P
      · rename_i h
        refine .inl (.inr ⟨_, k, _, rfl, rfl, h1, by omega, by omega, by rw [q1.length]; exact h.2.2, fun p hp => ?_⟩)
        exact P.new S hp (.lst upd_same (S.fresh hp) ((q1.mono (Ext.new hp) (List.prefix_refl _)).rep _))
      · exact P.elim
    | _ => exact P.elim
  | _ => exact P.elim
/-! ### -a, not a -/
def sUn (o : Dm → Mem → R Dm) (fa : SE Dm) : SE Dm := fun r M => (fa r M).bind o
def oNeg : Dm → Mem → R Dm
  | .int i, M => .ok (.int (-i)) M
  | _, _ => .bad
theorem de_neg (ha : DE X T W a fa) : DE X T W (.UnaryOp .USub a pos) (sUn oNeg fa) := pe_le (pe_un un_neg ha) fun σ H Q ⟨B, im, ow, r, M, S, P⟩ =>
  ⟨B, im, ow, r, M, S, Post.bind (k := oNeg) P fun x M1 v im1 H1 _ S1 E1 p1 r1 P1 => by
    cases r1 with
    | int i => exact ⟨i, rfl, P1.here S1 (.int _)⟩
    | _ => exact P1.elim⟩
/-! ### tests -/
theorem dt_val {f : SE Dm} (he : DE X T W e f) (hi : ∀ whole, isTrue e X.env whole = (do let v ← whole; standAt e.pos; holding [v] (truthy v)) := by intro _; rfl) : DT X T W e (fun r M => (f r M).bind toB) :=
  pt_le (pt_val he hi) fun σ H Q ⟨B, im, ow, r, M, S, P⟩ => ⟨B, im, ow, r, M, S, Post.bind (k := toB) P fun x M1 v im1 H1 _ S1 E1 p1 r1 P1 => by
    cases r1 with
    | bl b => exact ⟨b, rfl, P1.here S1 rfl⟩
    | _ => exact P1.elim⟩
/-- a value's truth -/
def oTru : Dm → Mem → R Bool
  | .non, M => .ok false M
  | .bl b, M => .ok b M
  | .int i, M => .ok (i != 0) M
  | .str x, M => if x.length ≤ sizeLine then .ok ((x.length : Int) != 0) M else .bad
  | .lst x, M => .ok (!x.isEmpty) M
  | .tup x, M => .ok (!x.isEmpty) M
  | .dic x, M => .ok (!x.isEmpty) M
  | _, _ => .bad
theorem Reps.isEmpty {g : Gm} {N : Av} {im : List Addr} {H : Hp} : ∀ {v : List V} {d : List Dm}, Reps g N im H v d → v.isEmpty = d.isEmpty
  | _, _, .nil => rfl
  | _, _, .cons _ _ => rfl
theorem RepK.isEmpty {g : Gm} {N : Av} {im : List Addr} {H : Hp} : ∀ {v : List (Key × V)} {d : List (Key × Dm)}, RepK g N im H v d → v.isEmpty = d.isEmpty
  | _, _, .nil => rfl
  | _, _, .cons _ _ => rfl
theorem tru_of {g : Gm} {B : Bs} {W : WX} {im : List Addr} {ow : Ow} {r : Sl} {M : Mem} {σ : St} {H : Hp} {x : Dm} {v : V} {Q : Bool → Hp → Prop} (S : StRel g B im ow r M σ H) (q : Rep g (ns B.F im ow) im H v x) (P : Post rlB g B W im ow r σ H (oTru x M) Q) :
    ∃ k, TruV g.K v H k ∧ Q k H := by
  cases q with
  | non => exact ⟨false, rfl, P.here S rfl⟩
  | bl b => exact ⟨b, rfl, P.here S rfl⟩
  | int i => exact ⟨_, rfl, P.here S rfl⟩
  | str x =>
    unfold oTru at P
    dsimp only at P
    split at P
    · rename_i h
      exact ⟨_, ⟨h, rfl⟩, P.here S rfl⟩
    · exact P.elim
  | lst h n k => exact ⟨_, .inl ⟨_, SqL.of h, rfl⟩, by rw [k.isEmpty]; exact P.here S rfl⟩
  | tup h k => exact ⟨_, .inr (.inl ⟨_, h.sq, rfl⟩), by rw [k.isEmpty]; exact P.here S rfl⟩
  | dic h n k => exact ⟨_, .inr (.inr ⟨_, h, rfl⟩), by rw [k.isEmpty]; exact P.here S rfl⟩
  | _ => exact P.elim
theorem dt_tru {f : SE Dm} (he : DE X T W e f) (hi : ∀ whole, isTrue e X.env whole = (do let v ← whole; standAt e.pos; holding [v] (truthy v)) := by intro _; rfl) : DT X T W e (fun r M => (f r M).bind oTru) :=
  pt_le (pt_truth he hi) fun σ H Q ⟨B, im, ow, r, M, S, P⟩ => ⟨B, im, ow, r, M, S, Post.bind (k := oTru) P fun x M1 v im1 H1 _ S1 E1 p1 r1 P1 => tru_of S1 r1 P1⟩
def sNot (f : SE Bool) : SE Bool := fun r M => (f r M).bind fun b M1 => .ok (!b) M1
theorem dt_not {f : SE Bool} (h : DT X T W e f) : DT X T W (.UnaryOp .Not e pos) (sNot f) := pt_le (pt_not h) fun σ H Q ⟨B, im, ow, r, M, S, P⟩ =>
  ⟨B, im, ow, r, M, S, Post.bind P fun x M1 v im1 H1 _ S1 E1 p1 r1 P1 => by
    cases r1
    exact P1.here S1 rfl⟩
abbrev DW (X : Cx) (T : Tb) (W : WX) (e : Expr) (f : SE Bool) : Prop := PW X e (tB (gm X T) W f)
def sAnd (f h : SE Bool) : SE Bool := fun r M => (f r M).bind fun b M1 => if b = true then h r M1 else .ok false M1
def sOr (f h : SE Bool) : SE Bool := fun r M => (f r M).bind fun b M1 => if b = true then .ok true M1 else h r M1
variable {rest : List Expr}
theorem dw_and1 {f : SE Bool} (h : DT X T W a f) : DW X T W (.BoolOp .And [a] pos) f := pw_and1 h
theorem dw_or1 {f : SE Bool} (h : DT X T W a f) : DW X T W (.BoolOp .Or [a] pos) f := pw_or1 h
theorem dw_and {f h : SE Bool} (h1 : DT X T W a f) (h2 : DW X T W (.BoolOp .And (b :: rest) pos) h) : DW X T W (.BoolOp .And (a :: b :: rest) pos) (sAnd f h) := pw_le (pw_and h1 h2) fun σ H Q ⟨B, im, ow, r, M, S, P⟩ =>
  ⟨B, im, ow, r, M, S, Post.bind P fun x M1 v im1 H1 _ S1 E1 p1 r1 P1 => by
    cases r1
    cases x with
    | true => exact ⟨B, im1, ow, r, M1, S1, P1⟩
    | false => exact P1.here S1 rfl⟩
theorem dw_or {f h : SE Bool} (h1 : DT X T W a f) (h2 : DW X T W (.BoolOp .Or (b :: rest) pos) h) : DW X T W (.BoolOp .Or (a :: b :: rest) pos) (sOr f h) := pw_le (pw_or h1 h2) fun σ H Q ⟨B, im, ow, r, M, S, P⟩ =>
  ⟨B, im, ow, r, M, S, Post.bind P fun x M1 v im1 H1 _ S1 E1 p1 r1 P1 => by
    cases r1
    cases x with
    | false => exact ⟨B, im1, ow, r, M1, S1, P1⟩
    | true => exact P1.here S1 rfl⟩
theorem DW.pt {f : SE Bool} (h : DW X T W e f) : DT X T W e f := PW.pt h
/-- and, or, not as values: of truths -/
def ofB (f : SE Bool) : SE Dm := fun r M => (f r M).bind fun b M1 => .ok (.bl b) M1
def asB (f : SE Dm) : SE Bool := fun r M => (f r M).bind toB
theorem de_one {op} {f : SE Dm} (h : DE X T W a f) : DE X T W (.BoolOp op [a] pos) f := pe_one h
def sAndV (f h : SE Dm) : SE Dm := fun r M => (f r M).bind fun d M1 => match d with
  | .bl true => h r M1
  | .bl false => .ok (.bl false) M1
  | _ => .bad
def sOrV (f h : SE Dm) : SE Dm := fun r M => (f r M).bind fun d M1 => match d with
  | .bl false => h r M1
  | .bl true => .ok (.bl true) M1
  | _ => .bad
def sNotV (f : SE Dm) : SE Dm := fun r M => (f r M).bind fun d M1 => match d with
  | .bl b => .ok (.bl (!b)) M1
  | _ => .bad
theorem de_and {f h : SE Dm} (h1 : DE X T W a f) (h2 : DE X T W (.BoolOp .And (b :: rest) pos) h) : DE X T W (.BoolOp .And (a :: b :: rest) pos) (sAndV f h) := pe_le (pe_and h1 h2) fun σ H Q ⟨B, im, ow, r, M, S, P⟩ =>
  ⟨B, im, ow, r, M, S, Post.bind P fun x M1 v im1 H1 _ S1 E1 p1 r1 P1 => by
    cases r1 with
    | bl c =>
      refine ⟨c, rfl, ?_⟩
      cases c with
      | true => exact ⟨B, im1, ow, r, M1, S1, P1⟩
      | false => exact P1.here S1 (.bl _)
    | _ => exact P1.elim⟩
theorem de_or {f h : SE Dm} (h1 : DE X T W a f) (h2 : DE X T W (.BoolOp .Or (b :: rest) pos) h) : DE X T W (.BoolOp .Or (a :: b :: rest) pos) (sOrV f h) := pe_le (pe_or h1 h2) fun σ H Q ⟨B, im, ow, r, M, S, P⟩ =>
  ⟨B, im, ow, r, M, S, Post.bind P fun x M1 v im1 H1 _ S1 E1 p1 r1 P1 => by
    cases r1 with
    | bl c =>
      refine ⟨c, rfl, ?_⟩
      cases c with
      | false => exact ⟨B, im1, ow, r, M1, S1, P1⟩
      | true => exact P1.here S1 (.bl _)
    | _ => exact P1.elim⟩
theorem de_not {f : SE Dm} (h1 : DE X T W a f) : DE X T W (.UnaryOp .Not a pos) (sNotV f) := pe_le (pe_not h1) fun σ H Q ⟨B, im, ow, r, M, S, P⟩ =>
  ⟨B, im, ow, r, M, S, Post.bind P fun x M1 v im1 H1 _ S1 E1 p1 r1 P1 => by
    cases r1 with
    | bl c => exact ⟨c, rfl, P1.here S1 (.bl _)⟩
    | _ => exact P1.elim⟩
def sIf (t : SE Bool) (f h : SE Dm) : SE Dm := fun r M => (t r M).bind fun b M1 => if b = true then f r M1 else h r M1
theorem de_if {t : SE Bool} {f h : SE Dm} (ht : DT X T W c t) (h1 : DE X T W a f) (h2 : DE X T W b h) : DE X T W (.IfExp c a b pos) (sIf t f h) := pe_le (pe_ifExp ht h1 h2) fun σ H Q ⟨B, im, ow, r, M, S, P⟩ =>
  ⟨B, im, ow, r, M, S, Post.bind P fun x M1 v im1 H1 _ S1 E1 p1 r1 P1 => by
    cases r1
    cases x with
    | true => exact ⟨B, im1, ow, r, M1, S1, P1⟩
    | false => exact ⟨B, im1, ow, r, M1, S1, P1⟩⟩
/-! ### argument lists, displays -/
def sNil : SE (List Dm) := fun _ M => .ok [] M
def sCons (f : SE Dm) (h : SE (List Dm)) : SE (List Dm) := fun r M => (f r M).bind fun d M1 => (h r M1).bind fun ds M2 => .ok (d :: ds) M2
theorem da_nil : DA X T W [] sNil := pa_le pa_nil fun σ H Q ⟨B, im, ow, r, M, S, P⟩ => P.here S .nil
theorem da_cons {es : List Expr} {f : SE Dm} {h : SE (List Dm)} (h1 : DE X T W e f) (h2 : DA X T W es h) (hs : starEach (e :: es) X.env = (false, eval e X.env) :: starEach es X.env := by rfl) : DA X T W (e :: es) (sCons f h) := pa_le (pa_cons h1 h2 hs) fun σ H Q ⟨B, im, ow, r, M, S, P⟩ =>
  ⟨B, im, ow, r, M, S, Post.bind P fun x M1 v im1 H1 _ S1 E1 p1 r1 P1 => ⟨B, im1, ow, r, M1, S1, P1.bind fun ds M2 vs im2 H2 _ S2 E2 p2 r2 P2 => P2.here S2 (.cons (r1.mono E2.ns p2) r2)⟩⟩
def sTup (h : SE (List Dm)) : SE Dm := fun r M => (h r M).bind fun ds M1 => if ds.length ≤ sizeLine then .ok (.tup ds) M1 else .bad
def sLst (h : SE (List Dm)) : SE Dm := fun r M => (h r M).bind fun ds M1 => if ds.length ≤ sizeLine then .ok (.lst ds) M1 else .bad
theorem de_tup {es : List Expr} {x1} {h : SE (List Dm)} (hh : DA X T W es h) : DE X T W (.Tuple es x1 pos) (sTup h) := pe_le (pe_tup hh) fun σ H Q ⟨B, im, ow, r, M, S, P⟩ =>
  ⟨B, im, ow, r, M, S, Post.bind P fun ds M1 vs im1 H1 _ S1 E1 p1 r1 P1 => by
    split at P1
    · rename_i hl
      exact ⟨by rw [Reps.length r1]; exact hl, fun p hp => P1.new S1 hp (.tup (.inl ⟨.inl upd_same, S1.fresh hp⟩) (Reps.mono (Ext.new hp) (List.prefix_refl _) r1))⟩
    · exact P1.elim⟩
theorem de_lst {es : List Expr} {h : SE (List Dm)} (hh : DA X T W es h) : DE X T W (.List es pos) (sLst h) := pe_le (pe_lst hh) fun σ H Q ⟨B, im, ow, r, M, S, P⟩ =>
  ⟨B, im, ow, r, M, S, Post.bind P fun ds M1 vs im1 H1 _ S1 E1 p1 r1 P1 => by
    split at P1
    · rename_i hl
      exact ⟨by rw [Reps.length r1]; exact hl, fun p hp => P1.new S1 hp (.lst upd_same (S1.fresh hp) (Reps.mono (Ext.new hp) (List.prefix_refl _) r1))⟩
    · exact P1.elim⟩
end
end Dy

/-! Dy4: equality of data, in, None, chains, subscripts, slices, built-ins by values. -/
namespace Dy
open PySem
open PySem.Spec
open L2

/-! ### data as the library's data -/
def okN : Nat → Dm → Bool
  | _, .non => true
  | _, .bl _ => true
  | _, .int _ => true
  | _, .str x => PyData.canLay0 (.str x)
  | n + 1, .tup xs => xs.all (okN n)
  | n + 1, .lst xs => xs.all (okN n)
  | _, _ => false
def toP : Nat → Dm → PyData
  | _, .bl b => .bool b
  | _, .int i => .int i
  | _, .str x => .str x
  | n + 1, .tup xs => .tuple (xs.map (toP n))
  | n + 1, .lst xs => .list (xs.map (toP n))
  | _, _ => .none
section
variable {g : Gm} {N : Av} {im : List Addr} {H : Hp}
theorem lay_map {f : Dm → PyData} : ∀ {xs : List Dm}, (∀ x ∈ xs, (f x).canLay0 = true) → PyData.canLayAll0 (xs.map f) = true
  | [], _ => rfl
  | x :: xs, h => by
    show (PyData.canLay0 (f x) && PyData.canLayAll0 (xs.map f)) = true
    rw [h x (List.mem_cons_self ..), lay_map fun y hy => h y (List.mem_cons_of_mem _ hy)]
    rfl
theorem dep_map {f : Dm → PyData} {n : Nat} : ∀ {xs : List Dm}, (∀ x ∈ xs, (f x).depth ≤ n) → PyData.depthAll (xs.map f) ≤ n
  | [], _ => Nat.zero_le _
  | x :: xs, h => by
    show max (PyData.depth (f x)) (PyData.depthAll (xs.map f)) ≤ n
    exact Nat.max_le.mpr ⟨h x (List.mem_cons_self ..), dep_map fun y hy => h y (List.mem_cons_of_mem _ hy)⟩
theorem toP_ok : ∀ (n : Nat) (d : Dm), okN n d = true → (toP n d).canLay0 = true ∧ (toP n d).depth ≤ n := by
  intro n
  induction n with
  | zero =>
    intro d h
    cases d with
    | non => exact ⟨rfl, Nat.le_refl _⟩
    | bl b => exact ⟨rfl, Nat.le_refl _⟩
    | int i => exact ⟨rfl, Nat.le_refl _⟩
    | str x => exact ⟨h, Nat.le_refl _⟩
    | _ => cases h
  | succ n ih =>
    intro d h
    cases d with
    | non => exact ⟨rfl, Nat.zero_le _⟩
    | bl b => exact ⟨rfl, Nat.zero_le _⟩
    | int i => exact ⟨rfl, Nat.zero_le _⟩
    | str x => exact ⟨h, Nat.zero_le _⟩
    | tup xs =>
      have h2 := List.all_eq_true.mp (show xs.all (okN n) = true from h)
      refine ⟨lay_map fun x hx => (ih x (h2 x hx)).1, ?_⟩
      have e := dep_map (f := toP n) (n := n) fun x hx => (ih x (h2 x hx)).2
      show PyData.depth (.tuple (xs.map (toP n))) ≤ n + 1
      simp only [PyData.depth]
      omega
    | lst xs =>
      have h2 := List.all_eq_true.mp (show xs.all (okN n) = true from h)
      refine ⟨lay_map fun x hx => (ih x (h2 x hx)).1, ?_⟩
      have e := dep_map (f := toP n) (n := n) fun x hx => (ih x (h2 x hx)).2
      show PyData.depth (.list (xs.map (toP n))) ≤ n + 1
      simp only [PyData.depth]
      omega
    | _ => cases h
theorem dps_of {n : Nat} (ih : ∀ (d : Dm) (v : V), okN n d = true → Rep g N im H v d → Dp g.K H v (toP n d)) : ∀ {vs : List V} {ds : List Dm}, Reps g N im H vs ds → (∀ x ∈ ds, okN n x = true) → DpAll g.K H vs (ds.map (toP n))
  | _, _, .nil, _ => .nil
  | _, _, .cons r rs, h => .cons (ih _ _ (h _ (List.mem_cons_self ..)) r) (dps_of ih rs fun y hy => h y (List.mem_cons_of_mem _ hy))
theorem dp_of : ∀ (n : Nat) (d : Dm) (v : V), okN n d = true → Rep g N im H v d → Dp g.K H v (toP n d) := by
  intro n
  induction n with
  | zero =>
    intro d v h r
    cases r with
    | non => exact .non
    | bl b => exact .bl b
    | int i => exact .int i
    | str x => exact .str x
    | _ => cases h
  | succ n ih =>
    intro d v h r
    cases r with
    | non => exact .non
    | bl b => exact .bl b
    | int i => exact .int i
    | str x => exact .str x
    | tup q rs => exact .tup q.sq (dps_of ih rs (List.all_eq_true.mp h))
    | lst q n rs => exact .lst (SqL.of q) (dps_of ih rs (List.all_eq_true.mp h))
    | _ => cases h
end
def dep : Nat := 12
theorem shaped_of {d : Dm} (h : okN dep d = true) : SeqAt.shaped (toP dep d) = true := by
  obtain ⟨h1, h2⟩ := toP_ok dep d h
  unfold SeqAt.shaped
  rw [h1]
  simp only [Bool.true_and, decide_eq_true_eq]
  exact Nat.le_trans h2 (by decide)
def eqP (x y : Dm) : Bool := PyData.eqv (toP dep x) (toP dep y)
def oEq (x y : Dm) (M : Mem) : R Dm := if okN dep x = true ∧ okN dep y = true then .ok (.bl (eqP x y)) M else .bad
def oNe (x y : Dm) (M : Mem) : R Dm := if okN dep x = true ∧ okN dep y = true then .ok (.bl (!eqP x y)) M else .bad
section
variable {X : Cx} {T : Tb} {W : WX} {a b c e : Expr} {fa fb fc : SE Dm} {pos : Pos}
theorem s_eq : Sound X T W (rEqD X.K) oEq := fun B im ow r M σ H x y v w Q S r1 r2 P => by
  unfold oEq at P
  split at P
  · rename_i h
    exact ⟨_, _, dp_of dep _ _ h.1 r1, dp_of dep _ _ h.2 r2, shaped_of h.1, shaped_of h.2, P.here S (.bl _)⟩
  · exact P.elim
theorem s_ne : Sound X T W (rNeD X.K) oNe := fun B im ow r M σ H x y v w Q S r1 r2 P => by
  unfold oNe at P
  split at P
  · rename_i h
    exact ⟨_, _, dp_of dep _ _ h.1 r1, dp_of dep _ _ h.2 r2, shaped_of h.1, shaped_of h.2, P.here S (.bl _)⟩
  · exact P.elim
/-! ### in -/
/-- one sign in a text; an item in a list or a tuple of plain data -/
def flatD : Dm → Bool
  | .non => true
  | .bl _ => true
  | .int _ => true
  | .str _ => true
  | _ => false
def sign? (x : Str) : Option Nat := if x.cps.size = 1 then x.cps[0]? else none
theorem sign_eq {x : Str} {k : Nat} (h : sign? x = some k) : x = ⟨#[k]⟩ := by
  unfold sign? at h
  split at h
  · rename_i h1
    obtain ⟨⟨l⟩⟩ := x
    match l, h1 with
    | [y], _ =>
      have e : y = k := Option.some.inj h
      rw [e]
  · cases h
def inP (x : Dm) (ys : List Dm) : Bool := ys.any fun z => eqP z x
def oIn : Dm → Dm → Mem → R Dm
  | .str x, .str z, M => match sign? x with
    | some k => .ok (.bl (decide (k ∈ z.cps.toList))) M
    | none => .bad
  | x, .tup ys, M => if flatD x = true ∧ ys.all flatD = true then .ok (.bl (inP x ys)) M else .bad
  | x, .lst ys, M => if okN dep x = true ∧ okN dep (.lst ys) = true then .ok (.bl (ys.any fun z => PyData.eqv (toP 11 z) (toP dep x))) M else .bad
  | _, _, _ => .bad
def rIn3 (K : PySem.W.Frag) : R2 := fun x y H Q => (∃ (c : Nat) (z : Str), x = .str ⟨#[c]⟩ ∧ y = .str z ∧ Q (.bl (decide (c ∈ z.cps.toList))) H) ∨ (rIn K false x y H Q ∨ rInD K x y H Q)
theorem op_in3 (hu : X.A.units + 65 < cLine) : OpR X (compareOp .In) (rIn3 X.K) := op_in_sign.or (op_in_seq.or (op_inD hu))
def rNotIn3 (K : PySem.W.Frag) : R2 := fun x y H Q => (∃ (c : Nat) (z : Str), x = .str ⟨#[c]⟩ ∧ y = .str z ∧ Q (.bl (!decide (c ∈ z.cps.toList))) H) ∨ (rIn K true x y H Q ∨ rNotInD K x y H Q)
theorem op_notIn3 (hu : X.A.units + 65 < cLine) : OpR X (compareOp .NotIn) (rNotIn3 X.K) := op_notIn_sign.or (op_notIn_seq.or (op_notInD hu))
def oNotIn (x y : Dm) (M : Mem) : R Dm := (oIn x y M).bind fun d M1 => match d with
  | .bl b => .ok (.bl (!b)) M1
  | _ => .bad
section
variable {g : Gm} {N : Av} {im : List Addr} {H : Hp}
theorem flat_of {v : V} {d : Dm} (r : Rep g N im H v d) (h : flatD d = true) : flatV v = true := by
  cases r with
  | non => rfl
  | bl b => rfl
  | int i => rfl
  | str x => rfl
  | _ => cases h
theorem flats_of : ∀ {v : List V} {d : List Dm}, Reps g N im H v d → d.all flatD = true → v.all flatV = true
  | _, _, .nil, _ => rfl
  | _, _, .cons r rs, h => by
    rw [List.all_cons, Bool.and_eq_true] at h
    rw [List.all_cons, flat_of r h.1, flats_of rs h.2]
    rfl
theorem eqv_of {v w : V} {d e : Dm} (r : Rep g N im H v d) (q : Rep g N im H w e) (h : flatD d = true) (k : flatD e = true) : eqV v w = eqP d e := by
  cases r with
  | non => cases q with
    | non => rfl
    | bl b => rfl
    | int i => rfl
    | str x => rfl
    | _ => cases k
  | bl b => cases q with
    | non => rfl
    | bl b => rfl
    | int i => rfl
    | str x => rfl
    | _ => cases k
  | int i => cases q with
    | non => rfl
    | bl b => rfl
    | int i => rfl
    | str x => rfl
    | _ => cases k
  | str i => cases q with
    | non => rfl
    | bl b => rfl
    | int i => rfl
    | str x => rfl
    | _ => cases k
  | _ => cases h
theorem inv_of {v : V} {d : Dm} (q : Rep g N im H v d) (k : flatD d = true) : ∀ {vs : List V} {ds : List Dm}, Reps g N im H vs ds → ds.all flatD = true → inV v vs = inP d ds
  | _, _, .nil, _ => rfl
  | _, _, .cons r rs, h => by
    rw [List.all_cons, Bool.and_eq_true] at h
    have ih := inv_of q k rs h.2
    unfold inV inP at ih ⊢
    rw [List.any_cons, List.any_cons, ih, eqv_of r q h.1 k]
theorem flat_ok {d : Dm} (h : flatD d = true) : True := trivial
end
theorem any_map {p : PyData → Bool} {f : Dm → PyData} : ∀ xs : List Dm, (xs.map f).any p = xs.any fun x => p (f x)
  | [] => rfl
  | x :: xs => by
    rw [List.map_cons, List.any_cons, List.any_cons, any_map xs]
theorem s_in_aux {B : Bs} {im : List Addr} {ow : Ow} {r : Sl} {M : Mem} {σ : St} {H : Hp} {x y : Dm} {v w : V} {Q : VK} (neg : Bool) (S : StRel (gm X T) B im ow r M σ H) (r1 : Rep (gm X T) (ns B.F im ow) im H v x) (r2 : Rep (gm X T) (ns B.F im ow) im H w y)
    (P : Post rlV (gm X T) B W im ow r σ H ((oIn x y M).bind fun d M1 => match d with
      | .bl b => .ok (.bl (if neg then !b else b)) M1
      | _ => .bad) Q) :
    (∃ (c : Nat) (z : Str), v = .str ⟨#[c]⟩ ∧ w = .str z ∧ Q (.bl (if neg then !decide (c ∈ z.cps.toList) else decide (c ∈ z.cps.toList))) H) ∨ (rIn X.K neg v w H Q ∨
      ∃ d ds, Dp X.K H v d ∧ Dp X.K H w (.list ds) ∧ SeqAt.shaped d = true ∧ SeqAt.shaped (.list ds) = true ∧ Q (.bl (if neg then !(ds.any fun z => PyData.eqv z d) else (ds.any fun z => PyData.eqv z d))) H) := by
  cases r2 with
  | str z =>
    cases r1 with
    | str x =>
      have e : oIn (.str x) (.str z) M = (match sign? x with
        | some k => .ok (.bl (decide (k ∈ z.cps.toList))) M
        | none => .bad) := rfl
      rw [e] at P
      cases h : sign? x with
      | none =>
        rw [h] at P
        exact P.elim
      | some k =>
        rw [h] at P
        rw [sign_eq h]
        exact .inl ⟨k, z, rfl, rfl, P.here S (.bl _)⟩
    | _ => exact P.elim
  | @tup _ _ ys q rs =>
    have e : oIn x (.tup ys) M = if flatD x = true ∧ ys.all flatD = true then .ok (.bl (inP x ys)) M else .bad := by cases x <;> rfl
    rw [e] at P
    split at P
    · rename_i h
      refine .inr (.inl ⟨_, _, rfl, .inr q.sq, flat_of r1 h.1, flats_of rs h.2, ?_⟩)
      rw [inv_of r1 h.1 rs h.2]
      exact P.here S (.bl _)
    · exact P.elim
  | @lst _ _ ys q n rs =>
    have e : oIn x (.lst ys) M = if okN dep x = true ∧ okN dep (.lst ys) = true then .ok (.bl (ys.any fun z => PyData.eqv (toP 11 z) (toP dep x))) M else .bad := by cases x <;> rfl
    rw [e] at P
    split at P
    · rename_i h
      refine .inr (.inr ⟨_, _, dp_of dep _ _ h.1 r1, dp_of dep (.lst _) _ h.2 (.lst q n rs), shaped_of h.1, shaped_of h.2, ?_⟩)
      rw [any_map]
      exact P.here S (.bl _)
    · exact P.elim
  | _ =>
    exfalso
    revert P
    cases x <;> exact fun P => P.elim
theorem s_in : Sound X T W (rIn3 X.K) oIn := fun B im ow r M σ H x y v w Q S r1 r2 P => by
  have e : ((oIn x y M).bind fun d M1 => match d with
      | .bl b => .ok (.bl (if false then !b else b)) M1
      | _ => .bad) = oIn x y M := by
    have z : ∀ q : R Dm, (∀ d M1, q = .ok d M1 → ∃ b, d = .bl b) → (q.bind fun d M1 => match d with
      | .bl b => .ok (.bl (if false then !b else b)) M1
      | _ => .bad) = q := fun q h => by
      cases q with
      | ok d M1 =>
        obtain ⟨b, rfl⟩ := h d M1 rfl
        rfl
      | _ => rfl
    refine z _ fun d M1 hd => ?_
    unfold oIn at hd
    repeat' split at hd
    all_goals first
      | (injection hd with h1 h2; exact ⟨_, h1.symm⟩)
      | cases hd
  have := s_in_aux (X := X) (T := T) (W := W) (Q := Q) false S r1 r2 (by rw [e]; exact P)
  rcases this with h | h | h
  · exact .inl h
  · exact .inr (.inl h)
  · exact .inr (.inr h)
theorem s_notIn : Sound X T W (rNotIn3 X.K) oNotIn := fun B im ow r M σ H x y v w Q S r1 r2 P => by
  rcases s_in_aux (X := X) (T := T) (W := W) (Q := Q) true S r1 r2 P with h | h | h
  · exact .inl h
  · exact .inr (.inl h)
  · exact .inr (.inr h)
/-! ### None -/
def oIsN : Dm → Mem → R Dm
  | .non, M => .ok (.bl true) M
  | .glo _, _ => .bad
  | _, M => .ok (.bl false) M
def oNotN : Dm → Mem → R Dm
  | .non, M => .ok (.bl false) M
  | .glo _, _ => .bad
  | _, M => .ok (.bl true) M
theorem isN_of {B : Bs} {im : List Addr} {ow : Ow} {r : Sl} {M : Mem} {σ : St} {H : Hp} {x : Dm} {v : V} {Q : VK} (S : StRel (gm X T) B im ow r M σ H) (q : Rep (gm X T) (ns B.F im ow) im H v x) (P : Post rlV (gm X T) B W im ow r σ H (oIsN x M) Q) : Q (.bl (decide (v = .non))) H := by
  cases q with
  | glo => exact P.elim
  | _ => exact P.here S (.bl _)
theorem notN_of {B : Bs} {im : List Addr} {ow : Ow} {r : Sl} {M : Mem} {σ : St} {H : Hp} {x : Dm} {v : V} {Q : VK} (S : StRel (gm X T) B im ow r M σ H) (q : Rep (gm X T) (ns B.F im ow) im H v x) (P : Post rlV (gm X T) B W im ow r σ H (oNotN x M) Q) : Q (.bl (!decide (v = .non))) H := by
  cases q with
  | glo => exact P.elim
  | _ => exact P.here S (.bl _)
theorem de_isN {j : Nat} {p' : Pos} (ha : DE X T W a fa) : DE X T W (.Compare a [.Is] [.Constant .none j p'] pos) (sUn oIsN fa) := pe_le (pe_cmp (pc_isN ha)) fun σ H Q ⟨B, im, ow, r, M, S, P⟩ =>
  ⟨B, im, ow, r, M, S, Post.bind (k := oIsN) P fun x M1 v im1 H1 _ S1 E1 p1 r1 P1 => isN_of S1 r1 P1⟩
theorem de_notN {j : Nat} {p' : Pos} (ha : DE X T W a fa) : DE X T W (.Compare a [.IsNot] [.Constant .none j p'] pos) (sUn oNotN fa) := pe_le (pe_cmp (pc_notN ha)) fun σ H Q ⟨B, im, ow, r, M, S, P⟩ =>
  ⟨B, im, ow, r, M, S, Post.bind (k := oNotN) P fun x M1 v im1 H1 _ S1 E1 p1 r1 P1 => notN_of S1 r1 P1⟩
theorem un_test {o : Dm → Mem → R Dm} {t : TE} (h : ∀ σ H Q, tD (gm X T) W (sUn o fa) σ H Q → t σ H Q) (hb : ∀ d M e M', o d M = .ok e M' → ∃ b, e = .bl b) {σ : St} {H : Hp} {Q : Bool → Hp → Prop} (w : tB (gm X T) W (fun r M => (sUn o fa r M).bind toB) σ H Q) :
    t σ H fun x H1 => ∃ k, x = .bl k ∧ Q k H1 := by
  refine h σ H _ ?_
  obtain ⟨B, im, ow, r, M, S, P⟩ := w
  refine ⟨B, im, ow, r, M, S, ?_⟩
  have P' : Post rlB (gm X T) B W im ow r σ H ((sUn o fa r M).bind toB) Q := P
  refine P'.bind fun d M1 v im1 H1 he S1 E1 p1 r1 P1 => ?_
  cases r1 with
  | bl b => exact ⟨b, rfl, P1.here S1 rfl⟩
  | _ => exact P1.elim
theorem dt_isN {j : Nat} {p' : Pos} (ha : DE X T W a fa) : DT X T W (.Compare a [.Is] [.Constant .none j p'] pos) (fun r M => (sUn oIsN fa r M).bind toB) := pt_le (pt_cmp (pc_isN ha)) fun σ H Q h =>
  un_test (fun σ H Q ⟨B, im, ow, r, M, S, P⟩ => (⟨B, im, ow, r, M, S, Post.bind (k := oIsN) P fun x M1 v im1 H1 _ S1 E1 p1 r1 P1 => isN_of S1 r1 P1⟩ : tIsN (tD (gm X T) W fa) σ H Q)) (fun d M e M' h => by
    unfold oIsN at h
    split at h
    all_goals first
      | (injection h with h1 h2; exact ⟨_, h1.symm⟩)
      | cases h) h
theorem dt_notN {j : Nat} {p' : Pos} (ha : DE X T W a fa) : DT X T W (.Compare a [.IsNot] [.Constant .none j p'] pos) (fun r M => (sUn oNotN fa r M).bind toB) := pt_le (pt_cmp (pc_notN ha)) fun σ H Q h =>
  un_test (fun σ H Q ⟨B, im, ow, r, M, S, P⟩ => (⟨B, im, ow, r, M, S, Post.bind (k := oNotN) P fun x M1 v im1 H1 _ S1 E1 p1 r1 P1 => notN_of S1 r1 P1⟩ : tNotN (tD (gm X T) W fa) σ H Q)) (fun d M e M' h => by
    unfold oNotN at h
    split at h
    all_goals first
      | (injection h with h1 h2; exact ⟨_, h1.symm⟩)
      | cases h) h
/-! ### a <= b < c -/
def sChain (o o' : Dm → Dm → Mem → R Dm) (fa fb fc : SE Dm) : SE Dm := fun r M => (fa r M).bind fun x M1 => (fb r M1).bind fun y M2 => (o x y M2).bind fun d M3 => match d with
  | .bl true => (fc r M3).bind fun z M4 => o' y z M4
  | .bl false => .ok (.bl false) M3
  | _ => .bad
theorem chain_le {o o' : Dm → Dm → Mem → R Dm} {rr rr' : R2} (hs : Sound X T W rr o) (hs' : Sound X T W rr' o') {σ : St} {H : Hp} {Q : VK} (h : tD (gm X T) W (sChain o o' fa fb fc) σ H Q) : tChain rr rr' (tD (gm X T) W fa) (tD (gm X T) W fb) (tD (gm X T) W fc) σ H Q := by
  obtain ⟨B, im, ow, r, M, S, P⟩ := h
  have P' : Post rlV (gm X T) B W im ow r σ H ((fa r M).bind fun x M1 => (fb r M1).bind fun y M2 => (o x y M2).bind fun d M3 => match d with
    | .bl true => (fc r M3).bind fun z M4 => o' y z M4
    | .bl false => .ok (.bl false) M3
    | _ => .bad) Q := P
  refine ⟨B, im, ow, r, M, S, P'.bind fun x M1 v im1 H1 _ S1 E1 p1 r1 P1 => ⟨B, im1, ow, r, M1, S1, P1.bind fun y M2 w im2 H2 _ S2 E2 p2 r2 P2 => ?_⟩⟩
  refine hs B im2 ow r M2 σ H2 x y v w _ S2 (r1.mono E2.ns p2) r2 (P2.bind fun d M3 u im3 H3 _ S3 E3 p3 r3 P3 => ?_)
  cases r3 with
  | bl k =>
    refine ⟨k, rfl, ?_⟩
    cases k with
    | true =>
      refine (if_pos rfl).mpr ⟨B, im3, ow, r, M3, S3, Post.bind P3 fun z M4 w' im4 H4 _ S4 E4 p4 r4 P4 => ?_⟩
      exact hs' B im4 ow r M4 σ H4 y z w w' Q S4 (r2.mono ((E3.trans E4).ns) (p3.trans p4)) r4 P4
    | false => exact (if_neg Bool.false_ne_true).mpr (P3.here S3 (.bl _))
  | _ => exact P3.elim
theorem de_chain {op op' : CmpOp} {o o' : Dm → Dm → Mem → R Dm} {rr rr' : R2} (ho : OpR X (compareOp op) rr) (ho' : OpR X (compareOp op') rr') (hs : Sound X T W rr o) (hs' : Sound X T W rr' o') (ha : DE X T W a fa) (hb : DE X T W b fb) (hc : DE X T W c fc)
    (hm : lastMarks [op, op'] [b, c] = false := by rfl) : DE X T W (.Compare a [op, op'] [b, c] pos) (sChain o o' fa fb fc) := pe_le (pe_chain ho ho' ha hb hc hm) fun σ H Q h => chain_le hs hs' h
theorem dt_chain {op op' : CmpOp} {o o' : Dm → Dm → Mem → R Dm} {rr rr' : R2} (ho : OpR X (compareOp op) rr) (ho' : OpR X (compareOp op') rr') (hs : Sound X T W rr o) (hs' : Sound X T W rr' o') (ha : DE X T W a fa) (hb : DE X T W b fb) (hc : DE X T W c fc)
    (hm : lastMarks [op, op'] [b, c] = false := by rfl) : DT X T W (.Compare a [op, op'] [b, c] pos) (fun r M => (sChain o o' fa fb fc r M).bind toB) := pt_le (pt_chain ho ho' ha hb hc hm) fun σ H Q ⟨B, im, ow, r, M, S, P⟩ => by
  refine chain_le (Q := fun x H' => ∃ k, x = .bl k ∧ Q k H') hs hs' ⟨B, im, ow, r, M, S, ?_⟩
  have P' : Post rlB (gm X T) B W im ow r σ H ((sChain o o' fa fb fc r M).bind toB) Q := P
  refine P'.bind fun d M1 v im1 H1 he S1 E1 p1 r1 P1 => ?_
  cases r1 with
  | bl b => exact ⟨b, rfl, P1.here S1 rfl⟩
  | _ => exact P1.elim
end
end Dy

/-! Dy5: subscripts, slices, built-ins by values, join, repr, what is walked. -/
namespace Dy
open PySem
open PySem.Spec
open L2

/-- the items of what may be read as a sequence -/
def sqOf (M : Mem) : Dm → Option (List Dm)
  | .lst ds => some ds
  | .tup ds => some ds
  | .frl ds => some ds
  | .ref i => match M[i]? with
    | some (.lst ds) => some ds
    | _ => none
  | _ => none
section
variable {g : Gm} {B : Bs} {W : WX} {im : List Addr} {ow : Ow} {r : Sl} {M : Mem} {σ : St} {H : Hp}
theorem sq_of {d : Dm} {v : V} {ds : List Dm} (S : StRel g B im ow r M σ H) (q : Rep g (ns B.F im ow) im H v d) (h : sqOf M d = some ds) :
    ∃ p xs, v = .ref p ∧ (SqL g.K H p xs ∨ SqT g.K H p xs) ∧ Reps g (ns B.F im ow) im H xs ds := by
  cases q with
  | lst h1 n rs =>
    cases h
    exact ⟨_, _, rfl, .inl (SqL.of h1), rs⟩
  | frl h1 rs =>
    cases h
    exact ⟨_, _, rfl, .inl h1.sq, rs⟩
  | tup h1 rs =>
    cases h
    exact ⟨_, _, rfl, .inr h1.sq, rs⟩
  | @ref i a e =>
    have h2 : (match M[i]? with
      | some (.lst ds) => some ds
      | _ => none) = some ds := h
    cases hm : M[i]? with
    | none =>
      rw [hm] at h2
      cases h2
    | some m =>
      rw [hm] at h2
      cases m with
      | lst es =>
        cases h2
        obtain ⟨b, hb, xs, hx, rs⟩ := S.mem i _ hm
        rw [e] at hb
        cases hb
        exact ⟨_, _, rfl, .inl (SqL.of hx), rs⟩
      | _ => cases h2
  | _ => cases h
theorem atI_reps {N : Av} {vs : List V} {ds : List Dm} {i : Int} {y : Dm} (rs : Reps g N im H vs ds) (h : atI ds i = some y) : ∃ x, atI vs i = some x ∧ Rep g N im H x y := by
  unfold atI at h ⊢
  rw [rs.length]
  cases e : ixN ds.length i with
  | none =>
    rw [e] at h
    cases h
  | some j =>
    rw [e] at h
    exact rs.get h
end
section
variable {X : Cx} {T : Tb} {W : WX} {a b c e : Expr} {fa fb fc : SE Dm} {pos : Pos}
/-! ### a[i] -/
def oIx : Dm → Dm → Mem → R Dm
  | .str z, .int i, M => if z.length ≤ sizeLine then match atI z.cps.toList i with
      | some k => .ok (.str ⟨#[k]⟩) M
      | none => .bad
    else .bad
  | d, .int i, M => match sqOf M d with
    | some ds => match atI ds i with
      | some y => .ok y M
      | none => .bad
    | none => .bad
  | _, _, _ => .bad
theorem oIx_seq {d : Dm} {i : Int} {M : Mem} (h : ∀ z, d ≠ .str z) : oIx d (.int i) M = match sqOf M d with
    | some ds => match atI ds i with
      | some y => .ok y M
      | none => .bad
    | none => .bad := by
  cases d with
  | str z => exact absurd rfl (h z)
  | _ => rfl
theorem s_ix : Sound X T W (rIx X.K) oIx := fun B im ow r M σ H x y v w Q S r1 r2 P => by
  cases r2 with
  | int i =>
    by_cases hz : ∃ z, x = .str z
    · obtain ⟨z, rfl⟩ := hz
      cases r1 with
      | str =>
        have e0 : oIx (.str z) (.int i) M = if z.length ≤ sizeLine then match atI z.cps.toList i with
            | some k => .ok (.str ⟨#[k]⟩) M
            | none => .bad
          else .bad := rfl
        rw [e0] at P
        split at P
        · rename_i hl
          cases e : atI z.cps.toList i with
          | none =>
            rw [e] at P
            exact P.elim
          | some k =>
            rw [e] at P
            exact .inr (.inr ⟨z, i, k, rfl, rfl, hl, e, P.here S (.str _)⟩)
        · exact P.elim
    · rw [oIx_seq fun z hh => hz ⟨z, hh⟩] at P
      cases e : sqOf M x with
      | none =>
        rw [e] at P
        exact P.elim
      | some ds =>
        rw [e] at P
        obtain ⟨p, xs, rfl, hs, rs⟩ := sq_of S r1 e
        cases e2 : atI ds i with
        | none =>
          simp only [e2] at P
          exact P.elim
        | some y =>
          simp only [e2] at P
          obtain ⟨u, hu, ru⟩ := atI_reps rs e2
          rcases hs with hs | hs
          · exact .inl ⟨p, xs, i, u, rfl, rfl, hs, hu, P.here S ru⟩
          · exact .inr (.inl ⟨p, xs, i, u, rfl, rfl, hs, hu, P.here S ru⟩)
  | _ =>
    exfalso
    revert P
    cases x <;> exact fun P => P.elim
theorem de_ix (ha : DE X T W a fa) (hb : DE X T W b fb) (hs : PlainIx b) : DE X T W (.Subscript a b pos) (sBin oIx fa fb) := pe_le (pe_ix ix_seq ha hb hs) fun _ _ _ h => bin_val s_ix h
/-! ### a[lo:hi] -/
def cutD (xs : List Dm) (lo hi : Option Int) : List Dm := (xs.drop (HT.sIx xs.length 0 lo)).take (HT.sIx xs.length xs.length hi - HT.sIx xs.length 0 lo)
def oSl : Dm → Option Int → Option Int → Mem → R Dm
  | .str z, lo, hi, M => if z.length ≤ sizeLine then .ok (.str (cutS z lo hi)) M else .bad
  | .tup ds, lo, hi, M => .ok (.tup (cutD ds lo hi)) M
  | .lst ds, lo, hi, M => .ok (.lst (cutD ds lo hi)) M
  | .frl ds, lo, hi, M => .ok (.lst (cutD ds lo hi)) M
  | _, _, _, _ => .bad
def sOpt (o : Option (SE Dm)) (r : Sl) (M : Mem) : R (Option Int) := match o with
  | none => .ok none M
  | some f => (f r M).bind fun d M1 => match d with
    | .int i => .ok (some i) M1
    | _ => .bad
def sSl (fa : SE Dm) (fl fh : Option (SE Dm)) : SE Dm := fun r M => (fa r M).bind fun x M1 => (sOpt fl r M1).bind fun lo M2 => (sOpt fh r M2).bind fun hi M3 => oSl x lo hi M3
def rlO : Rl (Option Int) (Option Int) := fun _ _ _ _ x y => x = y
abbrev DO (X : Cx) (T : Tb) (W : WX) (e : Option Expr) (f : Option (SE Dm)) : Prop := PO X e (tG rlO (gm X T) W (sOpt f))
theorem do_none : DO X T W none none := ⟨fun pins s σ H Q I ⟨B, im, ow, r, M, S, P⟩ => po_none.run pins s σ H Q I (P.here S rfl)⟩
theorem do_some {f : SE Dm} (h : DE X T W e f) : DO X T W (some e) (some f) := ⟨fun pins s σ H Q I ⟨B, im, ow, r, M, S, P⟩ => (po_some h).run pins s σ H Q I
  ⟨B, im, ow, r, M, S, Post.bind (rl' := rlO) P fun d M1 v im1 H1 _ S1 E1 p1 r1 P1 => by
    cases r1 with
    | int i => exact ⟨i, rfl, P1.here S1 rfl⟩
    | _ => exact P1.elim⟩⟩
theorem Reps.cut {g : Gm} {N : Av} {im : List Addr} {H : Hp} {vs : List V} {ds : List Dm} (rs : Reps g N im H vs ds) (lo hi : Option Int) : Reps g N im H (cutV vs lo hi) (cutD ds lo hi) := by
  unfold cutV cutD
  rw [rs.length]
  exact (rs.drop _).take _
def rSl3 (K : PySem.W.Frag) : V → Option Int → Option Int → Hp → VK → Prop := fun x lo hi H Q => rSlS x lo hi H Q ∨ (rSlA K x lo hi H Q ∨ rSlL K x lo hi H Q)
theorem sl_3 : SlR X (rSl3 X.K) := SlR.or sl_str (SlR.or sl_tupA sl_list)
theorem cutD_whole {ds : List Dm} {lo hi : Option Int} (h : HT.sIx ds.length 0 lo = 0 ∧ HT.sIx ds.length ds.length hi = ds.length) : cutD ds lo hi = ds := by
  unfold cutD
  rw [h.1, h.2]
  simp
theorem sl_of {B : Bs} {im : List Addr} {ow : Ow} {r : Sl} {M : Mem} {σ : St} {H : Hp} {x : Dm} {v : V} {lo hi : Option Int} {Q : VK} (S : StRel (gm X T) B im ow r M σ H) (q : Rep (gm X T) (ns B.F im ow) im H v x) (P : Post rlV (gm X T) B W im ow r σ H (oSl x lo hi M) Q) : rSl3 X.K v lo hi H Q := by
  cases q with
  | str z =>
    unfold oSl at P
    dsimp only at P
    split at P
    · rename_i h
      exact .inl ⟨z, rfl, h, P.here S (.str _)⟩
    · exact P.elim
  | @tup _ xs ds h rs =>
    refine .inr (.inl ⟨_, _, rfl, h.sq, fun hw => ?_, fun _ p hp => ?_⟩)
    · have e := cutD_whole (ds := ds) (lo := lo) (hi := hi) (by rw [← rs.length]; exact hw)
      have P' : Post rlV (gm X T) B W im ow r σ H (.ok (.tup (cutD ds lo hi)) M) Q := P
      rw [e] at P'
      exact P'.here S (.tup h rs)
    · exact Post.new P S hp (.tup (.inl ⟨.inl upd_same, S.fresh hp⟩) (Reps.mono (Ext.new hp) (List.prefix_refl _) (rs.cut lo hi)))
  | lst h n rs => exact .inr (.inr ⟨_, _, rfl, SqL.of h, fun p hp => Post.new P S hp (.lst upd_same (S.fresh hp) (Reps.mono (Ext.new hp) (List.prefix_refl _) (rs.cut lo hi)))⟩)
  | frl h rs => exact .inr (.inr ⟨_, _, rfl, h.sq, fun p hp => Post.new P S hp (.lst upd_same (S.fresh hp) (Reps.mono (Ext.new hp) (List.prefix_refl _) (rs.cut lo hi)))⟩)
  | _ => exact P.elim
theorem de_sl {lo hi : Option Expr} {fl fh : Option (SE Dm)} {p2 : Pos} (ha : DE X T W a fa) (hl : DO X T W lo fl) (hh : DO X T W hi fh) : DE X T W (.Subscript a (.Slice lo hi none p2) pos) (sSl fa fl fh) :=
  pe_le (pe_slice sl_3 ha hl hh) fun σ H Q ⟨B, im, ow, r, M, S, P⟩ => ⟨B, im, ow, r, M, S, Post.bind (rl' := rlV) P fun x M1 v im1 H1 _ S1 E1 p1 r1 P1 =>
    ⟨B, im1, ow, r, M1, S1, P1.bind fun l M2 l' im2 H2 _ S2 E2 p2 r2 P2 => ⟨B, im2, ow, r, M2, S2, P2.bind fun u M3 u' im3 H3 _ S3 E3 p3 r3 P3 => by
      cases r2
      cases r3
      exact sl_of S3 (r1.mono ((E2.trans E3).ns) (p2.trans p3)) P3⟩⟩⟩
/-- a[::-1], a list -/
def oRev : Dm → Mem → R Dm
  | .lst ds, M => .ok (.lst ds.reverse) M
  | _, _ => .bad
theorem Reps.reverse {g : Gm} {N : Av} {im : List Addr} {H : Hp} : ∀ {vs : List V} {ds : List Dm}, Reps g N im H vs ds → Reps g N im H vs.reverse ds.reverse
  | _, _, .nil => .nil
  | _, _, .cons h r => by
    rw [List.reverse_cons, List.reverse_cons]
    exact r.reverse.append (.cons h .nil)
theorem de_rev {k : Nat} {p1 p2 p3 : Pos} (ha : DE X T W a fa) : DE X T W (.Subscript a (.Slice none none (some (.UnaryOp .USub (.Constant (.int 1) k p1) p2)) p3) pos) (sUn oRev fa) := pe_le (pe_revL ha) fun σ H Q ⟨B, im, ow, r, M, S, P⟩ =>
  ⟨B, im, ow, r, M, S, Post.bind (k := oRev) (rl' := rlV) P fun x M1 v im1 H1 _ S1 E1 p1 r1 P1 => by
    cases r1 with
    | lst h n rs => exact ⟨_, _, rfl, SqL.of h, fun p hp => Post.new P1 S1 hp (.lst upd_same (S1.fresh hp) (Reps.mono (Ext.new hp) (List.prefix_refl _) rs.reverse))⟩
    | _ => exact P1.elim⟩
/-! ### calls of built-ins by values -/
def SoundC (X : Cx) (T : Tb) (W : WX) (rr : List V → Hp → VK → Prop) (o : List Dm → Mem → R Dm) : Prop :=
  ∀ (B : Bs) (im : List Addr) (ow : Ow) (r : Sl) (M : Mem) (σ : St) (H : Hp) (xs : List Dm) (vs : List V) (Q : VK), StRel (gm X T) B im ow r M σ H → Reps (gm X T) (ns B.F im ow) im H vs xs →
    Post rlV (gm X T) B W im ow r σ H (o xs M) Q → rr vs H Q
def sCall (o : List Dm → Mem → R Dm) (h : SE (List Dm)) : SE Dm := fun r M => (h r M).bind o
theorem call_le {o : List Dm → Mem → R Dm} {rr : List V → Hp → VK → Prop} {h : SE (List Dm)} (hs : SoundC X T W rr o) {σ : St} {H : Hp} {Q : VK} (w : tD (gm X T) W (sCall o h) σ H Q) : tCB rr (tA (gm X T) W h) σ H Q := by
  obtain ⟨B, im, ow, r, M, S, P⟩ := w
  exact ⟨B, im, ow, r, M, S, Post.bind (k := o) (rl' := rlV) P fun x M1 v im1 H1 _ S1 E1 p1 r1 P1 => hs B im1 ow r M1 σ H1 x v Q S1 r1 P1⟩
theorem CallR.or {v : Value} {rr rr' : List V → Hp → VK → Prop} (h : CallR X v rr) (h' : CallR X v rr') : CallR X v (fun xs H Q => rr xs H Q ∨ rr' xs H Q) := fun pins s σ H xs us Q I r w => by
  rcases w with w | w
  · exact h pins s σ H xs us Q I r w
  · exact h' pins s σ H xs us Q I r w
theorem de_callB {es : List Expr} {x : Str} {p : Pos} {id : String} {rr : List V → Hp → VK → Prop} {o : List Dm → Mem → R Dm} {h : SE (List Dm)} (hc : CallR X (.builtin id) rr) (hs : SoundC X T W rr o) (hg : Gl X x) (hm : X.mg x = none) (hv : bootBuiltins x = some (.builtin id)) (ha : DA X T W (e :: es) h)
    (hn : x ≠ "__name__" := by decide) (hd : (x == ("__debug__" : Str)) = false := by decide) (he : starEach (e :: es) X.env = (false, eval e X.env) :: starEach es X.env := by rfl) (hpl : (backTo pos (starEach es X.env)).any (·.1) = false := by rfl) :
    DE X T W (.Call (.Name x p) (e :: es) [] pos) (sCall o h) := pe_le (pe_callB hc hg hm hv ha hn hd he hpl) fun _ _ _ w => call_le hs w
theorem de_callTy {es : List Expr} {x : Str} {p : Pos} {id : String} {rr : List V → Hp → VK → Prop} {o : List Dm → Mem → R Dm} {h : SE (List Dm)} (hc : CallR X (.type id) rr) (hs : SoundC X T W rr o) (hg : Gl X x) (hm : X.mg x = none) (hv : bootBuiltins x = some (.type id)) (ha : DA X T W (e :: es) h)
    (hn : x ≠ "__name__" := by decide) (hd : (x == ("__debug__" : Str)) = false := by decide) (he : starEach (e :: es) X.env = (false, eval e X.env) :: starEach es X.env := by rfl) (hpl : (backTo pos (starEach es X.env)).any (·.1) = false := by rfl) :
    DE X T W (.Call (.Name x p) (e :: es) [] pos) (sCall o h) := pe_le (pe_callTy hc hg hm hv ha hn hd he hpl) fun _ _ _ w => call_le hs w
/-- len -/
def oLen : List Dm → Mem → R Dm
  | [.str x], M => if x.length ≤ sizeLine then .ok (.int x.length) M else .bad
  | [d], M => match sqOf M d with
    | some ds => .ok (.int ds.length) M
    | none => match d with
      | .dic kvs => .ok (.int kvs.length) M
      | _ => .bad
  | _, _ => .bad
def rLen3 (K : PySem.W.Frag) : List V → Hp → VK → Prop := fun xs H Q => (∃ z, xs = [.str z] ∧ z.length ≤ sizeLine ∧ Q (.int z.length) H) ∨ ((∃ p ys, xs = [.ref p] ∧ (SqL K H p ys ∨ SqT K H p ys) ∧ Q (.int ys.length) H) ∨ ∃ p kvs, xs = [.ref p] ∧ H p = some (.dK kvs) ∧ Q (.int kvs.length) H)
theorem call_len3 : CallR X (.builtin "len") (rLen3 X.K) := CallR.or call_len_str (CallR.or call_len_seq fun pins s σ H xs us Q I r w => by
  obtain ⟨p, kvs, e, h, q⟩ := w
  exact call_lenD pins s σ H xs us Q I r ⟨p, kvs, e, h, q⟩)
theorem RepK.length {g : Gm} {N : Av} {im : List Addr} {H : Hp} : ∀ {vs : List (Key × V)} {ds : List (Key × Dm)}, RepK g N im H vs ds → vs.length = ds.length
  | _, _, .nil => rfl
  | _, _, .cons _ r => congrArg (· + 1) r.length
theorem oLen_seq {d : Dm} {M : Mem} (h : ∀ z, d ≠ .str z) : oLen [d] M = match sqOf M d with
    | some ds => .ok (.int ds.length) M
    | none => match d with
      | .dic kvs => .ok (.int kvs.length) M
      | _ => .bad := by
  cases d with
  | str z => exact absurd rfl (h z)
  | _ => rfl
theorem c_len : SoundC X T W (rLen3 X.K) oLen := fun B im ow r M σ H xs vs Q S rs P => by
  cases rs with
  | nil => exact P.elim
  | @cons v d vs ds q rs =>
    cases rs with
    | cons q2 rs2 =>
      exfalso
      revert P
      cases d <;> exact fun P => P.elim
    | nil =>
      by_cases hz : ∃ z, d = .str z
      · obtain ⟨z, rfl⟩ := hz
        cases q with
        | str =>
          have e0 : oLen [.str z] M = if z.length ≤ sizeLine then .ok (.int z.length) M else .bad := rfl
          rw [e0] at P
          split at P
          · rename_i h
            exact .inl ⟨z, rfl, h, P.here S (.int _)⟩
          · exact P.elim
      · rw [oLen_seq fun z hh => hz ⟨z, hh⟩] at P
        cases e : sqOf M d with
        | some ds =>
          simp only [e] at P
          obtain ⟨p, ys, rfl, hs, rs⟩ := sq_of S q e
          refine .inr (.inl ⟨p, ys, rfl, hs, ?_⟩)
          rw [rs.length]
          exact P.here S (.int _)
        | none =>
          simp only [e] at P
          cases q with
          | dic h n rk =>
            refine .inr (.inr ⟨_, _, rfl, h, ?_⟩)
            rw [rk.length]
            exact P.here S (.int _)
          | _ => exact P.elim
/-- one int, two ints -/
def o1 (f : Int → Option Dm) : List Dm → Mem → R Dm
  | [.int i], M => match f i with
    | some d => .ok d M
    | none => .bad
  | _, _ => .bad
theorem c_1 {C : Int → Prop} {f : Int → Option Dm} {g : Int → V} (h : ∀ i d, f i = some d → C i ∧ ∀ G N im H, Rep G N im H (g i) d) : SoundC X T W (fun xs H Q => ∃ i, xs = [.int i] ∧ C i ∧ Q (g i) H) (o1 f) := fun B im ow r M σ H xs vs Q S rs P => by
  cases rs with
  | nil => exact P.elim
  | cons q rs =>
    cases q with
    | int i =>
      cases rs with
      | nil =>
        unfold o1 at P
        dsimp only at P
        cases e : f i with
        | none =>
          rw [e] at P
          exact P.elim
        | some d =>
          rw [e] at P
          obtain ⟨h1, h2⟩ := h i d e
          exact ⟨i, rfl, h1, P.here S (h2 _ _ _ _)⟩
      | cons _ _ => exact P.elim
    | _ => exact P.elim
def o2 (f : Int → Int → Option Dm) : List Dm → Mem → R Dm
  | [.int i, .int j], M => match f i j with
    | some d => .ok d M
    | none => .bad
  | _, _ => .bad
theorem c_2 {f : Int → Int → Option Dm} {g : Int → Int → V} (h : ∀ i j d, f i j = some d → ∀ G N im H, Rep G N im H (g i j) d) : SoundC X T W (fun xs H Q => ∃ i j, xs = [.int i, .int j] ∧ Q (g i j) H) (o2 f) := fun B im ow r M σ H xs vs Q S rs P => by
  cases rs with
  | nil => exact P.elim
  | cons q rs =>
    cases q with
    | int i =>
      cases rs with
      | nil => exact P.elim
      | cons q2 rs =>
        cases q2 with
        | int j =>
          cases rs with
          | nil =>
            unfold o2 at P
            dsimp only at P
            cases e : f i j with
            | none =>
              rw [e] at P
              exact P.elim
            | some d =>
              rw [e] at P
              exact ⟨i, j, rfl, P.here S (h i j d e _ _ _ _)⟩
          | cons _ _ => exact P.elim
        | _ => exact P.elim
    | _ => exact P.elim
def gAbs (i : Int) : Option Dm := some (.int (if i < 0 then -i else i))
def gMax (i j : Int) : Option Dm := some (.int (if j > i then j else i))
def gMin (i j : Int) : Option Dm := some (.int (if j < i then j else i))
theorem c_abs : SoundC X T W (fun xs H Q => ∃ i, xs = [.int i] ∧ Q (.int (if i < 0 then -i else i)) H) (o1 gAbs) := fun B im ow r M σ H xs vs Q S rs P => by
  obtain ⟨i, e, _, q⟩ := c_1 (X := X) (T := T) (W := W) (C := fun _ => True) (f := gAbs) (g := fun i => .int (if i < 0 then -i else i)) (fun i d e => ⟨trivial, fun _ _ _ _ => by cases e; exact .int _⟩) B im ow r M σ H xs vs Q S rs P
  exact ⟨i, e, q⟩
theorem c_max : SoundC X T W (fun xs H Q => ∃ i j, xs = [.int i, .int j] ∧ Q (.int (if j > i then j else i)) H) (o2 gMax) := c_2 fun i j d e _ _ _ _ => by cases e; exact .int _
theorem c_min : SoundC X T W (fun xs H Q => ∃ i j, xs = [.int i, .int j] ∧ Q (.int (if j < i then j else i)) H) (o2 gMin) := c_2 fun i j d e _ _ _ _ => by cases e; exact .int _
/-- int of an int or a truth -/
def oInt : List Dm → Mem → R Dm
  | [.int i], M => .ok (.int i) M
  | [.bl k], M => .ok (.int (if k then 1 else 0)) M
  | _, _ => .bad
theorem c_int : SoundC X T W (fun xs H Q => (∃ i, xs = [.int i] ∧ Q (.int i) H) ∨ ∃ k, xs = [.bl k] ∧ Q (.int (if k then 1 else 0)) H) oInt := fun B im ow r M σ H xs vs Q S rs P => by
  cases rs with
  | nil => exact P.elim
  | cons q rs =>
    cases rs with
    | nil =>
      cases q with
      | int i => exact .inl ⟨i, rfl, P.here S (.int _)⟩
      | bl k => exact .inr ⟨k, rfl, P.here S (.int _)⟩
      | _ => exact P.elim
    | cons _ _ =>
      cases q with
      | _ => exact P.elim
/-- str of an int -/
def gStr (i : Int) : Option Dm := if i.natAbs.log2 < 1920 then some (.str (toString i : String)) else none
theorem c_str : SoundC X T W (fun xs H Q => ∃ i, xs = [.int i] ∧ i.natAbs.log2 < 1920 ∧ Q (.str (toString i)) H) (o1 gStr) := c_1 fun i d e => by
  unfold gStr at e
  split at e
  · rename_i h
    cases e
    exact ⟨h, fun _ _ _ _ => .str _⟩
  · cases e
/-- all, any of a list of truths -/
def bls : List Dm → Option (List Bool)
  | [] => some []
  | .bl b :: ds => (bls ds).map (b :: ·)
  | _ :: _ => none
theorem bls_of {g : Gm} {N : Av} {im : List Addr} {H : Hp} : ∀ {ds : List Dm} {vs : List V} {bs : List Bool}, Reps g N im H vs ds → bls ds = some bs → vs = bs.map V.bl
  | _, _, bs, .nil, h => by
    cases h
    rfl
  | _, _, bs, .cons q rs, h => by
    cases q with
    | bl b =>
      unfold bls at h
      obtain ⟨cs, h1, h2⟩ := Option.map_eq_some_iff.mp h
      rw [← h2, bls_of rs h1]
      rfl
    | _ => cases h
def oAll : List Dm → Mem → R Dm
  | [.lst ds], M => match bls ds with
    | some bs => .ok (.bl (bs.all id)) M
    | none => .bad
  | _, _ => .bad
def oAny : List Dm → Mem → R Dm
  | [.lst ds], M => match bls ds with
    | some bs => .ok (.bl (bs.any id)) M
    | none => .bad
  | _, _ => .bad
theorem c_all : SoundC X T W (rAll X.K) oAll := fun B im ow r M σ H xs vs Q S rs P => by
  cases rs with
  | nil => exact P.elim
  | cons q rs =>
    cases q with
    | @lst _ _ ds h n r1 =>
      cases rs with
      | nil =>
        have P' : Post rlV (gm X T) B W im ow r σ H (match bls ds with
          | some bs => .ok (.bl (bs.all id)) M
          | none => .bad) Q := P
        cases e : bls ds with
        | none =>
          rw [e] at P'
          exact P'.elim
        | some bs =>
          rw [e] at P'
          exact ⟨_, bs, rfl, by rw [← bls_of r1 e]; exact SqL.of h, P'.here S (.bl _)⟩
      | cons _ _ => exact P.elim
    | _ => exact P.elim
theorem c_any : SoundC X T W (rAny X.K) oAny := fun B im ow r M σ H xs vs Q S rs P => by
  cases rs with
  | nil => exact P.elim
  | cons q rs =>
    cases q with
    | @lst _ _ ds h n r1 =>
      cases rs with
      | nil =>
        have P' : Post rlV (gm X T) B W im ow r σ H (match bls ds with
          | some bs => .ok (.bl (bs.any id)) M
          | none => .bad) Q := P
        cases e : bls ds with
        | none =>
          rw [e] at P'
          exact P'.elim
        | some bs =>
          rw [e] at P'
          exact ⟨_, bs, rfl, by rw [← bls_of r1 e]; exact SqL.of h, P'.here S (.bl _)⟩
      | cons _ _ => exact P.elim
    | _ => exact P.elim
/-- divmod by a positive int -/
def oDivmod : List Dm → Mem → R Dm
  | [.int i, .int j], M => if 0 < j ∧ Builtin.divisionGoesByPylong i j = false then .ok (.tup [.int (i / j), .int (i % j)]) M else .bad
  | _, _ => .bad
theorem c_divmod : SoundC X T W (fun xs H Q => ∃ i j, xs = [.int i, .int j] ∧ CDivP i j ∧ ∀ p, H p = none → Q (.ref p) (upd H p (.tup [.int (i / j), .int (i % j)]))) oDivmod := fun B im ow r M σ H xs vs Q S rs P => by
  cases rs with
  | nil => exact P.elim
  | cons q rs =>
    cases q with
    | int i =>
      cases rs with
      | nil => exact P.elim
      | cons q2 rs =>
        cases q2 with
        | int j =>
          cases rs with
          | nil =>
            have e0 : oDivmod [.int i, .int j] M = if 0 < j ∧ Builtin.divisionGoesByPylong i j = false then .ok (.tup [.int (i / j), .int (i % j)]) M else .bad := rfl
            rw [e0] at P
            split at P
            · rename_i h
              exact ⟨i, j, rfl, h, fun p hp => P.new S hp (.tup (.inl ⟨.inl upd_same, S.fresh hp⟩) (.cons (.int _) (.cons (.int _) .nil)))⟩
            · exact P.elim
          | cons _ _ => exact P.elim
        | _ => exact P.elim
    | _ => exact P.elim
/-- list, tuple of a sequence -/
def oListOf : List Dm → Mem → R Dm
  | [d], M => match sqOf M d with
    | some ds => .ok (.lst ds) M
    | none => .bad
  | _, _ => .bad
def oTupOf : List Dm → Mem → R Dm
  | [d], M => match sqOf M d with
    | some ds => .ok (.tup ds) M
    | none => .bad
  | _, _ => .bad
theorem c_listOf : SoundC X T W (fun xs H Q => ∃ p ys, xs = [.ref p] ∧ (SqL X.K H p ys ∨ SqT X.K H p ys) ∧ ∀ l, H l = none → Q (.ref l) (upd H l (.lst ys))) oListOf := fun B im ow r M σ H xs vs Q S rs P => by
  cases rs with
  | nil => exact P.elim
  | @cons v d vs ds q rs =>
    cases rs with
    | cons _ _ => exact P.elim
    | nil =>
      have P' : Post rlV (gm X T) B W im ow r σ H (match sqOf M d with
        | some ds => .ok (.lst ds) M
        | none => .bad) Q := P
      cases e : sqOf M d with
      | none =>
        rw [e] at P'
        exact P'.elim
      | some ds =>
        rw [e] at P'
        obtain ⟨p, ys, rfl, hs, rs⟩ := sq_of S q e
        exact ⟨p, ys, rfl, hs, fun l hl => P'.new S hl (.lst upd_same (S.fresh hl) (Reps.mono (Ext.new hl) (List.prefix_refl _) rs))⟩
theorem c_tupOf : SoundC X T W (fun xs H Q => ∃ p ys, xs = [.ref p] ∧ ((SqL X.K H p ys ∧ ∀ l, H l = none → Q (.ref l) (upd H l (.tup ys))) ∨ (SqT X.K H p ys ∧ Q (.ref p) H))) oTupOf := fun B im ow r M σ H xs vs Q S rs P => by
  cases rs with
  | nil => exact P.elim
  | @cons v d vs ds q rs =>
    cases rs with
    | cons _ _ => exact P.elim
    | nil =>
      have P' : Post rlV (gm X T) B W im ow r σ H (match sqOf M d with
        | some ds => .ok (.tup ds) M
        | none => .bad) Q := P
      cases e : sqOf M d with
      | none =>
        rw [e] at P'
        exact P'.elim
      | some es =>
        rw [e] at P'
        obtain ⟨p, ys, hv, hs, rs⟩ := sq_of S q e
        subst hv
        rcases hs with hs | hs
        · exact ⟨p, ys, rfl, .inl ⟨hs, fun l hl => P'.new S hl (.tup (.inl ⟨.inl upd_same, S.fresh hl⟩) (Reps.mono (Ext.new hl) (List.prefix_refl _) rs))⟩⟩
        · cases q with
          | @tup _ zs _ h r2 =>
            cases e
            exact ⟨p, zs, rfl, .inr ⟨h.sq, P'.here S (.tup h r2)⟩⟩
          | @lst _ zs _ h n r2 =>
            cases e
            exact ⟨p, zs, rfl, .inl ⟨SqL.of h, fun l hl => P'.new S hl (.tup (.inl ⟨.inl upd_same, S.fresh hl⟩) (Reps.mono (Ext.new hl) (List.prefix_refl _) r2))⟩⟩
          | @frl _ zs _ h r2 =>
            cases e
            exact ⟨p, zs, rfl, .inl ⟨h.sq, fun l hl => P'.new S hl (.tup (.inl ⟨.inl upd_same, S.fresh hl⟩) (Reps.mono (Ext.new hl) (List.prefix_refl _) r2))⟩⟩
          | @ref i a hi =>
            have h2 : (match M[i]? with
              | some (.lst ds) => some ds
              | _ => none) = some es := e
            cases hm : M[i]? with
            | none =>
              rw [hm] at h2
              cases h2
            | some m =>
              rw [hm] at h2
              cases m with
              | lst fs =>
                cases h2
                obtain ⟨b, hb, zs, hz, r3⟩ := S.mem i _ hm
                rw [hi] at hb
                cases hb
                exact ⟨p, zs, rfl, .inl ⟨SqL.of hz, fun l hl => P'.new S hl (.tup (.inl ⟨.inl upd_same, S.fresh hl⟩) (Reps.mono (Ext.new hl) (List.prefix_refl _) r3))⟩⟩
              | _ => cases h2
          | _ => cases e
/-! ### sep.join(xs) -/
def strs' : List Dm → Option (List Str)
  | [] => some []
  | .str x :: ds => (strs' ds).map (x :: ·)
  | _ :: _ => none
theorem strs_of {g : Gm} {N : Av} {im : List Addr} {H : Hp} : ∀ {ds : List Dm} {vs : List V} {ys : List Str}, Reps g N im H vs ds → strs' ds = some ys → vs = ys.map V.str
  | _, _, bs, .nil, h => by
    cases h
    rfl
  | _, _, bs, .cons q rs, h => by
    cases q with
    | str x =>
      unfold strs' at h
      obtain ⟨cs, h1, h2⟩ := Option.map_eq_some_iff.mp h
      rw [← h2, strs_of rs h1]
      rfl
    | _ => cases h
def oJoin (a : Str) (d : Dm) (M : Mem) : R Dm := match sqOf M d with
  | some ds => match strs' ds with
    | some ys => if (ys.map (·.length)).sum + ys.length * a.length ≤ 16777216 then .ok (.str (Txt.join a ys)) M else .bad
    | none => .bad
  | none => .bad
def sJoin (fa fb : SE Dm) : SE Dm := fun r M => (fa r M).bind fun x M1 => match x with
  | .str a => (fb r M1).bind (oJoin a)
  | _ => .bad
def rJoin (K : PySem.W.Frag) : V → List V → Hp → VK → Prop := fun x xs H Q => ∃ a p, ∃ ys : List Str, x = .str a ∧ xs = [.ref p] ∧ (SqL K H p (ys.map V.str) ∨ SqT K H p (ys.map V.str)) ∧
  (ys.map (·.length)).sum + ys.length * a.length ≤ 16777216 ∧ Q (.str (Txt.join a ys)) H
theorem de_join {apos : Pos} (ha : DE X T W a fa) (hb : DE X T W b fb) (hs : starEach [b] X.env = [(false, eval b X.env)] := by rfl) (hbase : attributeBase a "join" X.env (eval a X.env) = eval a X.env := by rfl) (hline : (apos.endLine == pos.line) = true := by rfl) :
    DE X T W (.Call (.Attribute a "join" apos) [b] [] pos) (sJoin fa fb) := pe_le (pe_join ha hb hs hbase hline) fun σ H Q ⟨B, im, ow, r, M, S, P⟩ =>
  ⟨B, im, ow, r, M, S, Post.bind (rl' := rlV) P fun x M1 v im1 H1 _ S1 E1 p1 r1 P1 => by
    cases r1 with
    | str z =>
      refine ⟨⟨z, rfl⟩, B, im1, ow, r, M1, S1, Post.bind (rl' := rlV) P1 fun y M2 w im2 H2 _ S2 E2 p2 r2 P2 => ?_⟩
      have P' : Post rlV (gm X T) B W im2 ow r σ H2 (match sqOf M2 y with
        | some ds => match strs' ds with
          | some ys => if (ys.map (·.length)).sum + ys.length * z.length ≤ 16777216 then .ok (.str (Txt.join z ys)) M2 else .bad
          | none => .bad
        | none => .bad) Q := P2
      cases e : sqOf M2 y with
      | none =>
        rw [e] at P'
        exact P'.elim
      | some ds =>
        rw [e] at P'
        obtain ⟨p, xs, rfl, hs, rs⟩ := sq_of S2 r2 e
        cases e2 : strs' ds with
        | none =>
          simp only [e2] at P'
          exact P'.elim
        | some ys =>
          simp only [e2] at P'
          split at P'
          · rename_i hl
            rw [strs_of rs e2] at hs
            exact ⟨z, p, ys, rfl, rfl, hs, hl, P'.here S2 (.str _)⟩
          · exact P'.elim
    | _ => exact P1.elim⟩
/-! ### repr of data -/
theorem show_map {f : Dm → PyData} : ∀ {xs : List Dm}, (∀ x ∈ xs, (f x).showable = true) → PyData.showableAll (xs.map f) = true
  | [], _ => rfl
  | x :: xs, h => by
    show (PyData.showable (f x) && PyData.showableAll (xs.map f)) = true
    rw [h x (List.mem_cons_self ..), show_map fun y hy => h y (List.mem_cons_of_mem _ hy)]
    rfl
theorem noDict_map {f : Dm → PyData} : ∀ {xs : List Dm}, (∀ x ∈ xs, (f x).hasDict = false) → PyData.hasDictAll (xs.map f) = false
  | [], _ => rfl
  | x :: xs, h => by
    show (PyData.hasDict (f x) || PyData.hasDictAll (xs.map f)) = false
    rw [h x (List.mem_cons_self ..), noDict_map fun y hy => h y (List.mem_cons_of_mem _ hy)]
    rfl
theorem toP_noDict : ∀ (n : Nat) (d : Dm), (toP n d).hasDict = false := by
  intro n
  induction n with
  | zero =>
    intro d
    cases d <;> rfl
  | succ n ih =>
    intro d
    cases d with
    | tup xs => exact noDict_map fun x _ => ih x
    | lst xs => exact noDict_map fun x _ => ih x
    | _ => rfl
def oRepr : List Dm → Mem → R Dm
  | [d], M => if okN dep d = true ∧ (toP dep d).showable = true ∧ (toP dep d).shown.length ≤ sizeLine then .ok (.str (toP dep d).shown) M else .bad
  | _, _ => .bad
def rRepr (K : PySem.W.Frag) : List V → Hp → VK → Prop := fun xs H Q => ∃ x d, xs = [x] ∧ Dp K H x d ∧ d.showable = true ∧ d.hasDict = false ∧ d.depth ≤ 60 ∧ d.shown.length ≤ sizeLine ∧ Q (.str d.shown) H
theorem call_repr (hG : X.A.guards = some []) (hu : X.A.units + 64 < cLine) : CallR X (.builtin "repr") (rRepr X.K) := fun pins s σ H xs us Q I r w => by
  obtain ⟨x, d, rfl, hd, h1, h2, h3, h4, q⟩ := w
  obtain ⟨u, rfl, ru⟩ := vals1 r
  obtain ⟨as, rd⟩ := Dp.reads I d x u hd ru
  have fin : ∀ t, EP X pins σ Q (.str d.shown t) { s with toks := s.toks + 1 } := fun t => ⟨.str d.shown, H, I.tok _, ⟨_, rfl⟩, q⟩
  have big : ∀ a, u = .ref a → wpAny (model X.prog X.w) X.A (call (.builtin "repr") [u]) (EP X pins σ Q) X.xe s := fun a ea => by
    subst ea
    exact repr_of_reads' (h₀ := s.heap) rd h1 (PyData.noDict_hsm h2) hG (by omega) (fun _ _ e => e) (fun h' t tk hk => ⟨.str d.shown, H, I.kept (t' := tk) hk, ⟨_, rfl⟩, q⟩) h4
  cases hd with
  | non =>
    cases ru
    exact PySem.P.repr_of_none (fin _)
  | bl b =>
    cases ru
    exact PySem.P.repr_of_bool (fin _)
  | int i =>
    obtain ⟨t, rfl⟩ := ru
    exact PySem.P.repr_of_int (of_decide_eq_true h1) (fin _)
  | str y =>
    obtain ⟨t, rfl⟩ := ru
    exact PySem.P.repr_of_str (fin _) h4
  | lst => exact big _ ru
  | tup => exact big _ ru
theorem c_repr : SoundC X T W (rRepr X.K) oRepr := fun B im ow r M σ H xs vs Q S rs P => by
  cases rs with
  | nil => exact P.elim
  | @cons v d vs ds q rs =>
    cases rs with
    | cons _ _ => exact P.elim
    | nil =>
      unfold oRepr at P
      dsimp only at P
      split at P
      · rename_i h
        exact ⟨_, _, rfl, dp_of dep _ _ h.1 q, h.2.1, toP_noDict _ _, Nat.le_trans (toP_ok dep d h.1).2 (by decide), h.2.2, P.here S (.str _)⟩
      · exact P.elim
/-! ### what is walked -/
/-- J walks the items ds, whatever is done to what may be written -/
def Src (g : Gm) (N : Av) (im : List Addr) (H : Hp) (J : It) (ds : List Dm) : Prop := ∃ (G : Hp → Prop) (Y : Nat → Hp → V → Hp → Prop), Walk J ds.length G Y ∧ (∀ N2 H2, Ext N H N2 H2 → G H2) ∧
  ∀ (i : Nat) (N2 : Av) (im2 : List Addr) (H1 : Hp) (x : V) (H2 : Hp), i < ds.length → Ext N H N2 H1 → im <+: im2 → (∀ a, N2 a → H1 a ≠ none) → Y i H1 x H2 → (H2 = H1 ∨ ∃ p o, H1 p = none ∧ H2 = upd H1 p o) ∧ ∃ d, ds[i]? = some d ∧ Rep g N2 im2 H2 x d
abbrev DI (X : Cx) (T : Tb) (W : WX) (tg iter : Expr) (f : SE (List Dm)) : Prop := PI X tg iter (tG Src (gm X T) W f)
theorem pi_le {tg iter : Expr} {t u : TI} (h : PI X tg iter t) (i : ∀ σ H R, u σ H R → t σ H R) : PI X tg iter u := ⟨fun p s σ H R I w => h.run p s σ H R I (i σ H R w)⟩
theorem pi_or {tg iter : Expr} {t u : TI} (h : PI X tg iter t) (h' : PI X tg iter u) : PI X tg iter (fun σ H R => t σ H R ∨ u σ H R) := ⟨fun p s σ H R I w => w.elim (h.run p s σ H R I) (h'.run p s σ H R I)⟩
theorem pe_or2 {t u : TE} (h : PE X e t) (h' : PE X e u) : PE X e (fun σ H R => t σ H R ∨ u σ H R) := ⟨fun p s σ H R I w => w.elim (h.run p s σ H R I) (h'.run p s σ H R I)⟩
theorem src_of {g : Gm} {N : Av} {im : List Addr} {H : Hp} {a : Addr} {vs : List V} {ds : List Dm} (hs : (∀ N2 H2, Ext N H N2 H2 → SqL g.K H2 a vs)) (rs : Reps g N im H vs ds) : Src g N im H (Itl g.K a) ds :=
  ⟨_, _, by rw [← rs.length]; exact walk_list, hs, fun i N2 im2 H1 x H2 _ E p _ y => by
    obtain ⟨e, y⟩ := y
    subst e
    obtain ⟨d, h1, h2⟩ := (rs.mono E p).getV y
    exact ⟨.inl rfl, d, h1, h2⟩⟩
theorem src_tup {g : Gm} {N : Av} {im : List Addr} {H : Hp} {a : Addr} {vs : List V} {ds : List Dm} (hs : ST g.K N H a vs) (rs : Reps g N im H vs ds) : Src g N im H (Itt g.K a) ds :=
  ⟨_, _, by rw [← rs.length]; exact walk_tup, fun N2 H2 E => (hs.mono E).sq, fun i N2 im2 H1 x H2 _ E p _ y => by
    obtain ⟨e, y⟩ := y
    subst e
    obtain ⟨d, h1, h2⟩ := (rs.mono E p).getV y
    exact ⟨.inl rfl, d, h1, h2⟩⟩
/-- a list, a tuple or a text by value -/
def oItems : Dm → Mem → R (List Dm)
  | .lst ds, M => .ok ds M
  | .frl ds, M => .ok ds M
  | .tup ds, M => .ok ds M
  | .str z, M => .ok (z.cps.toList.map fun k => .str ⟨#[k]⟩) M
  | _, _ => .bad
def sItems (f : SE Dm) : SE (List Dm) := fun r M => (f r M).bind oItems
theorem di_seq {tg : Expr} {f : SE Dm} (h : DE X T W e f) : DI X T W tg e (sItems f) := pi_le (pi_or (pi_list h) (pi_or (pi_tup h) (pi_str h))) fun σ H R ⟨B, im, ow, r, M, S, P⟩ => by
  have P' : Post Src (gm X T) B W im ow r σ H ((f r M).bind oItems) R := P
  cases hf : f r M with
  | bad =>
    rw [hf] at P'
    exact P'.elim
  | ex C fs M1 =>
    rw [hf] at P'
    exact .inl ⟨B, im, ow, r, M, S, by rw [hf]; exact P'⟩
  | ok d M1 =>
    rw [hf] at P'
    cases d with
    | lst ds =>
      refine .inl ⟨B, im, ow, r, M, S, ?_⟩
      rw [hf]
      intro v im1 H1 S1 E1 p1 r1
      cases r1 with
      | @lst a vs _ h n rs => exact ⟨a, rfl, ⟨_, SqL.of h⟩, P' _ im1 H1 S1 E1 p1 (src_of (fun N2 H2 E => SqL.of (E a _ h (fun ps z => by cases z) n).1) rs)⟩
    | frl ds =>
      refine .inl ⟨B, im, ow, r, M, S, ?_⟩
      rw [hf]
      intro v im1 H1 S1 E1 p1 r1
      cases r1 with
      | @frl a vs _ h rs => exact ⟨a, rfl, ⟨_, h.sq⟩, P' _ im1 H1 S1 E1 p1 (src_of (fun N2 H2 E => (h.mono E).sq) rs)⟩
    | tup ds =>
      refine .inr (.inl ⟨B, im, ow, r, M, S, ?_⟩)
      rw [hf]
      intro v im1 H1 S1 E1 p1 r1
      cases r1 with
      | @tup a vs _ h rs => exact ⟨a, rfl, ⟨_, h.sq⟩, P' _ im1 H1 S1 E1 p1 (src_tup h rs)⟩
    | str z =>
      refine .inr (.inr ⟨B, im, ow, r, M, S, ?_⟩)
      rw [hf]
      intro v im1 H1 S1 E1 p1 r1
      cases r1 with
      | str =>
        refine ⟨z, rfl, P' _ im1 H1 S1 E1 p1 ⟨_, _, by rw [List.length_map, Array.length_toList]; exact walk_str, fun _ _ _ => trivial, fun i N2 im2 H2 x H3 _ E p _ y => ?_⟩⟩
        obtain ⟨e, k, hk, rfl⟩ := y
        subst e
        refine ⟨.inl rfl, .str ⟨#[k]⟩, ?_, .str _⟩
        rw [List.getElem?_map, Array.getElem?_toList, hk]
        rfl
    | _ => exact P'.elim
/-- range(n), range(a, b) -/
def rgD (a b : Int) : List Dm := (List.range (b - a).toNat).map fun i => .int (a + (i : Nat))
def small62 (i : Int) : Prop := -(2 ^ 62) ≤ i ∧ i < 2 ^ 62
instance : Decidable (small62 i) := by unfold small62; infer_instance
def oRng1 : Dm → Mem → R (List Dm)
  | .int j, M => if small62 j then .ok (rgD 0 j) M else .bad
  | _, _ => .bad
def oRng2 : Dm → Dm → Mem → R (List Dm)
  | .int i, .int j, M => if small62 i ∧ small62 j then .ok (rgD i j) M else .bad
  | _, _, _ => .bad
theorem src_rng {g : Gm} {N : Av} {im : List Addr} {H : Hp} (i j : Int) : Src g N im H (Itr i (j - i).toNat) (rgD i j) :=
  ⟨_, _, by
    have e : (rgD i j).length = (j - i).toNat := by simp [rgD]
    rw [e]
    exact walk_range, fun _ _ _ => trivial, fun k N2 im2 H1 x H2 hk0 E p _ y => by
    obtain ⟨e, rfl⟩ := y
    subst e
    refine ⟨.inl rfl, .int (i + (k : Nat)), ?_, .int _⟩
    have hk : k < (j - i).toNat := by simpa [rgD] using hk0
    unfold rgD
    rw [List.getElem?_map, List.getElem?_range hk]
    rfl⟩
def sRng1 (fa : SE Dm) : SE (List Dm) := fun r M => (fa r M).bind oRng1
def sRng2 (fa fb : SE Dm) : SE (List Dm) := fun r M => (fa r M).bind fun x M1 => (fb r M1).bind (oRng2 x)
theorem di_rng1 {tg : Expr} {p : Pos} (hg : Gl X "range") (hm : X.mg "range" = none) (ha : DE X T W a fa) (hs : starEach [a] X.env = [(false, eval a X.env)] := by rfl) : DI X T W tg (.Call (.Name "range" p) [a] [] pos) (sRng1 fa) :=
  pi_le (pi_range1 hg hm (pa_cons ha pa_nil hs) hs) fun σ H R ⟨B, im, ow, r, M, S, P⟩ => ⟨B, im, ow, r, M, S, Post.bind (rl' := Src) P fun d M1 v im1 H1 he S1 E1 p1 r1 P1 => by
    cases r1 with
    | int j =>
      have P' : Post Src (gm X T) B W im1 ow r σ H1 (if small62 j then .ok (rgD 0 j) M1 else .bad) R := P1
      split at P'
      · rename_i hj
        exact ⟨j, rfl, hj.1, hj.2, by have := P'.here S1 (src_rng 0 j); simpa using this⟩
      · exact P'.elim
    | _ => exact P1.elim⟩
theorem di_rng2 {tg : Expr} {p : Pos} (hg : Gl X "range") (hm : X.mg "range" = none) (ha : DE X T W a fa) (hb : DE X T W b fb) (hs : starEach [a, b] X.env = [(false, eval a X.env), (false, eval b X.env)] := by rfl) (hs2 : starEach [b] X.env = [(false, eval b X.env)] := by rfl) : DI X T W tg (.Call (.Name "range" p) [a, b] [] pos) (sRng2 fa fb) :=
  pi_le (pi_range2 hg hm (pa_cons ha (pa_cons hb pa_nil hs2) (by rw [hs, hs2])) hs hs2) fun σ H R ⟨B, im, ow, r, M, S, P⟩ => ⟨B, im, ow, r, M, S, Post.bind (rl' := Src) P fun d M1 v im1 H1 he S1 E1 p1 r1 P1 =>
    ⟨B, im1, ow, r, M1, S1, P1.bind fun d2 M2 v2 im2 H2 he2 S2 E2 p2 r2 P2 => by
      cases r2 with
      | int j =>
        cases r1 with
        | int i =>
          have P' : Post Src (gm X T) B W im2 ow r σ H2 (if small62 i ∧ small62 j then .ok (rgD i j) M2 else .bad) R := P2
          split at P'
          · rename_i hj
            exact ⟨i, j, rfl, ⟨hj.1.1, hj.1.2, hj.2.1, hj.2.2⟩, P'.here S2 (src_rng i j)⟩
          · exact P'.elim
        | _ => exact P2.elim
      | _ =>
        exfalso
        revert P2
        cases d <;> exact fun P => P.elim⟩⟩
/-- list(range(..)) -/
def oLstRg (ds : List Dm) (M : Mem) : R Dm := if ds.length ≤ 2 ^ 24 then .ok (.lst ds) M else .bad
theorem Reps.rg {g : Gm} {N : Av} {im : List Addr} {H : Hp} (i j : Int) : Reps g N im H (rgV i j) (rgD i j) := by
  unfold rgV rgD
  generalize List.range (j - i).toNat = l
  induction l with
  | nil => exact .nil
  | cons a l ih => exact .cons (.int _) ih
theorem de_lstRg1 {p p2 pos2 : Pos} (hc : X.calm = true) (hgl : Gl X "list") (hml : X.mg "list" = none) (hg : Gl X "range") (hm : X.mg "range" = none) (ha : DE X T W a fa)
    (na : starEach [a] X.env = (false, eval a X.env) :: starEach [] X.env := by rfl) (nl : starEach [.Call (.Name "range" p2) [a] [] pos2] X.env = (false, eval (.Call (.Name "range" p2) [a] [] pos2) X.env) :: starEach [] X.env := by rfl) :
    DE X T W (.Call (.Name "list" p) [.Call (.Name "range" p2) [a] [] pos2] [] pos) (fun r M => (sRng1 fa r M).bind oLstRg) :=
  pe_le (pe_listRg hc hgl hml (prg_1 hg hm ha na) nl) fun σ H Q ⟨B, im, ow, r, M, S, P⟩ => by
    have P' : Post rlV (gm X T) B W im ow r σ H ((fa r M).bind fun x M1 => (oRng1 x M1).bind oLstRg) Q := by
      rw [← R.bind_bind]
      exact P
    exact ⟨B, im, ow, r, M, S, P'.bind fun d M1 v im1 H1 he S1 E1 p1 r1 P1 => by
      cases r1 with
      | int j =>
        refine ⟨j, rfl, ?_⟩
        have P2 : Post rlV (gm X T) B W im1 ow r σ H1 ((if small62 j then .ok (rgD 0 j) M1 else .bad : R (List Dm)).bind oLstRg) Q := P1
        split at P2
        · rename_i hj
          have P3 : Post rlV (gm X T) B W im1 ow r σ H1 (if (rgD 0 j).length ≤ 2 ^ 24 then .ok (.lst (rgD 0 j)) M1 else .bad) Q := P2
          split at P3
          · rename_i hl
            have hl2 : (j - 0).toNat ≤ 2 ^ 24 := by simpa [rgD] using hl
            exact ⟨⟨by omega, by omega, hj.1, hj.2, hl2⟩, fun q hq => P3.new S1 hq (.lst upd_same (S1.fresh hq) (Reps.rg 0 j))⟩
          · exact P3.elim
        · exact P2.elim
      | _ => exact P1.elim⟩
end
end Dy

/-! Dy6: targets, statements, blocks, for loops. -/
namespace Dy
open PySem
open PySem.Spec
open L2

/-- not a table, nor a code object of one -/
def Plain (o : HO) : Prop := (∀ ps, o ≠ .tbl ps) ∧ ∀ c q, o ≠ LamX.CodeO c q
theorem plain_lst (xs : List V) : Plain (.lst xs) := ⟨fun ps e => (by cases e), fun c q e => (by unfold LamX.CodeO at e; cases e)⟩
theorem plain_dK (xs : List (Key × V)) : Plain (.dK xs) := ⟨fun ps e => (by cases e), fun c q e => (by unfold LamX.CodeO at e; cases e)⟩
theorem plain_ins (C dx : Addr) (xs : List (Str × V)) : Plain (.ins C dx xs) := ⟨fun ps e => (by cases e), fun c q e => (by unfold LamX.CodeO at e; cases e)⟩
theorem tabs_put {T : Tb} {H : Hp} {D : Addr} {o u : HO} (t : TabsC T H) (hD : H D = some u) (hu : Plain u) : TabsC T (upd H D o) := by
  refine ⟨fun p hp => ?_, fun p hp => by
    have e := t.2 p hp
    rw [upd_ne (fun z => hu.2 p.1 p.2 (by rw [z, hD] at e; rw [z]; exact Option.some.inj e))]
    exact e⟩
  obtain ⟨ps, h1, h2, h3⟩ := t.1 p hp
  have n1 : p.1 ≠ D := fun z => hu.1 ps (by rw [z, hD] at h1; exact Option.some.inj h1)
  refine ⟨ps, by rw [upd_ne n1]; exact h1, h2, fun pos cv hc => ?_⟩
  obtain ⟨c, e1, e2⟩ := h3 pos cv hc
  exact ⟨c, e1, by rw [upd_ne (fun z => hu.2 D p.2 (by rw [z, hD] at e2; exact Option.some.inj e2))]; exact e2⟩
theorem MoOk.plain {g : Gm} {N : Av} {im : List Addr} {H : Hp} {a : Addr} : ∀ {m : MO}, MoOk g N im H a m → ∃ o, H a = some o ∧ Plain o
  | .lst ds, ⟨xs, h, e⟩ => ⟨_, h, plain_lst _⟩
  | .dic ds, ⟨xs, h, e⟩ => ⟨_, h, plain_dK _⟩
  | .ins C ds, ⟨Ca, dx, xs, c, h, e⟩ => ⟨_, h, plain_ins _ _ _⟩

section
variable {g : Gm} {B : Bs} {im im' : List Addr} {ow ow' : Ow} {r r' : Sl} {M M' : Mem} {σ σ' : St} {H H' : Hp} {F : Av} {a p : Addr}
def owOff (ow : Ow) (i : Nat) : Ow := fun j => if j = i then none else ow j
def owOn (ow : Ow) (i : Nat) (a : Addr) : Ow := fun j => if j = i then some a else ow j
theorem wr_off {ow : Ow} {i : Nat} {x : Addr} (h : wr im (owOff ow i) x) : wr im ow x := by
  rcases h with h | ⟨j, h⟩
  · exact .inl h
  · unfold owOff at h
    split at h
    · cases h
    · exact .inr ⟨j, h⟩
theorem ns_less {F : Av} {ow ow' : Ow} (h : ∀ x, wr im ow' x → wr im ow x) : ∀ x, ns F im ow' x → ns F im ow x := fun x z => z.elim .inl fun z => .inr (h x z)
theorem Rep.less {N N' : Av} (h : ∀ x, N' x → N x) {v : V} {d : Dm} (q : Rep g N im H v d) : Rep g N' im H v d := q.mono (Ext.refl.less h) (List.prefix_refl _)
theorem MoOk.less {N N' : Av} (h : ∀ x, N' x → N x) {m : MO} (q : MoOk g N im H a m) : MoOk g N' im H a m := q.mono (Ext.refl.less h) (List.prefix_refl _) fun o e _ => e
/-- a slot gets a datum; what it owned is let go -/
theorem StRel.set (S : StRel g B im ow r M σ H) {i : Nat} {v : V} {d : Dm} (q : Rep g (ns B.F im ow) im H v d) (hi : i < r.length) : StRel g B im (owOff ow i) (r.set i (.val d)) M (σ.set i (some v)) H := by
  have le : ∀ x, ns B.F im (owOff ow i) x → ns B.F im ow x := ns_less fun x => wr_off
  refine ⟨by rw [List.length_set, List.length_set]; exact S.len, fun j s e => ?_, fun j hj => ?_, fun j k b h1 h2 => ?_, fun j b h => ?_, fun j b h => ?_, S.mlen, S.nd, fun j m e => ?_, S.imF, S.fr, S.ext.less fun x => wr_off, S.pre, S.tab, S.root⟩
  · by_cases hj : j = i
    · subst hj
      rw [List.getElem?_set_self hi] at e
      cases e
      refine ⟨by unfold owOff; rw [if_pos rfl], v, ?_, q.less le⟩
      rw [List.getElem?_set_self (by rw [S.len]; exact hi)]
    · rw [List.getElem?_set_ne (Ne.symm hj)] at e
      have h := S.sl j s e
      have eo : owOff ow i j = ow j := by unfold owOff; rw [if_neg hj]
      rw [eo, List.getElem?_set_ne (Ne.symm hj)]
      cases s with
      | un => exact h
      | pin => exact h
      | val d' =>
        obtain ⟨h1, y, h2, h3⟩ := h
        exact ⟨h1, y, h2, h3.less le⟩
      | own m =>
        obtain ⟨b, h1, h2, h3⟩ := h
        exact ⟨b, h1, h2, h3.less le⟩
  · unfold owOff
    split
    · rfl
    · exact S.out j (by rw [List.length_set] at hj; exact hj)
  · unfold owOff at h1 h2
    split at h1
    · cases h1
    · split at h2
      · cases h2
      · exact S.inj j k b h1 h2
  · unfold owOff at h
    split at h
    · cases h
    · exact S.sep j b h
  · unfold owOff at h
    split at h
    · cases h
    · exact S.tr j b h
  · obtain ⟨b, h1, h2⟩ := S.mem j m e
    exact ⟨b, h1, h2.less le⟩
theorem ns_plus {x : Addr} (h : ns B.F im ow x) : ns (B.plus p).F im ow x := h.elim (fun h => .inl (.inl h)) .inr
/-- less is forbidden -/
theorem StRel.minus (S : StRel g (B.plus p) im ow r M σ H) : StRel g B im ow r M σ H := by
  have le : ∀ x, ns B.F im ow x → ns (B.plus p).F im ow x := fun x => ns_plus
  refine ⟨S.len, fun j s e => ?_, S.out, S.inj, fun j b h => ⟨(S.sep j b h).1, fun z => (S.sep j b h).2 (.inl z)⟩, S.tr, S.mlen, S.nd, fun j m e => ?_, fun b hb z => S.imF b hb (.inl z), fun b hb => S.fr b (.inl hb), S.ext, S.pre, S.tab, S.root.less fun a => .inl⟩
  · have h := S.sl j s e
    cases s with
    | un => exact h
    | pin => exact h
    | val d' =>
      obtain ⟨h1, y, h2, h3⟩ := h
      exact ⟨h1, y, h2, h3.less le⟩
    | own m =>
      obtain ⟨b, h1, h2, h3⟩ := h
      exact ⟨b, h1, h2, h3.less le⟩
  · obtain ⟨b, h1, h2⟩ := S.mem j m e
    exact ⟨b, h1, h2.less le⟩
/-- a slot gets an object of its own -/
theorem StRel.setOwn (S : StRel g (B.plus p) im ow r M σ H) {i : Nat} {m : MO} (q : MoOk g (ns (B.plus p).F im ow) im H p m) (np : ¬ wr im ow p) (nF : ¬ B.F p) (hi : i < r.length) (hW : Ext B.W0 B.H0 (wr im (owOn ow i p)) H) :
    StRel g B im (owOn ow i p) (r.set i (.own m)) M (σ.set i (some (.ref p))) H := by
  have le : ∀ x, ns B.F im (owOn ow i p) x → ns (B.plus p).F im ow x := fun x h => by
    rcases h with h | h | ⟨j, h⟩
    · exact .inl (.inl h)
    · exact .inr (.inl h)
    · unfold owOn at h
      split at h
      · cases h
        exact .inl (.inr rfl)
      · exact .inr (.inr ⟨j, h⟩)
  refine ⟨by rw [List.length_set, List.length_set]; exact S.len, fun j s e => ?_, fun j hj => ?_, fun j k b h1 h2 => ?_, fun j b h => ?_, fun j b h => ?_, S.mlen, S.nd, fun j m e => ?_, fun b hb z => S.imF b hb (.inl z), fun b hb => S.fr b (.inl hb), hW, S.pre, S.tab, S.root.less fun a => .inl⟩
  · by_cases hj : j = i
    · subst hj
      rw [List.getElem?_set_self hi] at e
      cases e
      refine ⟨p, by unfold owOn; rw [if_pos rfl], ?_, q.less le⟩
      rw [List.getElem?_set_self (by rw [S.len]; exact hi)]
    · rw [List.getElem?_set_ne (Ne.symm hj)] at e
      have h := S.sl j s e
      have eo : owOn ow i p j = ow j := by unfold owOn; rw [if_neg hj]
      rw [eo, List.getElem?_set_ne (Ne.symm hj)]
      cases s with
      | un => exact h
      | pin => exact h
      | val d' =>
        obtain ⟨h1, y, h2, h3⟩ := h
        exact ⟨h1, y, h2, h3.less le⟩
      | own m =>
        obtain ⟨b, h1, h2, h3⟩ := h
        exact ⟨b, h1, h2, h3.less le⟩
  · rw [List.length_set] at hj
    unfold owOn
    rw [if_neg (by omega)]
    exact S.out j hj
  · unfold owOn at h1 h2
    split at h1
    · rename_i e1
      cases h1
      split at h2
      · rename_i e2
        rw [e1, e2]
      · exact absurd (.inr ⟨k, h2⟩) np
    · split at h2
      · cases h2
        exact absurd (.inr ⟨j, h1⟩) np
      · exact S.inj j k b h1 h2
  · unfold owOn at h
    split at h
    · cases h
      exact ⟨fun z => np (.inl z), nF⟩
    · exact ⟨(S.sep j b h).1, fun z => (S.sep j b h).2 (.inl z)⟩
  · unfold owOn at h
    split at h
    · cases h
      obtain ⟨o, e, t⟩ := q.plain
      exact ⟨o, e, t.1⟩
    · exact S.tr j b h
  · obtain ⟨b, h1, h2⟩ := S.mem j m e
    exact ⟨b, h1, h2.less le⟩
/-- another entry further in -/
theorem StRel.base {B1 : Bs} {im1 : List Addr} {ow1 : Ow} {r1 : Sl} {M1 : Mem} {σ1 : St} {H1 : Hp} (S0 : StRel g B im1 ow1 r1 M1 σ1 H1) (S : StRel g ⟨B.F, H1, wr im1 ow1, im1⟩ im ow r M σ H) : StRel g B im ow r M σ H :=
  ⟨S.len, S.sl, S.out, S.inj, S.sep, S.tr, S.mlen, S.nd, S.mem, S.imF, S.fr, S0.ext.trans S.ext, S0.pre.trans S.pre, S.tab, S0.root⟩
theorem StRel.here (S : StRel g B im ow r M σ H) : StRel g ⟨B.F, H, wr im ow, im⟩ im ow r M σ H :=
  ⟨S.len, S.sl, S.out, S.inj, S.sep, S.tr, S.mlen, S.nd, S.mem, S.imF, S.fr, Ext.refl, List.prefix_refl _, S.tab, S.root.now S.ext S.pre⟩
theorem StRel.basePlus {m : MO} {p : Addr} {im1 : List Addr} {ow1 : Ow} {r1 : Sl} {M1 : Mem} {σ1 : St} {H1 : Hp} (S0 : StRel g B im1 ow1 r1 M1 σ1 H1) (N : New g ⟨B.F, H1, wr im1 ow1, im1⟩ im ow r M σ H p m) (fr : Frh (wr im1 ow1) H1 p) : StRel g (B.plus p) im ow r M σ H :=
  ⟨N.st.len, N.st.sl, N.st.out, N.st.inj, N.st.sep, N.st.tr, N.st.mlen, N.st.nd, N.st.mem, N.st.imF, N.st.fr, S0.ext.trans N.st.ext, S0.pre.trans N.st.pre, N.st.tab, S0.root.plusN N.st.root⟩
theorem PostS.base {W : WX} {E : Ends} {q : RS} (S0 : StRel g B im ow r M σ H) (h : PostS g B W E q) : PostS g ⟨B.F, H, wr im ow, im⟩ W E q := by
  cases q with
  | nx r' M' => exact fun im' ow' σ' H' S => h im' ow' σ' H' (S0.base S (B1 := B))
  | bk r' M' => exact fun im' ow' σ' H' S => h im' ow' σ' H' (S0.base S (B1 := B))
  | ct r' M' => exact fun im' ow' σ' H' S => h im' ow' σ' H' (S0.base S (B1 := B))
  | rt d M' => exact fun v im' ow' r' σ' H' S k => h v im' ow' r' σ' H' (S0.base S (B1 := B)) k
  | rf m M' => exact fun p im' ow' r' σ' H' N fr => h p im' ow' r' σ' H' ⟨S0.basePlus N fr, N.nw, N.nF, N.ok⟩ (fun o e t => by
      by_cases hw : B.W0 p
      · exact hw
      · obtain ⟨e1, n1⟩ := S0.ext p o e t hw
        exact absurd (fr o e1 t) n1)
  | ex r' C fs M' => exact fun Ca dd xs im' ow' σ' H' S => h Ca dd xs im' ow' σ' H' (S0.base S (B1 := B))
  | bad => exact h
end

/-! ### targets -/
def tT (g : Gm) (f : Dm → Sl → Mem → RS) : TG := fun v σ H Q => ∃ B im ow r M d, StRel g B im ow r M σ H ∧ Rep g (ns B.F im ow) im H v d ∧ PostS g B (fun _ _ _ _ => False) { nx := Q, rt := fun _ _ => False } (f d r M)
def tTs (g : Gm) (f : List Dm → Sl → Mem → RS) : TGs := fun vs σ H Q => ∃ B im ow r M ds, StRel g B im ow r M σ H ∧ Reps g (ns B.F im ow) im H vs ds ∧ PostS g B (fun _ _ _ _ => False) { nx := Q, rt := fun _ _ => False } (f ds r M)
section
variable {X : Cx} {T : Tb} {W : WX} {a b c e : Expr} {fa fb fc : SE Dm} {pos : Pos}
abbrev DG (X : Cx) (T : Tb) (tg : Expr) (f : Dm → Sl → Mem → RS) : Prop := PG X tg (tT (gm X T) f)
abbrev DGs (X : Cx) (T : Tb) (tg : List Expr) (f : List Dm → Sl → Mem → RS) : Prop := PGs X tg (tTs (gm X T) f)
theorem pg_le {tg : Expr} {t u : TG} (h : PG X tg t) (i : ∀ v σ H Q, u v σ H Q → t v σ H Q) : PG X tg u := ⟨fun p s σ H v w Q I r k => h.run p s σ H v w Q I r (i v σ H Q k)⟩
theorem pgs_le {tg : List Expr} {t u : TGs} (h : PGs X tg t) (i : ∀ v σ H Q, u v σ H Q → t v σ H Q) : PGs X tg u := ⟨fun p s σ H v w Q I r k => h.run p s σ H v w Q I r (i v σ H Q k)⟩
def aName (i : Nat) : Dm → Sl → Mem → RS := fun d r M => if i < r.length then .nx (r.set i (.val d)) M else .bad
theorem dg_name {i : Nat} {x : Str} (hN : X.N.Nodup) (hi : X.N[i]? = some x) (hx : Loc X.env.scope x) (hf : X.fn x = true ∨ X.env.scope.names.lookup x = some .local := by first | exact .inl rfl | exact .inr rfl | assumption) : DG X T (.Name x pos) (aName i) :=
  pg_le (pg_name hN hi hx hf) fun v σ H Q ⟨B, im, ow, r, M, d, S, q, P⟩ => by
    unfold aName at P
    split at P
    · rename_i hl
      exact P im _ _ H (S.set q hl)
    · exact P.elim
def aNil : List Dm → Sl → Mem → RS
  | [], r, M => .nx r M
  | _, _, _ => .bad
def aCons (f : Dm → Sl → Mem → RS) (h : List Dm → Sl → Mem → RS) : List Dm → Sl → Mem → RS
  | d :: ds, r, M => (f d r M).seq (h ds)
  | [], _, _ => .bad
theorem dgs_nil : DGs X T [] aNil := pgs_le pgs_nil fun v σ H Q ⟨B, im, ow, r, M, ds, S, q, P⟩ => by
  cases q with
  | nil => exact ⟨rfl, P im ow σ H S⟩
  | cons _ _ => exact P.elim
/-- what a step of a target gives, then the next -/
theorem PostS.seq {g : Gm} {B : Bs} {W : WX} {E : Ends} {q : RS} {k : Sl → Mem → RS} {Q : St → Hp → Prop} (h : PostS g B W E (q.seq k)) (n : ∀ r M im ow σ H, q = .nx r M → StRel g B im ow r M σ H → PostS g B W E (k r M) → Q σ H) : PostS g B W { E with nx := Q } q := by
  cases q with
  | nx r M => exact fun im ow σ H S => n r M im ow σ H rfl S h
  | bk r M => exact h
  | ct r M => exact h
  | rt d M => exact h
  | rf m M => exact h
  | ex r C fs M => exact h
  | bad => exact h
end
section
variable {X : Cx} {T : Tb} {W : WX} {a b c e : Expr} {fa fb fc : SE Dm} {pos : Pos}
/-- one target, then the others; the items that are left stay as they are -/
theorem dgs_cons {es : List Expr} {i : Nat} {x : Str} {h : List Dm → Sl → Mem → RS} (hN : X.N.Nodup) (hi : X.N[i]? = some x) (hx : Loc X.env.scope x) (h2 : DGs X T es h) (hf : X.fn x = true ∨ X.env.scope.names.lookup x = some .local := by first | exact .inl rfl | exact .inr rfl | assumption)
    (hs : (assignEach (.Name x pos :: es) X.env).map (·.2) = assign (.Name x pos) X.env :: (assignEach es X.env).map (·.2) := by rfl) : DGs X T (.Name x pos :: es) (aCons (aName i) h) :=
  pgs_le (pgs_cons (pg_name hN hi hx hf) h2 hs) fun vs σ H Q ⟨B, im, ow, r, M, ds, S, q, P⟩ => by
    cases q with
    | nil => exact P.elim
    | @cons v d vs ds q qs =>
      refine ⟨v, vs, rfl, ?_⟩
      have P' : PostS (gm X T) B (fun _ _ _ _ => False) { nx := Q, rt := fun _ _ => False } ((aName i d r M).seq (h ds)) := P
      unfold aName at P'
      split at P'
      · rename_i hl
        have le : ∀ x, ns B.F im (owOff ow i) x → ns B.F im ow x := ns_less fun x => wr_off
        exact ⟨B, im, _, _, M, ds, S.set q hl, qs.mono (Ext.refl.less le) (List.prefix_refl _), P'⟩
      · exact P'.elim
def aTup (n : Nat) (f : List Dm → Sl → Mem → RS) : Dm → Sl → Mem → RS
  | .tup ds, r, M => if ds.length = n then f ds r M else .bad
  | _, _, _ => .bad
theorem dg_tup {es : List Expr} {k n : Nat} {f : List Dm → Sl → Mem → RS} (hc : X.calm = true) (h : DGs X T es f) (hn : (assignEach es X.env).length = n := by rfl) (hst : (assignEach es X.env).findIdx? (·.1) = none := by rfl) : DG X T (.Tuple es k pos) (aTup n f) :=
  pg_le (pg_tup hc h hn hst) fun v σ H Q ⟨B, im, ow, r, M, d, S, q, P⟩ => by
    cases q with
    | @tup a xs ds h1 rs =>
      have P' : PostS (gm X T) B (fun _ _ _ _ => False) { nx := Q, rt := fun _ _ => False } (if ds.length = n then f ds r M else .bad) := P
      split at P'
      · rename_i hl
        exact ⟨a, xs, rfl, h1.sq, by rw [rs.length]; exact hl, B, im, ow, r, M, ds, S, rs, P'⟩
      · exact P'.elim
    | _ => exact P.elim
/-! ### statements -/
def sAsg (f : SE Dm) (k : Dm → Sl → Mem → RS) : SS := fun r M => RS.of (f r M) r fun d M1 => k d r M1
/-- a target's step, where it only stores -/
def OnlyNx (k : Dm → Sl → Mem → RS) : Prop := ∀ d r M, (∃ r' M', k d r M = .nx r' M') ∨ k d r M = .bad
theorem asg_le {g : Gm} {f : SE Dm} {k : Dm → Sl → Mem → RS} (ok : OnlyNx k) {D : Ends} {σ : St} {H : Hp} (h : tS g W (sAsg f k) D σ H) : tAsg (tD g W f) (tT g k) D σ H := by
  obtain ⟨B, im, ow, r, M, S, P⟩ := h
  refine ⟨B, im, ow, r, M, S, PostS.of (rl := rlV) P fun d M1 v im1 H1 _ S1 E1 p1 r1 P1 => ⟨B, im1, ow, r, M1, d, S1, r1, ?_⟩⟩
  rcases ok d r M1 with ⟨r', M', e⟩ | e
  · rw [e] at P1 ⊢
    exact P1
  · rw [e] at P1
    exact P1.elim
theorem nx_name (i : Nat) : OnlyNx (aName i) := fun d r M => by
  unfold aName
  split
  · exact .inl ⟨_, _, rfl⟩
  · exact .inr rfl
def OnlyNxs (k : List Dm → Sl → Mem → RS) : Prop := ∀ d r M, (∃ r' M', k d r M = .nx r' M') ∨ k d r M = .bad
theorem nxs_nil : OnlyNxs aNil := fun d r M => by
  cases d with
  | nil => exact .inl ⟨_, _, rfl⟩
  | cons _ _ => exact .inr rfl
theorem nxs_cons {f : Dm → Sl → Mem → RS} {h : List Dm → Sl → Mem → RS} (h1 : OnlyNx f) (h2 : OnlyNxs h) : OnlyNxs (aCons f h) := fun d r M => by
  cases d with
  | nil => exact .inr rfl
  | cons d ds =>
    show (∃ r' M', (f d r M).seq (h ds) = .nx r' M') ∨ (f d r M).seq (h ds) = .bad
    rcases h1 d r M with ⟨r', M', e⟩ | e
    · rw [e]
      exact h2 ds r' M'
    · rw [e]
      exact .inr rfl
theorem nx_tup {n : Nat} {f : List Dm → Sl → Mem → RS} (h : OnlyNxs f) : OnlyNx (aTup n f) := fun d r M => by
  cases d with
  | tup ds =>
    show (∃ r' M', (if ds.length = n then f ds r M else .bad) = .nx r' M') ∨ (if ds.length = n then f ds r M else .bad) = .bad
    split
    · exact h ds r M
    · exact .inr rfl
  | _ => exact .inr rfl
theorem ds_set {i : Nat} {x : Str} {f : SE Dm} {pos' : Pos} (hN : X.N.Nodup) (hi : X.N[i]? = some x) (hx : Loc X.env.scope x) (he : DE X T W e f) (hs : swapsWith e (some (.Name x pos')) pos.line X.env = pure false := by rfl) (hf : X.fn x = true ∨ X.env.scope.names.lookup x = some .local := by first | exact .inl rfl | exact .inr rfl | assumption) :
    DS X T W (.Assign [.Name x pos'] e pos) (sAsg f (aName i)) := ps_le (ps_set hN hi hx he hs hf) fun σ H D ⟨B, im, ow, r, M, S, P⟩ =>
  ⟨B, im, ow, r, M, S, PostS.of (rl := rlV) P fun d M1 v im1 H1 _ S1 E1 p1 r1 P1 => by
    unfold aName at P1
    split at P1
    · rename_i hl
      exact P1 im1 _ _ H1 (S1.set r1 hl)
    · exact P1.elim⟩
theorem ds_asg {tg : Expr} {f : SE Dm} {k : Dm → Sl → Mem → RS} (ok : OnlyNx k) (he : DE X T W e f) (hg : DG X T tg k) (hs : swapsWithSole [tg] e pos.line X.env = pure false := by rfl) (hw : swappedStores [tg] e X.env = pure none := by rfl)
    (h1 : (assignEach [tg] X.env).map (·.2) = [assign tg X.env] := by rfl) : DS X T W (.Assign [tg] e pos) (sAsg f k) := ps_le (ps_asg he hg hs hw h1) fun σ H D h => asg_le ok h
/-- a, b = x, y -/
def sPar (i j : Nat) (fa fb : SE Dm) : SS := fun r M => RS.of (fa r M) r fun x M1 => RS.of (fb r M1) r fun y M2 => if i < r.length ∧ j < r.length then .nx ((r.set i (.val x)).set j (.val y)) M2 else .bad
theorem ds_par {i j : Nat} {x y : Str} {px py pt : Pos} {kt k2 pt2} (hc : X.calm = true) (hN : X.N.Nodup) (hi : X.N[i]? = some x) (hj : X.N[j]? = some y) (hij : i ≠ j)
    (hx : X.env.scope.names.lookup x = some .local) (hy : X.env.scope.names.lookup y = some .local) (ha : DE X T W a fa) (hb : DE X T W b fb)
    (hw : swappedStores [.Tuple [.Name x px, .Name y py] kt pt] (.Tuple [a, b] k2 pt2) X.env = pure (some [x, y]))
    (h1 : starEach [a, b] X.env = (false, eval a X.env) :: starEach [b] X.env := by rfl) (h2 : starEach [b] X.env = (false, eval b X.env) :: starEach [] X.env := by rfl)
    (hs : swapsWithSole [.Tuple [.Name x px, .Name y py] kt pt] (.Tuple [a, b] k2 pt2) pos.line X.env = pure false := by rfl) :
    DS X T W (.Assign [.Tuple [.Name x px, .Name y py] kt pt] (.Tuple [a, b] k2 pt2) pos) (sPar i j fa fb) :=
  ps_le (ps_par hc hN hi hj hij hx hy (pa_cons ha (pa_cons hb pa_nil h2) h1) hw hs) fun σ H D ⟨B, im, ow, r, M, S, P⟩ => by
    refine ⟨B, im, ow, r, M, S, PostS.of (rl := rlV) P fun d M1 v im1 H1 _ S1 E1 p1 r1 P1 => ⟨B, im1, ow, r, M1, S1, PostS.of (rl := rlV) P1 fun d2 M2 v2 im2 H2 _ S2 E2 p2 r2 P2 => ⟨v, v2, rfl, ?_⟩⟩⟩
    split at P2
    · rename_i hl
      have le : ∀ x, ns B.F im2 (owOff ow i) x → ns B.F im2 ow x := ns_less fun x => wr_off
      exact P2 im2 _ _ H2 ((S2.set (r1.mono E2.ns p2) hl.1).set (r2.less le) (by rw [List.length_set]; exact hl.2))
    · exact P2.elim
def sDo (f : SE Dm) : SS := fun r M => RS.of (f r M) r fun _ M1 => .nx r M1
theorem ds_expr {f : SE Dm} (he : DE X T W e f) (hs : swapsWith e none pos.line X.env = pure false := by rfl) : DS X T W (.Expr e pos) (sDo f) := ps_le (ps_expr he hs) fun σ H D ⟨B, im, ow, r, M, S, P⟩ =>
  ⟨B, im, ow, r, M, S, PostS.of (rl := rlV) P fun d M1 v im1 H1 _ S1 E1 p1 r1 P1 => P1 im1 ow σ H1 S1⟩
def sRet (f : SE Dm) : SS := fun r M => RS.of (f r M) r fun d M1 => .rt d M1
theorem ds_ret {f : SE Dm} (he : DE X T W e f) : DS X T W (.Return (some e) pos) (sRet f) := ps_le (ps_ret he) fun σ H D ⟨B, im, ow, r, M, S, P⟩ =>
  ⟨B, im, ow, r, M, S, PostS.of (rl := rlV) P fun d M1 v im1 H1 _ S1 E1 p1 r1 P1 => P1 v im1 ow r σ H1 S1 r1⟩
def sRetN : SS := fun _ M => .rt .non M
theorem ds_retN : DS X T W (.Return none pos) sRetN := ps_le ps_retN fun σ H D ⟨B, im, ow, r, M, S, P⟩ => P .non im ow r σ H S .non
def sSkip : SS := fun r M => .nx r M
theorem ds_pass : DS X T W (.Pass pos) sSkip := ps_le ps_pass fun σ H D ⟨B, im, ow, r, M, S, P⟩ => P im ow σ H S
theorem ds_break : DS X T W (.Break pos) (fun r M => .bk r M) := ps_le ps_break fun σ H D ⟨B, im, ow, r, M, S, P⟩ => P im ow σ H S
theorem ds_cont : DS X T W (.Continue pos) (fun r M => .ct r M) := ps_le ps_continue fun σ H D ⟨B, im, ow, r, M, S, P⟩ => P im ow σ H S
def sNever : SS := fun _ _ => .bad
theorem ds_never {st : Stmt} : DS X T W st sNever := ps_le ps_never fun σ H D ⟨B, im, ow, r, M, S, P⟩ => P
def sIte (t : SE Bool) (f h : SS) : SS := fun r M => RS.of (t r M) r fun b M1 => if b = true then f r M1 else h r M1
theorem ds_if {t : SE Bool} {f h : SS} {sa sb : List Stmt} (ht : DT X T W c t) (h1 : DB X T W sa f) (h2 : DB X T W sb h) : DS X T W (.If c sa sb pos) (sIte t f h) := ps_le (ps_if ht h1 h2) fun σ H D ⟨B, im, ow, r, M, S, P⟩ =>
  ⟨B, im, ow, r, M, S, PostS.of (rl := rlB) P fun d M1 v im1 H1 _ S1 E1 p1 r1 P1 => by
    cases r1
    cases d with
    | true => exact ⟨B, im1, ow, r, M1, S1, P1⟩
    | false => exact ⟨B, im1, ow, r, M1, S1, P1⟩⟩
theorem db_nil : DB X T W [] sSkip := pss_le pss_nil fun σ H D ⟨B, im, ow, r, M, S, P⟩ => P im ow σ H S
theorem db_one {st : Stmt} {f : SS} (h : DS X T W st f) : DB X T W [st] f := pss_one h
def sSeq (f h : SS) : SS := fun r M => (f r M).seq h
theorem db_cons {st : Stmt} {rest : List Stmt} {f h : SS} (h1 : DS X T W st f) (h2 : DB X T W rest h) : DB X T W (st :: rest) (sSeq f h) := pss_le (pss_cons h1 h2) fun σ H D ⟨B, im, ow, r, M, S, P⟩ =>
  ⟨B, im, ow, r, M, S, PostS.seq P fun r' M' im' ow' σ' H' _ S' P' => ⟨B, im', ow', r', M', S', P'⟩⟩
/-! ### for -/
def forGo (k : Dm → Sl → Mem → RS) (body : SS) : List Dm → Sl → Mem → RS
  | [], r, M => .nx r M
  | d :: ds, r, M => match (k d r M).seq body with
    | .nx r1 M1 => forGo k body ds r1 M1
    | .ct r1 M1 => forGo k body ds r1 M1
    | .bk r1 M1 => .nx r1 M1
    | q => q
def sFor (it : SE (List Dm)) (k : Dm → Sl → Mem → RS) (body : SS) : SS := fun r M => RS.of (it r M) r fun ds M1 => forGo k body ds r M1
theorem ds_for {tg iter : Expr} {body : List Stmt} {it : SE (List Dm)} {k : Dm → Sl → Mem → RS} {f : SS} (ok : OnlyNx k) (hp : PassesOwn (model X.prog X.w) X.A X.env X.xe) (hc : X.calm = true) (hi : DI X T W tg iter it) (hg : DG X T tg k) (hb : DB X T W body f)
    (hs : ∀ x, foldedSetIterable iter X.env x = pure x := by intro _; rfl) : DS X T W (.For tg iter body [] pos) (sFor it k f) := ps_le (ps_for hp hc hi hg hb hs) fun σ H D ⟨B, im, ow, r, M, S, P⟩ => by
  refine ⟨B, im, ow, r, M, S, PostS.of (rl := Src) P fun ds M1 J im1 H1 _ S1 E1 p1 src P1 => ?_⟩
  obtain ⟨G, Y, walk, hG, hY⟩ := src
  have P2 := P1.base S1
  refine for_it walk (fun i σ2 H2 => ∃ im2 ow2 r2 M2, StRel (gm X T) ⟨B.F, H1, wr im1 ow, im1⟩ im2 ow2 r2 M2 σ2 H2 ∧ PostS (gm X T) ⟨B.F, H1, wr im1 ow, im1⟩ W D (forGo k f (ds.drop i) r2 M2)) ⟨im1, ow, r, M1, S1.here, P2⟩ (fun i σ2 H2 hi ⟨im2, ow2, r2, M2, S2, _⟩ => hG (ns B.F im2 ow2) H2 S2.ext.ns) ?_ ?_
  · rintro i x σ2 H2 H3 hi ⟨im2, ow2, r2, M2, S2, P3⟩ hy
    obtain ⟨hh, d, hd, rd⟩ := hY i (ns B.F im2 ow2) im2 H2 x H3 hi S2.ext.ns S2.pre (fun a hn e => S2.fresh e hn) hy
    have S3 : StRel (gm X T) ⟨B.F, H1, wr im1 ow, im1⟩ im2 ow2 r2 M2 σ2 H3 := by
      rcases hh with rfl | ⟨p, o, hp, rfl⟩
      · exact S2
      · exact S2.new hp o
    have ed : ds.drop i = d :: ds.drop (i + 1) := by
      have hlt := (List.getElem?_eq_some_iff.mp hd)
      obtain ⟨h1, h2⟩ := hlt
      rw [List.drop_eq_getElem_cons h1, h2]
    rw [ed] at P3
    have P4 : PostS (gm X T) ⟨B.F, H1, wr im1 ow, im1⟩ W D (match (k d r2 M2).seq f with
      | .nx r1 M1 => forGo k f (ds.drop (i + 1)) r1 M1
      | .ct r1 M1 => forGo k f (ds.drop (i + 1)) r1 M1
      | .bk r1 M1 => .nx r1 M1
      | q => q) := P3
    refine ⟨_, im2, ow2, r2, M2, d, S3, rd, ?_⟩
    rcases ok d r2 M2 with ⟨r5, M5, e5⟩ | e5
    · rw [e5] at P4 ⊢
      intro im6 ow6 σ6 H6 S6
      refine ⟨_, im6, ow6, r5, M5, S6, ?_⟩
      have P5 : PostS (gm X T) ⟨B.F, H1, wr im1 ow, im1⟩ W D (match f r5 M5 with
        | .nx r1 M1 => forGo k f (ds.drop (i + 1)) r1 M1
        | .ct r1 M1 => forGo k f (ds.drop (i + 1)) r1 M1
        | .bk r1 M1 => .nx r1 M1
        | q => q) := P4
      cases hf : f r5 M5 with
      | nx r7 M7 =>
        rw [hf] at P5
        exact fun im8 ow8 σ8 H8 S8 => ⟨im8, ow8, r7, M7, S8, P5⟩
      | ct r7 M7 =>
        rw [hf] at P5
        exact fun im8 ow8 σ8 H8 S8 => ⟨im8, ow8, r7, M7, S8, P5⟩
      | bk r7 M7 =>
        rw [hf] at P5
        exact P5
      | rt d7 M7 =>
        rw [hf] at P5
        exact P5
      | rf m7 M7 =>
        rw [hf] at P5
        exact P5
      | ex r7 C7 fs7 M7 =>
        rw [hf] at P5
        exact P5
      | bad =>
        rw [hf] at P5
        exact P5
    · rw [e5] at P4
      exact P4.elim
  · rintro σ2 H2 ⟨im2, ow2, r2, M2, S2, P3⟩
    rw [List.drop_length] at P3
    exact P3 im2 ow2 σ2 H2 S2
end
end Dy

/-! Dy7: new objects, objects that are changed, comprehensions. -/
namespace Dy
open PySem
open PySem.Spec
open L2

section
variable {g : Gm} {B : Bs} {im im' : List Addr} {ow ow' : Ow} {r r' : Sl} {M M' : Mem} {σ σ' : St} {H H' : Hp} {F : Av} {a p : Addr}
/-- all is said with p forbidden besides -/
theorem StRel.newPlus (S : StRel g B im ow r M σ H) (hp : H p = none) {o : HO} (ho : ∀ ps, o ≠ .tbl ps) : StRel g (B.plus p) im ow r M σ (upd H p o) := by
  have S' := S.new hp o
  have x : Ext (ns B.F im ow) H (ns (B.plus p).F im ow) (upd H p o) := fun b u e t n => ⟨by rw [upd_ne (ne_of_none e hp)]; exact e, fun z => by
    rcases z with (z | z) | z
    · exact n (.inl z)
    · exact ne_of_none e hp z
    · exact n (.inr z)⟩
  refine ⟨S'.len, fun j s e => ?_, S'.out, S'.inj, fun j b h => ⟨(S'.sep j b h).1, fun z => z.elim (S'.sep j b h).2 fun z => ?_⟩, S'.tr, S'.mlen, S'.nd, fun j m e => ?_, fun b hb z => z.elim (S'.imF b hb) fun z => ?_, fun b hb => ?_, S'.ext, S'.pre, S'.tab, S.root.plus S.ext hp⟩
  · have h := S.sl j s e
    cases s with
    | un => exact h
    | pin => exact h
    | val d' =>
      obtain ⟨h1, y, h2, h3⟩ := h
      exact ⟨h1, y, h2, h3.mono x (List.prefix_refl _)⟩
    | own m =>
      obtain ⟨b, h1, h2, h3⟩ := h
      exact ⟨b, h1, h2, h3.mono x (List.prefix_refl _) fun u e _ => by rw [upd_ne (ne_of_none e hp)]; exact e⟩
  · obtain ⟨u, e, _⟩ := S.tr j b h
    exact ne_of_none e hp z
  · obtain ⟨b, h1, h2⟩ := S.mem j m e
    exact ⟨b, h1, h2.mono x (List.prefix_refl _) fun u e _ => by rw [upd_ne (ne_of_none e hp)]; exact e⟩
  · obtain ⟨i, m, h1, h2, h3⟩ := S.in_im hb
    obtain ⟨u, e, _⟩ := h3.there
    exact ne_of_none e hp z
  · rcases hb with hb | hb
    · exact S'.fr b hb
    · rw [hb]
      exact ⟨o, upd_same, ho⟩
theorem StRel.frh (S : StRel g B im ow r M σ H) (hp : H p = none) : Frh (wr im ow) H p := fun o e _ => by
  rw [hp] at e
  cases e
theorem New.of_new {m : MO} (S : StRel g B im ow r M σ H) (hp : H p = none) {o : HO} (ho : ∀ ps, o ≠ .tbl ps) (k : MoOk g (ns (B.plus p).F im ow) im (upd H p o) p m) : New g B im ow r M σ (upd H p o) p m :=
  ⟨S.newPlus hp ho, fun z => S.fresh hp (.inr z), fun z => S.fresh hp (.inl z), k⟩
theorem Ext.plus {u : HO} (hp : H p = none) : Ext (Dy.ns B.F im ow) H (Dy.ns (B.plus p).F im ow) (upd H p u) := fun b u e t n => ⟨by rw [upd_ne (ne_of_none e hp)]; exact e, fun z => by
  rcases z with (z | z) | z
  · exact n (.inl z)
  · exact ne_of_none e hp z
  · exact n (.inr z)⟩
/-- a caller's own thing, or what a loop builds, is changed -/
theorem StRel.pokeF (S : StRel g B im ow r M σ H) (hF : B.F p) (hW : Frh B.W0 B.H0 p) {u o : HO} (hp : H p = some u) (hu : Plain u) (ho : ∀ ps, o ≠ .tbl ps) : StRel g B im ow r M σ (upd H p o) := by
  have x : Ext (ns B.F im ow) H (ns B.F im ow) (upd H p o) := Ext.put (.inl hF)
  refine ⟨S.len, fun j s e => ?_, S.out, S.inj, S.sep, fun j b h => ?_, S.mlen, S.nd, fun j m e => ?_, S.imF, fun b hb => ?_, fun b v e t n => ?_, S.pre, tabs_put S.tab hp hu, S.root⟩
  · have h := S.sl j s e
    cases s with
    | un => exact h
    | pin => exact h
    | val d' =>
      obtain ⟨h1, y, h2, h3⟩ := h
      exact ⟨h1, y, h2, h3.mono x (List.prefix_refl _)⟩
    | own m =>
      obtain ⟨b, h1, h2, h3⟩ := h
      exact ⟨b, h1, h2, h3.mono x (List.prefix_refl _) fun v e _ => by rw [upd_ne (fun z => (S.sep j b h1).2 (by rw [z]; exact hF))]; exact e⟩
  · obtain ⟨v, e, t⟩ := S.tr j b h
    exact ⟨v, by rw [upd_ne (fun z => (S.sep j b h).2 (by rw [z]; exact hF))]; exact e, t⟩
  · obtain ⟨b, h1, h2⟩ := S.mem j m e
    exact ⟨b, h1, h2.mono x (List.prefix_refl _) fun v e _ => by rw [upd_ne (fun z => S.imF b (List.mem_of_getElem? h1) (by rw [z]; exact hF))]; exact e⟩
  · by_cases hb2 : b = p
    · rw [hb2]
      exact ⟨o, upd_same, ho⟩
    · rw [upd_ne hb2]
      exact S.fr b hb
  · obtain ⟨h1, h2⟩ := S.ext b v e t n
    exact ⟨by rw [upd_ne (fun z => n (by rw [z]; exact hW v (by rw [← z]; exact e) t))]; exact h1, h2⟩
/-- an object of a slot's own is changed -/
theorem StRel.setAt (S : StRel g B im ow r M σ H) {i : Nat} {m m' : MO} (hi : r[i]? = some (.own m)) (ha : ow i = some a) {o : HO} (ho : ∀ ps, o ≠ .tbl ps) (hm : MoOk g (ns B.F im ow) im (upd H a o) a m') : StRel g B im ow (r.set i (.own m')) M σ (upd H a o) := by
  have wa : wr im ow a := .inr ⟨i, ha⟩
  have x : Ext (ns B.F im ow) H (ns B.F im ow) (upd H a o) := Ext.put (.inr wa)
  have hil : i < r.length := (List.getElem?_eq_some_iff.mp hi).1
  obtain ⟨a', e1, e2, e3⟩ := S.sl i _ hi
  have ea : a' = a := by
    rw [ha] at e1
    exact (Option.some.inj e1).symm
  subst ea
  obtain ⟨u, hu, pu⟩ := e3.plain
  refine ⟨by rw [List.length_set]; exact S.len, fun j s e => ?_, fun j hj => S.out j (by rw [List.length_set] at hj; exact hj), S.inj, S.sep, fun j b h => ?_, S.mlen, S.nd, fun j m e => ?_, S.imF, fun b hb => ?_, S.ext.trans (Ext.put wa), S.pre, tabs_put S.tab hu pu, S.root⟩
  · by_cases hj : j = i
    · subst hj
      rw [List.getElem?_set_self hil] at e
      cases e
      exact ⟨a', ha, e2, hm⟩
    · rw [List.getElem?_set_ne (Ne.symm hj)] at e
      have h := S.sl j s e
      cases s with
      | un => exact h
      | pin => exact h
      | val d' =>
        obtain ⟨h1, y, h2, h3⟩ := h
        exact ⟨h1, y, h2, h3.mono x (List.prefix_refl _)⟩
      | own m =>
        obtain ⟨b, h1, h2, h3⟩ := h
        exact ⟨b, h1, h2, h3.mono x (List.prefix_refl _) fun v e _ => by rw [upd_ne (fun z => hj (S.inj j i a' (by rw [← z]; exact h1) ha))]; exact e⟩
  · by_cases hb : b = a'
    · rw [hb]
      exact ⟨o, upd_same, ho⟩
    · rw [upd_ne hb]
      exact S.tr j b h
  · obtain ⟨b, h1, h2⟩ := S.mem j m e
    exact ⟨b, h1, h2.mono x (List.prefix_refl _) fun v e _ => by rw [upd_ne (fun z => (S.sep i a' ha).1 (by rw [← z]; exact List.mem_of_getElem? h1))]; exact e⟩
  · rw [upd_ne (fun z => (S.sep i a' ha).2 (by rw [← z]; exact hb))]
    exact S.fr b hb
/-- an object of the memory is changed -/
theorem StRel.memAt (S : StRel g B im ow r M σ H) {k : Nat} {m m' : MO} (hk : M[k]? = some m) (ha : im[k]? = some a) {o : HO} (ho : ∀ ps, o ≠ .tbl ps) (hm : MoOk g (ns B.F im ow) im (upd H a o) a m') : StRel g B im ow r (M.set k m') σ (upd H a o) := by
  have ia : a ∈ im := List.mem_of_getElem? ha
  have wa : wr im ow a := .inl ia
  have x : Ext (ns B.F im ow) H (ns B.F im ow) (upd H a o) := Ext.put (.inr wa)
  have hkl : k < M.length := (List.getElem?_eq_some_iff.mp hk).1
  obtain ⟨a', e1, e3⟩ := S.mem k _ hk
  have ea : a' = a := by
    rw [ha] at e1
    exact (Option.some.inj e1).symm
  subst ea
  obtain ⟨u, hu, pu⟩ := e3.plain
  refine ⟨S.len, fun j s e => ?_, S.out, S.inj, S.sep, fun j b h => ?_, by rw [List.length_set]; exact S.mlen, S.nd, fun j m e => ?_, S.imF, fun b hb => ?_, S.ext.trans (Ext.put wa), S.pre, tabs_put S.tab hu pu, S.root⟩
  · have h := S.sl j s e
    cases s with
    | un => exact h
    | pin => exact h
    | val d' =>
      obtain ⟨h1, y, h2, h3⟩ := h
      exact ⟨h1, y, h2, h3.mono x (List.prefix_refl _)⟩
    | own m =>
      obtain ⟨b, h1, h2, h3⟩ := h
      exact ⟨b, h1, h2, h3.mono x (List.prefix_refl _) fun v e _ => by rw [upd_ne (fun z => (S.sep j b h1).1 (by rw [z]; exact ia))]; exact e⟩
  · rw [upd_ne (fun z => (S.sep j b h).1 (by rw [z]; exact ia))]
    exact S.tr j b h
  · by_cases hj : j = k
    · subst hj
      rw [List.getElem?_set_self hkl] at e
      cases e
      exact ⟨a', ha, hm⟩
    · rw [List.getElem?_set_ne (Ne.symm hj)] at e
      obtain ⟨b, h1, h2⟩ := S.mem j m e
      refine ⟨b, h1, h2.mono x (List.prefix_refl _) fun v e _ => ?_⟩
      rw [upd_ne (fun z => hj ?_)]
      · exact e
      · rw [z] at h1
        have l1 := (List.getElem?_eq_some_iff.mp h1)
        have l2 := (List.getElem?_eq_some_iff.mp ha)
        obtain ⟨j1, j2⟩ := l1
        obtain ⟨k1, k2⟩ := l2
        exact (List.getElem_inj S.nd).mp (j2.trans k2.symm)
  · rw [upd_ne (fun z => S.imF a' ia (by rw [← z]; exact hb))]
    exact S.fr b hb
end

def moV : MO → Dm
  | .lst ds => .lst ds
  | .dic ds => .dic ds
  | .ins C fs => .obj C fs
theorem MoOk.rep {g : Gm} {N : Av} {im : List Addr} {H : Hp} {a : Addr} (n : ¬ N a) : ∀ {m : MO}, MoOk g N im H a m → Rep g N im H (.ref a) (moV m)
  | .lst ds, ⟨xs, h, e⟩ => .lst h n e
  | .dic ds, ⟨xs, h, e⟩ => .dic h n e
  | .ins C ds, ⟨Ca, dx, xs, c, h, e⟩ => .obj c h n e
section
variable {X : Cx} {T : Tb} {W : WX} {a b c e : Expr} {fa fb fc : SE Dm} {pos : Pos}
theorem New.val {g : Gm} {B : Bs} {im : List Addr} {ow : Ow} {r : Sl} {M : Mem} {σ : St} {H : Hp} {p : Addr} {m : MO} (N : New g B im ow r M σ H p m) : Rep g (ns B.F im ow) im H (.ref p) (moV m) :=
  (N.ok.less fun x => ns_plus).rep fun z => z.elim N.nF N.nw
def sVal (f : SE MO) : SE Dm := fun r M => (f r M).bind fun m M1 => .ok (moV m) M1
/-- a new object as a datum: it isn't changed any more -/
theorem de_new {f : SE MO} (h : DF X T W e f) : DE X T W e (sVal f) := pe_le h fun σ H Q ⟨B, im, ow, r, M, S, P⟩ => ⟨B, im, ow, r, M, S, by
  have P' : Post rlV (gm X T) B W im ow r σ H ((f r M).bind fun m M1 => .ok (moV m) M1) Q := P
  cases hf : f r M with
  | ok m M1 =>
    rw [hf] at P'
    exact fun p im' H' N E1 p1 _ => P' (.ref p) im' H' N.st.minus E1 p1 N.val
  | ex C fs M1 =>
    rw [hf] at P'
    exact P'
  | bad =>
    rw [hf] at P'
    exact P'⟩
def fLst (h : SE (List Dm)) : SE MO := fun r M => (h r M).bind fun ds M1 => if ds.length ≤ sizeLine then .ok (.lst ds) M1 else .bad
theorem PostF.bind {α β : Type} {rl : Rl β α} {g : Gm} {B : Bs} {im : List Addr} {ow : Ow} {r : Sl} {σ : St} {H : Hp} {q : R α} {k : α → Mem → R MO} {Q : VK} {Q1 : β → Hp → Prop} (h : PostF g B W im ow r σ H (q.bind k) Q)
    (n : ∀ a M1 x im1 H1, q = .ok a M1 → StRel g B im1 ow r M1 σ H1 → Ext (wr im ow) H (wr im1 ow) H1 → im <+: im1 → rl g (ns B.F im1 ow) im1 H1 x a → PostF g B W im1 ow r σ H1 (k a M1) Q → Q1 x H1) : Post rl g B W im ow r σ H q Q1 := by
  cases q with
  | ok a M' =>
    refine fun v im' H' S e p' rr => n a M' v im' H' rfl S e p' rr ?_
    have h' : PostF g B W im ow r σ H (k a M') Q := h
    cases hk : k a M' with
    | ok m M2 =>
      rw [hk] at h'
      exact fun p im2 H2 N e2 p2 f2 => h' p im2 H2 N (e.trans e2) (p'.trans p2) fun o eo t => by
        by_cases hw : wr im ow p
        · exact hw
        · obtain ⟨e3, n3⟩ := e p o eo t hw
          exact absurd (f2 o e3 t) n3
    | ex C fs M2 =>
      rw [hk] at h'
      exact Post.rebase (rl := rlV) (q := (.ex C fs M2 : R Dm)) (Q := Q) h' e p'
    | bad =>
      rw [hk] at h'
      exact h'
  | ex C fs M' => exact h
  | bad => exact h
theorem df_lst {es : List Expr} {h : SE (List Dm)} (hh : DA X T W es h) : DF X T W (.List es pos) (fLst h) := pe_le (pe_lst hh) fun σ H Q ⟨B, im, ow, r, M, S, P⟩ =>
  ⟨B, im, ow, r, M, S, PostF.bind (rl := rlVs) P fun ds M1 vs im1 H1 _ S1 E1 p1 r1 P1 => by
    split at P1
    · rename_i hl
      exact ⟨by rw [Reps.length r1]; exact hl, fun p hp => P1 p im1 _ (New.of_new S1 hp (fun ps z => by cases z) ⟨vs, upd_same, Reps.mono (Ext.plus hp) (List.prefix_refl _) r1⟩) (Ext.new hp) (List.prefix_refl _) (S1.frh hp)⟩
    · exact P1.elim⟩
/-- name = a new object of its own -/
def sOwn (i : Nat) (f : SE MO) : SS := fun r M => match f r M with
  | .ok m M1 => if i < r.length then .nx (r.set i (.own m)) M1 else .bad
  | .ex C fs M1 => .ex r C fs M1
  | .bad => .bad
theorem Post.toS {g : Gm} {B : Bs} {im : List Addr} {ow : Ow} {r : Sl} {σ : St} {H : Hp} {C : Str} {fs : List (Str × Dm)} {M1 : Mem} {E : Ends} {Q : VK} (h : PostS g B W E (.ex r C fs M1)) : Post rlV g B W im ow r σ H (.ex C fs M1) Q :=
  fun Ca dd xs im' H' S e p' c x y z => h Ca dd xs im' ow σ H' S c x y z
theorem ds_own {i : Nat} {x : Str} {f : SE MO} {pos' : Pos} (hN : X.N.Nodup) (hi : X.N[i]? = some x) (hx : Loc X.env.scope x) (he : DF X T W e f) (hs : swapsWith e (some (.Name x pos')) pos.line X.env = pure false := by rfl) (hf : X.fn x = true ∨ X.env.scope.names.lookup x = some .local := by first | exact .inl rfl | exact .inr rfl | assumption) :
    DS X T W (.Assign [.Name x pos'] e pos) (sOwn i f) := ps_le (ps_set hN hi hx he hs hf) fun σ H D ⟨B, im, ow, r, M, S, P⟩ => ⟨B, im, ow, r, M, S, by
  have P' : PostS (gm X T) B W D (match f r M with
    | .ok m M1 => if i < r.length then .nx (r.set i (.own m)) M1 else .bad
    | .ex C fs M1 => .ex r C fs M1
    | .bad => .bad) := P
  cases hq : f r M with
  | ok m M1 =>
    rw [hq] at P'
    refine fun p im' H' N E1 p1 fr => ?_
    dsimp only at P'
    split at P'
    · rename_i hl
      refine P' im' _ _ H' (N.st.setOwn N.ok N.nw N.nF hl ?_)
      intro b o hb t n
      obtain ⟨h1, n1⟩ := S.ext b o hb t n
      obtain ⟨h2, n2⟩ := E1 b o h1 t n1
      refine ⟨h2, fun z => ?_⟩
      rcases z with z | ⟨j, z⟩
      · exact n2 (.inl z)
      · unfold owOn at z
        split at z
        · cases z
          exact n1 (fr o h1 t)
        · exact n2 (.inr ⟨j, z⟩)
    · exact P'.elim
  | ex C fs M1 =>
    rw [hq] at P'
    exact Post.toS (Q := fun _ _ => True) P'
  | bad =>
    rw [hq] at P'
    exact P'⟩
/-- return a new object, which the caller may change -/
def sRetF (f : SE MO) : SS := fun r M => match f r M with
  | .ok m M1 => .rf m M1
  | .ex C fs M1 => .ex r C fs M1
  | .bad => .bad
theorem ds_retF {f : SE MO} (he : DF X T W e f) : DS X T W (.Return (some e) pos) (sRetF f) := ps_le (ps_ret he) fun σ H D ⟨B, im, ow, r, M, S, P⟩ => ⟨B, im, ow, r, M, S, by
  have P' : PostS (gm X T) B W D (match f r M with
    | .ok m M1 => .rf m M1
    | .ex C fs M1 => .ex r C fs M1
    | .bad => .bad) := P
  cases hq : f r M with
  | ok m M1 =>
    rw [hq] at P'
    refine fun p im' H' N E1 p1 fr => P' p im' ow r σ H' N fun o ho t => ?_
    by_cases hw : B.W0 p
    · exact hw
    · obtain ⟨h1, n1⟩ := S.ext p o ho t hw
      exact absurd (fr o h1 t) n1
  | ex C fs M1 =>
    rw [hq] at P'
    exact Post.toS (Q := fun _ _ => True) P'
  | bad =>
    rw [hq] at P'
    exact P'⟩
/-- the slot's own object becomes a datum: it isn't changed any more -/
def frz (i : Nat) (r : Sl) : Sl := match r[i]? with
  | some (.own m) => r.set i (.val (moV m))
  | _ => r
theorem StRel.frz {g : Gm} {B : Bs} {im : List Addr} {ow : Ow} {r : Sl} {M : Mem} {σ : St} {H : Hp} (S : StRel g B im ow r M σ H) (i : Nat) : ∃ ow', StRel g B im ow' (Dy.frz i r) M σ H ∧ ∀ x, wr im ow' x → wr im ow x := by
  unfold Dy.frz
  cases h : r[i]? with
  | none => exact ⟨ow, S, fun x z => z⟩
  | some s =>
    cases s with
    | own m =>
      have hil : i < r.length := (List.getElem?_eq_some_iff.mp h).1
      obtain ⟨a, h1, h2, h3⟩ := S.sl i _ h
      have le : ∀ x, ns B.F im (owOff ow i) x → ns B.F im ow x := ns_less fun x => wr_off
      have na : ¬ ns B.F im (owOff ow i) a := fun z => by
        rcases z with z | z | ⟨j, z⟩
        · exact (S.sep i a h1).2 z
        · exact (S.sep i a h1).1 z
        · unfold owOff at z
          split at z
          · cases z
          · rename_i hj
            exact hj (S.inj j i a z h1)
      refine ⟨owOff ow i, ?_, fun x => wr_off⟩
      refine ⟨by rw [List.length_set]; exact S.len, fun j s e => ?_, fun j hj => ?_, fun j k b h1 h2 => ?_, fun j b h => ?_, fun j b h => ?_, S.mlen, S.nd, fun j m e => ?_, S.imF, S.fr, S.ext.less fun x => wr_off, S.pre, S.tab, S.root⟩
      · by_cases hj : j = i
        · subst hj
          rw [List.getElem?_set_self hil] at e
          cases e
          exact ⟨by unfold owOff; rw [if_pos rfl], _, h2, (h3.less le).rep na⟩
        · rw [List.getElem?_set_ne (Ne.symm hj)] at e
          have h := S.sl j s e
          have eo : owOff ow i j = ow j := by unfold owOff; rw [if_neg hj]
          rw [eo]
          cases s with
          | un => exact h
          | pin => exact h
          | val d' =>
            obtain ⟨h1, y, h2, h3⟩ := h
            exact ⟨h1, y, h2, h3.less le⟩
          | own m =>
            obtain ⟨b, h1, h2, h3⟩ := h
            exact ⟨b, h1, h2, h3.less le⟩
      · unfold owOff
        split
        · rfl
        · exact S.out j (by rw [List.length_set] at hj; exact hj)
      · unfold owOff at h1 h2
        split at h1
        · cases h1
        · split at h2
          · cases h2
          · exact S.inj j k b h1 h2
      · unfold owOff at h
        split at h
        · cases h
        · exact S.sep j b h
      · unfold owOff at h
        split at h
        · cases h
        · exact S.tr j b h
      · obtain ⟨b, h1, h2⟩ := S.mem j m e
        exact ⟨b, h1, h2.less le⟩
    | _ => exact ⟨ow, S, fun x z => z⟩
/-- a ghost step: slot i becomes a datum ahead of the block -/
theorem db_frz {st : List Stmt} {f : SS} (i : Nat) (h : DB X T W st f) : DB X T W st (fun r M => f (frz i r) M) := pss_le h fun σ H D ⟨B, im, ow, r, M, S, P⟩ => by
  obtain ⟨ow', S', _⟩ := S.frz i
  exact ⟨B, im, ow', Dy.frz i r, M, S', P⟩
/-! ### xs.append(e) -/
def sApp (i : Nat) (f : SE Dm) : SS := fun r M => match r[i]? with
  | some (.own (.lst ds)) => RS.of (f r M) r fun d M1 => if ds.length < sizeLine then .nx (r.set i (.own (.lst (ds ++ [d])))) M1 else .bad
  | _ => .bad
theorem ds_app {i : Nat} {x : Str} {f : SE Dm} {p1 apos cpos : Pos} (hN : X.N[i]? = some x) (hv : Vis X.env.scope x) (he : DE X T W e f) (hd : (x == ("__debug__" : Str)) = false := by decide) (hc : (x == ("__classdict__" : Str)) = false := by decide)
    (hbase : attributeBase (.Name x p1) "append" X.env (eval (.Name x p1) X.env) = eval (.Name x p1) X.env := by rfl)
    (hfew : ((backTo cpos (starEach [e] X.env)).all (fun x => !x.1) && (backToKw cpos (keywordEach [] X.env)).all (fun x => x.1.isSome)
      && decide ([e].length + ([] : List Keyword).length + (if ([] : List Keyword).isEmpty then 0 else 1) < 30)) = true := by rfl)
    (hline : (apos.endLine == cpos.line) = true := by rfl) (hs : starEach [e] X.env = (false, eval e X.env) :: starEach [] X.env := by rfl) (hplain : (backTo cpos (starEach [] X.env)).any (·.1) = false := by rfl)
    (hsw : swapsWith (.Call (.Attribute (.Name x p1) "append" apos) [e] [] cpos) none pos.line X.env = pure false := by rfl) :
    DS X T W (.Expr (.Call (.Attribute (.Name x p1) "append" apos) [e] [] cpos) pos) (sApp i f) :=
  ps_le (ps_expr (pe_bm PySem.F.plainAttrs_list PySem.F.slot_list_append PySem.F.type_list_append mt_append (pe_var hN hv hd hc) (pa_cons he pa_nil hs) hbase hfew hline hs hplain) hsw) fun σ H D ⟨B, im, ow, r, M, S, P⟩ => by
    unfold sApp at P
    cases h : r[i]? with
    | none =>
      rw [h] at P
      exact P.elim
    | some s =>
      rw [h] at P
      cases s with
      | own m =>
        cases m with
        | lst ds =>
          obtain ⟨a, h1, h2, xs, h3, h4⟩ := S.sl i _ h
          refine ⟨_, h2, .inl ⟨rfl, _, SqL.of h3⟩, B, im, ow, r, M, S, PostS.of (rl := rlV) P fun d M1 v im1 H1 _ S1 E1 p1 r1 P1 => ?_⟩
          obtain ⟨a', k1, k2, ys, k3, k4⟩ := S1.sl i _ h
          have ea : a' = a := by
            rw [h1] at k1
            exact (Option.some.inj k1).symm
          subst ea
          split at P1
          · rename_i hl
            refine ⟨a', ys, v, rfl, rfl, k3, by rw [k4.length]; exact hl, ?_⟩
            refine P1 im1 ow σ _ (S1.setAt h h1 (fun ps z => by cases z) ⟨ys ++ [v], upd_same, ?_⟩)
            exact (k4.append (.cons r1 .nil)).mono (Ext.put (.inr (.inr ⟨i, h1⟩))) (List.prefix_refl _)
          · exact P1.elim
        | _ => exact P.elim
      | _ => exact P.elim
/-! ### a[i] = e where a names an object of the memory or of its own: a list -/
def setMem (k : Nat) (j : Int) (d : Dm) (r : Sl) (M : Mem) : RS := match M[k]? with
  | some (.lst ds) => match ixN ds.length j with
    | some n => .nx r (M.set k (.lst (ds.set n d)))
    | none => .bad
  | _ => .bad
def setOwnL (i : Nat) (j : Int) (d : Dm) (r : Sl) (M : Mem) : RS := match r[i]? with
  | some (.own (.lst ds)) => match ixN ds.length j with
    | some n => .nx (r.set i (.own (.lst (ds.set n d)))) M
    | none => .bad
  | _ => .bad
/-- the index by an expression; the object by a name -/
def aIx (i : Nat) (fi : SE Dm) : Dm → Sl → Mem → RS := fun d r M => match fi r M with
  | .ok (.int j) M1 => match r[i]? with
    | some (.val (.ref k)) => setMem k j d r M1
    | some (.own (.lst _)) => setOwnL i j d r M1
    | _ => .bad
  | _ => .bad
theorem nx_ix (i : Nat) (fi : SE Dm) : OnlyNx (aIx i fi) := fun d r M => by
  unfold aIx setMem setOwnL
  repeat' split
  all_goals first
    | exact .inl ⟨_, _, rfl⟩
    | exact .inr rfl
theorem noex {g : Gm} {B : Bs} {im : List Addr} {ow : Ow} {r : Sl} {σ : St} {H : Hp} {q : R Dm} {Q : VK} (h : ∀ d M1, q = .ok d M1 → ∀ v im' H', StRel g B im' ow r M1 σ H' → Ext (wr im ow) H (wr im' ow) H' → im <+: im' → Rep g (ns B.F im' ow) im' H' v d → Q v H') (hq : ∃ d M1, q = .ok d M1) : Post rlV g B (fun _ _ _ _ => False) im ow r σ H q Q := by
  obtain ⟨d, M1, rfl⟩ := hq
  exact fun v im' H' S e p rr => h d M1 rfl v im' H' S e p rr
theorem dg_ix {i : Nat} {x : Str} {p1 : Pos} {fi : SE Dm} (hN : X.N[i]? = some x) (hv : Vis X.env.scope x) (hi : DE X T (fun _ _ _ _ => False) b fi) (hd : (x == ("__debug__" : Str)) = false := by decide) (hc : (x == ("__classdict__" : Str)) = false := by decide)
    (ha : ∀ v, assign (.Subscript (.Name x p1) b pos) X.env v = (do
      let ov ← holding [v] (eval (.Name x p1) X.env)
      let iv ← holding [v, ov] (eval b X.env)
      standAt pos
      holding [v, ov, iv] (setItem ov iv v)
      release [v, ov, iv] []) := by intro _; rfl) : DG X T (.Subscript (.Name x p1) b pos) (aIx i fi) :=
  pg_le (pg_sub (pe_var hN hv hd hc) hi set_list ha) fun v σ H Q ⟨B, im, ow, r, M, d, S, q, P⟩ => by
    unfold aIx at P
    cases hf : fi r M with
    | ok di M1 =>
      rw [hf] at P
      cases di with
      | int j =>
        dsimp only at P
        cases h : r[i]? with
        | none =>
          rw [h] at P
          exact P.elim
        | some s =>
          rw [h] at P
          cases s with
          | val d' =>
            cases d' with
            | ref k =>
              obtain ⟨h1, y, h2, h3⟩ := S.sl i _ h
              refine ⟨y, h2, B, im, ow, r, M, S, noex (fun d2 M2 e2 w im1 H1 S1 E1 p1 r1 => ?_) ⟨_, _, hf⟩⟩
              rw [hf] at e2
              cases e2
              cases r1 with
              | int =>
                cases h3 with
                | @ref _ a hk =>
                  unfold setMem at P
                  cases hm : M1[k]? with
                  | none =>
                    simp only [hm] at P
                    exact P.elim
                  | some m =>
                    simp only [hm] at P
                    cases m with
                    | lst ds =>
                      dsimp only at P
                      cases hn : ixN ds.length j with
                      | none =>
                        simp only [hn] at P
                        exact P.elim
                      | some n =>
                        simp only [hn] at P
                        obtain ⟨a', k1, xs, k2, k3⟩ := S1.mem k _ hm
                        have ha1 := pre_get p1 hk
                        have ea : a' = a := by
                          rw [ha1] at k1
                          exact (Option.some.inj k1).symm
                        subst ea
                        refine ⟨a', xs, j, n, rfl, rfl, k2, by rw [k3.length]; exact hn, ?_⟩
                        refine P im1 ow σ _ (S1.memAt hm k1 (fun ps z => by cases z) ⟨xs.set n v, upd_same, ?_⟩)
                        exact (k3.set n (q.mono E1.ns p1)).mono (Ext.put (.inr (.inl (List.mem_of_getElem? k1)))) (List.prefix_refl _)
                    | _ => exact P.elim
            | _ => exact P.elim
          | own m =>
            cases m with
            | lst ds0 =>
              obtain ⟨a, h1, h2, xs0, h3, h4⟩ := S.sl i _ h
              refine ⟨.ref a, h2, B, im, ow, r, M, S, noex (fun d2 M2 e2 w im1 H1 S1 E1 p1 r1 => ?_) ⟨_, _, hf⟩⟩
              rw [hf] at e2
              cases e2
              cases r1 with
              | int =>
                unfold setOwnL at P
                simp only [h] at P
                obtain ⟨a', k1, k2, xs, k3, k4⟩ := S1.sl i _ h
                have ea : a' = a := by
                  rw [h1] at k1
                  exact (Option.some.inj k1).symm
                subst ea
                cases hn : ixN ds0.length j with
                | none =>
                  simp only [hn] at P
                  exact P.elim
                | some n =>
                  simp only [hn] at P
                  refine ⟨a', xs, j, n, rfl, rfl, k3, by rw [k4.length]; exact hn, ?_⟩
                  refine P im1 ow σ _ (S1.setAt h h1 (fun ps z => by cases z) ⟨xs.set n v, upd_same, ?_⟩)
                  exact (k4.set n (q.mono E1.ns p1)).mono (Ext.put (.inr (.inr ⟨i, h1⟩))) (List.prefix_refl _)
            | _ => exact P.elim
          | _ => exact P.elim
      | _ => exact P.elim
    | _ =>
      rw [hf] at P
      exact P.elim
/-- such a target ahead of others, its index an int that is written -/
theorem dgs_ixC {es : List Expr} {i : Nat} {x : Str} {p1 p2 : Pos} {j : Int} {jn : Nat} {h : List Dm → Sl → Mem → RS} (hN : X.N[i]? = some x) (hv : Vis X.env.scope x) (h2 : DGs X T es h) (hd : (x == ("__debug__" : Str)) = false := by decide) (hc : (x == ("__classdict__" : Str)) = false := by decide)
    (hs : (assignEach (.Subscript (.Name x p1) (.Constant (.int j) jn p2) pos :: es) X.env).map (·.2) = assign (.Subscript (.Name x p1) (.Constant (.int j) jn p2) pos) X.env :: (assignEach es X.env).map (·.2) := by rfl)
    (ha : ∀ v, assign (.Subscript (.Name x p1) (.Constant (.int j) jn p2) pos) X.env v = (do
      let ov ← holding [v] (eval (.Name x p1) X.env)
      let iv ← holding [v, ov] (eval (.Constant (.int j) jn p2) X.env)
      standAt pos
      holding [v, ov, iv] (setItem ov iv v)
      release [v, ov, iv] []) := by intro _; rfl) : DGs X T (.Subscript (.Name x p1) (.Constant (.int j) jn p2) pos :: es) (aCons (aIx i (sC (.int j))) h) :=
  pgs_le (pgs_cons (pg_sub (pe_var hN hv hd hc) pe_int set_list ha) h2 hs) fun vs σ H Q ⟨B, im, ow, r, M, ds, S, q, P⟩ => by
    cases q with
    | nil => exact P.elim
    | @cons v d vs ds q qs =>
      refine ⟨v, vs, rfl, ?_⟩
      have P' : PostS (gm X T) B (fun _ _ _ _ => False) { nx := Q, rt := fun _ _ => False } (RS.seq (match r[i]? with
        | some (.val (.ref k)) => setMem k j d r M
        | some (.own (.lst _)) => setOwnL i j d r M
        | _ => .bad) (h ds)) := P
      cases hr : r[i]? with
      | none =>
        rw [hr] at P'
        exact P'.elim
      | some s =>
        rw [hr] at P'
        cases s with
        | val d' =>
          cases d' with
          | ref k =>
            obtain ⟨h1, y, h2, h3⟩ := S.sl i _ hr
            refine ⟨y, h2, ?_⟩
            cases h3 with
            | @ref _ a hk =>
              dsimp only at P'
              unfold setMem at P'
              cases hm : M[k]? with
              | none =>
                simp only [hm] at P'
                exact P'.elim
              | some m =>
                simp only [hm] at P'
                cases m with
                | lst es' =>
                  dsimp only at P'
                  cases hn : ixN es'.length j with
                  | none =>
                    simp only [hn] at P'
                    exact P'.elim
                  | some n =>
                    simp only [hn] at P'
                    obtain ⟨a', k1, xs, k2, k3⟩ := S.mem k _ hm
                    have ea : a' = a := by
                      rw [hk] at k1
                      exact (Option.some.inj k1).symm
                    subst ea
                    have x : Ext (ns B.F im ow) H (ns B.F im ow) (upd H a' (.lst (xs.set n v))) := Ext.put (.inr (.inl (List.mem_of_getElem? k1)))
                    refine ⟨a', xs, j, n, rfl, rfl, k2, by rw [k3.length]; exact hn, ?_⟩
                    refine ⟨B, im, ow, r, _, ds, S.memAt (m' := .lst (es'.set n d)) hm k1 (fun ps z => by cases z) ⟨xs.set n v, upd_same, (k3.set n q).mono x (List.prefix_refl _)⟩, qs.mono x (List.prefix_refl _), P'⟩
                | _ => exact P'.elim
          | _ => exact P'.elim
        | own m =>
          cases m with
          | lst ds0 =>
            obtain ⟨a, h1, h2, xs, h3, h4⟩ := S.sl i _ hr
            refine ⟨.ref a, h2, ?_⟩
            dsimp only at P'
            unfold setOwnL at P'
            simp only [hr] at P'
            cases hn : ixN ds0.length j with
            | none =>
              simp only [hn] at P'
              exact P'.elim
            | some n =>
              simp only [hn] at P'
              have x : Ext (ns B.F im ow) H (ns B.F im ow) (upd H a (.lst (xs.set n v))) := Ext.put (.inr (.inr ⟨i, h1⟩))
              refine ⟨a, xs, j, n, rfl, rfl, h3, by rw [h4.length]; exact hn, ?_⟩
              exact ⟨B, im, ow, _, M, ds, S.setAt (m' := .lst (ds0.set n d)) hr h1 (fun ps z => by cases z) ⟨xs.set n v, upd_same, (h4.set n q).mono x (List.prefix_refl _)⟩, qs.mono x (List.prefix_refl _), P'⟩
          | _ => exact P'.elim
        | _ => exact P'.elim
end
end Dy

/-! Dy8: list comprehensions. -/
namespace Dy
open PySem
open PySem.Spec
open L2

def wipeS (r : Sl) : List Nat → Sl
  | [] => r
  | v :: vs => (wipeS r vs).set v .un
def setsS (r : Sl) : List (Nat × Dm) → Sl
  | [] => r
  | p :: l => setsS (r.set p.1 (.val p.2)) l
def setsV (σ : St) : List (Nat × V) → St
  | [] => σ
  | p :: l => setsV (σ.set p.1 (some p.2)) l
inductive RepL (g : Gm) (N : Av) (im : List Addr) (H : Hp) : List (Nat × V) → List (Nat × Dm) → Prop
  | nil : RepL g N im H [] []
  | cons {i : Nat} {v : V} {d : Dm} {vs : List (Nat × V)} {ds : List (Nat × Dm)} : Rep g N im H v d → RepL g N im H vs ds → RepL g N im H ((i, v) :: vs) ((i, d) :: ds)
def noOwn (r : Sl) : List Nat → Bool
  | [] => true
  | i :: l => (match r[i]? with
    | some (.own _) => false
    | _ => true) && noOwn r l
section
variable {g : Gm} {B : Bs} {im im' : List Addr} {ow ow' : Ow} {r r' : Sl} {M M' : Mem} {σ σ' : St} {H H' : Hp} {F : Av} {a p : Addr}
theorem wipeS_length : ∀ (l : List Nat), (wipeS r l).length = r.length
  | [] => rfl
  | v :: vs => by unfold wipeS; rw [List.length_set, wipeS_length vs]
theorem wipeS_other {i : Nat} : ∀ {l : List Nat}, i ∉ l → (wipeS r l)[i]? = r[i]?
  | [], _ => rfl
  | v :: vs, h => by
    unfold wipeS
    rw [List.getElem?_set_ne (fun e => h (by rw [e]; exact List.mem_cons_self)), wipeS_other fun z => h (List.mem_cons_of_mem _ z)]
theorem wipe_other {i : Nat} : ∀ {l : List Nat}, i ∉ l → (wipe σ l)[i]? = σ[i]?
  | [], _ => rfl
  | v :: vs, h => by
    unfold wipe
    rw [List.getElem?_set_ne (fun e => h (by rw [e]; exact List.mem_cons_self)), wipe_other fun z => h (List.mem_cons_of_mem _ z)]
theorem StRel.notOwned (S : StRel g B im ow r M σ H) : ∀ {l : List Nat}, noOwn r l = true → ∀ i ∈ l, ow i = none
  | j :: l, h, i, hi => by
    unfold noOwn at h
    simp only [Bool.and_eq_true] at h
    rcases List.mem_cons.mp hi with rfl | hi
    · cases hr : r[i]? with
      | none => exact S.out i (List.getElem?_eq_none_iff.mp hr)
      | some s =>
        cases s with
        | un => exact S.sl i _ hr
        | pin => exact (S.sl i _ hr).1
        | val d => exact (S.sl i _ hr).1
        | own m =>
          rw [hr] at h
          exact absurd h.1 (by simp)
    · exact S.notOwned h.2 i hi
theorem owOff_id {i : Nat} (h : ow i = none) : owOff ow i = ow := funext fun j => by
  unfold owOff
  split
  · rename_i e
    rw [e, h]
  · rfl
theorem StRel.setN (S : StRel g B im ow r M σ H) {i : Nat} {v : V} {d : Dm} (q : Rep g (ns B.F im ow) im H v d) (h : ow i = none) : StRel g B im ow (r.set i (.val d)) M (σ.set i (some v)) H := by
  by_cases hi : i < r.length
  · have z := S.set q hi
    rw [owOff_id h] at z
    exact z
  · rw [List.set_eq_of_length_le (by omega), List.set_eq_of_length_le (by rw [S.len]; omega)]
    exact S
theorem StRel.unset (S : StRel g B im ow r M σ H) {i : Nat} (h : ow i = none) : StRel g B im ow (r.set i .un) M (σ.set i none) H := by
  refine ⟨by rw [List.length_set, List.length_set]; exact S.len, fun j s e => ?_, fun j hj => S.out j (by rw [List.length_set] at hj; exact hj), S.inj, S.sep, S.tr, S.mlen, S.nd, S.mem, S.imF, S.fr, S.ext, S.pre, S.tab, S.root⟩
  by_cases hj : j = i
  · subst hj
    by_cases hl : j < r.length
    · rw [List.getElem?_set_self hl] at e
      cases e
      exact h
    · rw [List.getElem?_eq_none (by rw [List.length_set]; omega)] at e
      cases e
  · rw [List.getElem?_set_ne (Ne.symm hj)] at e
    have z := S.sl j s e
    rw [List.getElem?_set_ne (Ne.symm hj)]
    exact z
theorem StRel.wipe (S : StRel g B im ow r M σ H) : ∀ {l : List Nat}, (∀ i ∈ l, ow i = none) → StRel g B im ow (wipeS r l) M (L2.wipe σ l) H
  | [], _ => S
  | i :: l, h => (S.wipe fun j hj => h j (List.mem_cons_of_mem _ hj)).unset (h i List.mem_cons_self)
theorem StRel.sets : ∀ {vs : List (Nat × V)} {ds : List (Nat × Dm)} {r : Sl} {σ : St}, StRel g B im ow r M σ H → RepL g (ns B.F im ow) im H vs ds → (∀ p ∈ ds, ow p.1 = none) → StRel g B im ow (setsS r ds) M (setsV σ vs) H
  | _, _, _, _, S, .nil, _ => S
  | _, _, _, _, S, .cons (i := i) (v := v) (d := d) q l, h => StRel.sets (r := List.set _ i (.val d)) (σ := List.set _ i (some v)) (S.setN q (h (i, d) List.mem_cons_self)) l fun p hp => h p (List.mem_cons_of_mem _ hp)
theorem wipeS_set {i : Nat} {s : Slot} : ∀ {l : List Nat} {r : Sl}, i ∈ l → wipeS (r.set i s) l = wipeS r l
  | j :: l, r, h => by
    unfold wipeS
    by_cases hi : i ∈ l
    · rw [wipeS_set hi]
    · rcases List.mem_cons.mp h with rfl | h
      · have e : ∀ {l : List Nat} {r : Sl}, i ∉ l → wipeS (r.set i s) l = (wipeS r l).set i s := by
          intro l
          induction l with
          | nil => exact fun _ => rfl
          | cons j l ih =>
            intro r hn
            unfold wipeS
            rw [ih fun z => hn (List.mem_cons_of_mem _ z)]
            exact List.set_comm _ _ fun e => hn (by rw [e]; exact List.mem_cons_self)
        rw [e hi, List.set_set]
      · exact absurd h hi
theorem wipe_set {i : Nat} {s : Option V} : ∀ {l : List Nat} {σ : St}, i ∈ l → L2.wipe (σ.set i s) l = L2.wipe σ l
  | j :: l, r, h => by
    unfold L2.wipe
    by_cases hi : i ∈ l
    · rw [wipe_set hi]
    · rcases List.mem_cons.mp h with rfl | h
      · have e : ∀ {l : List Nat} {r : St}, i ∉ l → L2.wipe (r.set i s) l = (L2.wipe r l).set i s := by
          intro l
          induction l with
          | nil => exact fun _ => rfl
          | cons j l ih =>
            intro r hn
            unfold L2.wipe
            rw [ih fun z => hn (List.mem_cons_of_mem _ z)]
            exact List.set_comm _ _ fun e => hn (by rw [e]; exact List.mem_cons_self)
        rw [e hi, List.set_set]
      · exact absurd h hi
theorem wipeS_idem : ∀ {l : List Nat} (k : List Nat), (∀ i ∈ k, i ∈ l) → wipeS (wipeS r k) l = wipeS r l
  | l, [], _ => rfl
  | l, i :: k, h => by
    show wipeS ((wipeS r k).set i .un) l = _
    rw [wipeS_set (h i List.mem_cons_self)]
    exact wipeS_idem k fun j hj => h j (List.mem_cons_of_mem _ hj)
theorem wipe_idem : ∀ {l : List Nat} (k : List Nat), (∀ i ∈ k, i ∈ l) → L2.wipe (L2.wipe σ k) l = L2.wipe σ l
  | l, [], _ => rfl
  | l, i :: k, h => by
    show L2.wipe ((L2.wipe σ k).set i none) l = _
    rw [wipe_set (h i List.mem_cons_self)]
    exact wipe_idem k fun j hj => h j (List.mem_cons_of_mem _ hj)
theorem wipeS_sets {l : List Nat} : ∀ {ds : List (Nat × Dm)} {r : Sl}, (∀ p ∈ ds, p.1 ∈ l) → wipeS (setsS r ds) l = wipeS r l
  | [], r, _ => rfl
  | p :: ds, r, h => by
    show wipeS (setsS (r.set p.1 (.val p.2)) ds) l = _
    rw [wipeS_sets fun q hq => h q (List.mem_cons_of_mem _ hq), wipeS_set (h p List.mem_cons_self)]
theorem wipe_sets {N : Av} {l : List Nat} : ∀ {vs : List (Nat × V)} {ds : List (Nat × Dm)} {σ : St}, RepL g N im H vs ds → (∀ p ∈ ds, p.1 ∈ l) → L2.wipe (setsV σ vs) l = L2.wipe σ l
  | _, _, σ, .nil, _ => rfl
  | _, _, σ, .cons (i := i) (v := v) q k, h => by
    show L2.wipe (setsV (σ.set i (some v)) _) l = _
    rw [wipe_sets k fun q hq => h q (List.mem_cons_of_mem _ hq), wipe_set (h _ List.mem_cons_self)]
/-- behind a block: the frame as it was, its own names besides -/
theorem StRel.unwipe {B' : Bs} {l : List Nat} {r1 : Sl} {σ1 : St} (S : StRel g B im ow r M σ H) (S' : StRel g B' im' ow (wipeS r l) M' (L2.wipe σ l) H') (hF : ∀ x, B.F x → B'.F x) (hn : ∀ i ∈ l, ow i = none) (x : Ext (wr im ow) H (wr im' ow) H') (p : im <+: im') : StRel g B im' ow r M' σ H' := by
  have le : ∀ x, ns B.F im' ow x → ns B'.F im' ow x := fun x h => h.elim (fun h => .inl (hF x h)) .inr
  refine ⟨S.len, fun j s e => ?_, S.out, S.inj, fun i b h => ⟨(S'.sep i b h).1, (S.sep i b h).2⟩, S'.tr, S'.mlen, S'.nd, fun j m e => ?_, fun b hb z => S'.imF b hb (hF b z), fun b hb => S'.fr b (hF b hb), S.ext.trans x, S.pre.trans p, S'.tab, S.root⟩
  · by_cases hj : j ∈ l
    · have h := S.sl j s e
      cases s with
      | un => exact h
      | pin => exact h
      | val d =>
        obtain ⟨h1, y, h2, h3⟩ := h
        exact ⟨h1, y, h2, h3.mono x.ns p⟩
      | own m =>
        obtain ⟨b, h1, _⟩ := h
        rw [hn j hj] at h1
        cases h1
    · have h := S'.sl j s (by rw [wipeS_other hj]; exact e)
      rw [wipe_other hj] at h
      cases s with
      | un => exact h
      | pin => exact h
      | val d =>
        obtain ⟨h1, y, h2, h3⟩ := h
        exact ⟨h1, y, h2, h3.less le⟩
      | own m =>
        obtain ⟨b, h1, h2, h3⟩ := h
        exact ⟨b, h1, h2, h3.less le⟩
  · obtain ⟨b, h1, h2⟩ := S'.mem j m e
    exact ⟨b, h1, h2.less le⟩
end
/-! ### targets of a block: names, tuples of names -/
structure Pt (K : PySem.W.Frag) (t : TG) (own : List Nat) (k : Dm → Option (List (Nat × Dm))) : Prop where
  own : ∀ d l, k d = some l → ∀ p ∈ l, p.1 ∈ own
  run : ∀ (g : Gm) (N : Av) (im : List Addr) (H : Hp) (v : V) (d : Dm) (l : List (Nat × Dm)), g.K = K → Rep g N im H v d → k d = some l → ∃ vs, RepL g N im H vs l ∧ ∀ σ Q, Q (setsV σ vs) H → t v σ H Q
structure Pts (t : TGs) (K : PySem.W.Frag) (own : List Nat) (k : List Dm → Option (List (Nat × Dm))) : Prop where
  own : ∀ d l, k d = some l → ∀ p ∈ l, p.1 ∈ own
  run : ∀ (g : Gm) (N : Av) (im : List Addr) (H : Hp) (v : List V) (d : List Dm) (l : List (Nat × Dm)), g.K = K → Reps g N im H v d → k d = some l → ∃ vs, RepL g N im H vs l ∧ ∀ σ Q, Q (setsV σ vs) H → t v σ H Q
def kName (i : Nat) : Dm → Option (List (Nat × Dm)) := fun d => some [(i, d)]
def kNil : List Dm → Option (List (Nat × Dm))
  | [] => some []
  | _ => none
def kCons (k : Dm → Option (List (Nat × Dm))) (h : List Dm → Option (List (Nat × Dm))) : List Dm → Option (List (Nat × Dm))
  | d :: ds => match k d, h ds with
    | some a, some b => some (a ++ b)
    | _, _ => none
  | _ => none
def kTup (n : Nat) (h : List Dm → Option (List (Nat × Dm))) : Dm → Option (List (Nat × Dm))
  | .tup ds => if ds.length = n then h ds else none
  | _ => none
theorem RepL.append {g : Gm} {N : Av} {im : List Addr} {H : Hp} : ∀ {vs ws : List (Nat × V)} {a b : List (Nat × Dm)}, RepL g N im H vs a → RepL g N im H ws b → RepL g N im H (vs ++ ws) (a ++ b)
  | _, _, _, _, .nil, h => h
  | _, _, _, _, .cons q l, h => .cons q (l.append h)
theorem setsV_append {ws : List (Nat × V)} : ∀ {vs : List (Nat × V)} {σ : St}, setsV σ (vs ++ ws) = setsV (setsV σ vs) ws
  | [], _ => rfl
  | p :: l, σ => setsV_append (vs := l)
theorem pt_name {K : PySem.W.Frag} {i : Nat} {own : List Nat} (h : i ∈ own := by decide) : Pt K (gName i) own (kName i) :=
  ⟨fun d l e p hp => by
    cases e
    have e := List.mem_singleton.mp hp
    subst e
    exact h, fun g N im H v d l _ q e => by
    cases e
    exact ⟨[(i, v)], .cons q .nil, fun σ Q h => h⟩⟩
theorem pts_nil' {K : PySem.W.Frag} {own : List Nat} : Pts gNil K own kNil :=
  ⟨fun d l e p hp => by
    cases d with
    | nil =>
      cases e
      cases hp
    | cons _ _ => (cases e), fun g N im H v d l _ q e => by
    cases q with
    | nil =>
      cases e
      exact ⟨[], .nil, fun σ Q h => ⟨rfl, h⟩⟩
    | cons _ _ => cases e⟩
theorem pts_cons' {K : PySem.W.Frag} {own : List Nat} {t : TG} {u : TGs} {k : Dm → Option (List (Nat × Dm))} {h : List Dm → Option (List (Nat × Dm))} (h1 : Pt K t own k) (h2 : Pts u K own h) : Pts (gCons t u) K own (kCons k h) :=
  ⟨fun d l e p hp => by
    cases d with
    | nil => cases e
    | cons d ds =>
      unfold kCons at e
      cases ha : k d with
      | none => simp [ha] at e
      | some a =>
        cases hb : h ds with
        | none => simp [ha, hb] at e
        | some b =>
          simp only [ha, hb, Option.some.injEq] at e
          subst e
          rcases List.mem_append.mp hp with hp | hp
          · exact h1.own d a ha p hp
          · exact h2.own ds b hb p hp, fun g N im H v d l hK q e => by
    cases q with
    | nil => cases e
    | @cons v d vs ds q qs =>
      unfold kCons at e
      cases ha : k d with
      | none => simp [ha] at e
      | some a =>
        cases hb : h ds with
        | none => simp [ha, hb] at e
        | some b =>
          simp only [ha, hb, Option.some.injEq] at e
          subst e
          obtain ⟨va, r1, e1⟩ := h1.run g N im H v d a hK q ha
          obtain ⟨vb, r2, e2⟩ := h2.run g N im H vs ds b hK qs hb
          refine ⟨va ++ vb, r1.append r2, fun σ Q hQ => ⟨v, vs, rfl, e1 σ _ (e2 _ Q ?_)⟩⟩
          rw [setsV_append] at hQ
          exact hQ⟩
theorem pt_tup {K : PySem.W.Frag} {own : List Nat} {n : Nat} {u : TGs} {h : List Dm → Option (List (Nat × Dm))} (h1 : Pts u K own h) : Pt K (gTup K n u) own (kTup n h) :=
  ⟨fun d l e p hp => by
    cases d with
    | tup ds =>
      have e' : (if ds.length = n then h ds else none) = some l := e
      split at e'
      · exact h1.own ds l e' p hp
      · cases e'
    | _ => (cases e), fun g N im H v d l hK q e => by
    cases q with
    | @tup a xs ds h2 rs =>
      have e' : (if ds.length = n then h ds else none) = some l := e
      split at e'
      · rename_i hl
        obtain ⟨vs, r1, e1⟩ := h1.run g N im H xs ds l hK rs e'
        exact ⟨vs, r1, fun σ Q hQ => ⟨a, xs, rfl, by rw [← hK]; exact h2.sq, by rw [rs.length]; exact hl, e1 σ Q hQ⟩⟩
      · cases e'
    | _ => cases e⟩
/-! ### the block -/
abbrev W0F : WX := fun _ _ _ _ => False
abbrev DTs (X : Cx) (T : Tb) (ifs : List Expr) (f : SE Bool) : Prop := PTs X ifs (tB (gm X T) W0F f)
def tsYes : SE Bool := fun _ M => .ok true M
section
variable {X : Cx} {T : Tb}
theorem pts_le {ifs : List Expr} {t u : TT} (h : PTs X ifs t) (i : ∀ σ H Q, u σ H Q → t σ H Q) : PTs X ifs u := ⟨fun p s σ H Q I w => h.run p s σ H Q I (i σ H Q w)⟩
theorem dts_nil : DTs X T [] tsYes := pts_le pts_nil fun σ H Q ⟨B, im, ow, r, M, S, P⟩ => P true im H S Ext.refl (List.prefix_refl _) rfl
theorem dts_one {c : Expr} {f : SE Bool} (h : DT X T W0F c f) : DTs X T [c] f := pts_one h
end
def lcGo (k : Dm → Option (List (Nat × Dm))) (t : SE Bool) (e : SE Dm) (r0 : Sl) : List Dm → List Dm → Mem → R MO
  | [], acc, M => .ok (.lst acc) M
  | d :: ds, acc, M => match k d with
    | none => .bad
    | some l => match t (setsS r0 l) M with
      | .ok true M1 => match e (setsS r0 l) M1 with
        | .ok x M2 => if acc.length < sizeLine then lcGo k t e r0 ds (acc ++ [x]) M2 else .bad
        | _ => .bad
      | .ok false M1 => lcGo k t e r0 ds acc M1
      | _ => .bad
theorem lcGo_noex {k : Dm → Option (List (Nat × Dm))} {t : SE Bool} {e : SE Dm} {r0 : Sl} {C : Str} {fs : List (Str × Dm)} {M' : Mem} : ∀ (ds acc : List Dm) (M : Mem), lcGo k t e r0 ds acc M ≠ .ex C fs M'
  | [], acc, M, h => by cases h
  | d :: ds, acc, M, h => by
    unfold lcGo at h
    repeat' split at h
    all_goals first
      | cases h
      | exact lcGo_noex ds _ _ h
def fLc (own : List Nat) (it : SE (List Dm)) (k : Dm → Option (List (Nat × Dm))) (t : SE Bool) (e : SE Dm) : SE MO := fun r M => (it r M).bind fun ds M1 => if noOwn r own = true then lcGo k t e (wipeS r own) ds [] M1 else .bad
theorem lc_of {g : Gm} {W : WX} {own : List Nat} {it : SE (List Dm)} {k : Dm → Option (List (Nat × Dm))} {t : SE Bool} {e : SE Dm} {tg : TG} (hp : Pt g.K tg own k) {σ : St} {H : Hp} {Q : VK} (h : tF g W (fLc own it k t e) σ H Q) : tLc (tG Src g W it) tg (tB g W0F t) (tD g W0F e) own σ H Q := by
  obtain ⟨B, im, ow, r, M, S, P⟩ := h
  refine ⟨B, im, ow, r, M, S, PostF.bind (rl := Src) P fun ds M1 J im1 H1 _ S1 E1 p1 src P1 => ?_⟩
  intro D hD
  obtain ⟨G, Y, walk, hG, hY⟩ := src
  split at P1
  · rename_i hno
    have hn := S1.notOwned hno
    -- the block's entry
    have S2 : StRel g (B.plus D) im1 ow (wipeS r own) M1 (L2.wipe σ own) (upd H1 D (.lst [])) := (S1.newPlus hD fun ps z => by cases z).wipe hn
    have xD : Ext (wr im1 ow) H1 (wr im1 ow) (upd H1 D (.lst [])) := Ext.new hD
    generalize hB' : (⟨(B.plus D).F, H1, wr im1 ow, im1⟩ : Bs) = B'
    have S3 : StRel g B' im1 ow (wipeS r own) M1 (L2.wipe σ own) (upd H1 D (.lst [])) := by
      rw [← hB']
      exact ⟨S2.len, S2.sl, S2.out, S2.inj, S2.sep, S2.tr, S2.mlen, S2.nd, S2.mem, S2.imF, S2.fr, xD, List.prefix_refl _, S2.tab, S2.root.now S1.ext S1.pre⟩
    have hF' : B'.F = (B.plus D).F := by rw [← hB']
    have hFD : B'.F D := by rw [hF']; exact .inr rfl
    have hWD : Frh B'.W0 B'.H0 D := by
      rw [← hB']
      intro o eo
      have eo : H1 D = some o := eo
      rw [hD] at eo
      cases eo
    -- what is wanted at the end
    let PF : R MO → Prop := fun q => match q with
      | .ok m M' => ∀ im' H', StRel g B' im' ow (wipeS r own) M' (L2.wipe σ own) H' → MoOk g (ns B'.F im' ow) im' H' D m → Q (.ref D) H'
      | _ => False
    have hPF : PF (lcGo k t e (wipeS r own) ds [] M1) := by
      cases hq : lcGo k t e (wipeS r own) ds [] M1 with
      | ok m M' =>
        rw [hq] at P1
        intro im' H' S' ok
        have x' : Ext (wr im1 ow) H1 (wr im' ow) H' := by
          have z := S'.ext
          rw [← hB'] at z
          exact z
        have p' : im1 <+: im' := by
          have z := S'.pre
          rw [← hB'] at z
          exact z
        have S5 : StRel g (B.plus D) im' ow (wipeS r own) M' (L2.wipe σ own) H' := by
          have S1'root := S2.root
          have z := S'
          rw [← hB'] at z
          exact ⟨z.len, z.sl, z.out, z.inj, z.sep, z.tr, z.mlen, z.nd, z.mem, z.imF, z.fr, S1.ext.trans x', S1.pre.trans p', z.tab, S1'root⟩
        have S1' : StRel g (B.plus D) im1 ow r M1 σ (upd H1 D (.lst [])) := S1.newPlus hD fun ps z => by cases z
        have nD : ¬ wr im' ow D := by
          rintro (z | ⟨i, z⟩)
          · exact S'.imF D z hFD
          · exact (S'.sep i D z).2 hFD
        refine P1 D im' H' ⟨?_, nD, fun z => S1.fresh hD (.inl z), by rw [hF'] at ok; exact ok⟩ x' p' (S1.frh hD)
        -- the frame as it was
        have le : ∀ x, ns (B.plus D).F im' ow x → ns (B.plus D).F im' ow x := fun x h => h
        refine ⟨S1.len, fun j s ej => ?_, S1.out, S1.inj, S5.sep, S5.tr, S5.mlen, S5.nd, S5.mem, S5.imF, S5.fr, S5.ext, S5.pre, S5.tab, S5.root⟩
        by_cases hj : j ∈ own
        · have h := S1.sl j s ej
          have xx : Ext (ns B.F im1 ow) H1 (ns (B.plus D).F im' ow) H' := fun b o eb tb nb => by
            obtain ⟨e2, n2⟩ := x' b o eb tb fun z => nb (.inr z)
            refine ⟨e2, fun z => ?_⟩
            rcases z with (z | z) | z
            · exact nb (.inl z)
            · exact ne_of_none eb hD z
            · exact n2 z
          cases s with
          | un => exact h
          | pin => exact h
          | val d =>
            obtain ⟨h1, y, h2, h3⟩ := h
            exact ⟨h1, y, h2, h3.mono xx p'⟩
          | own m =>
            obtain ⟨b, h1, _⟩ := h
            rw [hn j hj] at h1
            cases h1
        · have h := S5.sl j s (by rw [wipeS_other hj]; exact ej)
          rw [wipe_other hj] at h
          exact h
      | ex C fs M' => exact absurd hq (lcGo_noex ds [] M1)
      | bad =>
        rw [hq] at P1
        exact P1.elim
    refine lc_it walk (fun i H2 => ∃ im2 M2 acc vs, StRel g B' im2 ow (wipeS r own) M2 (L2.wipe σ own) H2 ∧ H2 D = some (.lst vs) ∧ Reps g (ns B'.F im2 ow) im2 H2 vs acc ∧ PF (lcGo k t e (wipeS r own) (ds.drop i) acc M2))
      ⟨im1, M1, [], [], S3, upd_same, .nil, hPF⟩ (fun i H2 hi ⟨im2, M2, acc, vs, S4, _⟩ => ?_) ?_ ?_
    · refine hG (ns B.F im2 ow) H2 ?_
      have z := S4.ext
      rw [← hB'] at z
      exact z.ns
    · rintro i x H2 H3 hi ⟨im2, M2, acc, vs, S4, hDv, ra, P3⟩ hy
      have x4 : Ext (wr im1 ow) H1 (wr im2 ow) H2 := by
        have z := S4.ext
        rw [← hB'] at z
        exact z
      have p4 : im1 <+: im2 := by
        have z := S4.pre
        rw [← hB'] at z
        exact z
      have x5 : Ext (ns B.F im1 ow) H1 (ns B'.F im2 ow) H2 := fun b o eb tb nb => by
        obtain ⟨e2, n2⟩ := x4 b o eb tb fun z => nb (.inr z)
        refine ⟨e2, fun z => ?_⟩
        rw [hF'] at z
        rcases z with (z | z) | z
        · exact nb (.inl z)
        · exact ne_of_none eb hD z
        · exact n2 z
      obtain ⟨hh, d, hd, rd⟩ := hY i (ns B'.F im2 ow) im2 H2 x H3 hi x5 p4 (fun a hn e => S4.fresh e hn) hy
      have S5 : StRel g B' im2 ow (wipeS r own) M2 (L2.wipe σ own) H3 := by
        rcases hh with rfl | ⟨p, o, hp, rfl⟩
        · exact S4
        · exact S4.new hp o
      have x3 : Ext (ns B'.F im2 ow) H2 (ns B'.F im2 ow) H3 := by
        rcases hh with rfl | ⟨p, o, hp, rfl⟩
        · exact Ext.refl
        · exact Ext.new hp
      have hDv3 : H3 D = some (.lst vs) := by
        rcases hh with rfl | ⟨p, o, hp, rfl⟩
        · exact hDv
        · rw [upd_ne (ne_of_none hDv hp)]
          exact hDv
      have ra3 := ra.mono x3 (List.prefix_refl _)
      have ed : ds.drop i = d :: ds.drop (i + 1) := by
        have hlt := (List.getElem?_eq_some_iff.mp hd)
        obtain ⟨h1, h2⟩ := hlt
        rw [List.drop_eq_getElem_cons h1, h2]
      rw [ed] at P3
      unfold lcGo at P3
      cases hk : k d with
      | none =>
        rw [hk] at P3
        exact P3.elim
      | some l =>
        rw [hk] at P3
        dsimp only at P3
        obtain ⟨ws, rw1, hw1⟩ := hp.run g _ _ _ x d l rfl rd hk
        have hin := hp.own d l hk
        refine hw1 _ _ ⟨?_, ?_⟩
        · rw [wipe_sets rw1 hin]
          exact wipe_idem own fun i h => h
        have S6 : StRel g B' im2 ow (setsS (wipeS r own) l) M2 (setsV (L2.wipe σ own) ws) H3 := S5.sets rw1 fun p hp => hn _ (hin p hp)
        -- back to the invariant
        have back : ∀ {im7 : List Addr} {M7 : Mem} {H7 : Hp}, StRel g B' im7 ow (setsS (wipeS r own) l) M7 (setsV (L2.wipe σ own) ws) H7 → StRel g B' im7 ow (wipeS r own) M7 (L2.wipe σ own) H7 := fun S7 => by
          have z := S7.wipe hn
          rw [wipeS_sets hin, wipe_sets rw1 hin, wipeS_idem own (fun i h => h), wipe_idem own (fun i h => h)] at z
          exact z
        have keepD : ∀ {im7 : List Addr} {H7 : Hp}, Ext (wr im2 ow) H3 (wr im7 ow) H7 → H7 D = some (.lst vs) := fun x7 => (x7 D _ hDv3 (fun ps z => by cases z) (by
          rintro (z | ⟨i, z⟩)
          · exact S5.imF D z hFD
          · exact (S5.sep i D z).2 hFD)).1
        cases ht : t (setsS (wipeS r own) l) M2 with
        | ok b M5 =>
          rw [ht] at P3
          refine ⟨B', im2, ow, _, M2, S6, ?_⟩
          rw [ht]
          intro b' im5 H5 S7 E7 p7 eb
          have eb : b' = b := eb
          subst eb
          cases b' with
          | false =>
            rw [if_neg (by simp)]
            exact ⟨im5, M5, acc, vs, back S7, keepD E7, ra3.mono E7.ns p7, P3⟩
          | true =>
            rw [if_pos rfl]
            dsimp only at P3
            cases he : e (setsS (wipeS r own) l) M5 with
            | ok y M8 =>
              rw [he] at P3
              refine ⟨B', im5, ow, _, M5, S7, ?_⟩
              rw [he]
              intro v im8 H8 S8 E8 p8 r8
              dsimp only at P3
              split at P3
              · rename_i hl
                have E78 := E7.trans E8
                have ra8 := ra3.mono E78.ns (p7.trans p8)
                have hD8 := keepD E78
                refine ⟨vs, hD8, by rw [ra8.length]; exact hl, im8, M8, acc ++ [y], vs ++ [v], ?_, upd_same, (ra8.append (.cons r8 .nil)).mono (Ext.put (.inl hFD)) (List.prefix_refl _), P3⟩
                exact (back S8).pokeF hFD hWD hD8 (plain_lst _) fun ps z => by cases z
              · exact P3.elim
            | _ =>
              rw [he] at P3
              exact P3.elim
        | _ =>
          rw [ht] at P3
          exact P3.elim
    · rintro H2 ⟨im2, M2, acc, vs, S4, hDv, ra, P3⟩
      rw [List.drop_length] at P3
      exact P3 im2 H2 S4 ⟨vs, hDv, ra⟩
  · exact P1.elim
section
variable {X : Cx} {T : Tb} {W : WX}
theorem df_lc {elt tg iter : Expr} {ifs : List Expr} {scope : Scope} {own : List (Str × Nat)} {pos : Pos} {it : SE (List Dm)} {k : Dm → Option (List (Nat × Dm))} {t : SE Bool} {e : SE Dm} {g : TG} (hc : X.calm = true) (hN : X.N.Nodup) (hi : DI X T W tg iter it) (ok : BlkOk X.N X.env.scope scope own) (hp : Pt X.K g (own.map (·.2)) k)
    (hg : ∀ (s : Shared) (H : Hp) (C : Addr) (cl : List (Str × Addr)) (fp : List Addr), PG (X.blk s H scope (compEnvC scope cl C X.env) fp) tg g) (ht : ∀ (s : Shared) (H : Hp) (C : Addr) (cl : List (Str × Addr)) (fp : List Addr), DTs (X.blk s H scope (compEnvC scope cl C X.env) fp) T ifs t)
    (he : ∀ (s : Shared) (H : Hp) (C : Addr) (cl : List (Str × Addr)) (fp : List Addr), DE (X.blk s H scope (compEnvC scope cl C X.env) fp) T W0F elt e) (hs : ∀ x, foldedSetIterable iter X.env x = pure x := by intro _; rfl) :
    DF X T W (.ListComp elt [⟨tg, iter, ifs, 0⟩] scope pos) (fLc (own.map (·.2)) it k t e) :=
  pe_le (pe_lc hc hN hi ok hg ht he hs) fun σ H Q h => lc_of hp h
theorem own_le {g : Gm} {i : Nat} {f : SE MO} {D : Ends} {σ : St} {H : Hp} (h : tS g W (sOwn i f) D σ H) : tAsg (tF g W f) (gName i) D σ H := by
  obtain ⟨B, im, ow, r, M, S, P⟩ := h
  refine ⟨B, im, ow, r, M, S, ?_⟩
  have P' : PostS g B W D (match f r M with
    | .ok m M1 => if i < r.length then .nx (r.set i (.own m)) M1 else .bad
    | .ex C fs M1 => .ex r C fs M1
    | .bad => .bad) := P
  cases hq : f r M with
  | ok m M1 =>
    rw [hq] at P'
    refine fun p im' H' N E1 p1 fr => ?_
    dsimp only at P'
    split at P'
    · rename_i hl
      refine P' im' _ _ H' (N.st.setOwn N.ok N.nw N.nF hl ?_)
      intro b o hb t n
      obtain ⟨h1, n1⟩ := S.ext b o hb t n
      obtain ⟨h2, n2⟩ := E1 b o h1 t n1
      refine ⟨h2, fun z => ?_⟩
      rcases z with z | ⟨j, z⟩
      · exact n2 (.inl z)
      · unfold owOn at z
        split at z
        · cases z
          exact n1 (fr o h1 t)
        · exact n2 (.inr ⟨j, z⟩)
    · exact P'.elim
  | ex C fs M1 =>
    rw [hq] at P'
    exact Post.toS (Q := fun _ _ => True) P'
  | bad =>
    rw [hq] at P'
    exact P'
/-- name = [..] on one line, the name a local -/
theorem ds_ownLc {i : Nat} {y : Str} {py : Pos} {elt tg iter : Expr} {ifs : List Expr} {scope : Scope} {own : List (Str × Nat)} {pos spos : Pos} {it : SE (List Dm)} {k : Dm → Option (List (Nat × Dm))} {t : SE Bool} {e : SE Dm} {g : TG} (hc : X.calm = true) (hN : X.N.Nodup) (hy : X.N[i]? = some y) (hyl : X.env.scope.names.lookup y = some .local)
    (hsw : swapsWith (.ListComp elt [⟨tg, iter, ifs, 0⟩] scope pos) (some (.Name y py)) spos.line X.env = pure true) (hi : DI X T W tg iter it) (ok : BlkOk X.N X.env.scope scope own) (hp : Pt X.K g (own.map (·.2)) k)
    (hg : ∀ (s : Shared) (H : Hp) (C : Addr) (cl : List (Str × Addr)) (fp : List Addr), PG (X.blk s H scope (compEnvC scope cl C X.env) fp) tg g) (ht : ∀ (s : Shared) (H : Hp) (C : Addr) (cl : List (Str × Addr)) (fp : List Addr), DTs (X.blk s H scope (compEnvC scope cl C X.env) fp) T ifs t)
    (he : ∀ (s : Shared) (H : Hp) (C : Addr) (cl : List (Str × Addr)) (fp : List Addr), DE (X.blk s H scope (compEnvC scope cl C X.env) fp) T W0F elt e) (hs : ∀ x, foldedSetIterable iter X.env x = pure x := by intro _; rfl) :
    DS X T W (.Assign [.Name y py] (.ListComp elt [⟨tg, iter, ifs, 0⟩] scope pos) spos) (sOwn i (fLc (own.map (·.2)) it k t e)) :=
  ps_le (ps_setLc hc hN hy hyl hsw hi ok hg ht he hs) fun σ H D h => lc_of (Q := fun x H1 => gName i x σ H1 D.nx) hp (own_le h)
end
end Dy

/-! Dy9: calls of defs, of methods, of classes. -/
namespace Dy
open PySem
open PySem.Spec
open L2

/-! ### from the caller's frame to the callee's, and back -/
section
variable {g : Gm} {B B2 : Bs} {im im' : List Addr} {ow : Ow} {r : Sl} {M M' : Mem} {σ : St} {H H' : Hp} {p : Addr}
/-- the callee's entry: the frame's own objects are forbidden -/
def inB (B : Bs) (im : List Addr) (ow : Ow) (H : Hp) : Bs := ⟨fun a => B.F a ∨ ∃ i, ow i = some a, H, wr im noOw, im⟩
theorem ns_in {a : Addr} (h : ns (inB B im ow H).F im noOw a) : ns B.F im ow a := by
  rcases h with (h | h) | h | ⟨i, h⟩
  · exact .inl h
  · exact .inr (.inr h)
  · exact .inr (.inl h)
  · cases h
theorem StRel.into (S : StRel g B im ow r M σ H) : StRel g (inB B im ow H) im noOw [] M [] H where
  len := rfl
  sl := fun i s e => by simp at e
  out := fun i _ => rfl
  inj := fun i j a h => by cases h
  sep := fun i a h => by cases h
  tr := fun i a h => by cases h
  mlen := S.mlen
  nd := S.nd
  mem := fun i m e => by
    obtain ⟨a, h1, h2⟩ := S.mem i m e
    exact ⟨a, h1, h2.less fun x => ns_in⟩
  imF := fun a h z => z.elim (S.imF a h) fun ⟨i, z⟩ => (S.sep i a z).1 h
  fr := fun a h => h.elim (S.fr a) fun ⟨i, z⟩ => S.tr i a z
  ext := Ext.refl
  pre := List.prefix_refl _
  tab := S.tab
  root := S.root.step (fun a o e t n => by
    obtain ⟨e1, n1⟩ := S.ext a o e t fun z => n (.inr z)
    exact ⟨e1, fun z => by
      rcases z with (z | z) | z | ⟨i, z⟩
      · exact n (.inl z)
      · exact n1 (.inr z)
      · exact n1 (.inl z)
      · cases z⟩) S.pre
theorem Ext.out (S : StRel g B im ow r M σ H) (S' : StRel g B2 im' noOw [] M' [] H') (hO : ∀ i a, ow i = some a → B2.F a) (x : Ext (wr im noOw) H (wr im' noOw) H') : Ext (wr im ow) H (wr im' ow) H' := fun a o h t n => by
  have n1 : ¬ wr im noOw a := fun z => by
    rcases z with z | ⟨i, z⟩
    · exact n (.inl z)
    · cases z
  obtain ⟨h1, n2⟩ := x a o h t n1
  refine ⟨h1, fun z => ?_⟩
  rcases z with z | ⟨i, z⟩
  · exact n2 (.inl z)
  · exact n (.inr ⟨i, z⟩)
theorem StRel.back (S : StRel g B im ow r M σ H) (S' : StRel g B2 im' noOw [] M' [] H') (x : Ext (wr im noOw) H (wr im' noOw) H') (q : im <+: im') (hF : ∀ a, B.F a → B2.F a) (hO : ∀ i a, ow i = some a → B2.F a) : StRel g B im' ow r M' σ H' := by
  have le : ∀ a, wr im noOw a → a ∈ im := fun a z => by
    rcases z with z | ⟨i, z⟩
    · exact z
    · cases z
  refine S.move (Ext.out S S' hO x) q S'.mlen S'.nd (fun a h z => S'.imF a h (hF a z)) (fun i b o h e => ?_) (fun i b h z => S'.imF b z (hO i b h)) (fun i m e => ?_) S'.tab
  · obtain ⟨u, e1, t⟩ := S.tr i b h
    rw [e1] at e
    cases e
    exact (x b _ e1 t fun z => (S.sep i b h).1 (le b z)).1
  · obtain ⟨a, h1, h2⟩ := S'.mem i m e
    refine ⟨a, h1, h2.less fun b z => ?_⟩
    rcases z with z | z | ⟨j, z⟩
    · exact .inl (hF b z)
    · exact .inr (.inl z)
    · exact .inl (hO j b z)
theorem Reps.into {vs : List V} {ds : List Dm} (h : Reps g (ns B.F im ow) im H vs ds) : Reps g (ns (inB B im ow H).F im noOw) im H vs ds := h.mono (Ext.refl.less fun x => ns_in) (List.prefix_refl _)
theorem le_out (hF : ∀ a, B.F a → B2.F a) (hO : ∀ i a, ow i = some a → B2.F a) : ∀ a, ns B.F im' ow a → ns B2.F im' noOw a := fun b z => by
  rcases z with z | z | ⟨j, z⟩
  · exact .inl (hF b z)
  · exact .inr (.inl z)
  · exact .inl (hO j b z)
/-- the callee's promise holds at the caller's state -/
theorem callD_le {W : WX} {n : Nat} {f : SF} {vs : List V} {ds : List Dm} {Q : VK} (S : StRel g B im ow r M σ H) (rs : Reps g (ns B.F im ow) im H vs ds) (hl : vs.length = n) (P : Post rlV g B W im ow r σ H (f ds M) Q) : spD g n f vs H Q (WE W σ) := by
  refine ⟨hl, inB B im ow H, im, M, ds, S.into, rs.into, ?_⟩
  have hF : ∀ a, B.F a → (inB B im ow H).F a := fun a h => .inl h
  have hO : ∀ i a, ow i = some a → (inB B im ow H).F a := fun i a h => .inr ⟨i, h⟩
  cases hq : f ds M with
  | ok d M' =>
    rw [hq] at P
    exact fun v im' H' S' e p' rr => P v im' H' (S.back S' e p' hF hO) (Ext.out S S' hO e) p' (rr.mono (Ext.refl.less (le_out hF hO)) (List.prefix_refl _))
  | ex C fs M' =>
    rw [hq] at P
    exact fun Ca dd xs im' H' S' e p' c hx nx rf => P Ca dd xs im' H' (S.back S' e p' hF hO) (Ext.out S S' hO e) p' c hx (fun x h z => nx x h (le_out hF hO x z)) (rf.mono (Ext.refl.less (le_out hF hO)) (List.prefix_refl _))
  | bad =>
    rw [hq] at P
    exact P.elim
/-- the same of a def that gives a new object -/
theorem callF_le {W : WX} {n : Nat} {f : SFm} {vs : List V} {ds : List Dm} {Q : VK} (S : StRel g B im ow r M σ H) (rs : Reps g (ns B.F im ow) im H vs ds) (hl : vs.length = n) (P : PostF g B W im ow r σ H (f ds M) Q) : spF g n f vs H Q (WE W σ) := by
  refine ⟨hl, inB B im ow H, im, M, ds, S.into, rs.into, ?_⟩
  have hF : ∀ a, B.F a → (inB B im ow H).F a := fun a h => .inl h
  have hO : ∀ i a, ow i = some a → (inB B im ow H).F a := fun i a h => .inr ⟨i, h⟩
  cases hq : f ds M with
  | ok m M' =>
    rw [hq] at P
    intro p im' H' N e p' fr
    have S' := N.st.minus
    have Sb := S.back S' e p' hF hO
    have xo := Ext.out S S' hO e
    have np : ¬ wr im' ow p := by
      rintro (z | ⟨i, z⟩)
      · exact N.nw (.inl z)
      · exact N.nF (.inr ⟨i, z⟩)
    have frp : Frh (wr im ow) H p := fun o eo t => by
      rcases fr o eo t with z | ⟨i, z⟩
      · exact .inl z
      · cases z
    have le2 : ∀ a, ns (B.plus p).F im' ow a → ns ((inB B im ow H).plus p).F im' noOw a := fun a z => by
      rcases z with (z | z) | z | ⟨i, z⟩
      · exact .inl (.inl (.inl z))
      · exact .inl (.inr z)
      · exact .inr (.inl z)
      · exact .inl (.inl (.inr ⟨i, z⟩))
    have xx : Ext (ns B.F im ow) H (ns (B.plus p).F im' ow) H' := fun b o eb tb nb => by
      obtain ⟨e2, n2⟩ := xo b o eb tb fun z => nb (.inr z)
      refine ⟨e2, fun z => ?_⟩
      rcases z with (z | z) | z
      · exact nb (.inl z)
      · subst z
        exact nb (.inr (frp o eb tb))
      · exact n2 z
    refine P p im' H' ⟨?_, np, fun z => N.nF (.inl z), N.ok.less le2⟩ xo p' frp
    refine ⟨Sb.len, fun j s ej => ?_, Sb.out, Sb.inj, fun i b h => ⟨(Sb.sep i b h).1, fun z => z.elim (Sb.sep i b h).2 fun z => np (.inr ⟨i, by rw [← z]; exact h⟩)⟩, Sb.tr, Sb.mlen, Sb.nd, fun j m' ej => ?_, fun a ha z => z.elim (Sb.imF a ha) fun z => np (.inl (by rw [← z]; exact ha)), fun a ha => ?_, Sb.ext, Sb.pre, Sb.tab, Sb.root.plusN N.st.root⟩
    · have h := S.sl j s ej
      cases s with
      | un => exact h
      | pin => exact h
      | val d =>
        obtain ⟨h1, y, h2, h3⟩ := h
        exact ⟨h1, y, h2, h3.mono xx p'⟩
      | own m' =>
        obtain ⟨b, h1, h2, h3⟩ := h
        refine ⟨b, h1, h2, h3.mono xx p' fun o eo to => (e b o eo to fun z => ?_).1⟩
        rcases z with z | ⟨i, z⟩
        · exact (S.sep j b h1).1 z
        · cases z
    · obtain ⟨a, h1, h2⟩ := N.st.mem j m' ej
      exact ⟨a, h1, h2.less le2⟩
    · rcases ha with ha | ha
      · exact Sb.fr a ha
      · rw [ha]
        obtain ⟨o, eo, po⟩ := N.ok.plain
        exact ⟨o, eo, po.1⟩
  | ex C fs M' =>
    rw [hq] at P
    exact fun Ca dd xs im' H' S' e p' c hx nx rf => P Ca dd xs im' H' (S.back S' e p' hF hO) (Ext.out S S' hO e) p' c hx (fun x h z => nx x h (le_out hF hO x z)) (rf.mono (Ext.refl.less (le_out hF hO)) (List.prefix_refl _))
  | bad =>
    rw [hq] at P
    exact P.elim
end
/-! ### a def's fact -/
structure DFn (P : Program) (w : World) (K : PySem.W.Frag) (mg : Str → Option Value) (base : Heap) (k : Nat) (f : Addr) (fd : FuncData) (ps : List Str) (sp : Sp) : Prop where
  run : ∀ (A : Around) (outer : List Env) (s : Shared) (H : Hp) (args : Args) (us : List Value) (vs : List V) (Q : VK) (E : XK), Room k A → A.guards = some [] → Env0 P w K mg base A outer s H → BindsTo s fd args (ps.zip us) → Vals vs us → vs.length = ps.length → sp vs H Q E →
    codeAny (model P w) A (.call (.ref f) args) (CR (L2N.CX P w) outer P w H s Q E) s
theorem DFn.mono {P : Program} {w : World} {K : PySem.W.Frag} {mg : Str → Option Value} {base : Heap} {j k : Nat} {f : Addr} {fd : FuncData} {ps : List Str} {sp : Sp} (F : DFn P w K mg base j f fd ps sp) (h : j ≤ k) : DFn P w K mg base k f fd ps sp :=
  ⟨fun A outer s H args us vs Q E hr => F.run A outer s H args us vs Q E (hr.mono h)⟩
/-- what holds of a body's context -/
structure Site (X : Cx) (k : Nat) : Prop where
  room : Room k X.A
  gu : X.A.guards = some []
theorem Site.mono {X : Cx} {j k : Nat} (s : Site X k) (h : j ≤ k) : Site X j := ⟨s.room.mono h, s.gu⟩
/-- .. for operators and built-ins -/
structure Ut (X : Cx) : Prop where
  un : X.A.units + 65 < cLine
  gu : X.A.guards = some []
theorem Site.ut {X : Cx} {k : Nat} (s : Site X k) : Ut X := ⟨by have := s.room.un; omega, s.gu⟩
abbrev cxD (P : Program) (w : World) (K : PySem.W.Frag) (mg : Str → Option Value) (base : Heap) (N : List Str) (qual : Str) (scope : Scope) (f : Addr) (cd : Value) (A : Around) (outer : List Env) (s : Shared) (H : Hp) (E : XK) : Cx := cxOf (L2N.CX P w) P w K mg base N qual scope f cd A outer s H E
/-- the frame is let go -/
theorem StRel.drop {g : Gm} {B : Bs} {im : List Addr} {ow : Ow} {r : Sl} {M : Mem} {σ : L2.St} {H : Hp} (S : StRel g B im ow r M σ H) : StRel g B im Dy.noOw [] M [] H ∧ ∀ a, ns B.F im Dy.noOw a → ns B.F im ow a := by
  have le : ∀ a, wr im Dy.noOw a → wr im ow a := fun a z => by
    rcases z with z | ⟨i, z⟩
    · exact .inl z
    · cases z
  refine ⟨⟨rfl, fun i s e => ?_, fun i _ => rfl, fun i j a h => ?_, fun i a h => ?_, fun i a h => ?_, S.mlen, S.nd, fun i m e => ?_, S.imF, S.fr, S.ext.less le, S.pre, S.tab, S.root⟩, ns_less le⟩
  · simp at e
  · cases h
  · cases h
  · cases h
  · obtain ⟨a, h1, h2⟩ := S.mem i m e
    exact ⟨a, h1, h2.less (ns_less le)⟩
/-- the parameters' slots -/
theorem StRel.enter {g : Gm} {B : Bs} {im : List Addr} {M : Mem} {H : Hp} {N : List Str} {n m : Nat} {vs : List V} {ds : List Dm} (S : StRel g B im Dy.noOw [] M [] H) (rs : Reps g (ns B.F im Dy.noOw) im H vs ds) (hn : vs.length = n) (hm : N.length = n + m) :
    StRel g ⟨B.F, H, wr im Dy.noOw, im⟩ im Dy.noOw (ds.map Slot.val ++ List.replicate m .un) M (L2.start N vs) H := by
  have ld := rs.length
  have es : L2.start N vs = vs.map some ++ List.replicate m none := by
    unfold L2.start
    rw [hm, hn]
    congr 2
    omega
  rw [es]
  refine ⟨by simp [ld], fun i s e => ?_, fun i _ => rfl, fun i j a h => ?_, fun i a h => ?_, fun i a h => ?_, S.mlen, S.nd, S.mem, S.imF, S.fr, Ext.refl, List.prefix_refl _, S.tab, S.root.now S.ext S.pre⟩
  · by_cases hi : i < ds.length
    · rw [List.getElem?_append_left (by simpa using hi), List.getElem?_map] at e
      cases hd : ds[i]? with
      | none =>
        rw [hd] at e
        cases e
      | some d =>
        rw [hd] at e
        cases e
        obtain ⟨x, h1, h2⟩ := rs.get hd
        refine ⟨rfl, x, ?_, h2⟩
        rw [List.getElem?_append_left (by simpa [ld] using hi), List.getElem?_map, h1]
        rfl
    · rw [List.getElem?_append_right (by simpa using hi), List.getElem?_replicate] at e
      split at e
      · cases e
        rfl
      · cases e
  · cases h
  · cases h
  · cases h
section
variable {g : Gm} {B : Bs} {im : List Addr} {M : Mem} {H : Hp} {E : XK} {Q : VK}
/-- the callee's tables: the frame begins here -/
def Tb.inn (T : Tb) (R : Bs) : Tb := ⟨T.tabs, T.codes, some R, T.hot, none⟩
theorem MoOk.cg {g : Gm} {T : Tb} (hh : g.T.hot = T.hot) {N : Av} {im : List Addr} {H : Hp} {a : Addr} : ∀ {m : MO}, MoOk g N im H a m → MoOk (g.to T) N im H a m
  | .lst ds, ⟨xs, h, e⟩ => ⟨xs, h, e.cg hh⟩
  | .dic ds, ⟨xs, h, e⟩ => ⟨xs, h, e.cg hh⟩
  | .ins C ds, ⟨Ca, dx, xs, c, h, e⟩ => ⟨Ca, dx, xs, c, h, e.cg hh⟩
theorem StRel.cg {g : Gm} {B : Bs} {im : List Addr} {ow : Ow} {r : Sl} {M : Mem} {σ : L2.St} {H : Hp} {T : Tb} (S : StRel g B im ow r M σ H) (hh : g.T.hot = T.hot) (ht : g.T.tabs = T.tabs) (hk : ∀ p ∈ T.codes, H p.1 = some (LamX.CodeO p.1 p.2)) (np : ∀ i : Nat, r[i]? ≠ some Slot.pin) (hr : RtOk T B) : StRel (g.to T) B im ow r M σ H where
  len := S.len
  sl := fun i s e => by
    have h := S.sl i s e
    cases s with
    | un => exact h
    | pin => exact absurd e (np i)
    | val d =>
      obtain ⟨h1, y, h2, h3⟩ := h
      exact ⟨h1, y, h2, h3.cg hh⟩
    | own m =>
      obtain ⟨b, h1, h2, h3⟩ := h
      exact ⟨b, h1, h2, h3.cg hh⟩
  out := S.out
  inj := S.inj
  sep := S.sep
  tr := S.tr
  mlen := S.mlen
  nd := S.nd
  mem := fun i m e => by
    obtain ⟨a, h1, h2⟩ := S.mem i m e
    exact ⟨a, h1, h2.cg hh⟩
  imF := S.imF
  fr := S.fr
  ext := S.ext
  pre := S.pre
  tab := by
    have z := S.tab.1
    rw [ht] at z
    exact ⟨z, hk⟩
  root := hr
theorem np_val {ds : List Dm} {m : Nat} : ∀ i : Nat, (ds.map Slot.val ++ List.replicate m .un)[i]? ≠ some Slot.pin := fun i e => by
  have h := List.mem_of_getElem? e
  rcases List.mem_append.mp h with h | h
  · obtain ⟨d, _, z⟩ := List.mem_map.mp h
    cases z
  · cases List.eq_of_mem_replicate h
theorem rt_self {T : Tb} (R : Bs) : RtOk (T.inn R) R := fun R' e => by
  cases e
  exact ⟨Ext.refl, List.prefix_refl _⟩
theorem np_nil : ∀ i : Nat, ([] : Sl)[i]? ≠ some Slot.pin := fun i e => by simp at e
theorem body_le {T : Tb} (hh : g.T.hot = T.hot) (ht : g.T.tabs = T.tabs) (hc : ∀ p ∈ g.T.codes, p ∈ T.codes) {m : Nat} {b : SS} {ds : List Dm} (S : StRel g B im Dy.noOw [] M [] H) (P : Post rlV g B (wE E) im Dy.noOw [] [] H (runB m b ds M) Q) :
    PostS (g.to T) ⟨B.F, H, wr im Dy.noOw, im⟩ (wE E) { nx := fun _ H' => Q .non H', rt := Q } (b (ds.map Slot.val ++ List.replicate m .un) M) := by
  have rt : RtOk g.T ⟨B.F, H, wr im Dy.noOw, im⟩ := S.root.now S.ext S.pre
  unfold runB at P
  cases hq : b (ds.map Slot.val ++ List.replicate m .un) M with
  | nx r M' =>
    rw [hq] at P
    intro im2 ow2 σ2 H2 S2
    have S3 : StRel g _ im2 Dy.noOw [] M' [] H2 := S2.drop.1.cg (T := g.T) hh.symm ht.symm (fun p hp => S2.tab.2 p (hc p hp)) np_nil rt
    exact P .non im2 H2 (S.base S3 (B1 := B)) S3.ext S3.pre .non
  | rt d M' =>
    rw [hq] at P
    intro v im2 ow2 r2 σ2 H2 S2 rr
    have S3 : StRel g _ im2 Dy.noOw [] M' [] H2 := S2.drop.1.cg (T := g.T) hh.symm ht.symm (fun p hp => S2.tab.2 p (hc p hp)) np_nil rt
    have rr' : Rep g _ im2 H2 v d := rr.cg (T := g.T) hh.symm
    exact P v im2 H2 (S.base S3 (B1 := B)) S3.ext S3.pre (rr'.less S2.drop.2)
  | ex r C fs M' =>
    rw [hq] at P
    intro Ca dd xs im2 ow2 σ2 H2 S2 c hx nx rf
    have S3 : StRel g _ im2 Dy.noOw [] M' [] H2 := S2.drop.1.cg (T := g.T) hh.symm ht.symm (fun p hp => S2.tab.2 p (hc p hp)) np_nil rt
    have rf' : RepF g _ im2 H2 xs fs := rf.cg (T := g.T) hh.symm
    exact P Ca dd xs im2 H2 (S.base S3 (B1 := B)) S3.ext S3.pre c hx (fun x h z => nx x h (S2.drop.2 x z)) (rf'.mono (Ext.refl.less S2.drop.2) (List.prefix_refl _))
  | _ =>
    rw [hq] at P
    exact P.elim
theorem bodyF_le {T : Tb} (hh : g.T.hot = T.hot) (ht : g.T.tabs = T.tabs) (hc : ∀ p ∈ g.T.codes, p ∈ T.codes) {m : Nat} {b : SS} {ds : List Dm} (S : StRel g B im Dy.noOw [] M [] H) (P : PostF g B (wE E) im Dy.noOw [] [] H (runF m b ds M) Q) :
    PostS (g.to T) ⟨B.F, H, wr im Dy.noOw, im⟩ (wE E) { nx := fun _ H' => Q .non H', rt := Q } (b (ds.map Slot.val ++ List.replicate m .un) M) := by
  have rt : RtOk g.T ⟨B.F, H, wr im Dy.noOw, im⟩ := S.root.now S.ext S.pre
  unfold runF at P
  cases hq : b (ds.map Slot.val ++ List.replicate m .un) M with
  | rf mo M' =>
    rw [hq] at P
    intro p im2 ow2 r2 σ2 H2 N fr
    have Nd := N.st.drop.1
    have rp : RtOk g.T (Bs.plus ⟨B.F, H, wr im Dy.noOw, im⟩ p) := fun R e => by
      obtain ⟨x, y⟩ := rt R e
      refine ⟨fun c o e1 tt n => ?_, y⟩
      obtain ⟨e2, n2⟩ := x c o e1 tt n
      refine ⟨e2, fun z => z.elim (fun z => z.elim (fun z => n2 (.inl z)) fun z => ?_) fun z => n2 (.inr z)⟩
      subst z
      exact n2 (.inr (fr o e2 tt))
    have S3 : StRel g _ im2 Dy.noOw [] M' [] H2 := N.st.drop.1.cg (T := g.T) hh.symm ht.symm (fun p hp => N.st.tab.2 p (hc p hp)) np_nil rp
    have S4 : StRel g (B.plus p) im2 Dy.noOw [] M' [] H2 := ⟨S3.len, S3.sl, S3.out, S3.inj, S3.sep, S3.tr, S3.mlen, S3.nd, S3.mem, S3.imF, S3.fr, S.ext.trans S3.ext, S.pre.trans S3.pre, S3.tab, S.root.plusN S3.root⟩
    have nw : ¬ wr im2 Dy.noOw p := fun z => by
      rcases z with z | ⟨i, z⟩
      · exact N.nw (.inl z)
      · cases z
    have ok : MoOk g _ im2 H2 p mo := N.ok.cg (T := g.T) hh.symm
    exact P p im2 H2 ⟨S4, nw, N.nF, ok.less N.st.drop.2⟩ S3.ext S3.pre fr
  | ex r C fs M' =>
    rw [hq] at P
    intro Ca dd xs im2 ow2 σ2 H2 S2 c hx nx rf
    have S3 : StRel g _ im2 Dy.noOw [] M' [] H2 := S2.drop.1.cg (T := g.T) hh.symm ht.symm (fun p hp => S2.tab.2 p (hc p hp)) np_nil rt
    have rf' : RepF g _ im2 H2 xs fs := rf.cg (T := g.T) hh.symm
    exact P Ca dd xs im2 H2 (S.base S3 (B1 := B)) S3.ext S3.pre c hx (fun x h z => nx x h (S2.drop.2 x z)) (rf'.mono (Ext.refl.less S2.drop.2) (List.prefix_refl _))
  | _ =>
    rw [hq] at P
    exact P.elim
end
section
variable {P : Program} {w : World} {K : PySem.W.Frag} {mg : Str → Option Value} {base : Heap} {T : Tb} {k : Nat} {f : Addr} {name qual : Str} {params : Arguments} {body : List Stmt} {scope : Scope} {dV kV doc pm cdv ct oc : Value} {an od : Option Addr}
    {osl : Array (Option Value)} {N ps : List Str} {n m : Nat} {b : SS}
/-- THE RULE of a def: its body's reading; n parameters, m names besides -/
theorem dfn_of (lk : K.lookup f = some ⟨oc, od, .func (PySem.W.fnOf name qual params body scope dV kV doc pm an cdv ct), osl⟩) (hcd : PySem.W.codeIn K cdv qual = true) (S : FnScope N ps scope) (hm : N.length = n + m)
    (hbody : ∀ (R : Bs) (A : Around) (outer : List Env) (s : Shared) (H : Hp) (E : XK), Site (cxD P w K mg base N qual scope f cdv A outer s H E) k → DB (cxD P w K mg base N qual scope f cdv A outer s H E) (T.inn R) (wE E) body b) :
    DFn P w K mg base (k + 1) f (PySem.W.fnOf name qual params body scope dV kV doc pm an cdv ct) ps (spD ⟨K, mg, T⟩ n (runB m b)) :=
  ⟨fun A outer s H args us vs Q E hr gu e0 hb rv hl ⟨hl2, B, im, M, ds, St, rs, Pq⟩ => LamX.run_ofS lk hcd S hr e0 hb rv hl fun hr2 => ⟨_, hbody ⟨B.F, H, wr im Dy.noOw, im⟩ A outer s H E ⟨hr2, gu⟩, _, im, _, _, M, (St.enter rs hl2 hm).cg rfl rfl St.tab.2 np_val (rt_self _), body_le (T := T.inn ⟨B.F, H, wr im Dy.noOw, im⟩) rfl rfl (fun _ h => h) St Pq⟩⟩
/-- a def that gives a new object -/
theorem dfn_ofF (lk : K.lookup f = some ⟨oc, od, .func (PySem.W.fnOf name qual params body scope dV kV doc pm an cdv ct), osl⟩) (hcd : PySem.W.codeIn K cdv qual = true) (S : FnScope N ps scope) (hm : N.length = n + m)
    (hbody : ∀ (R : Bs) (A : Around) (outer : List Env) (s : Shared) (H : Hp) (E : XK), Site (cxD P w K mg base N qual scope f cdv A outer s H E) k → DB (cxD P w K mg base N qual scope f cdv A outer s H E) (T.inn R) (wE E) body b) :
    DFn P w K mg base (k + 1) f (PySem.W.fnOf name qual params body scope dV kV doc pm an cdv ct) ps (spF ⟨K, mg, T⟩ n (runF m b)) :=
  ⟨fun A outer s H args us vs Q E hr gu e0 hb rv hl ⟨hl2, B, im, M, ds, St, rs, Pq⟩ => LamX.run_ofS lk hcd S hr e0 hb rv hl fun hr2 => ⟨_, hbody ⟨B.F, H, wr im Dy.noOw, im⟩ A outer s H E ⟨hr2, gu⟩, _, im, _, _, M, (St.enter rs hl2 hm).cg rfl rfl St.tab.2 np_val (rt_self _), bodyF_le (T := T.inn ⟨B.F, H, wr im Dy.noOw, im⟩) rfl rfl (fun _ h => h) St Pq⟩⟩
end
end Dy

/-! Dy10: arguments, binding, the calls. -/
namespace Dy
open PySem
open PySem.Spec
open L2

/-- the positional values, then the keywords' values -/
def tArgs (g : Gm) (W : WX) (fp fk : SE (List Dm)) (σ : St) (H : Hp) (Q : List V → List V → Hp → Prop) : Prop := tG rlVs g W fp σ H fun vs H1 => tG rlVs g W fk σ H1 fun zs H2 => Q vs zs H2
abbrev sNo : SE (List Dm) := fun _ M => .ok [] M
structure DArgs (X : Cx) (T : Tb) (W : WX) (es : List Expr) (kws : List Keyword) (pos : Pos) (ks : List Str) (fp fk : SE (List Dm)) : Prop where
  run : ∀ (fv : Value) (first : List Value) (pins : List (Addr × Obj)) (s : Shared) (σ : St) (H : Hp) (Q : List V → List V → Hp → Prop) (R : Value → Shared → Prop), PySem.W.keepIn X.K fv = true → Inv X pins σ H s → tArgs (gm X T) W fp fk σ H Q →
    (∀ (us ws : List Value) (vs zs : List V) (s2 : Shared) (H2 : Hp), Inv X pins σ H2 s2 → Vals vs us → Vals zs ws → Q vs zs H2 → wpAny (model X.prog X.w) X.A (call fv (first ++ us) (ks.zip ws)) R X.xe s2) →
    wpAny (model X.prog X.w) X.A (callWith pos fv first (backTo pos (starEach es X.env)) (backToKw pos (keywordEach kws X.env))) R X.xe s
abbrev DK (X : Cx) (T : Tb) (W : WX) (kws : List Keyword) (f : SE (List Dm)) : Prop := PK X kws (tA (gm X T) W f)
section
variable {X : Cx} {T : Tb} {W : WX} {e : Expr} {es : List Expr} {kws : List Keyword} {fa : SE Dm} {fp fk : SE (List Dm)} {pos : Pos}
theorem tG_empty {g : Gm} {σ : St} {H : Hp} {Q : List V → Hp → Prop} (h : tG rlVs g W sNo σ H Q) : Q [] H := by
  obtain ⟨B, im, ow, r, M, S, P⟩ := h
  exact P [] im H S Ext.refl (List.prefix_refl _) .nil
theorem args_pos (ha : DA X T W (e :: es) fp) (he : starEach (e :: es) X.env = (false, eval e X.env) :: starEach es X.env := by rfl) (hpl : (backTo pos (starEach es X.env)).any (·.1) = false := by rfl) : DArgs X T W (e :: es) [] pos [] fp sNo :=
  ⟨fun fv first pins s σ H Q R hk I h n => PySem.W.callWith_K (h₀ := X.base) I.ok.mod.kin hk (thn (ha.run pos pins s σ H _ I h) fun us s1 ⟨vs, H1, I1, r, q⟩ => ⟨I1.kIn, n us [] vs [] s1 H1 I1 r .nil (tG_empty q)⟩) he hpl⟩
theorem args_none : DArgs X T W [] [] pos [] sNo sNo :=
  ⟨fun fv first pins s σ H Q R hk I h n => PySem.W.callWith_K0 I.kIn hk (n [] [] [] [] s H I .nil .nil (tG_empty (tG_empty h)))⟩
theorem args_kw {ks : List Str} (ha : DA X T W (e :: es) fp) (hkw : DK X T W kws fk) (hall : (backToKw pos (keywordEach kws X.env)).all (·.1.isSome) = true := by rfl) (hks : (backToKw pos (keywordEach kws X.env)).filterMap (·.1) = ks := by rfl)
    (he : starEach (e :: es) X.env = (false, eval e X.env) :: starEach es X.env := by rfl) (hpl : ((backTo pos (starEach (e :: es) X.env)).any (·.1) || (backToKw pos (keywordEach kws X.env)).any (·.1.isNone)) = false := by rfl) : DArgs X T W (e :: es) kws pos ks fp fk :=
  ⟨fun fv first pins s σ H Q R hk I h n => PySem.W.callWith_KW (h₀ := X.base) I.ok.mod.kin hk hall (thn (ha.run pos pins s σ H _ I h) fun us s1 ⟨vs, H1, I1, r, q⟩ => thn (hkw.run pos pins s1 σ H1 _ I1 q) fun ws s2 ⟨zs, H2, I2, rz, q2⟩ => ⟨I2.kIn, by
    rw [hks]
    exact n us ws vs zs s2 H2 I2 r rz q2⟩) hpl he⟩
theorem args_kw0 {ks : List Str} (hkw : DK X T W kws fk) (hall : (backToKw pos (keywordEach kws X.env)).all (·.1.isSome) = true := by rfl) (hks : (backToKw pos (keywordEach kws X.env)).filterMap (·.1) = ks := by rfl)
    (hpl : ((backTo pos (starEach [] X.env)).any (·.1) || (backToKw pos (keywordEach kws X.env)).any (·.1.isNone)) = false := by rfl) : DArgs X T W [] kws pos ks sNo fk :=
  ⟨fun fv first pins s σ H Q R hk I h n => PySem.W.callWith_KW0 (h₀ := X.base) I.ok.mod.kin hk hall (thn (hkw.run pos pins s σ H _ I (tG_empty h)) fun ws s2 ⟨zs, H2, I2, rz, q2⟩ => ⟨I2.kIn, by
    rw [hks]
    exact n [] ws [] zs s2 H2 I2 .nil rz q2⟩) hpl⟩
theorem dk_nil : DK X T W [] sNo := ⟨fun pos pins s σ H Q I h => pk_nil.run pos pins s σ H Q I (tG_empty h)⟩
theorem dk_cons {nm : Option Str} {kpos : Pos} (ha : DE X T W e fa) (hr : DK X T W kws fk) : DK X T W (⟨nm, e, kpos⟩ :: kws) (sCons fa fk) :=
  ⟨fun pos pins s σ H Q I ⟨B, im, ow, r, M, S, P⟩ => (pk_cons ha hr).run pos pins s σ H Q I ⟨B, im, ow, r, M, S, Post.bind (rl := rlV) P fun d M1 v im1 H1 _ S1 E1 p1 r1 P1 =>
    ⟨B, im1, ow, r, M1, S1, Post.bind (rl := rlVs) P1 fun ds M2 vs im2 H2 _ S2 E2 p2 r2 P2 => P2.here S2 (.cons (r1.mono E2.ns p2) r2)⟩⟩⟩
end
/-! ### binding -/
/-- n values and the keywords ks bind the parameters ps as gD says -/
structure DBind (K : PySem.W.Frag) (fd : FuncData) (ps : List Str) (n : Nat) (ks : List Str) (gD : List Dm → List Dm → List Dm) : Prop where
  to : ∀ (g : Gm) (N : Av) (im : List Addr) (H : Hp) (s : Shared) (vs zs : List V) (us ws : List Value) (ds es : List Dm), g.K = K → K.In s.heap → Vals vs us → Vals zs ws → Reps g N im H vs ds → Reps g N im H zs es → vs.length = n → zs.length = ks.length →
    ∃ (xs : List V) (us' : List Value), BindsTo s fd ⟨us, ks.zip ws⟩ (ps.zip us') ∧ Vals xs us' ∧ xs.length = ps.length ∧ Reps g N im H xs (gD ds es)
/-- a reordering -/
structure Ord (n m l : Nat) (p : {α : Type} → List α → List α → List α) : Prop where
  vals : ∀ {vs zs : List V} {us ws : List Value}, Vals vs us → Vals zs ws → Vals (p vs zs) (p us ws)
  reps : ∀ {g : Gm} {N : Av} {im : List Addr} {H : Hp} {vs zs : List V} {ds es : List Dm}, Reps g N im H vs ds → Reps g N im H zs es → Reps g N im H (p vs zs) (p ds es)
  len : ∀ {vs zs : List V}, vs.length = n → zs.length = m → (p vs zs).length = l
section
variable {K : PySem.W.Frag} {x qual : Str} {params : Arguments} {body : List Stmt} {scope : Scope} {dvs : List V} {kws : List (Str × V)} {f : Addr} {fd : FuncData} {ps : List Str}
/-- no defaults; the positional values in order -/
theorem bind_pos (F : FunD K x qual params body scope [] kws f fd) {n : Nat} (hn : ps.length = n) (h : ∀ (kV doc pm : Value) (an : Option Addr) (cdv ct : Value) (us : List Value), us.length = n → bindArgs (PySem.W.fnOf x qual params body scope .none kV doc pm an cdv ct) ⟨us, []⟩ = pure (ps.zip us)) :
    DBind K fd ps n [] (fun ds _ => ds) := by
  obtain ⟨oc, od, dV, kV, doc, pm, an, cdv, ct, osl, rfl, lk, hcd, hD, hK⟩ := F.ex
  rcases hD with ⟨_, rfl⟩ | ⟨e, _⟩
  · exact ⟨fun g N im H s vs zs us ws ds es _ KI rv rz rd re lv lz => ⟨vs, us, .of_eq (h kV doc pm an cdv ct us (rv.length.symm.trans lv)), rv, lv.trans hn.symm, rd⟩⟩
  · exact absurd rfl e
/-- no defaults; keywords among them -/
theorem bind_kw (F : FunD K x qual params body scope [] kws f fd) {n : Nat} {ks : List Str} {p : {α : Type} → List α → List α → List α} (o : Ord n ks.length ps.length p)
    (h : ∀ (kV doc pm : Value) (an : Option Addr) (cdv ct : Value) (us ws : List Value), us.length = n → ws.length = ks.length → bindArgs (PySem.W.fnOf x qual params body scope .none kV doc pm an cdv ct) ⟨us, ks.zip ws⟩ = pure (ps.zip (p us ws))) :
    DBind K fd ps n ks (fun ds es => p ds es) := by
  obtain ⟨oc, od, dV, kV, doc, pm, an, cdv, ct, osl, rfl, lk, hcd, hD, hK⟩ := F.ex
  rcases hD with ⟨_, rfl⟩ | ⟨e, _⟩
  · exact ⟨fun g N im H s vs zs us ws ds es _ KI rv rz rd re lv lz => ⟨p vs zs, p us ws, .of_eq (h kV doc pm an cdv ct us ws (rv.length.symm.trans lv) (rz.length.symm.trans lz)), o.vals rv rz, o.len lv lz, o.reps rd re⟩⟩
  · exact absurd rfl e
/-- what a default is as a datum -/
def DflD (dvs : List V) (dds : List Dm) : Prop := ∀ (g : Gm) (N : Av) (im : List Addr) (H : Hp), Reps g N im H dvs dds
/-- defaults fill up behind n values; the first j of them are not used -/
theorem bind_dfl (F : FunD K x qual params body scope dvs kws f fd) {n j : Nat} {dds : List Dm} (hd : dvs ≠ []) (hq : DflD dvs dds) (hn : n + (dvs.length - j) = ps.length)
    (h : ∀ (T : Addr) (kV doc pm : Value) (an : Option Addr) (cdv ct : Value) (us its : List Value), us.length = n → its.length = dvs.length →
      ∃ k, bindArgs (PySem.W.fnOf x qual params body scope (.ref T) kV doc pm an cdv ct) ⟨us, []⟩ = seqItems? (.ref T) >>= k ∧ k (some its.toArray) = pure (ps.zip (us ++ its.drop j))) : DBind K fd ps n [] (fun ds _ => ds ++ dds.drop j) := by
  obtain ⟨ds, rv, hb⟩ := F.binds1 (ps := ps) n j hd hn h
  refine ⟨fun g N im H s vs zs us ws es _ _ KI ru _ rd _ lv _ => ⟨vs ++ dvs.drop j, us ++ ds, ?_, ru.append rv, by rw [List.length_append, List.length_drop, lv, hn], rd.append ((hq g N im H).drop j)⟩⟩
  exact hb s us KI (by rw [List.length_append, ← ru.length, ← rv.length, List.length_drop, lv, hn])
/-- defaults and keywords -/
theorem bind_kwd (F : FunD K x qual params body scope dvs kws f fd) {n : Nat} {ks : List Str} {dds : List Dm} (p : {α : Type} → List α → List α → List α → List α) (hd : dvs ≠ []) (hq : DflD dvs dds)
    (hrel : ∀ {vs ds zs : List V} {us its ws : List Value}, Vals vs us → Vals ds its → Vals zs ws → Vals (p vs ds zs) (p us its ws))
    (hrep : ∀ {g : Gm} {N : Av} {im : List Addr} {H : Hp} {vs zs : List V} {ds es : List Dm}, Reps g N im H vs ds → Reps g N im H zs es → Reps g N im H (p vs dvs zs) (p ds dds es))
    (hlen : ∀ {vs zs : List V}, vs.length = n → zs.length = ks.length → (p vs dvs zs).length = ps.length)
    (h : ∀ (T : Addr) (kV doc pm : Value) (an : Option Addr) (cdv ct : Value) (us its ws : List Value), us.length = n → its.length = dvs.length → ws.length = ks.length →
      ∃ k, bindArgs (PySem.W.fnOf x qual params body scope (.ref T) kV doc pm an cdv ct) ⟨us, ks.zip ws⟩ = seqItems? (.ref T) >>= k ∧ k (some its.toArray) = pure (ps.zip (p us its ws))) : DBind K fd ps n ks (fun ds es => p ds dds es) := by
  obtain ⟨its, hb⟩ := F.kbindsD (ps := ps) n ks p hd hrel h
  exact ⟨fun g N im H s vs zs us ws ds es _ KI ru rz rd re lv lz => ⟨p vs dvs zs, p us its ws, hb.to s us ws KI (ru.length.symm.trans lv) (rz.length.symm.trans lz), hb.rel ru rz, hlen lv lz, hrep rd re⟩⟩
end
/-! ### f(..) -/
def sCallD (fp fk : SE (List Dm)) (n m : Nat) (gD : List Dm → List Dm → List Dm) (f : SF) : SE Dm := fun r M => (fp r M).bind fun ds M1 => (fk r M1).bind fun es M2 => if ds.length = n ∧ es.length = m then f (gD ds es) M2 else .bad
def sCallF (fp fk : SE (List Dm)) (n m : Nat) (gD : List Dm → List Dm → List Dm) (f : SFm) : SE MO := fun r M => (fp r M).bind fun ds M1 => (fk r M1).bind fun es M2 => if ds.length = n ∧ es.length = m then f (gD ds es) M2 else .bad
section
variable {X : Cx} {T : Tb} {W : WX} {es : List Expr} {kws : List Keyword} {fp fk : SE (List Dm)} {pos p : Pos} {k n m np : Nat} {ks ps : List Str} {f : Addr} {fd : FuncData} {x : Str} {gD : List Dm → List Dm → List Dm}
/-- the callee runs: what it wants is had at the bound values -/
theorem run_d {sp : Sp} {pins : List (Addr × Obj)} {σ : St} {H : Hp} {s : Shared} {Q : VK} {args : Args} {us : List Value} {vs : List V} (F : DFn X.prog X.w X.K X.mg X.base k f fd ps sp) (site : Site X k) (tk : L2N.Takes X W) (I : Inv X pins σ H s)
    (b : BindsTo s fd args (ps.zip us)) (r : Vals vs us) (hl : vs.length = ps.length) (h : sp vs H Q (WE W σ)) : codeAny (model X.prog X.w) X.A (.call (.ref f) args) (fun r s' => match r with
      | .ok (.ret u) => EP X pins σ Q u s'
      | .ok _ => False
      | .error e => X.xe e s') s :=
  codeAny_mono (F.run X.A X.stack s H args us vs Q (WE W σ) site.room site.gu I.env0 b r hl h) fun r s' hq => by
    cases r with
    | error e => exact L2N.passAt tk σ pins H s e s' I hq
    | ok fl =>
      cases fl with
      | ret u => exact I.after hq
      | next => exact False.elim hq
      | brk => exact False.elim hq
      | cont => exact False.elim hq
/-- the arguments are had, then the promise at the state behind them -/
theorem tArgs_of {α : Type} {g : Gm} {B : Bs} {im : List Addr} {ow : Ow} {r : Sl} {M : Mem} {σ : St} {H : Hp} {Q : VK} {q : List Dm → List Dm → Mem → R Dm} {N : List V → List V → Hp → Prop} (S : StRel g B im ow r M σ H)
    (P : Post rlV g B W im ow r σ H ((fp r M).bind fun ds M1 => (fk r M1).bind fun es M2 => if ds.length = n ∧ es.length = m then q ds es M2 else .bad) Q)
    (h : ∀ vs zs ds es im2 M2 H2, StRel g B im2 ow r M2 σ H2 → Ext (wr im ow) H (wr im2 ow) H2 → im <+: im2 → Reps g (ns B.F im2 ow) im2 H2 vs ds → Reps g (ns B.F im2 ow) im2 H2 zs es → vs.length = n → zs.length = m → Post rlV g B W im2 ow r σ H2 (q ds es M2) Q → N vs zs H2) : tArgs g W fp fk σ H N :=
  ⟨B, im, ow, r, M, S, Post.bind (rl := rlVs) P fun ds M1 vs im1 H1 _ S1 E1 p1 r1 P1 => ⟨B, im1, ow, r, M1, S1, Post.bind (rl := rlVs) P1 fun es M2 zs im2 H2 _ S2 E2 p2 r2 P2 => by
    split at P2
    · rename_i hl
      exact h vs zs ds es im2 M2 H2 S2 (E1.trans E2) (p1.trans p2) (Reps.mono E2.ns p2 r1) r2 ((Reps.length r1).trans hl.1) ((Reps.length r2).trans hl.2) P2
    · exact P2.elim⟩⟩
theorem tArgs_ofF {α : Type} {g : Gm} {B : Bs} {im : List Addr} {ow : Ow} {r : Sl} {M : Mem} {σ : St} {H : Hp} {Q : VK} {q : List Dm → List Dm → Mem → R MO} {N : List V → List V → Hp → Prop} (S : StRel g B im ow r M σ H)
    (P : PostF g B W im ow r σ H ((fp r M).bind fun ds M1 => (fk r M1).bind fun es M2 => if ds.length = n ∧ es.length = m then q ds es M2 else .bad) Q)
    (h : ∀ vs zs ds es im2 M2 H2, StRel g B im2 ow r M2 σ H2 → Ext (wr im ow) H (wr im2 ow) H2 → im <+: im2 → Reps g (ns B.F im2 ow) im2 H2 vs ds → Reps g (ns B.F im2 ow) im2 H2 zs es → vs.length = n → zs.length = m → PostF g B W im2 ow r σ H2 (q ds es M2) Q → N vs zs H2) : tArgs g W fp fk σ H N :=
  ⟨B, im, ow, r, M, S, PostF.bind (rl := rlVs) P fun ds M1 vs im1 H1 _ S1 E1 p1 r1 P1 => ⟨B, im1, ow, r, M1, S1, PostF.bind (rl := rlVs) P1 fun es M2 zs im2 H2 _ S2 E2 p2 r2 P2 => by
    split at P2
    · rename_i hl
      exact h vs zs ds es im2 M2 H2 S2 (E1.trans E2) (p1.trans p2) (Reps.mono E2.ns p2 r1) r2 ((Reps.length r1).trans hl.1) ((Reps.length r2).trans hl.2) P2
    · exact P2.elim⟩⟩
theorem de_call {h : SF} (A : DArgs X T W es kws pos ks fp fk) (F : DFn X.prog X.w X.K X.mg X.base k f fd ps (spD (gm X T) np h)) (b : DBind X.K fd ps n ks gD) (hnp : ps.length = np) (site : Site X k) (tk : L2N.Takes X W) (hg : Gl X x) (hm : X.mg x = some (.ref f)) (hk : PySem.W.keepIn X.K (.ref f) = true)
    (hdb : (x == ("__debug__" : Str)) = false := by decide) (hks : ks.length = m := by rfl) : DE X T W (.Call (.Name x p) es kws pos) (sCallD fp fk n m gD h) := by
  subst hks
  exact
  ⟨fun pins s σ H Q I ⟨B, im, ow, r, M, S, P⟩ => wpAny_Call_Name_kw (ld_glob I hg hm (A.run (.ref f) [] pins s σ H
    (fun vs zs H2 => ∀ (s2 : Shared) (us ws : List Value), X.K.In s2.heap → Vals vs us → Vals zs ws → ∃ (xs : List V) (us' : List Value), BindsTo s2 fd ⟨us, ks.zip ws⟩ (ps.zip us') ∧ Vals xs us' ∧ xs.length = ps.length ∧ spD (gm X T) np h xs H2 Q (WE W σ)) _ hk I
    (tArgs_of (α := Unit) S P fun vs zs ds es im2 M2 H2 S2 E2 p2 rd re lv lz P2 s2 us ws KI rv rz => by
      obtain ⟨xs, us', b1, b2, b3, b4⟩ := b.to (gm X T) _ _ _ s2 vs zs us ws ds es rfl KI rv rz rd re lv lz
      exact ⟨xs, us', b1, b2, b3, callD_le S2 b4 (b3.trans hnp) P2⟩)
    fun us ws vs zs s2 H2 I2 rv rz q => by
      obtain ⟨xs, us', b1, b2, b3, b4⟩ := q s2 us ws I2.kIn rv rz
      exact wpAny_call (codeAny_mono (run_d F site tk I2 b1 b2 b3 b4) fun r s' hq => by
        cases r with
        | error e => exact hq
        | ok fl =>
          cases fl with
          | ret u => exact hq
          | next => exact False.elim hq
          | brk => exact False.elim hq
          | cont => exact False.elim hq)) hdb)⟩
theorem df_call {h : SFm} (A : DArgs X T W es kws pos ks fp fk) (F : DFn X.prog X.w X.K X.mg X.base k f fd ps (spF (gm X T) np h)) (b : DBind X.K fd ps n ks gD) (hnp : ps.length = np) (site : Site X k) (tk : L2N.Takes X W) (hg : Gl X x) (hm : X.mg x = some (.ref f)) (hk : PySem.W.keepIn X.K (.ref f) = true)
    (hdb : (x == ("__debug__" : Str)) = false := by decide) (hks : ks.length = m := by rfl) : DF X T W (.Call (.Name x p) es kws pos) (sCallF fp fk n m gD h) := by
  subst hks
  exact
  ⟨fun pins s σ H Q I ⟨B, im, ow, r, M, S, P⟩ => wpAny_Call_Name_kw (ld_glob I hg hm (A.run (.ref f) [] pins s σ H
    (fun vs zs H2 => ∀ (s2 : Shared) (us ws : List Value), X.K.In s2.heap → Vals vs us → Vals zs ws → ∃ (xs : List V) (us' : List Value), BindsTo s2 fd ⟨us, ks.zip ws⟩ (ps.zip us') ∧ Vals xs us' ∧ xs.length = ps.length ∧ spF (gm X T) np h xs H2 Q (WE W σ)) _ hk I
    (tArgs_ofF (α := Unit) S P fun vs zs ds es im2 M2 H2 S2 E2 p2 rd re lv lz P2 s2 us ws KI rv rz => by
      obtain ⟨xs, us', b1, b2, b3, b4⟩ := b.to (gm X T) _ _ _ s2 vs zs us ws ds es rfl KI rv rz rd re lv lz
      exact ⟨xs, us', b1, b2, b3, callF_le S2 b4 (b3.trans hnp) P2⟩)
    fun us ws vs zs s2 H2 I2 rv rz q => by
      obtain ⟨xs, us', b1, b2, b3, b4⟩ := q s2 us ws I2.kIn rv rz
      exact wpAny_call (codeAny_mono (run_d F site tk I2 b1 b2 b3 b4) fun r s' hq => by
        cases r with
        | error e => exact hq
        | ok fl =>
          cases fl with
          | ret u => exact hq
          | next => exact False.elim hq
          | brk => exact False.elim hq
          | cont => exact False.elim hq)) hdb)⟩
end
end Dy

/-! Dy11: instances: their fields, their methods, their making; what names no object of the memory. -/
namespace Dy
open PySem
open PySem.Spec
open L2

/-! ### data that name no object of the memory -/
def nr : Nat → Dm → Bool
  | 0, _ => false
  | n + 1, .tup ds => ds.all (nr n)
  | n + 1, .lst ds => ds.all (nr n)
  | n + 1, .frl ds => ds.all (nr n)
  | n + 1, .dic ds => ds.all fun p => nr n p.2
  | n + 1, .obj _ ds => ds.all fun p => nr n p.2
  | n + 1, .exc _ ds => ds.all fun p => nr n p.2
  | n + 1, .hot _ ds => ds.all fun p => nr n p.2
  | _ + 1, .ref _ => false
  | _ + 1, _ => true
abbrev nrN : Nat := 12
section
variable {g : Gm} {N : Av} {im : List Addr} {H : Hp} (im2 : List Addr)
mutual
theorem Rep.nr : ∀ (n : Nat) {v : V} {d : Dm}, Rep g N im H v d → Dy.nr n d = true → Rep g N im2 H v d
  | 0, _, _, _, h => (by cases h)
  | n + 1, _, _, .non, _ => .non
  | n + 1, _, _, .bl b, _ => .bl b
  | n + 1, _, _, .int i, _ => .int i
  | n + 1, _, _, .str i, _ => .str i
  | n + 1, _, _, .tup s r, h => .tup s (Reps.nr n r h)
  | n + 1, _, _, .lst s k r, h => .lst s k (Reps.nr n r h)
  | n + 1, _, _, .frl s r, h => .frl s (Reps.nr n r h)
  | n + 1, _, _, .dic s k r, h => .dic s k (RepK.nr n r h)
  | n + 1, _, _, .obj c s k r, h => .obj c s k (RepF.nr n r h)
  | n + 1, _, _, .exc c s k e ne r, h => .exc c s k e ne (RepF.nr n r h)
  | n + 1, _, _, .ref k, h => (by cases h)
  | n + 1, _, _, .glo a b, _ => .glo a b
  | n + 1, _, _, .ty s, _ => .ty s
  | n + 1, _, _, .hot c s e ne r, h => .hot c s e ne (RepF.nr n r h)
theorem Reps.nr : ∀ (n : Nat) {v : List V} {d : List Dm}, Reps g N im H v d → d.all (Dy.nr n) = true → Reps g N im2 H v d
  | _, _, _, .nil, _ => .nil
  | n, _, _, .cons a r, h => (by
    rw [List.all_cons, Bool.and_eq_true] at h
    exact .cons (Rep.nr n a h.1) (Reps.nr n r h.2))
theorem RepK.nr : ∀ (n : Nat) {v : List (Key × V)} {d : List (Key × Dm)}, RepK g N im H v d → (d.all fun p => Dy.nr n p.2) = true → RepK g N im2 H v d
  | _, _, _, .nil, _ => .nil
  | n, _, _, .cons a r, h => (by
    rw [List.all_cons, Bool.and_eq_true] at h
    exact .cons (Rep.nr n a h.1) (RepK.nr n r h.2))
theorem RepF.nr : ∀ (n : Nat) {v : List (Str × V)} {d : List (Str × Dm)}, RepF g N im H v d → (d.all fun p => Dy.nr n p.2) = true → RepF g N im2 H v d
  | _, _, _, .nil, _ => .nil
  | n, _, _, .cons a r, h => (by
    rw [List.all_cons, Bool.and_eq_true] at h
    exact .cons (Rep.nr n a h.1) (RepF.nr n r h.2))
end
end
theorem RepF.lookup {g : Gm} {N : Av} {im : List Addr} {H : Hp} {f : Str} : ∀ {xs : List (Str × V)} {ds : List (Str × Dm)}, RepF g N im H xs ds → (∀ d, ds.lookup f = some d → ∃ v, xs.lookup f = some v ∧ Rep g N im H v d) ∧ (ds.lookup f = none → xs.lookup f = none)
  | _, _, .nil => ⟨fun d h => (by cases h), fun _ => rfl⟩
  | _, _, .cons (k := k) (v := v) (d := d) a r => by
    obtain ⟨h1, h2⟩ := RepF.lookup (f := f) r
    by_cases e : (f == k) = true
    · refine ⟨fun d' h => ?_, fun h => ?_⟩
      · rw [List.lookup_cons, e] at h
        cases h
        exact ⟨v, by rw [List.lookup_cons, e], a⟩
      · rw [List.lookup_cons, e] at h
        cases h
    · have e' : (f == k) = false := by simpa using e
      refine ⟨fun d' h => ?_, fun h => ?_⟩
      · rw [List.lookup_cons, e'] at h
        obtain ⟨w, q1, q2⟩ := h1 d' h
        exact ⟨w, by rw [List.lookup_cons, e']; exact q1, q2⟩
      · rw [List.lookup_cons, e'] at h
        rw [List.lookup_cons, e']
        exact h2 h
/-! ### instances -/
def insOf (d : Dm) (M : Mem) : Option (Str × List (Str × Dm)) := match d with
  | .obj C fs => some (C, fs)
  | .ref i => match M[i]? with
    | some (.ins C fs) => some (C, fs)
    | _ => none
  | _ => none
theorem ins_of {g : Gm} {B : Bs} {im : List Addr} {ow : Ow} {r : Sl} {M : Mem} {σ : St} {H : Hp} {v : V} {d : Dm} {C : Str} {fs : List (Str × Dm)} (S : StRel g B im ow r M σ H) (q : Rep g (ns B.F im ow) im H v d) (h : insOf d M = some (C, fs)) :
    ∃ a Ca dx xs, v = .ref a ∧ g.mg C = some (.ref Ca) ∧ H a = some (.ins Ca dx xs) ∧ RepF g (ns B.F im ow) im H xs fs := by
  cases q with
  | obj c e n rf =>
    cases h
    exact ⟨_, _, _, _, rfl, c, e, rf⟩
  | @ref i a hi =>
    unfold insOf at h
    cases hm : M[i]? with
    | none => simp [hm] at h
    | some m =>
      cases m with
      | ins C' fs' =>
        simp only [hm, Option.some.injEq, Prod.mk.injEq] at h
        obtain ⟨h1, h2⟩ := h
        subst h1 h2
        obtain ⟨a', k1, Ca, dx, xs, k2, k3, k4⟩ := S.mem i _ hm
        rw [hi] at k1
        cases k1
        exact ⟨_, _, _, _, rfl, k2, k3, k4⟩
      | _ => simp [hm] at h
  | _ => cases h
/-- the classes whose field is read -/
def FldOk (K : PySem.W.Frag) (mg : Str → Option Value) (cl : List Str) (f : Str) : Prop := ∀ C ∈ cl, ∀ Ca, mg C = some (.ref Ca) → Cls K Ca ∧ NoAttr K Ca f
def oFld (cl : List Str) (f : Str) : Dm → Mem → R Dm := fun d M => match insOf d M with
  | some (C, fs) => if C ∈ cl then match fs.lookup f with
    | some x => .ok x M
    | none => .bad else .bad
  | none => .bad
def sFld (cl : List Str) (f : Str) (fo : SE Dm) : SE Dm := fun r M => (fo r M).bind (oFld cl f)
section
variable {X : Cx} {T : Tb} {W : WX} {e o : Expr} {es : List Expr} {kws : List Keyword} {fo fv : SE Dm} {fp fk : SE (List Dm)} {pos pos' p apos : Pos} {k n mk np : Nat} {ks ps : List Str} {fa C : Addr} {fd : FuncData} {x m f Cn : Str} {gD : List Dm → List Dm → List Dm} {cl : List Str}
theorem de_fld (ho : DE X T W o fo) (hc : FldOk X.K X.mg cl f) (hb : attributeBase o f X.env (eval o X.env) = eval o X.env := by rfl) : DE X T W (.Attribute o f pos) (sFld cl f fo) :=
  pe_le (pe_fld ho hb) fun σ H Q ⟨B, im, ow, r, M, S, P⟩ => ⟨B, im, ow, r, M, S, Post.bind (rl := rlV) P fun d M1 v im1 H1 _ S1 E1 p1 r1 P1 => by
    unfold oFld at P1
    cases hi : insOf d M1 with
    | none =>
      rw [hi] at P1
      exact P1.elim
    | some q =>
      obtain ⟨C, fs⟩ := q
      rw [hi] at P1
      dsimp only at P1
      split at P1
      · rename_i hC
        obtain ⟨a, Ca, dx, xs, e1, e2, e3, e4⟩ := ins_of S1 r1 hi
        obtain ⟨c1, c2⟩ := hc C hC Ca e2
        cases hl : fs.lookup f with
        | none =>
          rw [hl] at P1
          exact P1.elim
        | some y =>
          rw [hl] at P1
          obtain ⟨w, l1, l2⟩ := e4.lookup.1 y hl
          exact ⟨a, Ca, dx, xs, w, e1, e3, c1, c2, l1, P1.here S1 l2⟩
      · exact P1.elim⟩
/-! ### o.m(..) -/
def sMeth (Cn m : Str) (fo : SE Dm) (fp fk : SE (List Dm)) (n k : Nat) (gD : List Dm → List Dm → List Dm) (h : SF) : SE Dm := fun r M => (fo r M).bind fun d M1 => match insOf d M1 with
  | some (C, fs) => if C = Cn ∧ fs.lookup m = none then (fp r M1).bind fun ds M2 => (fk r M2).bind fun es M3 => if ds.length = n ∧ es.length = k then h (gD (d :: ds) es) M3 else .bad else .bad
  | none => .bad
theorem de_meth {pl : Sem Bool} {h : SF} (ho : DE X T W o fo) (A : DArgs X T W es kws pos ks fp fk) (c : Cls X.K C) (hm : Meth X.K C m fa) (F : DFn X.prog X.w X.K X.mg X.base k fa fd ps (spD (gm X T) np h)) (b : DBind X.K fd ps (n + 1) ks gD) (hnp : ps.length = np) (site : Site X k) (tk : L2N.Takes X W) (hC : X.mg Cn = some (.ref C))
    (ht : eval (.Call (.Attribute o m apos) es kws pos) X.env = (do
      let ov ← eval o X.env
      standAt apos.atName
      let (f, first) ← holding [ov] (getMethod ov m pl)
      callWith pos f first (backTo pos (starEach es X.env)) (backToKw pos (keywordEach kws X.env))) := by rfl) (hks : ks.length = mk := by rfl) : DE X T W (.Call (.Attribute o m apos) es kws pos) (sMeth Cn m fo fp fk n mk gD h) := by
  subst hks
  exact
  ⟨fun pins s σ H Q I ⟨B, im, ow, r, M, S, P⟩ => by
    refine PySem.W.methodCall_KW (pl := pl) (thn (ho.run pins s σ H (fun v H1 => ∃ a dx xs, v = .ref a ∧ H1 a = some (.ins C dx xs) ∧ xs.lookup m = none ∧ tArgs (gm X T) W fp fk σ H1 fun vs zs H2 =>
      ∀ (s2 : Shared) (us ws : List Value), X.K.In s2.heap → Vals vs us → Vals zs ws → ∃ (ys : List V) (us' : List Value), BindsTo s2 fd ⟨.ref a :: us, ks.zip ws⟩ (ps.zip us') ∧ Vals ys us' ∧ ys.length = ps.length ∧ spD (gm X T) np h ys H2 Q (WE W σ)) I
      ⟨B, im, ow, r, M, S, Post.bind (rl := rlV) P fun d M1 v im1 H1 _ S1 E1 p1 r1 P1 => ?_⟩) fun u s1 ⟨v, H1, I1, rv, a, dx, xs, e1, e2, e3, q⟩ => ?_) ht
    · cases hi : insOf d M1 with
      | none =>
        simp only [hi] at P1
        exact P1.elim
      | some q =>
        obtain ⟨C', fs⟩ := q
        simp only [hi] at P1
        split at P1
        · rename_i hcc
          obtain ⟨h1, h2⟩ := hcc
          subst h1
          obtain ⟨a, Ca, dx, xs, e1, e2, e3, e4⟩ := ins_of S1 r1 hi
          have eC : Ca = C := by
            have z : X.mg C' = some (.ref Ca) := e2
            rw [hC] at z
            cases z
            rfl
          subst eC
          refine ⟨a, dx, xs, e1, e3, e4.lookup.2 h2, tArgs_of (α := Unit) S1 P1 fun vs zs ds es im2 M2 H2 S2 E2 p2 rd re lv lz P2 s2 us ws KI rv rz => ?_⟩
          have r2 := Rep.mono E2.ns p2 r1
          rw [e1] at r2
          obtain ⟨ys, us', b1, b2, b3, b4⟩ := b.to (gm X T) _ _ _ s2 (.ref a :: vs) zs (.ref a :: us) ws (d :: ds) es rfl KI (.cons rfl rv) rz (.cons r2 rd) re (by rw [List.length_cons, lv]) lz
          exact ⟨ys, us', b1, b2, b3, callD_le S2 b4 (b3.trans hnp) P2⟩
        · exact P1.elim
    · subst e1
      obtain rfl : u = Value.ref a := rv
      refine getmeth_ok I1 e2 c hm e3 ?_
      refine A.run (.ref fa) [.ref a] pins s1 σ H1 _ _ hm.kp I1 q fun us ws vs zs s2 H2 I2 rv rz q => ?_
      obtain ⟨xs, us', b1, b2, b3, b4⟩ := q s2 us ws I2.kIn rv rz
      exact wpAny_call (codeAny_mono (run_d F site tk I2 b1 b2 b3 b4) fun r s' hq => by
        cases r with
        | error e => exact hq
        | ok fl =>
          cases fl with
          | ret u => exact hq
          | next => exact False.elim hq
          | brk => exact False.elim hq
          | cont => exact False.elim hq)⟩
end
end Dy

/-! Dy12: new instances; objects that enter the memory; their fields set; isinstance. -/
namespace Dy
open PySem
open PySem.Spec
open L2

section
variable {g : Gm} {B : Bs} {im : List Addr} {ow : Ow} {r : Sl} {M : Mem} {σ : St} {H H' : Hp} {p : Addr}
/-- all that stood stands; p is forbidden besides -/
theorem StRel.kept (S : StRel g B im ow r M σ H) (hk : ∀ a o, H a = some o → (∀ ps, o ≠ .tbl ps) → H' a = some o) (ht : TabsC g.T H') (hp : H p = none) (hp' : ∃ o, H' p = some o ∧ ∀ ps, o ≠ .tbl ps) : StRel g (B.plus p) im ow r M σ H' := by
  have x : Ext (ns B.F im ow) H (ns (B.plus p).F im ow) H' := fun b u e t n => ⟨hk b u e t, fun z => by
    rcases z with (z | z) | z
    · exact n (.inl z)
    · exact ne_of_none e hp z
    · exact n (.inr z)⟩
  refine ⟨S.len, fun j s e => ?_, S.out, S.inj, fun j b h => ⟨(S.sep j b h).1, fun z => z.elim (S.sep j b h).2 fun z => ?_⟩, fun j b h => ?_, S.mlen, S.nd, fun j m e => ?_, fun b hb z => z.elim (S.imF b hb) fun z => ?_, fun b hb => ?_, fun b u e t n => ?_, S.pre, ht, S.root.plus S.ext hp⟩
  · have h := S.sl j s e
    cases s with
    | un => exact h
    | pin => exact h
    | val d' =>
      obtain ⟨h1, y, h2, h3⟩ := h
      exact ⟨h1, y, h2, h3.mono x (List.prefix_refl _)⟩
    | own m =>
      obtain ⟨b, h1, h2, h3⟩ := h
      exact ⟨b, h1, h2, h3.mono x (List.prefix_refl _) fun u e t => hk b u e t⟩
  · obtain ⟨u, e, _⟩ := S.tr j b h
    exact ne_of_none e hp z
  · obtain ⟨u, e, t⟩ := S.tr j b h
    exact ⟨u, hk b u e t, t⟩
  · obtain ⟨b, h1, h2⟩ := S.mem j m e
    exact ⟨b, h1, h2.mono x (List.prefix_refl _) fun u e t => hk b u e t⟩
  · obtain ⟨i, m, h1, h2, h3⟩ := S.in_im hb
    obtain ⟨u, e, _⟩ := h3.there
    exact ne_of_none e hp z
  · rcases hb with hb | hb
    · obtain ⟨u, e, t⟩ := S.fr b hb
      exact ⟨u, hk b u e t, t⟩
    · rw [hb]
      exact hp'
  · obtain ⟨e1, n1⟩ := S.ext b u e t n
    exact ⟨hk b u e1 t, n1⟩
/-- a new object enters the memory -/
theorem New.push {m : MO} (N : New g B im ow r M σ H p m) (fr : Frh B.W0 B.H0 p) : StRel g B (im ++ [p]) ow r (M ++ [m]) σ H := by
  have S := N.st
  have le : ∀ a, ns B.F (im ++ [p]) ow a → ns (B.plus p).F im ow a := fun a z => by
    rcases z with z | z | z
    · exact .inl (.inl z)
    · rcases List.mem_append.mp z with z | z
      · exact .inr (.inl z)
      · exact .inl (.inr (List.mem_singleton.mp z))
    · exact .inr (.inr z)
  have x : Ext (ns (B.plus p).F im ow) H (ns B.F (im ++ [p]) ow) H := Ext.refl.less le
  have pf : im <+: im ++ [p] := List.prefix_append _ _
  have np : ∀ {i : Nat} {b : Addr}, ow i = some b → b ≠ p := fun {i b} h z => N.nw (.inr ⟨i, by rw [← z]; exact h⟩)
  refine ⟨S.len, fun j s e => ?_, S.out, S.inj, fun j b h => ⟨fun z => ?_, fun z => (S.sep j b h).2 (.inl z)⟩, S.tr, by rw [List.length_append, List.length_append, S.mlen]; rfl, ?_, fun j m' e => ?_, fun b hb z => ?_, fun b hb => S.fr b (.inl hb), fun b u e t n => ?_, S.pre.trans pf, S.tab, S.root.less fun a => .inl⟩
  · have h := S.sl j s e
    cases s with
    | un => exact h
    | pin => exact h
    | val d' =>
      obtain ⟨h1, y, h2, h3⟩ := h
      exact ⟨h1, y, h2, h3.mono x pf⟩
    | own m =>
      obtain ⟨b, h1, h2, h3⟩ := h
      exact ⟨b, h1, h2, h3.mono x pf fun u e t => e⟩
  · rcases List.mem_append.mp z with z | z
    · exact (S.sep j b h).1 z
    · exact np h (List.mem_singleton.mp z)
  · refine List.nodup_append.mpr ⟨S.nd, by simp, fun a ha b hb => ?_⟩
    rw [List.mem_singleton.mp hb]
    exact fun z => N.nw (.inl (by rw [← z]; exact ha))
  · by_cases hj : j < M.length
    · rw [List.getElem?_append_left hj] at e
      obtain ⟨b, h1, h2⟩ := S.mem j m' e
      exact ⟨b, pre_get pf h1, h2.mono x pf fun u e t => e⟩
    · rw [List.getElem?_append_right (by omega)] at e
      have ej : j - M.length = 0 := by
        cases hz : j - M.length with
        | zero => rfl
        | succ q =>
          rw [hz] at e
          simp at e
      rw [ej] at e
      cases e
      have ej2 : j = im.length := by rw [S.mlen]; omega
      exact ⟨p, by rw [ej2]; simp, N.ok.mono x pf fun u e t => e⟩
  · rcases List.mem_append.mp hb with hb | hb
    · exact S.imF b hb (.inl z)
    · rw [List.mem_singleton.mp hb] at z
      exact N.nF z
  · obtain ⟨e1, n1⟩ := S.ext b u e t n
    refine ⟨e1, fun z => ?_⟩
    rcases z with z | z
    · rcases List.mem_append.mp z with z | z
      · exact n1 (.inl z)
      · have hb := List.mem_singleton.mp z
        rw [hb] at e n
        exact n (fr u e t)
    · exact n1 (.inr z)
end
section
variable {X : Cx} {T : Tb} {W : WX} {e o : Expr} {es : List Expr} {kws : List Keyword} {fo fv : SE Dm} {fp fk : SE (List Dm)} {pos pos' p apos : Pos} {k n mk np : Nat} {ks ps : List Str} {fa C : Addr} {fd : FuncData} {x m f Cn : Str} {gD : List Dm → List Dm → List Dm} {cl : List Str}
/-- a new object that may be changed from now on by whoever has it -/
def sMem (f : SE MO) : SE Dm := fun r M => (f r M).bind fun m M1 => .ok (.ref M1.length) (M1 ++ [m])
theorem de_mem {f : SE MO} (h : DF X T W e f) : DE X T W e (sMem f) := pe_le h fun σ H Q ⟨B, im, ow, r, M, S, P⟩ => ⟨B, im, ow, r, M, S, by
  have P' : Post rlV (gm X T) B W im ow r σ H ((f r M).bind fun m M1 => .ok (.ref M1.length) (M1 ++ [m])) Q := P
  cases hf : f r M with
  | ok m M1 =>
    rw [hf] at P'
    intro p im' H' N E1 p1 fr
    have frB : Frh B.W0 B.H0 p := fun o eo t => by
      by_cases hw : B.W0 p
      · exact hw
      · obtain ⟨e1, n1⟩ := S.ext p o eo t hw
        exact absurd (fr o e1 t) n1
    have SN := N.push frB
    refine P' (.ref p) (im' ++ [p]) H' SN (fun a o ha t n => ?_) (p1.trans (List.prefix_append _ _)) (.ref ?_)
    · obtain ⟨e1, n1⟩ := E1 a o ha t n
      refine ⟨e1, fun z => ?_⟩
      rcases z with z | z
      · rcases List.mem_append.mp z with z | z
        · exact n1 (.inl z)
        · rw [List.mem_singleton.mp z] at ha n
          exact n (fr o ha t)
      · exact n1 (.inr z)
    · rw [← N.st.mlen]
      simp
  | ex C fs M1 =>
    rw [hf] at P'
    exact P'
  | bad =>
    rw [hf] at P'
    exact P'⟩
/-! ### C(..), an instance whose making names no object of the memory -/
def mkEnd (M2 : Mem) : R Dm → R MO
  | .ok .non (.ins C' fs :: _) => if (fs.all fun q => nr nrN q.2) = true then .ok (.ins C' fs) M2 else .bad
  | .ex C' fs _ => if (fs.all fun q => nr nrN q.2) = true then .ex C' fs M2 else .bad
  | _ => .bad
def fMake1 (Cn : Str) (gD : List Dm → List Dm → List Dm) (h : SF) (ds es : List Dm) (M2 : Mem) : R MO := if ds.all (nr nrN) = true ∧ es.all (nr nrN) = true then mkEnd M2 (h (gD (.ref 0 :: ds) es) [.ins Cn []]) else .bad
def fMake (Cn : Str) (fp fk : SE (List Dm)) (n k : Nat) (gD : List Dm → List Dm → List Dm) (h : SF) : SE MO := fun r M => (fp r M).bind fun ds M1 => (fk r M1).bind fun es M2 => if ds.length = n ∧ es.length = k then fMake1 Cn gD h ds es M2 else .bad
/-- the tables of a scoped call -/
def Tb.off (T : Tb) : Tb := ⟨T.tabs, T.codes, none, T.hot, none⟩
theorem make_le {g : Gm} {B : Bs} {im : List Addr} {ow : Ow} {r : Sl} {M : Mem} {σ : St} {H : Hp} {h : SF} {xs : List V} {as : List Dm} {Q : VK} {a dx : Addr} (S : StRel g B im ow r M σ H) (hC : g.mg Cn = some (.ref C)) (ha : H a = none) (hdx : H dx = none) (hne : dx ≠ a)
    (hl : xs.length = np) (rs : Reps g (ns (ns B.F im ow) [a] noOw) [a] (upd (upd H dx (.own a)) a (.ins C dx [])) xs as) (P : PostF g B W im ow r σ H (mkEnd M (h as [.ins Cn []])) Q) :
    spD (g.to g.T.off) np h xs (upd (upd H dx (.own a)) a (.ins C dx [])) (fun v H3 => v = .non ∧ Q (.ref a) H3) (WE W σ) := by
  have hk : ∀ b o, H b = some o → (∀ ps, o ≠ .tbl ps) → (upd (upd H dx (.own a)) a (.ins C dx [])) b = some o := fun b o e _ => by
    rw [upd_ne (ne_of_none e ha), upd_ne (ne_of_none e hdx)]
    exact e
  have ha1 : (upd H dx (.own a)) a = none := by rw [upd_ne (Ne.symm hne)]; exact ha
  have tb : TabsC g.T (upd (upd H dx (.own a)) a (.ins C dx [])) := tabs_new (tabs_new S.tab hdx _) ha1 _
  have haa : (upd (upd H dx (.own a)) a (.ins C dx [])) a = some (.ins C dx []) := upd_same
  generalize upd (upd H dx (.own a)) a (.ins C dx []) = H3 at hk tb rs haa ⊢
  have stands : ∀ b, ns B.F im ow b → ∃ o, H b = some o ∧ ∀ ps, o ≠ .tbl ps := fun b z => by
    rcases z with z | z | ⟨i, z⟩
    · exact S.fr b z
    · obtain ⟨_, _, _, _, ok⟩ := S.in_im z
      exact ok.there
    · exact S.tr i b z
  have only : ∀ b, wr [a] noOw b → b = a := fun b z => by
    rcases z with z | ⟨i, z⟩
    · exact List.mem_singleton.mp z
    · cases z
  refine ⟨hl, ⟨ns B.F im ow, H3, wr [a] noOw, [a]⟩, [a], [.ins Cn []], as, ⟨rfl, fun i s e => ?_, fun i _ => rfl, fun i j b z => ?_, fun i b z => ?_, fun i b z => ?_, rfl, by simp, fun i m e => ?_, fun b hb z => ?_, fun b z => ?_, Ext.refl, List.prefix_refl _, tb, RtOk.not rfl _⟩, rs.cg (T := g.T.off) rfl, ?_⟩
  · simp at e
  · cases z
  · cases z
  · cases z
  · cases i with
    | zero =>
      cases e
      exact ⟨a, rfl, C, dx, [], hC, haa, .nil⟩
    | succ i => simp at e
  · rw [List.mem_singleton.mp hb] at z
    exact S.fresh ha z
  · obtain ⟨o, e, t⟩ := stands b z
    exact ⟨o, hk b o e t, t⟩
  -- behind the making
  have frm : Frh (wr im ow) H a := S.frh ha
  have back : ∀ {im' : List Addr} {M' : Mem} {H' : Hp}, StRel (g.to g.T.off) ⟨ns B.F im ow, H3, wr [a] noOw, [a]⟩ im' noOw [] M' [] H' → Ext (wr [a] noOw) H3 (wr im' noOw) H' → ∀ b o, H b = some o → (∀ ps, o ≠ .tbl ps) → H' b = some o := fun {im' M' H'} S' e' b o eb tb =>
    (e' b o (hk b o eb tb) tb fun z => ne_of_none eb ha (only b z)).1
  cases hq : h as [.ins Cn []] with
  | ok d M' =>
    rw [hq] at P
    cases d with
    | non =>
      cases M' with
      | nil => exact P.elim
      | cons m tl =>
        cases m with
        | ins C' fs =>
          have P' : PostF g B W im ow r σ H (if (fs.all fun q => nr nrN q.2) = true then .ok (.ins C' fs) M else .bad) Q := P
          split at P'
          · rename_i hnr
            intro v im' H' S' e' p' rr
            cases rr with
            | non =>
              refine ⟨rfl, ?_⟩
              have kb := back S' e'
              obtain ⟨b0, k1, Ca, dy, ys, k2, k3, k4⟩ := S'.mem 0 _ rfl
              have e0 : b0 = a := by
                have z := pre_get p' (show ([a] : List Addr)[0]? = some a from rfl)
                rw [z] at k1
                exact (Option.some.inj k1).symm
              subst e0
              have st := S.kept kb S'.tab ha ⟨_, k3, fun ps z => by cases z⟩
              refine P' b0 im H' ⟨st, fun z => S.fresh ha (.inr z), fun z => S.fresh ha (.inl z), Ca, dy, ys, k2, k3, ?_⟩ (fun b o eb tb nb => ⟨kb b o eb tb, nb⟩) (List.prefix_refl _) frm
              refine (RepF.nr im nrN (RepF.cg (g := g.to g.T.off) (T := g.T) rfl k4 : RepF g _ _ _ _ _) hnr).mono (Ext.refl.less fun b z => ?_) (List.prefix_refl _)
              rcases z with (z | z) | z
              · exact .inl (.inl z)
              · rw [z]
                exact .inr (.inl (List.mem_of_getElem? k1))
              · exact .inl (.inr z)
          · exact P'.elim
        | _ => exact P.elim
    | _ => exact P.elim
  | ex C' fs M' =>
    rw [hq] at P
    have P' : PostF g B W im ow r σ H (if (fs.all fun q => nr nrN q.2) = true then .ex C' fs M else .bad) Q := P
    split at P'
    · rename_i hnr
      intro Ca dd ys im' H' S' e' p' c hx nx rf
      have kb := back S' e'
      have i0 := pre_get p' (show ([a] : List Addr)[0]? = some a from rfl)
      have l0 : 0 < M'.length := by
        rw [← S'.mlen]
        exact (List.getElem?_eq_some_iff.mp i0).1
      obtain ⟨b0, k1, k2⟩ := S'.mem 0 _ (List.getElem?_eq_getElem l0)
      have e0 : b0 = a := by
        rw [i0] at k1
        exact (Option.some.inj k1).symm
      subst e0
      have st := (S.kept kb S'.tab ha k2.there).minus
      refine P' Ca dd ys im H' st (fun b o eb tb nb => ⟨kb b o eb tb, nb⟩) (List.prefix_refl _) c hx (fun y hy z => nx y hy (.inl z)) ?_
      exact (RepF.nr im nrN (RepF.cg (g := g.to g.T.off) (T := g.T) rfl rf : RepF g _ _ _ _ _) hnr).mono (Ext.refl.less fun b z => Or.inl z) (List.prefix_refl _)
    · exact P'.elim
  | bad =>
    rw [hq] at P
    exact P.elim
/-- C(..) -/
theorem df_make {h : SF} (A : DArgs X T W es kws pos ks fp fk) (Mk : Mk X.K C fa) (F : DFn X.prog X.w X.K X.mg X.base k fa fd ps (spD (gm X T.off) np h)) (b : DBind X.K fd ps (n + 1) ks gD) (hnp : ps.length = np) (site : Site X (k + 1)) (tk : L2N.Takes X W) (hg : Gl X Cn) (hm : X.mg Cn = some (.ref C))
    (hdb : (Cn == ("__debug__" : Str)) = false := by decide) (hks : ks.length = mk := by rfl) : DF X T W (.Call (.Name Cn p) es kws pos) (fMake Cn fp fk n mk gD h) := by
  subst hks
  exact
  ⟨fun pins s σ H Q I ⟨B, im, ow, r, M, S, P⟩ => wpAny_Call_Name_kw (ld_glob I hg hm (A.run (.ref C) [] pins s σ H
    (fun vs zs H2 => ∀ (a dx : Addr), H2 a = none → H2 dx = none → dx ≠ a → ∀ (s2 : Shared) (us ws : List Value), X.K.In s2.heap → Vals vs us → Vals zs ws → ∃ (xs : List V) (us' : List Value), BindsTo s2 fd ⟨.ref a :: us, ks.zip ws⟩ (ps.zip us') ∧ Vals xs us' ∧ xs.length = ps.length ∧
      spD (gm X T.off) np h xs (upd (upd H2 dx (.own a)) a (.ins C dx [])) (fun v H3 => v = .non ∧ Q (.ref a) H3) (WE W σ)) _ Mk.kp I
    (tArgs_ofF (α := Unit) (q := fMake1 Cn gD h) S P fun vs zs ds es im2 M2 H2 S2 E2 p2 rd re lv lz P2 a dx ha hdx hne s2 us ws KI rv rz => by
      unfold fMake1 at P2
      split at P2
      · rename_i hnr
        have x : Ext (ns B.F im2 ow) H2 (ns (ns B.F im2 ow) [a] noOw) (upd (upd H2 dx (.own a)) a (.ins C dx [])) := fun b o eb tb nb => ⟨by
          rw [upd_ne (ne_of_none eb ha), upd_ne (ne_of_none eb hdx)]
          exact eb, fun z => by
          rcases z with z | z | ⟨i, z⟩
          · exact nb z
          · exact ne_of_none eb ha (List.mem_singleton.mp z)
          · cases z⟩
        have rd' := Reps.mono x (List.prefix_refl _) (Reps.nr [a] nrN rd hnr.1)
        have re' := Reps.mono x (List.prefix_refl _) (Reps.nr [a] nrN re hnr.2)
        obtain ⟨ys, us', b1, b2, b3, b4⟩ := b.to (gm X T) _ _ _ s2 (.ref a :: vs) zs (.ref a :: us) ws (.ref 0 :: ds) es rfl KI (.cons rfl rv) rz (.cons (.ref rfl) rd') re' (by rw [List.length_cons, lv]) lz
        exact ⟨ys, us', b1, b2, b3, make_le S2 hm ha hdx hne (b3.trans hnp) b4 P2⟩
      · exact P2.elim)
    fun us ws vs zs s2 H2 I2 rv rz q => by
      have I3 := Inv.made (C := C) I2
      obtain ⟨ys, us', b1, b2, b3, b4⟩ := q (s2.heap.objs.size + 1) s2.heap.objs.size (I2.hok.fresh (Nat.le_succ _)) (I2.hok.fresh (Nat.le_refl _)) (Nat.ne_of_lt (Nat.lt_succ_self _)) _ us ws I3.kIn rv rz
      refine wpAny_call (make_map (f := fa) I2.kIn Mk.makes Mk.init (beq_iff_eq.mp Mk.fn) (codeAny_mono (F.run _ X.stack _ _ ⟨Value.ref (s2.heap.objs.size + 1) :: us, ks.zip ws⟩ us' ys _ (WE W σ) (site.room.make C us (ks.zip ws)) ?_ (I3.env0.make C us (ks.zip ws)) b1 b2 b3 b4) fun r s' hq => ?_))
      · have gu := site.gu
        first
          | exact gu
          | simpa [Around.under, Code.guards, Code.isGuard, pushGuards] using gu
      · cases r with
        | error e => exact L2N.passAt tk σ pins _ _ e s' I3 hq
        | ok fl =>
          cases fl with
          | ret u =>
            obtain ⟨v, H', I4, rv', ev, q3⟩ := I3.after hq
            subst ev
            exact ⟨rv', ⟨V.ref (s2.heap.objs.size + 1), H', I4, rfl, q3⟩⟩
          | next => exact False.elim hq
          | brk => exact False.elim hq
          | cont => exact False.elim hq) hdb)⟩
end
end Dy

/-! Dy13: defs by their facts; the law's end. -/
namespace Dy
open PySem
open PySem.Spec
open L2

section
variable {P : Program} {w : World} {K : PySem.W.Frag} {mg : Str → Option Value} {base : Heap} {T : Tb} {k : Nat} {f : Addr} {x qual : Str} {params : Arguments} {body : List Stmt} {scope : Scope} {dvs : List V} {kws : List (Str × V)} {fd : FuncData} {N ps : List Str} {n m : Nat} {b : SS}
theorem dfn (F : FunD K x qual params body scope dvs kws f fd) (S : FnScope N ps scope) (hm : N.length = n + m)
    (hbody : ∀ (R : Bs) (cdv : Value) (A : Around) (outer : List Env) (s : Shared) (H : Hp) (E : XK), Site (cxD P w K mg base N qual scope f cdv A outer s H E) k → L2N.Takes (cxD P w K mg base N qual scope f cdv A outer s H E) (wE E) → DB (cxD P w K mg base N qual scope f cdv A outer s H E) (T.inn R) (wE E) body b) :
    DFn P w K mg base (k + 1) f fd ps (spD ⟨K, mg, T⟩ n (runB m b)) := by
  obtain ⟨oc, od, dV, kV, doc, pm, an, cdv, ct, osl, rfl, lk, hcd, _, _⟩ := F.ex
  exact dfn_of lk hcd S hm fun R A outer s H E site => hbody R cdv A outer s H E site (L2N.takes_of rfl rfl rfl rfl)
theorem dfnF (F : FunD K x qual params body scope dvs kws f fd) (S : FnScope N ps scope) (hm : N.length = n + m)
    (hbody : ∀ (R : Bs) (cdv : Value) (A : Around) (outer : List Env) (s : Shared) (H : Hp) (E : XK), Site (cxD P w K mg base N qual scope f cdv A outer s H E) k → L2N.Takes (cxD P w K mg base N qual scope f cdv A outer s H E) (wE E) → DB (cxD P w K mg base N qual scope f cdv A outer s H E) (T.inn R) (wE E) body b) :
    DFn P w K mg base (k + 1) f fd ps (spF ⟨K, mg, T⟩ n (runF m b)) := by
  obtain ⟨oc, od, dV, kV, doc, pm, an, cdv, ct, osl, rfl, lk, hcd, _, _⟩ := F.ex
  exact dfn_ofF lk hcd S hm fun R A outer s H E site => hbody R cdv A outer s H E site (L2N.takes_of rfl rfl rfl rfl)
end
theorem owns {P : Program} {w : World} {K : PySem.W.Frag} {mg : Str → Option Value} {base : Heap} {N : List Str} {qual : Str} {scope : Scope} {f : Addr} {cd : Value} {A : Around} {outer : List Env} {s : Shared} {H : Hp} {E : XK} :
    PassesOwn (model P w) (cxD P w K mg base N qual scope f cd A outer s H E).A (cxD P w K mg base N qual scope f cd A outer s H E).env (cxD P w K mg base N qual scope f cd A outer s H E).xe :=
  passes_of (X := cxD P w K mg base N qual scope f cd A outer s H E) (K := fun e s'' => L2N.CX P w outer H s E e s'') (E₁ := fun e s'' => L2N.CX P w outer H s E e s'') rfl
/-! ### the end -/
/-- the abstract heap at the law's call: the script, where it is not of the written part -/
noncomputable def scH (K : PySem.W.Frag) (a : Addr) (vs : List Value) (ns : List Int) : Hp := fun b => if b = a ∧ K.lookup a = none then some (.frz { cls := .type "list", data := .seq vs.toArray } (.lst (ns.map V.int))) else none
theorem dy_end {l : PySem.W.OpenLaw} {n k : Nat} {q : Program} {loose : List Str} {XP : (Str → Option Value) → Heap → Prop} {YP : World → Heap → Prop} {d : DefRec} {x : Str}
    (hn : l.most = some n) (hn2 : n ≤ sizeLine) (hdf : d.params.defaults = []) (hr : Room k callerA)
    (F : ∀ (w : World) (mg : Str → Option Value) (fa : Addr) (h : Heap), YP w h → h.Ns mainGlobals mg → mg d.name = some (.ref fa) →
      ∃ (K : PySem.W.Frag) (fd : FuncData) (f : SF), K.In h ∧ (∀ (s : Shared) (u : Value), BindsTo s fd ⟨[u], []⟩ [(x, u)]) ∧
        (∀ base : Heap, K.In base → base.Ns mainGlobals mg → DFn l.prog w K mg base k fa fd [x] (spD ⟨K, mg, ⟨[], [], none, none, none⟩⟩ 1 f)) ∧
        ∀ ns : List Int, ns.length ≤ n → (∀ z ∈ ns, Builtin.Int.intBits z ≤ 1048576) → ∃ M', f [.frl (ns.map .int)] [] = .ok (.bl true) M') :
    PySem.W.WalkO q loose XP YP l.row.toRowW d [] (fun f vs => PySem.call f vs) := by
  refine Att.attach_callB hn hdf fun w s₀ s₁ mg mb fa o pm cd doc a vs ns G Y ho hd hcd hmg hobj hints hlen hbits hg => ?_
  obtain ⟨K, fd, f, KX, hb, hF, hf⟩ := F w mg fa _ Y G.T.g hmg
  obtain ⟨M', hM⟩ := hf ns hlen hbits
  have rv := vals_ints hints
  have lV := hints.length
  generalize hH : scH K a vs ns = H
  have at_ : ∀ b, b ≠ a → H b = none := fun b z => by
    rw [← hH]
    exact if_neg fun y => z y.1
  have two : (K.lookup a = none ∧ H a = some (.frz { cls := .type "list", data := .seq vs.toArray } (.lst (ns.map V.int)))) ∨ ((∃ o, K.lookup a = some o) ∧ ∀ b, H b = none) := by
    cases hk : K.lookup a with
    | none => exact .inl ⟨rfl, by rw [← hH]; exact if_pos ⟨rfl, hk⟩⟩
    | some o => exact .inr ⟨⟨o, rfl⟩, fun b => by rw [← hH]; exact if_neg fun y => by rw [hk] at y; cases y.2⟩
  have seqs : ∀ b o, s₁.heap.get? b = some o → (∀ ws z, o.data ≠ .seq ws z) → H b = none := fun b o e z => at_ b fun y => by
    rw [y, hobj] at e
    cases e
    exact z _ _ rfl
  have ofNs : ∀ {b : Addr} {m : Str → Option Value}, s₁.heap.Ns b m → (hidT s₁.heap H).Ns b m := fun {b m} ⟨u, es, ep, e, y, r⟩ => ⟨u, es, ep, hidT_get e (seqs b u e fun ws z t => by rw [y] at t; cases t), y, r⟩
  have inK : K.In (hidT s₁.heap H) := fun b u e => hidT_get (KX b u e) (by
    by_cases hb : b = a
    · subst hb
      rcases two with z | z
      · rw [z.1] at e
        cases e
      · exact z.2 b
    · exact at_ b hb)
  have hM0 : Mod K mg (hidT s₁.heap H) := ⟨inK, ofNs G.T.g, ⟨mb, ofNs G.T.b, G.T.builtins⟩, let ⟨mc, h1, h2⟩ := G.T.nolimit; ⟨mc, ofNs h1, h2⟩⟩
  have hok : HOk l.prog w H s₁.heap := fun b u e => by
    by_cases hb : b = a
    · subst hb
      rcases two with z | z
      · rw [z.2] at e
        cases e
        exact ⟨hobj, by rw [List.length_map]; exact Nat.le_trans hlen hn2, vs, _, rv, hobj⟩
      · rw [z.2 b] at e
        cases e
    · rw [at_ b hb] at e
      cases e
  have e0 : Env0 l.prog w K mg (hidT s₁.heap H) callerA [] s₁ H := ⟨rfl, hM0, fun b u e => of_hidT e, Nat.le_of_eq (hidT_size _ _), trivial, (fun b z => nomatch z), hok, .of_eq hg⟩
  have nos : ∀ b, ¬ Dy.ns (fun _ => False) [] noOw b := fun b z => by
    rcases z with z | z | ⟨i, z⟩
    · exact z
    · exact nomatch z
    · cases z
  have intR : ∀ zs : List Int, Reps ⟨K, mg, ⟨[], [], none, none, none⟩⟩ (Dy.ns (fun _ => False) [] noOw) [] H (zs.map V.int) (zs.map Dm.int) := fun zs => by
    induction zs with
    | nil => exact .nil
    | cons z zs ih => exact .cons (.int z) ih
  have sz : SZ K (Dy.ns (fun _ => False) [] noOw) H a (ns.map V.int) := by
    rcases two with z | ⟨⟨u, hk⟩, z⟩
    · exact .inl ⟨_, z.2, nos a⟩
    · have e := KX a u hk
      rw [hobj] at e
      cases e
      exact .inr (.inr ⟨_, vs.toArray, _, hk, rfl, rfl, rfl, by rw [List.size_toArray, lV]; exact Nat.le_trans hlen hn2, by simpa using rv⟩)
  have St : StRel ⟨K, mg, ⟨[], [], none, none, none⟩⟩ ⟨fun _ => False, H, fun _ => False, []⟩ [] noOw [] [] [] H := by
    refine ⟨rfl, fun i s e => ?_, fun i _ => rfl, fun i j b z => ?_, fun i b z => ?_, fun i b z => ?_, rfl, by simp, fun i m e => ?_, fun b z => ?_, fun b z => ?_, fun b u e t z => ⟨e, fun y => nos b (.inr y)⟩, List.prefix_refl _, ⟨fun p z => ?_, fun p z => (nomatch z)⟩, RtOk.not rfl _⟩
    · simp at e
    · cases z
    · cases z
    · cases z
    · simp at e
    · exact nomatch z
    · exact z.elim
    · exact nomatch z
  refine codeAny_mono ((hF _ inK (ofNs G.T.g)).run callerA [] s₁ H ⟨[.ref a], []⟩ [.ref a] [.ref a] (fun v _ => v = .bl true) (fun _ _ _ => False) hr rfl e0 (hb s₁ (.ref a)) (.cons rfl .nil) rfl
    ⟨rfl, ⟨fun _ => False, H, fun _ => False, []⟩, [], [], [.frl (ns.map Dm.int)], St, .cons (.frl sz (intR ns)) .nil, ?_⟩) fun r s' hq => ?_
  · rw [hM]
    intro v im' H' S' e' p' rr
    cases rr
    rfl
  · cases r with
    | error e =>
      obtain ⟨_, _, _, _, _, _, _, _, _, _, _, _, z⟩ := hq
      exact z.elim
    | ok fl =>
      cases fl with
      | next => exact False.elim hq
      | brk => exact False.elim hq
      | cont => exact False.elim hq
      | ret u =>
        obtain ⟨v, H', os, bare, un, hok', rv', ev⟩ := hq
        subst ev
        cases (show u = Value.bool true from rv')
        refine ⟨rfl, OldK.of_keep fun b o e => ?_, os, bare⟩
        by_cases hb : b = a
        · subst hb
          rcases two with z | z
          · have z2 := un.frzs b _ _ z.2
            obtain ⟨y1, _⟩ := hok b _ z.2
            obtain ⟨y2, _⟩ := hok' b _ z2
            rw [y1] at e
            cases e
            exact y2
          · exact un.keep b o e (z.2 b) (fun z => nomatch z) (fun z => nomatch z)
        · exact un.keep b o e (at_ b hb) (fun z => nomatch z) (fun z => nomatch z)
end Dy

/-! Dy14: isinstance; fields set. -/
namespace Dy
open PySem
open PySem.Spec
open L2

/-- the built-in type of a datum -/
def tyN (d : Dm) (M : Mem) : Option String := match d with
  | .non => some "NoneType"
  | .bl _ => some "bool"
  | .int _ => some "int"
  | .str _ => some "str"
  | .tup _ => some "tuple"
  | .lst _ => some "list"
  | .frl _ => some "list"
  | .dic _ => some "dict"
  | .ref i => match M[i]? with
    | some (.lst _) => some "list"
    | some (.dic _) => some "dict"
    | _ => none
  | _ => none
/-- what isinstance asks of an own class -/
structure InsK (K : PySem.W.Frag) (C : Addr) : Prop where
  cls : Cls K C
  ha : PySem.W.findIn K (.ref C) "__class__" = some (some (.builtin "object.__class__"))
  hn : PySem.W.specialIn K (.builtin "object.__class__") "__get__" = some (some (.builtin "getset_descriptor.__get__"))
  htk : PySem.W.takesIn K (.builtin "object.__class__") = some true
  hm : PySem.W.mroIn K C (.type "object") = some true
section
variable {g : Gm} {B : Bs} {im : List Addr} {ow : Ow} {r : Sl} {M : Mem} {σ : St} {H : Hp} {v : V} {d : Dm}
theorem ty_of {n : String} (S : StRel g B im ow r M σ H) (q : Rep g (ns B.F im ow) im H v d) (h : tyN d M = some n) : TyX g.K H v (.type n) := by
  cases q with
  | non => cases h; exact .base .non
  | bl b => cases h; exact .base (.bl b)
  | int i => cases h; exact .base (.int i)
  | str y => cases h; exact .base (.str y)
  | tup s _ =>
    cases h
    rcases s with ⟨s | ⟨o, s⟩, _⟩ | s
    · exact .base (.tup s)
    · exact .fTuple s
    · rcases s with (s | ⟨_, s⟩) | ⟨o, its, n, k1, k2, _⟩
      · cases s
      · cases s
      · exact .kTuple k1 k2
  | lst s _ _ =>
    cases h
    exact .base (.lst s)
  | frl s _ =>
    cases h
    rcases s with ⟨o, s, _⟩ | s
    · exact .base (.frz s)
    · rcases s with (s | ⟨_, s⟩) | ⟨o, its, n, k1, k2, _⟩
      · cases s
      · cases s
      · exact .kList k1 k2
  | dic s _ _ =>
    cases h
    exact .base (.dK s)
  | @ref i a hi =>
    unfold tyN at h
    cases hm : M[i]? with
    | none => simp [hm] at h
    | some m =>
      obtain ⟨a', k1, k2⟩ := S.mem i m hm
      rw [hi] at k1
      cases k1
      cases m with
      | lst ds =>
        simp only [hm, Option.some.injEq] at h
        subst h
        obtain ⟨xs, e, _⟩ := k2
        exact .base (.lst e)
      | dic ds =>
        simp only [hm, Option.some.injEq] at h
        subst h
        obtain ⟨xs, e, _⟩ := k2
        exact .base (.dK e)
      | ins C fs => simp [hm] at h
  | _ => cases h
end
/-- what isinstance(.., c) answers: for the built-in types, for the own classes -/
structure IsA (K : PySem.W.Frag) (mg : Str → Option Value) (c : Value) (tt : String → Option Bool) (oo : Str → Option Bool) : Prop where
  ty : ∀ t b, tt t = some b → PySem.W.kitOne K (.type t) c = some b
  own : ∀ C b Ca, oo C = some b → mg C = some (.ref Ca) → InsK K Ca ∧ PySem.W.kitOne K (.ref Ca) c = some b
def oIsi (tt : String → Option Bool) (oo : Str → Option Bool) : Dm → Mem → R Dm := fun d M => match tyN d M with
  | some t => match tt t with
    | some b => .ok (.bl b) M
    | none => .bad
  | none => match insOf d M with
    | some (C, _) => match oo C with
      | some b => .ok (.bl b) M
      | none => .bad
    | none => .bad
def noO : Str → Option Bool := fun _ => none
/-- against a built-in type -/
theorem isa_ty {K : PySem.W.Frag} {mg : Str → Option Value} {n : String} : IsA K mg (.type n) (fun t => kitB t n) noO := ⟨fun t b h => kit_ty h, fun C b Ca h => by cases h⟩
section
variable {X : Cx} {T : Tb} {W : WX} {a o : Expr} {fa fo fv : SE Dm} {pos pos' p p2 : Pos} {cl : List Str} {x f : Str} {tt : String → Option Bool} {oo : Str → Option Bool}
def sIsi (tt : String → Option Bool) (oo : Str → Option Bool) (fa : SE Dm) : SE Dm := fun r M => (fa r M).bind (oIsi tt oo)
theorem de_isi {c : Value} {v : V} (ia : IsA X.K X.mg c tt oo) (cv : ClsV v c) (ha : DE X T W a fa) (hc : PE X o (tC v)) (hg : Gl X "isinstance") (hm : X.mg "isinstance" = none) (he : starEach [a, o] X.env = (false, eval a X.env) :: starEach [o] X.env := by rfl) (he2 : starEach [o] X.env = (false, eval o X.env) :: starEach [] X.env := by rfl)
    (hpl : (backTo pos (starEach [o] X.env)).any (·.1) = false := by rfl) : DE X T W (.Call (.Name "isinstance" p) [a, o] [] pos) (sIsi tt oo fa) :=
  pe_le (pe_callB call_isi hg hm rfl (pa_cons ha (pa_cons hc pa_nil he2) he) (by decide) (by decide) he hpl) fun σ H Q ⟨B, im, ow, r, M, S, P⟩ => ⟨B, im, ow, r, M, S, Post.bind (rl := rlV) P fun d M1 w im1 H1 _ S1 E1 p1 r1 P1 => by
    unfold oIsi at P1
    cases ht : tyN d M1 with
    | some t =>
      simp only [ht] at P1
      cases hb : tt t with
      | none =>
        simp only [hb] at P1
        exact P1.elim
      | some b =>
        simp only [hb] at P1
        exact ⟨w, v, .type t, c, b, rfl, cv, ty_of S1 r1 ht, ia.ty t b hb, P1.here S1 (.bl b)⟩
    | none =>
      simp only [ht] at P1
      cases hi : insOf d M1 with
      | none =>
        simp only [hi] at P1
        exact P1.elim
      | some q =>
        obtain ⟨C, fs⟩ := q
        simp only [hi] at P1
        cases hb : oo C with
        | none =>
          simp only [hb] at P1
          exact P1.elim
        | some b =>
          simp only [hb] at P1
          obtain ⟨a', Ca, dx, xs, e1, e2, e3, e4⟩ := ins_of S1 r1 hi
          obtain ⟨k, hk⟩ := ia.own C b Ca hb e2
          subst e1
          exact ⟨.ref a', v, .ref Ca, c, b, rfl, cv, .base (.ins e3 k.cls k.ha k.hn k.htk k.hm), hk, P1.here S1 (.bl b)⟩⟩
/-- a built-in type as a value -/
theorem pe_tyv {n : Str} {t : String} (hg : Gl X n) (hm : X.mg n = none) (hv : bootBuiltins n = some (.type t)) (hn : n ≠ "__name__" := by decide) (hd : (n == ("__debug__" : Str)) = false := by decide) : PE X (.Name n p) (tC (.ty t)) := pe_bltn hg hm hv rfl hn hd
/-! ### o.f = e, o an object of the memory -/
def putD (f : Str) (v : Dm) : List (Str × Dm) → List (Str × Dm)
  | [] => [(f, v)]
  | (g, x) :: r => if g = f then (g, v) :: r else (g, x) :: putD f v r
theorem RepF.putD {g : Gm} {N : Av} {im : List Addr} {H : Hp} {f : Str} {y : V} {e : Dm} (q : Rep g N im H y e) : ∀ {xs : List (Str × V)} {ds : List (Str × Dm)}, RepF g N im H xs ds → RepF g N im H (putF f y xs) (Dy.putD f e ds)
  | _, _, .nil => .cons q .nil
  | _, _, .cons (k := k) a r => by
    unfold putF Dy.putD
    split
    · exact .cons q r
    · exact .cons a (RepF.putD q r)
theorem RepF.length {g : Gm} {N : Av} {im : List Addr} {H : Hp} : ∀ {xs : List (Str × V)} {ds : List (Str × Dm)}, RepF g N im H xs ds → xs.length = ds.length
  | _, _, .nil => rfl
  | _, _, .cons _ r => congrArg Nat.succ (RepF.length r)
def oPut (cl : List Str) (f : Str) (y : Dm) : Dm → Mem → R Mem := fun d M => match d with
  | .ref i => match M[i]? with
    | some (.ins C fs) => if C ∈ cl ∧ fs.length < 1000 then .ok [] (M.set i (.ins C (putD f y fs))) else .bad
    | _ => .bad
  | _ => .bad
def sPut (cl : List Str) (f : Str) (fv fo : SE Dm) : SS := fun r M => RS.of (fv r M) r fun y M1 => RS.of (fo r M1) r fun d M2 => match d with
  | .ref i => match M2[i]? with
    | some (.ins C fs) => if C ∈ cl ∧ fs.length < 1000 then .nx r (M2.set i (.ins C (putD f y fs))) else .bad
    | _ => .bad
  | _ => .bad
theorem ds_put (ho : DE X T W o fo) (hv : DE X T W a fv) (hc : FldOk X.K X.mg cl f) (hs : swapsWith a (some (.Attribute o f pos')) pos.line X.env = pure false := by rfl) : DS X T W (.Assign [.Attribute o f pos'] a pos) (sPut cl f fv fo) :=
  ps_le (ps_fld ho hv hs) fun σ H D ⟨B, im, ow, r, M, S, P⟩ => ⟨B, im, ow, r, M, S, PostS.of (rl := rlV) P fun y M1 v im1 H1 _ S1 E1 p1 r1 P1 => ⟨B, im1, ow, r, M1, S1, PostS.of (rl := rlV) P1 fun d M2 w im2 H2 _ S2 E2 p2 r2 P2 => by
    cases d with
    | ref i =>
      cases hm : M2[i]? with
      | none =>
        simp only [hm] at P2
        exact P2.elim
      | some m =>
        simp only [hm] at P2
        cases m with
        | ins C fs =>
          dsimp only at P2
          split at P2
          · rename_i hC
            cases r2 with
            | @ref _ a hi =>
              obtain ⟨a', k1, Ca, dx, xs, k2, k3, k4⟩ := S2.mem i _ hm
              have ea : a' = a := by
                rw [hi] at k1
                exact (Option.some.inj k1).symm
              subst ea
              obtain ⟨c1, c2⟩ := hc C hC.1 Ca k2
              refine ⟨a', Ca, dx, xs, rfl, k3, c1, c2, by rw [k4.length]; exact hC.2, ?_⟩
              have x : Ext (ns B.F im2 ow) H2 (ns B.F im2 ow) (upd H2 a' (.ins Ca dx (putF f v xs))) := Ext.put (.inr (.inl (List.mem_of_getElem? k1)))
              exact P2 im2 ow σ _ (S2.memAt (m' := .ins C (putD f y fs)) hm k1 (fun ps z => by cases z) ⟨Ca, dx, putF f v xs, k2, upd_same, (RepF.putD ((Rep.mono E2.ns p2 r1).mono x (List.prefix_refl _)) (k4.mono x (List.prefix_refl _)))⟩)
          · exact P2.elim
        | _ => exact P2.elim
    | _ => exact P2.elim⟩⟩
end
end Dy

/-! Dy15: short names for the rules; the facts of a head. -/
namespace Dy
open PySem
open PySem.Spec
open L2

section
variable {X : Cx} {T : Tb} {W : WX} {a b c : Expr} {es : List Expr} {fa fb fc : SE Dm} {h : SE (List Dm)} {pos p : Pos} {k : Nat}
theorem Ut.u64 (s : Ut X) : X.A.units + 64 < cLine := by have := s.un; omega
theorem Ut.u65 (s : Ut X) : X.A.units + 65 < cLine := s.un
abbrev vB (o : Dm → Dm → Mem → R Dm) (fa fb : SE Dm) : SE Dm := sBin o fa fb
def tBin (o : Dm → Dm → Mem → R Dm) (fa fb : SE Dm) : SE Bool := fun r M => (sBin o fa fb r M).bind toB
def tUn' (o : Dm → Mem → R Dm) (fa : SE Dm) : SE Bool := fun r M => (sUn o fa r M).bind toB
def tCh (o o' : Dm → Dm → Mem → R Dm) (fa fb fc : SE Dm) : SE Bool := fun r M => (sChain o o' fa fb fc r M).bind toB
def tVal (f : SE Dm) : SE Bool := fun r M => (f r M).bind oTru
theorem e_add (ha : DE X T W a fa) (hb : DE X T W b fb) : DE X T W (.BinOp a .Add b pos) (sBin oAdd fa fb) := de_op op_add4 s_add ha hb
theorem e_sub (ha : DE X T W a fa) (hb : DE X T W b fb) : DE X T W (.BinOp a .Sub b pos) (sBin (oI gSub2) fa fb) := de_op op_sub s_sub ha hb
theorem e_mul (ha : DE X T W a fa) (hb : DE X T W b fb) : DE X T W (.BinOp a .Mult b pos) (sBin oMul fa fb) := de_op op_mul4 s_mul ha hb
theorem e_div (ha : DE X T W a fa) (hb : DE X T W b fb) : DE X T W (.BinOp a .FloorDiv b pos) (sBin (oI gDiv) fa fb) := de_op op_fdivW s_div ha hb
theorem e_mod (ha : DE X T W a fa) (hb : DE X T W b fb) : DE X T W (.BinOp a .Mod b pos) (sBin (oI gMod) fa fb) := de_op op_mod s_mod ha hb
theorem e_pow (ha : DE X T W a fa) (hb : DE X T W b fb) : DE X T W (.BinOp a .Pow b pos) (sBin (oI gPow) fa fb) := de_op op_pow s_pow ha hb
theorem e_lt (ha : DE X T W a fa) (hb : DE X T W b fb) : DE X T W (.Compare a [.Lt] [b] pos) (sBin (oI gLt) fa fb) := de_cmp op_lt s_lt ha hb (nomark _)
theorem e_le (ha : DE X T W a fa) (hb : DE X T W b fb) : DE X T W (.Compare a [.LtE] [b] pos) (sBin (oI gLe) fa fb) := de_cmp op_le s_le ha hb (nomark _)
theorem e_gt (ha : DE X T W a fa) (hb : DE X T W b fb) : DE X T W (.Compare a [.Gt] [b] pos) (sBin (oI gGt) fa fb) := de_cmp op_gt s_gt ha hb (nomark _)
theorem e_ge (ha : DE X T W a fa) (hb : DE X T W b fb) : DE X T W (.Compare a [.GtE] [b] pos) (sBin (oI gGe) fa fb) := de_cmp op_ge s_ge ha hb (nomark _)
theorem e_eq (s : Ut X) (ha : DE X T W a fa) (hb : DE X T W b fb) : DE X T W (.Compare a [.Eq] [b] pos) (sBin oEq fa fb) := de_cmp (op_eqD s.u64) s_eq ha hb (nomark _)
theorem e_ne (s : Ut X) (ha : DE X T W a fa) (hb : DE X T W b fb) : DE X T W (.Compare a [.NotEq] [b] pos) (sBin oNe fa fb) := de_cmp (op_neD s.u64) s_ne ha hb (nomark _)
theorem e_in (s : Ut X) (ha : DE X T W a fa) (hb : DE X T W b fb) (hm : behindInMarks .In b = false := by first | rfl | (with_unfolding_all rfl)) : DE X T W (.Compare a [.In] [b] pos) (sBin oIn fa fb) := de_cmp (op_in3 s.u65) s_in ha hb hm
theorem e_ni (s : Ut X) (ha : DE X T W a fa) (hb : DE X T W b fb) (hm : behindInMarks .NotIn b = false := by first | rfl | (with_unfolding_all rfl)) : DE X T W (.Compare a [.NotIn] [b] pos) (sBin oNotIn fa fb) := de_cmp (op_notIn3 s.u65) s_notIn ha hb hm
theorem t_lt (ha : DE X T W a fa) (hb : DE X T W b fb) : DT X T W (.Compare a [.Lt] [b] pos) (tBin (oI gLt) fa fb) := dt_cmp op_lt s_lt ha hb (nomark _)
theorem t_le (ha : DE X T W a fa) (hb : DE X T W b fb) : DT X T W (.Compare a [.LtE] [b] pos) (tBin (oI gLe) fa fb) := dt_cmp op_le s_le ha hb (nomark _)
theorem t_gt (ha : DE X T W a fa) (hb : DE X T W b fb) : DT X T W (.Compare a [.Gt] [b] pos) (tBin (oI gGt) fa fb) := dt_cmp op_gt s_gt ha hb (nomark _)
theorem t_ge (ha : DE X T W a fa) (hb : DE X T W b fb) : DT X T W (.Compare a [.GtE] [b] pos) (tBin (oI gGe) fa fb) := dt_cmp op_ge s_ge ha hb (nomark _)
theorem t_eq (s : Ut X) (ha : DE X T W a fa) (hb : DE X T W b fb) : DT X T W (.Compare a [.Eq] [b] pos) (tBin oEq fa fb) := dt_cmp (op_eqD s.u64) s_eq ha hb (nomark _)
theorem t_ne (s : Ut X) (ha : DE X T W a fa) (hb : DE X T W b fb) : DT X T W (.Compare a [.NotEq] [b] pos) (tBin oNe fa fb) := dt_cmp (op_neD s.u64) s_ne ha hb (nomark _)
theorem t_in (s : Ut X) (ha : DE X T W a fa) (hb : DE X T W b fb) (hm : behindInMarks .In b = false := by first | rfl | (with_unfolding_all rfl)) : DT X T W (.Compare a [.In] [b] pos) (tBin oIn fa fb) := dt_cmp (op_in3 s.u65) s_in ha hb hm
theorem t_ni (s : Ut X) (ha : DE X T W a fa) (hb : DE X T W b fb) (hm : behindInMarks .NotIn b = false := by first | rfl | (with_unfolding_all rfl)) : DT X T W (.Compare a [.NotIn] [b] pos) (tBin oNotIn fa fb) := dt_cmp (op_notIn3 s.u65) s_notIn ha hb hm
theorem t_isN {j : Nat} {p' : Pos} (ha : DE X T W a fa) : DT X T W (.Compare a [.Is] [.Constant .none j p'] pos) (tUn' oIsN fa) := dt_isN ha
theorem t_notN {j : Nat} {p' : Pos} (ha : DE X T W a fa) : DT X T W (.Compare a [.IsNot] [.Constant .none j p'] pos) (tUn' oNotN fa) := dt_notN ha
theorem e_lele (ha : DE X T W a fa) (hb : DE X T W b fb) (hc : DE X T W c fc) (hm : lastMarks [.LtE, .LtE] [b, c] = false := by rfl) : DE X T W (.Compare a [.LtE, .LtE] [b, c] pos) (sChain (oI gLe) (oI gLe) fa fb fc) := de_chain op_le op_le s_le s_le ha hb hc hm
theorem t_lele (ha : DE X T W a fa) (hb : DE X T W b fb) (hc : DE X T W c fc) (hm : lastMarks [.LtE, .LtE] [b, c] = false := by rfl) : DT X T W (.Compare a [.LtE, .LtE] [b, c] pos) (tCh (oI gLe) (oI gLe) fa fb fc) := dt_chain op_le op_le s_le s_le ha hb hc hm
theorem e_lelt (ha : DE X T W a fa) (hb : DE X T W b fb) (hc : DE X T W c fc) (hm : lastMarks [.LtE, .Lt] [b, c] = false := by rfl) : DE X T W (.Compare a [.LtE, .Lt] [b, c] pos) (sChain (oI gLe) (oI gLt) fa fb fc) := de_chain op_le op_lt s_le s_lt ha hb hc hm
theorem t_lelt (ha : DE X T W a fa) (hb : DE X T W b fb) (hc : DE X T W c fc) (hm : lastMarks [.LtE, .Lt] [b, c] = false := by rfl) : DT X T W (.Compare a [.LtE, .Lt] [b, c] pos) (tCh (oI gLe) (oI gLt) fa fb fc) := dt_chain op_le op_lt s_le s_lt ha hb hc hm
theorem t_val {e : Expr} {f : SE Dm} (he : DE X T W e f) (hi : ∀ whole, isTrue e X.env whole = (do let v ← whole; standAt e.pos; holding [v] (truthy v)) := by intro _; rfl) : DT X T W e (tVal f) := dt_tru he hi
theorem f_len (hg : Gl X "len") (hm : X.mg "len" = none) (ha : DA X T W (a :: es) h) (he : starEach (a :: es) X.env = (false, eval a X.env) :: starEach es X.env := by rfl) (hpl : (backTo pos (starEach es X.env)).any (·.1) = false := by rfl) : DE X T W (.Call (.Name "len" p) (a :: es) [] pos) (sCall oLen h) := de_callB call_len3 c_len hg hm rfl ha (by decide) (by decide) he hpl
theorem f_abs (hg : Gl X "abs") (hm : X.mg "abs" = none) (ha : DA X T W (a :: es) h) (he : starEach (a :: es) X.env = (false, eval a X.env) :: starEach es X.env := by rfl) (hpl : (backTo pos (starEach es X.env)).any (·.1) = false := by rfl) : DE X T W (.Call (.Name "abs" p) (a :: es) [] pos) (sCall (o1 gAbs) h) := de_callB call_abs c_abs hg hm rfl ha (by decide) (by decide) he hpl
theorem f_max (hca : X.calm = true) (hg : Gl X "max") (hm : X.mg "max" = none) (ha : DA X T W (a :: es) h) (he : starEach (a :: es) X.env = (false, eval a X.env) :: starEach es X.env := by rfl) (hpl : (backTo pos (starEach es X.env)).any (·.1) = false := by rfl) : DE X T W (.Call (.Name "max" p) (a :: es) [] pos) (sCall (o2 gMax) h) := de_callB (call_max2 hca) c_max hg hm rfl ha (by decide) (by decide) he hpl
theorem f_min (hca : X.calm = true) (hg : Gl X "min") (hm : X.mg "min" = none) (ha : DA X T W (a :: es) h) (he : starEach (a :: es) X.env = (false, eval a X.env) :: starEach es X.env := by rfl) (hpl : (backTo pos (starEach es X.env)).any (·.1) = false := by rfl) : DE X T W (.Call (.Name "min" p) (a :: es) [] pos) (sCall (o2 gMin) h) := de_callB (call_min2 hca) c_min hg hm rfl ha (by decide) (by decide) he hpl
theorem f_all (hca : X.calm = true) (hg : Gl X "all") (hm : X.mg "all" = none) (ha : DA X T W (a :: es) h) (he : starEach (a :: es) X.env = (false, eval a X.env) :: starEach es X.env := by rfl) (hpl : (backTo pos (starEach es X.env)).any (·.1) = false := by rfl) : DE X T W (.Call (.Name "all" p) (a :: es) [] pos) (sCall oAll h) := de_callB (cr_all hca) c_all hg hm rfl ha (by decide) (by decide) he hpl
theorem f_any (hca : X.calm = true) (hg : Gl X "any") (hm : X.mg "any" = none) (ha : DA X T W (a :: es) h) (he : starEach (a :: es) X.env = (false, eval a X.env) :: starEach es X.env := by rfl) (hpl : (backTo pos (starEach es X.env)).any (·.1) = false := by rfl) : DE X T W (.Call (.Name "any" p) (a :: es) [] pos) (sCall oAny h) := de_callB (cr_any hca) c_any hg hm rfl ha (by decide) (by decide) he hpl
theorem f_divmod (hg : Gl X "divmod") (hm : X.mg "divmod" = none) (ha : DA X T W (a :: es) h) (he : starEach (a :: es) X.env = (false, eval a X.env) :: starEach es X.env := by rfl) (hpl : (backTo pos (starEach es X.env)).any (·.1) = false := by rfl) : DE X T W (.Call (.Name "divmod" p) (a :: es) [] pos) (sCall oDivmod h) := de_callB call_divmodW c_divmod hg hm rfl ha (by decide) (by decide) he hpl
theorem f_repr (s : Ut X) (hg : Gl X "repr") (hm : X.mg "repr" = none) (ha : DA X T W (a :: es) h) (he : starEach (a :: es) X.env = (false, eval a X.env) :: starEach es X.env := by rfl) (hpl : (backTo pos (starEach es X.env)).any (·.1) = false := by rfl) : DE X T W (.Call (.Name "repr" p) (a :: es) [] pos) (sCall oRepr h) := de_callB (call_repr s.gu s.u64) c_repr hg hm rfl ha (by decide) (by decide) he hpl
theorem f_int (hg : Gl X "int") (hm : X.mg "int" = none) (ha : DA X T W (a :: es) h) (he : starEach (a :: es) X.env = (false, eval a X.env) :: starEach es X.env := by rfl) (hpl : (backTo pos (starEach es X.env)).any (·.1) = false := by rfl) : DE X T W (.Call (.Name "int" p) (a :: es) [] pos) (sCall oInt h) := de_callTy call_int1 c_int hg hm rfl ha (by decide) (by decide) he hpl
theorem f_list (hg : Gl X "list") (hm : X.mg "list" = none) (ha : DA X T W (a :: es) h) (he : starEach (a :: es) X.env = (false, eval a X.env) :: starEach es X.env := by rfl) (hpl : (backTo pos (starEach es X.env)).any (·.1) = false := by rfl) : DE X T W (.Call (.Name "list" p) (a :: es) [] pos) (sCall oListOf h) := de_callTy call_list_of c_listOf hg hm rfl ha (by decide) (by decide) he hpl
theorem f_tuple (hg : Gl X "tuple") (hm : X.mg "tuple" = none) (ha : DA X T W (a :: es) h) (he : starEach (a :: es) X.env = (false, eval a X.env) :: starEach es X.env := by rfl) (hpl : (backTo pos (starEach es X.env)).any (·.1) = false := by rfl) : DE X T W (.Call (.Name "tuple" p) (a :: es) [] pos) (sCall oTupOf h) := de_callTy call_tuple_of c_tupOf hg hm rfl ha (by decide) (by decide) he hpl
end
/-! ### facts -/
/-- a def's function object -/
noncomputable def fdOf (K : PySem.W.Frag) (d : He.DefD) : FuncData := match K.lookup (He.fAd K d.at_) with
  | some ⟨_, _, .func fd, _⟩ => fd
  | _ => PySem.W.fnOf d.name d.qual d.params d.body d.scope .none .none .none .none none .none .none
abbrev FD (K : PySem.W.Frag) (d : He.DefD) : Prop := FunD K d.name d.qual d.params d.body d.scope (d.dvs K) (d.kws K) (He.fAd K d.at_) (fdOf K d)
theorem fd_of {fa : List He.Fa} {fn : List He.DefD} {K : PySem.W.Frag} (c : He.SaysD fa fn K) (i : Nat) {d : He.DefD} (h : fn[i]? = some d := by rfl) : FD K d := by
  obtain ⟨fd, F⟩ := c.def_ i h
  have e : fdOf K d = fd := by
    obtain ⟨_, _, _, _, _, _, _, _, _, _, _, lk, _⟩ := F.ex
    unfold fdOf
    rw [lk]
  unfold FD
  rw [e]
  exact F
def inCls (st : Stmt) (j : Nat) : Stmt := match st with
  | .ClassDef _ _ _ b _ _ _ _ _ _ _ => b.getD j (.Pass ⟨0, 0, 0, 0⟩)
  | _ => .Pass ⟨0, 0, 0, 0⟩
/-- the head's observation: the kit's, and one more decision about what is written -/
abbrev AlB : Type := He.AlD × Bool
def obsB (n : Nat) (fa : List He.Fa) (fn : List He.DefD) (p : PySem.W.Frag → Bool) (g : Addr → Option Obj) : AlB := (He.obsD fa fn (He.frG g (He.asD g n)), p (He.frG g (He.asD g n)))
def hookB (n : Nat) (fa : List He.Fa) (fn : List He.DefD) (p : PySem.W.Frag → Bool) : PySem.W.Hook where
  α := AlB
  obs := fun s => obsB n fa fn p s.heap.get?
  val := fun _ => (He.valD fn, true)
  says := fun _ h => ∃ K : PySem.W.Frag, K.In h ∧ He.SaysD fa fn K ∧ p K = true
  of := fun _ _ e => ⟨_, He.frG_in, congrArg Prod.fst e, congrArg Prod.snd e⟩
  keeps := fun _ _ _ ⟨K, hK, c⟩ k => ⟨K, PySem.W.Frag.In.keeps hK k, c⟩
theorem obsB_eq {n : Nat} {fa : List He.Fa} {fn : List He.DefD} {p : PySem.W.Frag → Bool} {g : Addr → Option Obj} {s : Shared} (h : ∀ a, g a = s.heap.get? a) : obsB n fa fn p g = (hookB n fa fn p).obs s := by
  have e : g = s.heap.get? := funext h
  rw [e]
  rfl
/-- what isinstance asks, decided -/
def insB (K : PySem.W.Frag) (x : Str) : Bool := He.eqO (PySem.W.findIn K (.ref (He.ga K x)) "__class__") (some (some (.builtin "object.__class__"))) && (He.eqO (PySem.W.specialIn K (.builtin "object.__class__") "__get__") (some (some (.builtin "getset_descriptor.__get__"))) &&
  (decide (PySem.W.takesIn K (.builtin "object.__class__") = some true) && decide (PySem.W.mroIn K (He.ga K x) (.type "object") = some true)))
theorem insB_ok {K : PySem.W.Frag} {x : Str} (h : insB K x = true) (c : Cls K (He.ga K x)) : InsK K (He.ga K x) := by
  unfold insB at h
  simp only [Bool.and_eq_true, decide_eq_true_eq] at h
  exact ⟨c, He.eqO_ok h.1, He.eqO_ok h.2.1, h.2.2.1, h.2.2.2⟩
def tyNames : List String := ["NoneType", "bool", "int", "str", "tuple", "list", "dict"]
/-- no built-in datum is an instance of the own class x -/
def noTyB (K : PySem.W.Frag) (x : Str) : Bool := tyNames.all fun t => decide (PySem.W.kitOne K (.type t) (.ref (He.ga K x)) = some false)
def isB (K : PySem.W.Frag) (y x : Str) (b : Bool) : Bool := decide (PySem.W.kitOne K (.ref (He.ga K y)) (.ref (He.ga K x)) = some b)
def ttNo : String → Option Bool := fun t => if t ∈ tyNames then some false else none
theorem isa_own {K : PySem.W.Frag} {mg : Str → Option Value} {x : Str} {oo : Str → Option Bool} (h : noTyB K x = true) (ho : ∀ C b Ca, oo C = some b → mg C = some (.ref Ca) → InsK K Ca ∧ PySem.W.kitOne K (.ref Ca) (.ref (He.ga K x)) = some b) : IsA K mg (.ref (He.ga K x)) ttNo oo :=
  { ty := fun t b e => by
      unfold ttNo at e
      split at e
      · rename_i hm
        cases e
        exact of_decide_eq_true (List.all_eq_true.mp h t hm)
      · cases e
    own := ho }
end Dy

/-! Dy16: small steps for the printed derivations. -/
namespace Dy
open PySem
open PySem.Spec
open L2

theorem Site.blk {X : Cx} {k : Nat} {s : Shared} {H : Hp} {scope : Scope} {cenv : Env} {fp : List Addr} (h : Site X k) : Site (X.blk s H scope cenv fp) k := ⟨h.room, h.gu⟩
theorem Ut.blk {X : Cx} {s : Shared} {H : Hp} {scope : Scope} {cenv : Env} {fp : List Addr} (h : Ut X) : Ut (X.blk s H scope cenv fp) := ⟨h.un, h.gu⟩
theorem takesF {X : Cx} : L2N.Takes X W0F := fun _ _ h => by
  obtain ⟨_, _, _, _, _, _, _, _, _, _, _, _, _, _, _, _, w⟩ := h
  exact w.elim
section
variable {K : PySem.W.Frag} {mg : Str → Option Value} {C f : Str} {Ca : Addr} {cl : List Str}
theorem fldOk_nil : FldOk K mg [] f := fun C h => nomatch h
theorem fldOk_cons (g : mg C = some (.ref Ca)) (c : Cls K Ca) (n : NoAttr K Ca f) (r : FldOk K mg cl f) : FldOk K mg (C :: cl) f := fun D hD Da e => by
  rcases List.mem_cons.mp hD with z | hD
  · subst z
    rw [g] at e
    cases e
    exact ⟨c, n⟩
  · exact r D hD Da e
def ooPut (C : Str) (b : Bool) (r : Str → Option Bool) : Str → Option Bool := fun D => if D = C then some b else r D
abbrev OoOk (K : PySem.W.Frag) (mg : Str → Option Value) (x : Str) (oo : Str → Option Bool) : Prop := ∀ C b Ca, oo C = some b → mg C = some (.ref Ca) → InsK K Ca ∧ PySem.W.kitOne K (.ref Ca) (.ref (He.ga K x)) = some b
theorem ooNil {x : Str} : OoOk K mg x noO := fun C b Ca h => by cases h
theorem ooCons {x y : Str} {b : Bool} {oo : Str → Option Bool} (g : mg y = some (.ref (He.ga K y))) (i : insB K y = true) (c : Cls K (He.ga K y)) (h : isB K y x b = true) (r : OoOk K mg x oo) : OoOk K mg x (ooPut y b oo) := fun D b' Da e e2 => by
  unfold ooPut at e
  split at e
  · rename_i z
    subst z
    cases e
    rw [g] at e2
    cases e2
    exact ⟨insB_ok i c, of_decide_eq_true h⟩
  · exact r D b' Da e e2
end
end Dy

/-! Dy17: the readings as rewriting rules. -/
namespace Dy
open PySem
open PySem.Spec
open L2

section
variable {α β : Type} {a : α} {M : Mem} {C : Str} {fs : List (Str × Dm)} {k : α → Mem → R β} {r r' : Sl} {kk : α → Mem → RS} {n : Sl → Mem → RS} {d x y : Dm} {m : MO}
@[simp] theorem bind_ok_ap : (R.ok a M).bind k = k a M := Eq.trans rfl rfl
@[simp] theorem bind_ex_ap : (R.ex C fs M : R α).bind k = .ex C fs M := Eq.trans rfl rfl
@[simp] theorem bind_bad_ap : (R.bad : R α).bind k = .bad := Eq.trans rfl rfl
@[simp] theorem of_ok_ap : RS.of (R.ok a M) r kk = kk a M := Eq.trans rfl rfl
@[simp] theorem of_ex_ap : RS.of (R.ex C fs M : R α) r kk = .ex r C fs M := Eq.trans rfl rfl
@[simp] theorem of_bad_ap : RS.of (R.bad : R α) r kk = .bad := Eq.trans rfl rfl
@[simp] theorem seq_nx_ap : (RS.nx r M).seq n = n r M := Eq.trans rfl rfl
@[simp] theorem seq_rt_ap : (RS.rt d M).seq n = .rt d M := Eq.trans rfl rfl
@[simp] theorem seq_rf_ap : (RS.rf m M).seq n = .rf m M := Eq.trans rfl rfl
@[simp] theorem seq_bk_ap : (RS.bk r M).seq n = .bk r M := Eq.trans rfl rfl
@[simp] theorem seq_ct_ap : (RS.ct r M).seq n = .ct r M := Eq.trans rfl rfl
@[simp] theorem seq_ex_ap : (RS.ex r C fs M).seq n = .ex r C fs M := Eq.trans rfl rfl
@[simp] theorem seq_bad_ap : RS.bad.seq n = .bad := Eq.trans rfl rfl
end
section
variable {r : Sl} {M : Mem} {f h g : SE Dm} {t u : SE Bool} {as bs : SE (List Dm)} {i j n m : Nat} {d : Dm} {o : Dm → Dm → Mem → R Dm} {o1 : Dm → Mem → R Dm} {oc : List Dm → Mem → R Dm} {s1 s2 : SS} {F : SE MO} {k : Dm → Sl → Mem → RS} {ks : List Dm → Sl → Mem → RS} {gD : List Dm → List Dm → List Dm} {sf : SF} {sm : SFm} {C x : Str} {cl : List Str} {tt : String → Option Bool} {oo : Str → Option Bool} {a b : Int} {gi : Int → Int → Option Dm} {ds : List Dm}
@[simp] theorem sVar_ap : sVar i r M = match r[i]? with
  | some (.val d) => .ok d M
  | _ => .bad := Eq.trans rfl rfl
@[simp] theorem sC_ap : sC d r M = .ok d M := Eq.trans rfl rfl
@[simp] theorem sBin_ap : sBin o f h r M = (f r M).bind fun x M1 => (h r M1).bind fun y M2 => o x y M2 := Eq.trans rfl rfl
@[simp] theorem sUn_ap : sUn o1 f r M = (f r M).bind o1 := Eq.trans rfl rfl
@[simp] theorem tBin_ap : tBin o f h r M = (sBin o f h r M).bind toB := Eq.trans rfl rfl
@[simp] theorem tUn_ap : tUn' o1 f r M = (sUn o1 f r M).bind toB := Eq.trans rfl rfl
@[simp] theorem tVal_ap : tVal f r M = (f r M).bind oTru := Eq.trans rfl rfl
@[simp] theorem tCh_ap {o' : Dm → Dm → Mem → R Dm} : tCh o o' f h g r M = (sChain o o' f h g r M).bind toB := Eq.trans rfl rfl
@[simp] theorem sNot_ap : sNot t r M = (t r M).bind fun b M1 => .ok (!b) M1 := Eq.trans rfl rfl
@[simp] theorem sAnd_ap : sAnd t u r M = (t r M).bind fun b M1 => if b = true then u r M1 else .ok false M1 := Eq.trans rfl rfl
@[simp] theorem sOr_ap : sOr t u r M = (t r M).bind fun b M1 => if b = true then .ok true M1 else u r M1 := Eq.trans rfl rfl
@[simp] theorem sIf_ap : sIf t f h r M = (t r M).bind fun b M1 => if b = true then f r M1 else h r M1 := Eq.trans rfl rfl
@[simp] theorem sNil_ap : sNil r M = .ok [] M := Eq.trans rfl rfl
@[simp] theorem sNo_ap : (sNo : SE (List Dm)) r M = .ok [] M := Eq.trans rfl rfl
@[simp] theorem sCons_ap : sCons f as r M = (f r M).bind fun d M1 => (as r M1).bind fun ds M2 => .ok (d :: ds) M2 := Eq.trans rfl rfl
@[simp] theorem sTup_ap : sTup as r M = (as r M).bind fun ds M1 => if ds.length ≤ sizeLine then .ok (.tup ds) M1 else .bad := Eq.trans rfl rfl
@[simp] theorem fLst_ap : fLst as r M = (as r M).bind fun ds M1 => if ds.length ≤ sizeLine then .ok (.lst ds) M1 else .bad := Eq.trans rfl rfl
@[simp] theorem sVal_ap : sVal F r M = (F r M).bind fun m M1 => .ok (moV m) M1 := Eq.trans rfl rfl
@[simp] theorem sMem_ap : sMem F r M = (F r M).bind fun m M1 => .ok (.ref M1.length) (M1 ++ [m]) := Eq.trans rfl rfl
@[simp] theorem sCall_ap : sCall oc as r M = (as r M).bind oc := Eq.trans rfl rfl
@[simp] theorem sCallD_ap : sCallD as bs n m gD sf r M = (as r M).bind fun ds M1 => (bs r M1).bind fun es M2 => if ds.length = n ∧ es.length = m then sf (gD ds es) M2 else .bad := Eq.trans rfl rfl
@[simp] theorem sCallF_ap : sCallF as bs n m gD sm r M = (as r M).bind fun ds M1 => (bs r M1).bind fun es M2 => if ds.length = n ∧ es.length = m then sm (gD ds es) M2 else .bad := Eq.trans rfl rfl
@[simp] theorem fMake_ap : fMake C as bs n m gD sf r M = (as r M).bind fun ds M1 => (bs r M1).bind fun es M2 => if ds.length = n ∧ es.length = m then fMake1 C gD sf ds es M2 else .bad := Eq.trans rfl rfl
@[simp] theorem sFld_ap : sFld cl x f r M = (f r M).bind (oFld cl x) := Eq.trans rfl rfl
@[simp] theorem sIsi_ap : sIsi tt oo f r M = (f r M).bind (oIsi tt oo) := Eq.trans rfl rfl
@[simp] theorem sMeth_ap : sMeth C x f as bs n m gD sf r M = (f r M).bind fun d M1 => match insOf d M1 with
  | some (C', fs) => if C' = C ∧ fs.lookup x = none then (as r M1).bind fun ds M2 => (bs r M2).bind fun es M3 => if ds.length = n ∧ es.length = m then sf (gD (d :: ds) es) M3 else .bad else .bad
  | none => .bad := Eq.trans rfl rfl
@[simp] theorem sItems_ap : sItems f r M = (f r M).bind oItems := Eq.trans rfl rfl
@[simp] theorem sRng1_ap : sRng1 f r M = (f r M).bind oRng1 := Eq.trans rfl rfl
@[simp] theorem sRng2_ap : sRng2 f h r M = (f r M).bind fun x M1 => (h r M1).bind (oRng2 x) := Eq.trans rfl rfl
@[simp] theorem aName_ap : aName i d r M = if i < r.length then .nx (r.set i (.val d)) M else .bad := Eq.trans rfl rfl
@[simp] theorem aTup_ap : aTup n ks (.tup ds) r M = if ds.length = n then ks ds r M else .bad := Eq.trans rfl rfl
@[simp] theorem aCons_ap : aCons k ks (d :: ds) r M = (k d r M).seq (ks ds) := Eq.trans rfl rfl
@[simp] theorem aNil_ap : aNil [] r M = .nx r M := Eq.trans rfl rfl
@[simp] theorem sAsg_ap : sAsg f k r M = RS.of (f r M) r fun d M1 => k d r M1 := Eq.trans rfl rfl
@[simp] theorem sPar_ap : sPar i j f h r M = RS.of (f r M) r fun x M1 => RS.of (h r M1) r fun y M2 => if i < r.length ∧ j < r.length then .nx ((r.set i (.val x)).set j (.val y)) M2 else .bad := Eq.trans rfl rfl
@[simp] theorem sDo_ap : sDo f r M = RS.of (f r M) r fun _ M1 => .nx r M1 := Eq.trans rfl rfl
@[simp] theorem sRet_ap : sRet f r M = RS.of (f r M) r fun d M1 => .rt d M1 := Eq.trans rfl rfl
@[simp] theorem sRetN_ap : sRetN r M = .rt .non M := Eq.trans rfl rfl
@[simp] theorem sSkip_ap : sSkip r M = .nx r M := Eq.trans rfl rfl
@[simp] theorem sNever_ap : sNever r M = .bad := Eq.trans rfl rfl
@[simp] theorem sIte_ap : sIte t s1 s2 r M = RS.of (t r M) r fun b M1 => if b = true then s1 r M1 else s2 r M1 := Eq.trans rfl rfl
@[simp] theorem sSeq_ap : sSeq s1 s2 r M = (s1 r M).seq s2 := Eq.trans rfl rfl
@[simp] theorem sFor_ap : sFor as k s1 r M = RS.of (as r M) r fun ds M1 => forGo k s1 ds r M1 := Eq.trans rfl rfl
@[simp] theorem sRetF_ap : sRetF F r M = match F r M with
  | .ok m M1 => .rf m M1
  | .ex C fs M1 => .ex r C fs M1
  | .bad => .bad := Eq.trans rfl rfl
@[simp] theorem oI_ap : oI gi (.int a) (.int b) M = match gi a b with
  | some d => .ok d M
  | none => .bad := Eq.trans rfl rfl
@[simp] theorem gSub2_ap : gSub2 a b = some (.int (a - b)) := Eq.trans rfl rfl
@[simp] theorem gLt_ap : gLt a b = some (.bl (decide (a < b))) := Eq.trans rfl rfl
@[simp] theorem gLe_ap : gLe a b = some (.bl (decide (a ≤ b))) := Eq.trans rfl rfl
@[simp] theorem gGt_ap : gGt a b = some (.bl (decide (b < a))) := Eq.trans rfl rfl
@[simp] theorem gGe_ap : gGe a b = some (.bl (decide (b ≤ a))) := Eq.trans rfl rfl
@[simp] theorem oAdd_ap : oAdd (.int a) (.int b) M = .ok (.int (a + b)) M := Eq.trans rfl rfl
@[simp] theorem oInt_ap : oInt [.int a] M = .ok (.int a) M := Eq.trans rfl rfl
@[simp] theorem toB_ap {b : Bool} : toB (.bl b) M = .ok b M := Eq.trans rfl rfl
@[simp] theorem oTru_ap {b : Bool} : oTru (.bl b) M = .ok b M := Eq.trans rfl rfl
end
theorem runB_nx {k : Nat} {f : SS} {ds : List Dm} {M M' : Mem} {r : Sl} (h : f (ds.map Slot.val ++ List.replicate k .un) M = .nx r M') : runB k f ds M = .ok .non M' := by
  unfold runB
  rw [h]
theorem runB_rt {k : Nat} {f : SS} {ds : List Dm} {M M' : Mem} {d : Dm} (h : f (ds.map Slot.val ++ List.replicate k .un) M = .rt d M') : runB k f ds M = .ok d M' := by
  unfold runB
  rw [h]
theorem kit_int_int : kitB "int" "int" = some true := by decide +kernel
theorem kit_int_bool : kitB "int" "bool" = some false := by decide +kernel
theorem kit_str_str : kitB "str" "str" = some true := by decide +kernel
/-- a comprehension whose items leave the memory as it is -/
theorem lcGo_map {k : Dm → Option (List (Nat × Dm))} {e : SE Dm} {r0 : Sl} {M : Mem} (l : Dm → List (Nat × Dm)) (g : Dm → Dm) : ∀ (ds acc : List Dm), (∀ d ∈ ds, k d = some (l d) ∧ e (setsS r0 (l d)) M = .ok (g d) M) → acc.length + ds.length ≤ sizeLine → lcGo k tsYes e r0 ds acc M = .ok (.lst (acc ++ ds.map g)) M
  | [], acc, _, _ => by
    unfold lcGo
    simp
  | d :: ds, acc, h, hl => by
    obtain ⟨h1, h2⟩ := h d List.mem_cons_self
    have hl' : acc.length < sizeLine := by
      rw [List.length_cons] at hl
      omega
    unfold lcGo
    rw [h1]
    show (match tsYes (setsS r0 (l d)) M with
      | .ok true M1 => match e (setsS r0 (l d)) M1 with
        | .ok x M2 => if acc.length < sizeLine then lcGo k tsYes e r0 ds (acc ++ [x]) M2 else .bad
        | _ => .bad
      | .ok false M1 => lcGo k tsYes e r0 ds acc M1
      | _ => .bad) = _
    unfold tsYes
    simp only [h2, if_pos hl']
    have z := lcGo_map l g ds (acc ++ [g d]) (fun x hx => h x (List.mem_cons_of_mem _ hx)) (by simp only [List.length_append, List.length_cons, List.length_nil] at *; omega)
    unfold tsYes at z
    rw [z]
    simp
/-- .. with an invariant of the memory: I, and J of the items -/
theorem lcGo_inv {k : Dm → Option (List (Nat × Dm))} {e : SE Dm} {r0 : Sl} (I : Mem → Prop) (J : Dm → Prop) : ∀ (ds acc : List Dm) (M : Mem), I M → (∀ x ∈ acc, J x) → (∀ d ∈ ds, ∀ M, I M → ∃ l x M', k d = some l ∧ e (setsS r0 l) M = .ok x M' ∧ J x ∧ I M') → acc.length + ds.length ≤ sizeLine →
    ∃ ys M', lcGo k tsYes e r0 ds acc M = .ok (.lst ys) M' ∧ I M' ∧ (∀ x ∈ ys, J x) ∧ ys.length = acc.length + ds.length
  | [], acc, M, i, j, _, _ => ⟨acc, M, rfl, i, j, by simp⟩
  | d :: ds, acc, M, i, j, h, hl => by
    obtain ⟨l, x, M', h1, h2, jx, i'⟩ := h d List.mem_cons_self M i
    have hl' : acc.length < sizeLine := by
      rw [List.length_cons] at hl
      omega
    obtain ⟨ys, M2, e1, e2, e3, e4⟩ := lcGo_inv I J ds (acc ++ [x]) M' i' (fun y hy => (List.mem_append.mp hy).elim (j y) fun z => by rw [List.mem_singleton.mp z]; exact jx) (fun y hy => h y (List.mem_cons_of_mem _ hy)) (by simp only [List.length_append, List.length_cons, List.length_nil] at *; omega)
    refine ⟨ys, M2, ?_, e2, e3, by rw [e4]; simp only [List.length_append, List.length_cons, List.length_nil]; omega⟩
    unfold lcGo
    rw [h1]
    show (match tsYes (setsS r0 l) M with
      | .ok true M1 => match e (setsS r0 l) M1 with
        | .ok x M2 => if acc.length < sizeLine then lcGo k tsYes e r0 ds (acc ++ [x]) M2 else .bad
        | _ => .bad
      | .ok false M1 => lcGo k tsYes e r0 ds acc M1
      | _ => .bad) = _
    unfold tsYes
    simp only [h2, if_pos hl']
    unfold tsYes at e1
    exact e1
/-- a loop with an invariant that never ends early -/
theorem forGo_inv {k : Dm → Sl → Mem → RS} {body : SS} (I : Nat → Sl → Mem → Prop) : ∀ (ds : List Dm) (n : Nat) (r : Sl) (M : Mem), I n r M → (∀ i d r M, ds[i]? = some d → I (n + i) r M → ∃ r' M', ((k d r M).seq body = .nx r' M' ∨ (k d r M).seq body = .ct r' M') ∧ I (n + i + 1) r' M') → ∃ r' M', forGo k body ds r M = .nx r' M' ∧ I (n + ds.length) r' M'
  | [], n, r, M, i, _ => ⟨r, M, rfl, i⟩
  | d :: ds, n, r, M, i, h => by
    obtain ⟨r1, M1, e, i1⟩ := h 0 d r M rfl i
    obtain ⟨r2, M2, e2, i2⟩ := forGo_inv I ds (n + 1) r1 M1 i1 (fun j d' r' M' hd i' => by
      have z := h (j + 1) d' r' M' hd (by rw [show n + (j + 1) = n + 1 + j by omega]; exact i')
      rw [show n + (j + 1) + 1 = n + 1 + j + 1 by omega] at z
      exact z)
    refine ⟨r2, M2, ?_, by rw [List.length_cons, show n + (ds.length + 1) = n + 1 + ds.length by omega]; exact i2⟩
    unfold forGo
    rcases e with e | e <;> rw [e] <;> exact e2
end Dy

/-! Dy18: dicts at a name. -/
namespace Dy
open PySem
open PySem.Spec
open L2

def valD (kvs : List (Key × Dm)) (k : Key) : Option Dm := (kvs.find? fun kv => decide (kv.1 = k)).map (·.2)
def putKD (kvs : List (Key × Dm)) (k : Key) (v : Dm) : List (Key × Dm) := if (kvs.any fun kv => decide (kv.1 = k)) = true then kvs.map (fun kv => if kv.1 = k then (kv.1, v) else kv) else kvs ++ [(k, v)]
def keyOf : Dm → Option Key
  | .int i => some (.inl i)
  | .str x => some (.inr x)
  | _ => none
section
variable {g : Gm} {N : Av} {im : List Addr} {H : Hp}
theorem RepK.val {k : Key} : ∀ {xs : List (Key × V)} {ds : List (Key × Dm)}, RepK g N im H xs ds → (∀ d, valD ds k = some d → ∃ v, valV xs k = some v ∧ Rep g N im H v d) ∧ (valD ds k = none → valV xs k = none)
  | _, _, .nil => ⟨fun d h => (by cases h), fun _ => rfl⟩
  | _, _, .cons (k := k2) (v := v) (d := d) a r => by
    obtain ⟨h1, h2⟩ := RepK.val (k := k) r
    unfold valD valV at *
    by_cases e : k2 = k
    · have t : decide (k2 = k) = true := decide_eq_true e
      refine ⟨fun d' h => ?_, fun h => ?_⟩
      · rw [List.find?_cons, t] at h
        cases h
        exact ⟨v, by rw [List.find?_cons, t]; rfl, a⟩
      · rw [List.find?_cons, t] at h
        cases h
    · have t : decide (k2 = k) = false := decide_eq_false e
      refine ⟨fun d' h => ?_, fun h => ?_⟩
      · rw [List.find?_cons, t] at h
        obtain ⟨w, q1, q2⟩ := h1 d' h
        exact ⟨w, by rw [List.find?_cons, t]; exact q1, q2⟩
      · rw [List.find?_cons, t] at h
        rw [List.find?_cons, t]
        exact h2 h
theorem RepK.append : ∀ {xs ys : List (Key × V)} {ds es : List (Key × Dm)}, RepK g N im H xs ds → RepK g N im H ys es → RepK g N im H (xs ++ ys) (ds ++ es)
  | _, _, _, _, .nil, h => h
  | _, _, _, _, .cons a r, h => .cons a (r.append h)
theorem RepK.any {k : Key} : ∀ {xs : List (Key × V)} {ds : List (Key × Dm)}, RepK g N im H xs ds → (xs.any fun kv => decide (kv.1 = k)) = (ds.any fun kv => decide (kv.1 = k))
  | _, _, .nil => rfl
  | _, _, .cons _ r => by rw [List.any_cons, List.any_cons, RepK.any r]
theorem RepK.mapPut {k : Key} {v : V} {d : Dm} (q : Rep g N im H v d) : ∀ {xs : List (Key × V)} {ds : List (Key × Dm)}, RepK g N im H xs ds → RepK g N im H (xs.map fun kv => if kv.1 = k then (kv.1, v) else kv) (ds.map fun kv => if kv.1 = k then (kv.1, d) else kv)
  | _, _, .nil => .nil
  | _, _, .cons (k := k2) a r => by
    rw [List.map_cons, List.map_cons]
    by_cases e : k2 = k
    · simp only [e, if_true]
      exact .cons q (RepK.mapPut q r)
    · simp only [e, if_false]
      exact .cons a (RepK.mapPut q r)
theorem RepK.put {k : Key} {v : V} {d : Dm} (q : Rep g N im H v d) {xs : List (Key × V)} {ds : List (Key × Dm)} (h : RepK g N im H xs ds) : RepK g N im H (putK xs k v) (putKD ds k d) := by
  unfold putK putKD
  rw [h.any]
  split
  · exact h.mapPut q
  · exact h.append (.cons q .nil)
theorem key_of {v : V} {d : Dm} {k : Key} (q : Rep g N im H v d) (h : keyOf d = some k) : v = kV k := by
  cases q with
  | int i =>
    cases h
    rfl
  | str x =>
    cases h
    rfl
  | _ => cases h
end
/-- the dict that a datum is -/
def dicV (d : Dm) (M : Mem) : Option (List (Key × Dm)) := match d with
  | .dic kvs => some kvs
  | .ref i => match M[i]? with
    | some (.dic kvs) => some kvs
    | _ => none
  | _ => none
/-- the dict at a name -/
def dicS (r : Sl) (i : Nat) (M : Mem) : Option (List (Key × Dm)) := match r[i]? with
  | some (.val d) => dicV d M
  | some (.own (.dic kvs)) => some kvs
  | _ => none
section
variable {g : Gm} {B : Bs} {im : List Addr} {ow : Ow} {r : Sl} {M : Mem} {σ : St} {H : Hp} {v : V} {d : Dm} {kvs : List (Key × Dm)}
theorem dic_of (S : StRel g B im ow r M σ H) (q : Rep g (ns B.F im ow) im H v d) (h : dicV d M = some kvs) : ∃ a xs, v = .ref a ∧ H a = some (.dK xs) ∧ RepK g (ns B.F im ow) im H xs kvs := by
  cases q with
  | dic e n rk =>
    cases h
    exact ⟨_, _, rfl, e, rk⟩
  | @ref i a hi =>
    unfold dicV at h
    cases hm : M[i]? with
    | none => simp [hm] at h
    | some m =>
      cases m with
      | dic kvs' =>
        simp only [hm, Option.some.injEq] at h
        subst h
        obtain ⟨a', k1, xs, k2, k3⟩ := S.mem i _ hm
        rw [hi] at k1
        cases k1
        exact ⟨_, _, rfl, k2, k3⟩
      | _ => simp [hm] at h
  | _ => cases h
theorem dicS_of (S : StRel g B im ow r M σ H) {i : Nat} (h : dicS r i M = some kvs) : ∃ a xs, σ[i]? = some (some (.ref a)) ∧ H a = some (.dK xs) ∧ RepK g (ns B.F im ow) im H xs kvs := by
  unfold dicS at h
  cases hr : r[i]? with
  | none => simp [hr] at h
  | some s =>
    simp only [hr] at h
    cases s with
    | un => cases h
    | pin => cases h
    | val d =>
      obtain ⟨h1, y, h2, h3⟩ := S.sl i _ hr
      obtain ⟨a, xs, e1, e2, e3⟩ := dic_of S h3 h
      subst e1
      exact ⟨a, xs, h2, e2, e3⟩
    | own m =>
      cases m with
      | dic kvs' =>
        cases h
        obtain ⟨a, h1, h2, xs, h3, h4⟩ := S.sl i _ hr
        exact ⟨a, xs, h2, h3, h4⟩
      | _ => cases h
end
/-- something stands at the name -/
def nmOk (r : Sl) (i : Nat) : Bool := match r[i]? with
  | some (.val _) => true
  | some (.own _) => true
  | _ => false
theorem nm_of {g : Gm} {B : Bs} {im : List Addr} {ow : Ow} {r : Sl} {M : Mem} {σ : St} {H : Hp} (S : StRel g B im ow r M σ H) {i : Nat} (h : nmOk r i = true) : ∃ y, σ[i]? = some (some y) := by
  unfold nmOk at h
  cases hr : r[i]? with
  | none => simp [hr] at h
  | some s =>
    cases s with
    | un => simp [hr] at h
    | pin =>
      obtain ⟨_, a, _, h2⟩ := S.sl i _ hr
      exact ⟨_, h2⟩
    | val d =>
      obtain ⟨_, y, h2, _⟩ := S.sl i _ hr
      exact ⟨y, h2⟩
    | own m =>
      obtain ⟨a, _, h2, _⟩ := S.sl i _ hr
      exact ⟨_, h2⟩
/-- x[k], x a name at which a dict stands -/
def oDGet (r : Sl) (i : Nat) (k : Dm) (M : Mem) : R Dm := match dicS r i M, keyOf k with
  | some kvs, some kk => match valD kvs kk with
    | some d => .ok d M
    | none => .bad
  | _, _ => .bad
def sDGet (i : Nat) (fk : SE Dm) : SE Dm := fun r M => if nmOk r i = true then (fk r M).bind (oDGet r i) else .bad
/-- k in x -/
def oDIn (neg : Bool) (r : Sl) (i : Nat) (k : Dm) (M : Mem) : R Dm := match dicS r i M, keyOf k with
  | some kvs, some kk => .ok (.bl (xor neg (valD kvs kk).isSome)) M
  | _, _ => .bad
def sDIn (neg : Bool) (i : Nat) (fk : SE Dm) : SE Dm := fun r M => (fk r M).bind fun k M1 => if nmOk r i = true then oDIn neg r i k M1 else .bad
/-- x.get(k, e) -/
def oDGet2 (r : Sl) (i : Nat) (k e : Dm) (M : Mem) : R Dm := match dicS r i M, keyOf k with
  | some kvs, some kk => .ok ((valD kvs kk).getD e) M
  | _, _ => .bad
def sDGet2 (i : Nat) (fk fe : SE Dm) : SE Dm := fun r M => match dicS r i M with
  | some _ => (fk r M).bind fun k M1 => (fe r M1).bind fun e M2 => oDGet2 r i k e M2
  | none => .bad
/-- x[k] = v, the dict the name's own or of the memory -/
def putDic (r : Sl) (i : Nat) (kk : Key) (d : Dm) (M : Mem) : RS := match r[i]? with
  | some (.val (.ref j)) => match M[j]? with
    | some (.dic kvs) => if kvs.length < sizeLine then .nx r (M.set j (.dic (putKD kvs kk d))) else .bad
    | _ => .bad
  | some (.own (.dic kvs)) => if kvs.length < sizeLine then .nx (r.set i (.own (.dic (putKD kvs kk d)))) M else .bad
  | _ => .bad
def sDPut (i : Nat) (fv fk : SE Dm) : SS := fun r M => RS.of (fv r M) r fun d M1 => if nmOk r i = true then RS.of (fk r M1) r fun k M2 => match keyOf k with
  | some kk => putDic r i kk d M2
  | none => .bad else .bad
section
variable {X : Cx} {T : Tb} {W : WX} {a e : Expr} {fk fe fv : SE Dm} {pos pos' p1 apos cpos : Pos} {i k : Nat} {x : Str}
theorem Ut.u1 (s : Ut X) : X.A.units + 1 < cLine := by have := s.u64; omega
theorem de_dget (s : Ut X) (hN : X.N[i]? = some x) (hv : Vis X.env.scope x) (hk : DE X T W a fk) (hs : NoSl a) (hd : (x == ("__debug__" : Str)) = false := by decide) (hc : (x == ("__classdict__" : Str)) = false := by decide) : DE X T W (.Subscript (.Name x p1) a pos) (sDGet i fk) :=
  pe_le (pe_dget s.u1 (pe_var hN hv hd hc) hk hs) fun σ H Q ⟨B, im, ow, r, M, S, P⟩ => by
    have P' : Post rlV (gm X T) B W im ow r σ H (if nmOk r i = true then (fk r M).bind (oDGet r i) else .bad) Q := P
    split at P'
    · rename_i hn
      obtain ⟨y, hy⟩ := nm_of S hn
      refine ⟨y, hy, B, im, ow, r, M, S, Post.bind (rl := rlV) P' fun d M1 v im1 H1 _ S1 E1 p1 r1 P1 => ?_⟩
      unfold oDGet at P1
      cases h1 : dicS r i M1 with
      | none =>
        simp only [h1] at P1
        exact P1.elim
      | some kvs =>
        cases h2 : keyOf d with
        | none =>
          simp only [h1, h2] at P1
          exact P1.elim
        | some kk =>
          simp only [h1, h2] at P1
          cases h3 : valD kvs kk with
          | none =>
            simp only [h3] at P1
            exact P1.elim
          | some d' =>
            simp only [h3] at P1
            obtain ⟨a', xs, e1, e2, e3⟩ := dicS_of S1 h1
            obtain ⟨w, q1, q2⟩ := e3.val.1 d' h3
            rw [hy] at e1
            cases e1
            have ek := key_of r1 h2
            subst ek
            exact ⟨a', w, rfl, .inl ⟨xs, kk, .inl e2, rfl, q1.symm⟩, P1.here S1 q2⟩
    · exact P'.elim
theorem valO {g : Gm} {N : Av} {im : List Addr} {H : Hp} {xs : List (Key × V)} {ds : List (Key × Dm)} (h : RepK g N im H xs ds) (k : Key) : (valV xs k).isSome = (valD ds k).isSome := by
  cases e : valD ds k with
  | none => rw [h.val.2 e]; rfl
  | some d =>
    obtain ⟨v, q, _⟩ := h.val.1 d e
    rw [q]
    rfl
theorem de_din (s : Ut X) (hN : X.N[i]? = some x) (hv : Vis X.env.scope x) (hk : DE X T W a fk) (hd : (x == ("__debug__" : Str)) = false := by decide) (hc : (x == ("__classdict__" : Str)) = false := by decide) : DE X T W (.Compare a [.In] [.Name x p1] pos) (sDIn false i fk) :=
  pe_le (pe_cmp (pc_din s.u1 hk (pe_var hN hv hd hc))) fun σ H Q ⟨B, im, ow, r, M, S, P⟩ => ⟨B, im, ow, r, M, S, Post.bind (rl := rlV) P fun d M1 v im1 H1 _ S1 E1 p1 r1 P1 => by
    split at P1
    · rename_i hn
      obtain ⟨y, hy⟩ := nm_of S1 hn
      refine ⟨y, hy, ?_⟩
      unfold oDIn at P1
      cases h1 : dicS r i M1 with
      | none =>
        simp only [h1] at P1
        exact P1.elim
      | some kvs =>
        cases h2 : keyOf d with
        | none =>
          simp only [h1, h2] at P1
          exact P1.elim
        | some kk =>
          simp only [h1, h2] at P1
          obtain ⟨a', xs, e1, e2, e3⟩ := dicS_of S1 h1
          rw [hy] at e1
          cases e1
          have ek := key_of r1 h2
          subst ek
          refine ⟨a', valV xs kk, rfl, .inl ⟨xs, kk, .inl e2, rfl, rfl⟩, ?_⟩
          rw [valO e3 kk]
          have z := P1.here S1 (.bl _)
          simpa using z
    · exact P1.elim⟩
theorem de_dget2 (s : Ut X) (hN : X.N[i]? = some x) (hv : Vis X.env.scope x) (hk : DE X T W a fk) (he : DE X T W e fe) (m : M2 X (.Name x p1) "get" apos a e cpos) (hd : (x == ("__debug__" : Str)) = false := by decide) (hc : (x == ("__classdict__" : Str)) = false := by decide) :
    DE X T W (.Call (.Attribute (.Name x p1) "get" apos) [a, e] [] cpos) (sDGet2 i fk fe) :=
  pe_le (pe_dget2 s.u1 (pe_var hN hv hd hc) hk he m) fun σ H Q ⟨B, im, ow, r, M, S, P⟩ => by
    unfold sDGet2 at P
    cases h0 : dicS r i M with
    | none =>
      simp only [h0] at P
      exact P.elim
    | some kvs0 =>
      simp only [h0] at P
      obtain ⟨a0, xs0, f1, f2, f3⟩ := dicS_of S h0
      refine ⟨.ref a0, f1, a0, rfl, .inl ⟨xs0, .inl f2⟩, B, im, ow, r, M, S, Post.bind (rl := rlV) P fun d M1 v im1 H1 _ S1 E1 p1 r1 P1 => ⟨B, im1, ow, r, M1, S1, Post.bind (rl := rlV) P1 fun d2 M2 v2 im2 H2 _ S2 E2 p2 r2 P2 => ?_⟩⟩
      unfold oDGet2 at P2
      cases h1 : dicS r i M2 with
      | none =>
        simp only [h1] at P2
        exact P2.elim
      | some kvs =>
        cases h2 : keyOf d with
        | none =>
          simp only [h1, h2] at P2
          exact P2.elim
        | some kk =>
          simp only [h1, h2] at P2
          obtain ⟨a', xs, e1, e2, e3⟩ := dicS_of S2 h1
          rw [f1] at e1
          cases e1
          have ek := key_of r1 h2
          subst ek
          refine ⟨valV xs kk, .inl ⟨xs, kk, .inl e2, rfl, rfl⟩, ?_⟩
          cases h3 : valD kvs kk with
          | none =>
            rw [h3] at P2
            rw [e3.val.2 h3]
            exact P2.here S2 r2
          | some d' =>
            rw [h3] at P2
            obtain ⟨w, q1, q2⟩ := e3.val.1 d' h3
            rw [q1]
            exact P2.here S2 q2
theorem ds_dput (s : Ut X) (hN : X.N[i]? = some x) (hv : Vis X.env.scope x) (hk : DE X T W a fk) (hf : DE X T W e fv) (hs : swapsWith e (some (.Subscript (.Name x p1) a pos')) pos.line X.env = pure false := by rfl) (hd : (x == ("__debug__" : Str)) = false := by decide) (hc : (x == ("__classdict__" : Str)) = false := by decide) :
    DS X T W (.Assign [.Subscript (.Name x p1) a pos'] e pos) (sDPut i fv fk) :=
  ps_le (ps_dput s.u1 (pe_var hN hv hd hc) hk hf hs) fun σ H D ⟨B, im, ow, r, M, S, P⟩ => ⟨B, im, ow, r, M, S, PostS.of (rl := rlV) P fun d M1 v im1 H1 _ S1 E1 p1 r1 P1 => by
    split at P1
    · rename_i hn
      obtain ⟨y, hy⟩ := nm_of S1 hn
      refine ⟨y, hy, B, im1, ow, r, M1, S1, PostS.of (rl := rlV) P1 fun d2 M2 v2 im2 H2 _ S2 E2 p2 r2 P2 => ?_⟩
      cases h2 : keyOf d2 with
      | none =>
        simp only [h2] at P2
        exact P2.elim
      | some kk =>
        simp only [h2] at P2
        have ek := key_of r2 h2
        subst ek
        have r1' := Rep.mono E2.ns p2 r1
        unfold putDic at P2
        cases hr : r[i]? with
        | none =>
          simp only [hr] at P2
          exact P2.elim
        | some sl =>
          simp only [hr] at P2
          cases sl with
          | un => exact P2.elim
          | pin => exact P2.elim
          | val dv =>
            cases dv with
            | ref j =>
              cases hm : M2[j]? with
              | none =>
                simp only [hm] at P2
                exact P2.elim
              | some m =>
                simp only [hm] at P2
                cases m with
                | dic kvs =>
                  dsimp only at P2
                  split at P2
                  · rename_i hl
                    obtain ⟨_, y2, g2, g3⟩ := S2.sl i _ hr
                    rw [hy] at g2
                    cases g2
                    cases g3 with
                    | @ref _ a0 hi =>
                      obtain ⟨a', k1, xs, k2, k3⟩ := S2.mem j _ hm
                      have ea : a' = a0 := by
                        rw [hi] at k1
                        exact (Option.some.inj k1).symm
                      subst ea
                      refine ⟨a', _, rfl, .inl ⟨xs, kk, k2, rfl, by rw [k3.length]; exact hl, rfl⟩, ?_⟩
                      have ex : Ext (ns B.F im2 ow) H2 (ns B.F im2 ow) (upd H2 a' (.dK (putK xs kk v))) := Ext.put (.inr (.inl (List.mem_of_getElem? k1)))
                      exact P2 im2 ow σ _ (S2.memAt (m' := .dic (putKD kvs kk d)) hm k1 (fun ps z => by cases z) ⟨putK xs kk v, upd_same, RepK.put (r1'.mono ex (List.prefix_refl _)) (k3.mono ex (List.prefix_refl _))⟩)
                  · exact P2.elim
                | _ => exact P2.elim
            | _ => exact P2.elim
          | own m =>
            cases m with
            | dic kvs =>
              dsimp only at P2
              split at P2
              · rename_i hl
                obtain ⟨a', k0, g2, xs, k2, k3⟩ := S2.sl i _ hr
                rw [hy] at g2
                cases g2
                refine ⟨a', _, rfl, .inl ⟨xs, kk, k2, rfl, by rw [k3.length]; exact hl, rfl⟩, ?_⟩
                have ex : Ext (ns B.F im2 ow) H2 (ns B.F im2 ow) (upd H2 a' (.dK (putK xs kk v))) := Ext.put (.inr (.inr ⟨i, k0⟩))
                exact P2 im2 ow σ _ (S2.setAt (m' := .dic (putKD kvs kk d)) hr k0 (fun ps z => by cases z) ⟨putK xs kk v, upd_same, RepK.put (r1'.mono ex (List.prefix_refl _)) (k3.mono ex (List.prefix_refl _))⟩)
              · exact P2.elim
            | _ => exact P2.elim
    · exact P1.elim⟩
/-- {} -/
def fDic0 : SE MO := fun _ M => .ok (.dic []) M
theorem df_dic0 : DF X T W (.Dict [] [] pos) fDic0 := pe_le pe_dnewK fun σ H Q ⟨B, im, ow, r, M, S, P⟩ p hp =>
  P p im _ (New.of_new S hp (fun ps z => by cases z) ⟨[], upd_same, .nil⟩) (Ext.new hp) (List.prefix_refl _) (S.frh hp)
end
end Dy

/-! Dy19: enumerate over lists, tuples, texts. -/
namespace PySem
open Sem (wp)
open AutoSeq1 (wpAny_loadPart')
theorem dy_new_enumT (a : Addr) (its : Array Value) (z : Nat) (dd : Option Addr) (sl : Array (Option Value)) :
    Meets (Builtin.«enumerate.__new__» ⟨[.type "enumerate", .ref a], []⟩) (fun _ R s => s.heap.get? a = some { cls := .type "tuple", dict := dd, data := .seq its z, slots := sl } ∧
      R (.ok (.ret (.ref (s.heap.push { cls := .type "tuple_iterator", data := .fields #[.ref a, .int 0 0] }).objs.size)))
        { s with heap := (s.heap.push { cls := .type "tuple_iterator", data := .fields #[.ref a, .int 0 0] }).push { cls := .type "enumerate", data := .fields #[.none, .bool false, .ref s.heap.objs.size, rawInt 0, .none, .none] } }) :=
  .of_wp fun prog w A R s h => by
    obtain ⟨hh, g, d, tk, os⟩ := s
    obtain ⟨ha, h⟩ := h
    have sub := sub_enumerate
    have tp : Heap.IsTuple (Shared.heap ⟨hh, g, d, tk, os⟩) a its := ⟨_, ha, rfl, z, rfl⟩
    wp_walk using wpAny_loadPart' ha
    refine wpAny_stack_any fun st => wpAny_pure ?_
    split
    · rename_i c _ _ _ _ _
      cases (c == Value.type "enumerate") <;> (wp_walk using wpAny_loadPart' ha, wpAny_pyIter_tuple tp; exact ⟨_, rfl, h⟩)
    · wp_walk using wpAny_loadPart' ha, wpAny_pyIter_tuple tp
      exact ⟨_, rfl, h⟩
section
variable {prog : Program} {w : World} {A : Around} {E : Value → Shared → Prop} {s : Shared}
theorem dy_call_enumT {a : Addr} {its : Array Value} {Q : Value → Shared → Prop} (hT : s.heap.IsTuple a its)
    (h : ∀ h', IsEnum h' (s.heap.objs.size + 1) s.heap.objs.size 0 .none → h'.IsTupleIter s.heap.objs.size a 0 → (∀ b o, s.heap.get? b = some o → h'.get? b = some o) → Q (.ref (s.heap.objs.size + 1)) { s with heap := h' }) :
    wpAny (model prog w) A (call (.type "enumerate") [.ref a]) Q E s := by
  obtain ⟨⟨c, dd, dt, sl⟩, ha, hc, z, hd⟩ := hT
  have hc' : c = .type "tuple" := hc
  have hd' : dt = .seq its z := hd
  subst hc' hd'
  refine callType_new F.called_enumerate (by decide) (F.typeCall_enumerate_1 _) (F.newCall_enumerate_1 _) (fun obj => F.args_object_init_2 obj _) F.entry_enumerate_new (dy_new_enumT a its z dd sl) ⟨ha, ?_⟩
  generalize hit : ({ cls := .type "tuple_iterator", data := .fields #[.ref a, .int 0 0] } : Obj) = oi
  have hf : oi.isFreed = false := by subst hit; rfl
  have sz : (s.heap.push oi).objs.size = s.heap.objs.size + 1 := Heap.size_push ..
  have he := Heap.get?_push_size (s.heap.push oi) (o := { cls := .type "enumerate", data := .fields #[.none, .bool false, .ref s.heap.objs.size, rawInt 0, .none, .none] }) rfl
  rw [sz] at he
  show _ ∧ _
  rw [sz]
  refine ⟨⟨_, he, rfl⟩, h _ he ⟨_, Heap.get?_push_of_some _ (Heap.get?_push_size _ hf), by subst hit; rfl, by subst hit; rfl⟩ fun b o x => Heap.get?_push_of_some _ (Heap.get?_push_of_some _ x)⟩
end
end PySem
namespace L2
open PySem PySem.Spec PyProof.Rows
/-- a tuple's items with their numbers, each in a new pair -/
def ItEt (K : PySem.W.Frag) (a : Addr) : It :=
  ⟨fun i H => ∃ (xs : List V) (x : V), SqT K H a xs ∧ xs[i]? = some x,
    fun i H v H' => ∃ T x, v = .ref T ∧ H T = none ∧ H' = upd H T (.tup [.int (i : Nat), x]) ∧ ∀ xs, SqT K H a xs → xs[i]? = some x,
    fun i H => ∃ xs : List V, SqT K H a xs ∧ xs.length = i⟩
/-- a text's signs with their numbers -/
def ItEs (z : Str) : It :=
  ⟨fun i _ => i < z.cps.size, fun i H v H' => ∃ T c, v = .ref T ∧ H T = none ∧ H' = upd H T (.tup [.int (i : Nat), .str ⟨#[c]⟩]) ∧ z.cps[i]? = some c, fun i _ => z.cps.size = i⟩
theorem turn_enT {P : Program} {w : World} {K : PySem.W.Frag} {elts : List Expr} {kk : Nat} {tpos : Pos} (a e it : Addr) (hae : a ≠ it) :
    Turn P w K (.Tuple elts kk tpos) (ItEt K a) [e, it] e (fun i h => (∃ old, IsEnum h e it ((i : Nat) : Int) old) ∧ h.IsTupleIter it a i ∧ e ≠ it) where
  mem := by simp
  obj := fun i h ⟨⟨old, he⟩, ⟨o, ho, hc, hd⟩, _⟩ b hb => by
    rcases List.mem_cons.mp hb with z | hb
    · subst z
      exact ⟨_, he, fun v q => nomatch q⟩
    · rw [List.mem_singleton.mp hb]
      exact ⟨o, ho, fun v q => by rw [hd] at q; cases q⟩
  keep := fun i h h' ⟨⟨old, he⟩, hi, hne⟩ k => ⟨⟨old, k e (by simp) _ he⟩, hi.at fun o q => k it (by simp) o q, hne⟩
  item := fun X hP hw hK hc i pins s σ H E I hf ⟨⟨old, he⟩, hit, hne⟩ ⟨xs, x, hq, hx⟩ => by
    subst hP hw hK
    obtain ⟨its, rv, p, _⟩ := I.tuple hq
    obtain ⟨u, hu, ru⟩ := rv.get hx
    have le : e < s.heap.objs.size := Heap.lt_size he
    have li : it < s.heap.objs.size := by
      obtain ⟨_, q, _⟩ := hit
      exact Heap.lt_size q
    have D := Draws.tuple (prog := X.prog) (w := X.w) (A := X.A.in1) (I.ok.hd hc) it a hae its.toArray
    have len : i < its.toArray.size := by
      have := (List.getElem?_eq_some_iff.mp hu).1
      simpa using this
    have nea : e ∉ [it, a] := fun z => by
      rcases List.mem_cons.mp z with z | z
      · exact hne z
      · have z := List.mem_singleton.mp z
        obtain ⟨o, ho, hoc, _⟩ := p
        rw [← z] at ho
        have q := Option.some.inj (ho.symm.trans he)
        rw [q] at hoc
        have q3 : Value.type "enumerate" = Value.type "tuple" := hoc
        exact absurd (Value.type.inj q3) (by decide)
    refine wpAny_pyNext_enum_itemD D he ⟨hit, p⟩ len hne nea fun y h1 tk hy ho st1 hT _ hk => ?_
    have ey : y = u := by
      have q : its[i]? = some y := by simpa using hy
      rw [hu] at q
      exact (Option.some.inj q).symm
    subst ey
    refine ⟨_, rfl, wpAny_letOwnedTupleGo_enum (s := { s with heap := h1, toks := tk + 1 }) ho fun h2 he2 sb => ?_⟩
    have at2 := (sb.2 _ (Nat.ne_of_gt le)).trans hT
    have Inew : Inv X pins σ (upd H s.heap.objs.size (.tup [.int (i : Nat), x])) { s with heap := h2, toks := tk + 1 } :=
      I.turnedNew (ch := [e, it]) (fun b ob hb q => by
        have n1 : b ≠ e := fun z => hb (by rw [z]; exact List.mem_cons_self)
        have n2 : b ≠ it := fun z => hb (by rw [z]; simp)
        exact (sb.2 b n1).trans (hk b ob n1 n2 q)) hf (Nat.le_refl _) ⟨(show 2 ≤ sizeLine by decide), [.int i tk, y], .cons ⟨_, rfl⟩ (.cons ru .nil), ⟨_, at2, rfl, _, rfl⟩⟩
    refine ⟨.ref s.heap.objs.size, _, Inew, rfl, ⟨_, x, rfl, I.hok.fresh (Nat.le_refl _), rfl, fun ys hy => ?_⟩, ⟨⟨y, ?_⟩, st1.1.at fun o q => (sb.2 it (Ne.symm hne)).trans q, hne⟩, fun b hb => ?_⟩
    · rw [I.tuple_inj hy hq]
      exact hx
    · rw [show ((i + 1 : Nat) : Int) = (i : Int) + 1 by omega]
      exact he2
    · have lb : b < s.heap.objs.size := by
        rcases List.mem_cons.mp hb with z | z
        · rw [z]
          exact le
        · rw [List.mem_singleton.mp z]
          exact li
      rw [upd_ne (Nat.ne_of_lt lb)]
      exact (hf b hb).1
  done := fun X hP hw hK hc i pins s σ H E I hf ⟨⟨old, he⟩, hit, hne⟩ ⟨xs, hq, hx⟩ => by
    subst hP hw hK
    obtain ⟨its, rv, p, _⟩ := I.tuple hq
    have D := Draws.tuple (prog := X.prog) (w := X.w) (A := X.A.in1) (I.ok.hd hc) it a hae its.toArray
    have en : its.toArray.size = i := by
      have := rv.length
      simp only [List.size_toArray]
      omega
    obtain ⟨f0, f1, f2, f3, f4, f5⟩ := hf it (by simp)
    exact wpAny_pyNext_enum_endD D he (by rw [en]; exact ⟨hit, p⟩) fun h1 eb => ⟨rfl, I.turned (t' := s.toks) (fun b o hb q => eb b o hb q) f0 f1 f3 f4 f5⟩
  self := fun A i s Q E ⟨⟨_, he⟩, _⟩ h => wpAny_pyIter_enum he h
theorem turn_enS {P : Program} {w : World} {K : PySem.W.Frag} {elts : List Expr} {kk : Nat} {tpos : Pos} (e it : Addr) (z : Str) (t : Tok) :
    Turn P w K (.Tuple elts kk tpos) (ItEs z) [e, it] e (fun i h => (∃ old, IsEnum h e it ((i : Nat) : Int) old) ∧ h.IsStrIter it (strIterType z) z t i ∧ e ≠ it) where
  mem := by simp
  obj := fun i h ⟨⟨old, he⟩, ⟨o, ho, hc, hd⟩, _⟩ b hb => by
    rcases List.mem_cons.mp hb with z | hb
    · subst z
      exact ⟨_, he, fun v q => nomatch q⟩
    · rw [List.mem_singleton.mp hb]
      exact ⟨o, ho, fun v q => by rw [hd] at q; cases q⟩
  keep := fun i h h' ⟨⟨old, he⟩, ⟨o, ho, r⟩, hne⟩ k => ⟨⟨old, k e (by simp) _ he⟩, ⟨o, k it (by simp) o ho, r⟩, hne⟩
  item := fun X hP hw hK hc i pins s σ H E I hf ⟨⟨old, he⟩, hit, hne⟩ hx => by
    subst hP hw hK
    have le : e < s.heap.objs.size := Heap.lt_size he
    have li : it < s.heap.objs.size := by
      obtain ⟨_, q, _⟩ := hit
      exact Heap.lt_size q
    have D := Draws.text (prog := X.prog) (w := X.w) (A := X.A.in1) (I.ok.hd hc) it z t
    have nea : e ∉ [it] := fun y => hne (List.mem_singleton.mp y)
    refine wpAny_pyNext_enum_itemD D he hit hx hne nea fun y h1 tk ⟨c, u, hc1, hy⟩ ho st1 hT _ hk => ?_
    subst hy
    refine ⟨_, rfl, wpAny_letOwnedTupleGo_enum (s := { s with heap := h1, toks := tk + 1 }) ho fun h2 he2 sb => ?_⟩
    have at2 := (sb.2 _ (Nat.ne_of_gt le)).trans hT
    have Inew : Inv X pins σ (upd H s.heap.objs.size (.tup [.int (i : Nat), .str ⟨#[c]⟩])) { s with heap := h2, toks := tk + 1 } :=
      I.turnedNew (ch := [e, it]) (fun b ob hb q => by
        have n1 : b ≠ e := fun z => hb (by rw [z]; exact List.mem_cons_self)
        have n2 : b ≠ it := fun z => hb (by rw [z]; simp)
        exact (sb.2 b n1).trans (hk b ob n1 n2 q)) hf (Nat.le_refl _) ⟨(show 2 ≤ sizeLine by decide), [.int i tk, .str ⟨#[c]⟩ u], .cons ⟨_, rfl⟩ (.cons ⟨_, rfl⟩ .nil), ⟨_, at2, rfl, _, rfl⟩⟩
    refine ⟨.ref s.heap.objs.size, _, Inew, rfl, ⟨_, c, rfl, I.hok.fresh (Nat.le_refl _), rfl, hc1⟩, ⟨⟨.str ⟨#[c]⟩ u, ?_⟩, ?_, hne⟩, fun b hb => ?_⟩
    · rw [show ((i + 1 : Nat) : Int) = (i : Int) + 1 by omega]
      exact he2
    · obtain ⟨o, q1, q2⟩ := st1
      exact ⟨o, (sb.2 it (Ne.symm hne)).trans q1, q2⟩
    · have lb : b < s.heap.objs.size := by
        rcases List.mem_cons.mp hb with z | z
        · rw [z]
          exact le
        · rw [List.mem_singleton.mp z]
          exact li
      rw [upd_ne (Nat.ne_of_lt lb)]
      exact (hf b hb).1
  done := fun X hP hw hK hc i pins s σ H E I hf ⟨⟨old, he⟩, hit, hne⟩ hx => by
    subst hP hw hK
    have D := Draws.text (prog := X.prog) (w := X.w) (A := X.A.in1) (I.ok.hd hc) it z t
    have en : z.cps.size = i := hx
    obtain ⟨f0, f1, f2, f3, f4, f5⟩ := hf it (by simp)
    exact wpAny_pyNext_enum_endD D he (by rw [en]; exact hit) fun h1 eb => ⟨rfl, I.turned (t' := s.toks) (fun b o hb q => eb b o hb q) f0 f1 f3 f4 f5⟩
  self := fun A i s Q E ⟨⟨_, he⟩, _⟩ h => wpAny_pyIter_enum he h
section
variable {X : Cx} {e : Expr} {te : TE} {p pos tpos : Pos} {elts : List Expr} {kk : Nat}
theorem new_two {pins : List (Addr × Obj)} {σ : St} {H : Hp} {s : Shared} (I : Inv X pins σ H s) : ∀ b ∈ [s.heap.objs.size + 1, s.heap.objs.size], FpOk X pins H b := fun b hb => by
  have le : s.heap.objs.size ≤ b := by
    rcases List.mem_cons.mp hb with z | z
    · rw [z]
      exact Nat.le_succ _
    · rw [List.mem_singleton.mp z]
      exact Nat.le_refl _
  exact I.fpOk le (I.hok.fresh le)
theorem pi_enT (hg : Gl X "enumerate") (hm : X.mg "enumerate" = none) (he : PE X e te) (hs : starEach [e] X.env = [(false, eval e X.env)]) :
    PI X (.Tuple elts kk tpos) (.Call (.Name "enumerate" p) [e] [] pos) (fun σ H R => te σ H fun v H1 => ∃ a xs, v = .ref a ∧ SqT X.K H1 a xs ∧ R (ItEt X.K a) H1) :=
  ⟨fun pins s σ H R I h => Call_ (ld_blt I hg hm boot_enumerate (PyProof.Rows.callWith_type1 (thn ((pa_cons he pa_nil hs).run pos pins s σ H (fun vs H1 => match vs with
      | [v] => ∃ a xs, v = .ref a ∧ SqT X.K H1 a xs ∧ R (ItEt X.K a) H1
      | _ => False) I h) fun us s1 ⟨vs, H1, I1, r1, q1⟩ => by
    obtain ⟨a, xs, q, hq⟩ : ∃ a xs, vs = [.ref a] ∧ SqT X.K H1 a xs ∧ R (ItEt X.K a) H1 := by
      match vs, q1 with
      | [v], ⟨a, xs, e1, e2, e3⟩ => exact ⟨a, xs, by rw [e1], e2, e3⟩
    subst q
    cases r1 with
    | cons r rr =>
      cases rr
      cases (show _ = Value.ref a from r)
      obtain ⟨its, _, pt, _⟩ := I1.tuple hq.1
      have na : a ≠ s1.heap.objs.size := Nat.ne_of_lt (by
        obtain ⟨o, ho, _⟩ := pt
        exact Heap.lt_size ho)
      refine dy_call_enumT pt fun h1 he hit hk => wpAny_pyIter_enum he ?_
      exact ⟨_, _, _, _, H1, rfl, I1.kept (t' := s1.toks) hk, turn_enT a (s1.heap.objs.size + 1) s1.heap.objs.size na, ⟨⟨.none, he⟩, hit, Nat.succ_ne_self _⟩, new_two I1, hq.2⟩) hs rfl))⟩
theorem pi_enS (hg : Gl X "enumerate") (hm : X.mg "enumerate" = none) (he : PE X e te) (hs : starEach [e] X.env = [(false, eval e X.env)]) :
    PI X (.Tuple elts kk tpos) (.Call (.Name "enumerate" p) [e] [] pos) (fun σ H R => te σ H fun v H1 => ∃ z, v = .str z ∧ R (ItEs z) H1) :=
  ⟨fun pins s σ H R I h => Call_ (ld_blt I hg hm boot_enumerate (PyProof.Rows.callWith_type1 (thn ((pa_cons he pa_nil hs).run pos pins s σ H (fun vs H1 => match vs with
      | [v] => ∃ z, v = .str z ∧ R (ItEs z) H1
      | _ => False) I h) fun us s1 ⟨vs, H1, I1, r1, q1⟩ => by
    obtain ⟨z, q, hq⟩ : ∃ z, vs = [.str z] ∧ R (ItEs z) H1 := by
      match vs, q1 with
      | [v], ⟨z, e1, e2⟩ => exact ⟨z, by rw [e1], e2⟩
    subst q
    cases r1 with
    | cons r rr =>
      cases rr
      obtain ⟨t, rfl⟩ := r
      refine call_enumerate_str fun h1 he hit _ hk => wpAny_pyIter_enum he ?_
      exact ⟨_, _, _, _, H1, rfl, I1.kept (t' := s1.toks) hk, turn_enS (s1.heap.objs.size + 1) s1.heap.objs.size z t, ⟨⟨.none, he⟩, hit, Nat.succ_ne_self _⟩, new_two I1, hq⟩) hs rfl))⟩
end
end L2
namespace Dy
open PySem
open PySem.Spec
open L2
section
variable {K : PySem.W.Frag} {a : Addr} {xs : List V} {z : Str}
theorem walk_enT : Walk (ItEt K a) xs.length (fun H => SqT K H a xs) (YPair (fun i => some (.int (i : Nat))) (fun i => xs[i]?)) :=
  ⟨fun i _ hi q => ⟨xs, xs[i], q, List.getElem?_eq_getElem hi⟩, fun _ q => ⟨xs, q, rfl⟩, fun i H v H' _ q ⟨T, x, h1, h2, h3, h4⟩ => ⟨T, .int (i : Nat), x, h1, h2, h3, rfl, h4 xs q⟩⟩
theorem walk_enS : Walk (ItEs z) z.cps.size (fun _ => True) (YPair (fun i => some (.int (i : Nat))) (fun i => z.cps[i]?.map fun c => .str ⟨#[c]⟩)) :=
  ⟨fun i _ hi _ => hi, fun _ _ => rfl, fun i H v H' _ _ ⟨T, c, h1, h2, h3, h4⟩ => ⟨T, .int (i : Nat), .str ⟨#[c]⟩, h1, h2, h3, rfl, (congrArg (Option.map fun c => V.str ⟨#[c]⟩) h4 : _)⟩⟩
end
/-- numbered -/
def enD (ds : List Dm) : List Dm := (List.range ds.length).map fun i => .tup [.int (i : Nat), ds.getD i .non]
theorem enD_len (ds : List Dm) : (enD ds).length = ds.length := by simp [enD]
theorem enD_get {ds : List Dm} {i : Nat} {d : Dm} (h : ds[i]? = some d) : (enD ds)[i]? = some (.tup [.int (i : Nat), d]) := by
  have hi := (List.getElem?_eq_some_iff.mp h).1
  unfold enD
  rw [List.getElem?_map, List.getElem?_range hi]
  show some (Dm.tup [.int (i : Nat), ds.getD i .non]) = _
  rw [List.getD_eq_getElem?_getD, h]
  rfl
def oEnum : Dm → Mem → R (List Dm)
  | .lst ds, M => .ok (enD ds) M
  | .frl ds, M => .ok (enD ds) M
  | .tup ds, M => .ok (enD ds) M
  | .str z, M => .ok (enD (z.cps.toList.map fun k => .str ⟨#[k]⟩)) M
  | _, _ => .bad
def sEnum (f : SE Dm) : SE (List Dm) := fun r M => (f r M).bind oEnum
/-- pairs of what ys tells: a source -/
theorem src_pair {g : Gm} {N : Av} {im : List Addr} {H : Hp} {J : It} {ds : List Dm} {G : Hp → Prop} {ix iy : Nat → Option V} {es : List Dm} (hl : es.length = ds.length) (w : Walk J ds.length G (YPair ix iy)) (hG : ∀ N2 H2, Ext N H N2 H2 → G H2)
    (hd : ∀ (i : Nat) (N2 : Av) (im2 : List Addr) (H1 : Hp) (x y : V), i < ds.length → Ext N H N2 H1 → im <+: im2 → ix i = some x → iy i = some y → ∃ d e, es[i]? = some (.tup [d, e]) ∧ Rep g N2 im2 H1 x d ∧ Rep g N2 im2 H1 y e) : Src g N im H J es :=
  ⟨G, YPair ix iy, by rw [hl]; exact w, hG, fun i N2 im2 H1 x H2 hi E p nn yy => by
    obtain ⟨T, u, v, h1, h2, h3, h4, h5⟩ := yy
    obtain ⟨d, e, q1, q2, q3⟩ := hd i N2 im2 H1 u v (by rw [← hl]; exact hi) E p h4 h5
    subst h1 h3
    have ex : Ext N2 H1 N2 (upd H1 T (.tup [u, v])) := Ext.new h2
    refine ⟨.inr ⟨T, _, h2, rfl⟩, .tup [d, e], q1, .tup (xs := [u, v]) ?_ (.cons (q2.mono ex (List.prefix_refl _)) (.cons (q3.mono ex (List.prefix_refl _)) .nil))⟩
    exact .inl ⟨.inl upd_same, fun z => nn T z h2⟩⟩
section
variable {X : Cx} {T : Tb} {W : WX} {e : Expr} {f : SE Dm} {p pos tpos : Pos} {elts : List Expr} {kk : Nat}
theorem di_enum (hg : Gl X "enumerate") (hm : X.mg "enumerate" = none) (h : DE X T W e f) (hs : starEach [e] X.env = [(false, eval e X.env)] := by rfl) : DI X T W (.Tuple elts kk tpos) (.Call (.Name "enumerate" p) [e] [] pos) (sEnum f) :=
  pi_le (pi_or (pi_enum hg hm (pa_cons h pa_nil hs) hs) (pi_or (pi_enT hg hm h hs) (pi_enS hg hm h hs))) fun σ H R ⟨B, im, ow, r, M, S, P⟩ => by
    have P' : Post Src (gm X T) B W im ow r σ H ((f r M).bind oEnum) R := P
    cases hf : f r M with
    | bad =>
      rw [hf] at P'
      exact P'.elim
    | ex C fs M1 =>
      rw [hf] at P'
      exact .inr (.inl ⟨B, im, ow, r, M, S, by rw [hf]; exact P'⟩)
    | ok d M1 =>
      rw [hf] at P'
      have nums : ∀ {N N2 : Av} {im2 : List Addr} {H0 H1 : Hp} {vs : List V} {ds : List Dm} {im1 : List Addr}, Reps (gm X T) N im1 H0 vs ds → Ext N H0 N2 H1 → im1 <+: im2 → ∀ (i : Nat) (x y : V), some (V.int (i : Nat)) = some x → vs[i]? = some y → ∃ d e, (enD ds)[i]? = some (.tup [d, e]) ∧ Rep (gm X T) N2 im2 H1 x d ∧ Rep (gm X T) N2 im2 H1 y e :=
        fun rs E pp i x y h1 h2 => by
          cases h1
          obtain ⟨e, q1, q2⟩ := (rs.mono E pp).getV h2
          exact ⟨_, e, enD_get q1, .int _, q2⟩
      cases d with
      | lst ds =>
        refine .inl ⟨B, im, ow, r, M, S, ?_⟩
        rw [hf]
        intro v im1 H1 S1 E1 p1 r1
        cases r1 with
        | @lst a vs _ h n rs => exact ⟨a, vs, rfl, SqL.of h, P' _ im1 H1 S1 E1 p1 (src_pair (enD_len ds) (by rw [← rs.length]; exact walk_enum) (fun N2 H2 E => SqL.of (E a _ h (fun ps z => by cases z) n).1) fun i N2 im2 H2 x y _ E pp => nums rs E pp i x y)⟩
      | frl ds =>
        refine .inl ⟨B, im, ow, r, M, S, ?_⟩
        rw [hf]
        intro v im1 H1 S1 E1 p1 r1
        cases r1 with
        | @frl a vs _ h rs => exact ⟨a, vs, rfl, h.sq, P' _ im1 H1 S1 E1 p1 (src_pair (enD_len ds) (by rw [← rs.length]; exact walk_enum) (fun N2 H2 E => (h.mono E).sq) fun i N2 im2 H2 x y _ E pp => nums rs E pp i x y)⟩
      | tup ds =>
        refine .inr (.inl ⟨B, im, ow, r, M, S, ?_⟩)
        rw [hf]
        intro v im1 H1 S1 E1 p1 r1
        cases r1 with
        | @tup a vs _ h rs => exact ⟨a, vs, rfl, h.sq, P' _ im1 H1 S1 E1 p1 (src_pair (enD_len ds) (by rw [← rs.length]; exact walk_enT) (fun N2 H2 E => (h.mono E).sq) fun i N2 im2 H2 x y _ E pp => nums rs E pp i x y)⟩
      | str z =>
        refine .inr (.inr ⟨B, im, ow, r, M, S, ?_⟩)
        rw [hf]
        intro v im1 H1 S1 E1 p1 r1
        cases r1 with
        | str =>
          refine ⟨z, rfl, P' _ im1 H1 S1 E1 p1 (src_pair (ds := z.cps.toList.map fun k => .str ⟨#[k]⟩) (enD_len _) (by rw [List.length_map, Array.length_toList]; exact walk_enS) (fun _ _ _ => trivial) fun i N2 im2 H2 x y _ E pp h1 h2 => ?_)⟩
          cases h1
          cases hc : z.cps[i]? with
          | none =>
            rw [hc] at h2
            cases h2
          | some c =>
            rw [hc] at h2
            cases h2
            exact ⟨_, .str ⟨#[c]⟩, enD_get (by rw [List.getElem?_map, Array.getElem?_toList, hc]; rfl), .int _, .str _⟩
      | _ => exact P'.elim
end
end Dy

/-! Dy20: attributes as targets. -/
namespace L2
open PySem PySem.Spec PyProof.Rows
def gAttr (K : PySem.W.Frag) (to : TE) (f : Str) : TG := fun v σ H Q => to σ H fun x H1 => ∃ a C dx fs, x = .ref a ∧ H1 a = some (.ins C dx fs) ∧ Cls K C ∧ NoAttr K C f ∧ fs.length < 1000 ∧ Q σ (upd H1 a (.ins C dx (putF f v fs)))
theorem pg_attr {X : Cx} {o : Expr} {f : Str} {pos : Pos} {to : TE} (ho : PE X o to) : PG X (.Attribute o f pos) (gAttr X.K to f) := by
  refine ⟨fun pins s σ H v u Q I r h => ?_⟩
  rw [assign_Attribute]
  refine wpAny_bind (wpAny_holding (thn (ho.run pins s σ H _ I h) fun ov s1 ⟨x, H1, I1, r1, a, C, dx, fs, e1, e2, c, n, l, q⟩ => ?_))
  subst e1
  cases (show ov = Value.ref a from r1)
  refine wpAny_bind (wpAny_standAt (wpAny_bind (wpAny_holding (setattr_ok I1 e2 c n l r fun s2 I2 => ?_))))
  exact wpAny_release ⟨σ, _, I2, q⟩
end L2
namespace Dy
open PySem
open PySem.Spec
open L2
def aAttr (i : Nat) (cl : List Str) (f : Str) : Dm → Sl → Mem → RS := fun y r M => match r[i]? with
  | some (.val (.ref j)) => match M[j]? with
    | some (.ins C fs) => if C ∈ cl ∧ fs.length < 1000 then .nx r (M.set j (.ins C (putD f y fs))) else .bad
    | _ => .bad
  | _ => .bad
theorem nx_attr (i : Nat) (cl : List Str) (f : Str) : OnlyNx (aAttr i cl f) := fun d r M => by
  unfold aAttr
  repeat' split
  all_goals first
    | exact .inl ⟨_, _, rfl⟩
    | exact .inr rfl
section
variable {X : Cx} {T : Tb} {W : WX} {i : Nat} {x f : Str} {p1 pos : Pos} {cl : List Str}
theorem attr_le {g : Gm} {B : Bs} {im : List Addr} {ow : Ow} {r : Sl} {M : Mem} {σ : St} {H : Hp} {v : V} {d : Dm} {Q : St → Hp → Prop} (hc : FldOk g.K g.mg cl f) (S : StRel g B im ow r M σ H) (q : Rep g (ns B.F im ow) im H v d)
    (n : ∀ a r' M' o, aAttr i cl f d r M = .nx r' M' → wr im ow a → Plain o → StRel g B im ow r' M' σ (upd H a o) → Q σ (upd H a o)) (nb : aAttr i cl f d r M ≠ .bad) : gAttr g.K (fun σ H Q => ∃ y, σ[i]? = some (some y) ∧ Q y H) f v σ H Q := by
  have nb' := nb
  unfold aAttr at nb
  cases hr : r[i]? with
  | none => simp [hr] at nb
  | some s =>
    cases s with
    | val d' =>
      cases d' with
      | ref j =>
        cases hm : M[j]? with
        | none => simp [hr, hm] at nb
        | some m =>
          cases m with
          | ins C fs =>
            by_cases hC : C ∈ cl ∧ fs.length < 1000
            · obtain ⟨_, y, h2, h3⟩ := S.sl i _ hr
              cases h3 with
              | @ref _ a hi =>
                obtain ⟨a', k1, Ca, dx, xs, k2, k3, k4⟩ := S.mem j _ hm
                have ea : a' = a := by
                  rw [hi] at k1
                  exact (Option.some.inj k1).symm
                subst ea
                obtain ⟨c1, c2⟩ := hc C hC.1 Ca k2
                refine ⟨_, h2, a', Ca, dx, xs, rfl, k3, c1, c2, by rw [k4.length]; exact hC.2, ?_⟩
                have ex : Ext (ns B.F im ow) H (ns B.F im ow) (upd H a' (.ins Ca dx (putF f v xs))) := Ext.put (.inr (.inl (List.mem_of_getElem? k1)))
                refine n a' r (M.set j (.ins C (putD f d fs))) _ ?_ (.inl (List.mem_of_getElem? k1)) (plain_ins _ _ _) (S.memAt (m' := .ins C (putD f d fs)) hm k1 (fun ps z => by cases z) ⟨Ca, dx, putF f v xs, k2, upd_same, RepF.putD (q.mono ex (List.prefix_refl _)) (k4.mono ex (List.prefix_refl _))⟩)
                unfold aAttr
                simp only [hr, hm]
                rw [if_pos hC]
            · simp [hr, hm, hC] at nb
          | _ => simp [hr, hm] at nb
      | _ => simp [hr] at nb
    | _ => simp [hr] at nb
theorem dg_attr (hN : X.N[i]? = some x) (hv : Vis X.env.scope x) (hc : FldOk X.K X.mg cl f) (hd : (x == ("__debug__" : Str)) = false := by decide) (hcd : (x == ("__classdict__" : Str)) = false := by decide) : DG X T (.Attribute (.Name x p1) f pos) (aAttr i cl f) :=
  pg_le (pg_attr (pe_var hN hv hd hcd)) fun v σ H Q ⟨B, im, ow, r, M, d, S, q, P⟩ => by
    refine attr_le (g := gm X T) (i := i) (cl := cl) hc S q (fun a r' M' o e _ _ S' => ?_) fun z => ?_
    · rw [e] at P
      exact P im ow σ _ S'
    · rw [z] at P
      exact P.elim
theorem dgs_attr {es : List Expr} {h : List Dm → Sl → Mem → RS} (hN : X.N[i]? = some x) (hv : Vis X.env.scope x) (hc : FldOk X.K X.mg cl f) (h2 : DGs X T es h) (hd : (x == ("__debug__" : Str)) = false := by decide) (hcd : (x == ("__classdict__" : Str)) = false := by decide)
    (hs : (assignEach (.Attribute (.Name x p1) f pos :: es) X.env).map (·.2) = assign (.Attribute (.Name x p1) f pos) X.env :: (assignEach es X.env).map (·.2) := by rfl) : DGs X T (.Attribute (.Name x p1) f pos :: es) (aCons (aAttr i cl f) h) :=
  pgs_le (pgs_cons (pg_attr (pe_var hN hv hd hcd)) h2 hs) fun vs σ H Q ⟨B, im, ow, r, M, ds, S, q, P⟩ => by
    cases q with
    | nil => exact P.elim
    | @cons v d vs ds q qs =>
      refine ⟨v, vs, rfl, ?_⟩
      have P' : PostS (gm X T) B (fun _ _ _ _ => False) { nx := Q, rt := fun _ _ => False } ((aAttr i cl f d r M).seq (h ds)) := P
      refine attr_le (g := gm X T) (i := i) (cl := cl) (Q := fun σ' H' => tTs (gm X T) h vs σ' H' Q) hc S q (fun a r' M' o e wa po S' => ?_) fun z => ?_
      · rw [e] at P'
        exact ⟨B, im, ow, r', M', ds, S', qs.mono (Ext.put (.inr wa)) (List.prefix_refl _), P'⟩
      · rw [z] at P'
        exact P'.elim
end
end Dy

/-! Dy21: list comprehensions of two clauses. -/
namespace Dy
open PySem
open PySem.Spec
open L2

/-- a walk within a block, from any heap -/
theorem walk_w {J : It} {n : Nat} {G : Hp → Prop} {Y : Nat → Hp → V → Hp → Prop} (w : Walk J n G Y) {S : (Hp → Prop) → V → Hp → Prop} {Qd : Hp → Prop} (Pv : Nat → Hp → Prop) {H0 : Hp} (h0 : Pv 0 H0) (hG : ∀ i H, i ≤ n → Pv i H → G H)
    (hs : ∀ i x H H', i < n → Pv i H → Y i H x H' → S (Pv (i + 1)) x H') (hd : ∀ H, Pv n H → Qd H) :
    ∃ W : Nat → Nat → Hp → Prop, (∃ m, W 0 m H0) ∧ ∀ i m H, W i m H → (J.stop i H ∧ Qd H) ∨ (J.go i H ∧ ∃ Nx : Hp → Prop, (∀ H', Nx H' → ∃ m', m' < m ∧ W (i + 1) m' H') ∧ ∀ x H', J.yld i H x H' → S Nx x H') := by
  refine ⟨fun i m H => i + m = n ∧ Pv i H, ⟨n, Nat.zero_add n, h0⟩, fun i m H ⟨e, p⟩ => ?_⟩
  have g := hG i H (by omega) p
  cases m with
  | zero =>
    have e' : i = n := by omega
    subst e'
    exact .inl ⟨w.stops H g, hd H p⟩
  | succ m => exact .inr ⟨w.goes i H (by omega) g, Pv (i + 1), fun H' p' => ⟨m, by omega, by omega, p'⟩, fun x H' y => hs i x H H' (by omega) p (w.yields i H x H' (by omega) g y)⟩
/-- what stands at each turn of a block's loop: the list at D so far -/
structure At (g : Gm) (B : Bs) (ow : Ow) (r0 : Sl) (σ0 : St) (D : Addr) (im : List Addr) (M : Mem) (acc : List Dm) (H : Hp) : Prop where
  st : StRel g B im ow r0 M σ0 H
  here : ∃ vs, H D = some (.lst vs) ∧ Reps g (ns B.F im ow) im H vs acc
section
variable {g : Gm} {B : Bs} {ow : Ow} {r : Sl} {σ : St} {D : Addr} {own : List Nat} {k : Dm → Option (List (Nat × Dm))} {t : SE Bool} {e : SE Dm} {tg : TG} {J : It} {ds : List Dm}
/-- one clause's loop: from any state of the block to what stands behind it -/
theorem loop1 (hp : Pt g.K tg own k) (hn : ∀ i ∈ own, ow i = none) (hFD : B.F D) (hWD : Frh B.W0 B.H0 D) {N0 : Av} {im0 : List Addr} {H0 : Hp} (src : Src g N0 im0 H0 J ds) {im1 : List Addr} {M1 : Mem} {acc1 : List Dm} {H1 : Hp} (A : At g B ow (wipeS r own) (L2.wipe σ own) D im1 M1 acc1 H1)
    (x0 : ∀ im H, At g B ow (wipeS r own) (L2.wipe σ own) D im M1 acc1 H → True) (xe : ∀ im M acc H, At g B ow (wipeS r own) (L2.wipe σ own) D im M acc H → Ext N0 H0 (ns B.F im ow) H ∧ im0 <+: im) {acc' : List Dm} {M' : Mem} (hgo : lcGo k t e (wipeS r own) ds acc1 M1 = .ok (.lst acc') M') {Qd : Hp → Prop} (fin : ∀ im H, At g B ow (wipeS r own) (L2.wipe σ own) D im M' acc' H → Qd H) :
    ∃ W : Nat → Nat → Hp → Prop, (∃ m, W 0 m H1) ∧ ∀ i m H, W i m H → (J.stop i H ∧ Qd H) ∨ (J.go i H ∧ ∃ Nx : Hp → Prop, (∀ H', Nx H' → ∃ m', m' < m ∧ W (i + 1) m' H') ∧ ∀ x H', J.yld i H x H' →
      tg x (L2.wipe σ own) H' fun σ2 H2 => L2.wipe σ2 own = L2.wipe σ own ∧ tB g W0F t σ2 H2 fun b H3 => if b = true then tD g W0F e σ2 H3 fun y H4 => ∃ acc, H4 D = some (.lst acc) ∧ acc.length < sizeLine ∧ Nx (upd H4 D (.lst (acc ++ [y]))) else Nx H3) := by
  obtain ⟨G, Y, walk, hG, hY⟩ := src
  refine walk_w walk (S := fun Nx x H' => tg x (L2.wipe σ own) H' fun σ2 H2 => L2.wipe σ2 own = L2.wipe σ own ∧ tB g W0F t σ2 H2 fun b H3 => if b = true then tD g W0F e σ2 H3 fun y H4 => ∃ acc, H4 D = some (.lst acc) ∧ acc.length < sizeLine ∧ Nx (upd H4 D (.lst (acc ++ [y]))) else Nx H3)
    (fun i H2 => ∃ im2 M2 acc, At g B ow (wipeS r own) (L2.wipe σ own) D im2 M2 acc H2 ∧ lcGo k t e (wipeS r own) (ds.drop i) acc M2 = .ok (.lst acc') M') ⟨im1, M1, acc1, A, hgo⟩ (fun i H2 _ ⟨im2, M2, acc, A2, _⟩ => hG _ H2 (xe im2 M2 acc H2 A2).1) ?_ ?_
  · rintro i x H2 H3 hi ⟨im2, M2, acc, A2, P3⟩ hy
    obtain ⟨S4, vs, hDv, ra⟩ := A2
    have x5 := (xe im2 M2 acc H2 ⟨S4, vs, hDv, ra⟩).1
    have p4 := (xe im2 M2 acc H2 ⟨S4, vs, hDv, ra⟩).2
    obtain ⟨hh, d, hd, rd⟩ := hY i (ns B.F im2 ow) im2 H2 x H3 hi x5 p4 (fun a hn e => S4.fresh e hn) hy
    have S5 : StRel g B im2 ow (wipeS r own) M2 (L2.wipe σ own) H3 := by
      rcases hh with rfl | ⟨p, o, hp, rfl⟩
      · exact S4
      · exact S4.new hp o
    have x3 : Ext (ns B.F im2 ow) H2 (ns B.F im2 ow) H3 := by
      rcases hh with rfl | ⟨p, o, hp, rfl⟩
      · exact Ext.refl
      · exact Ext.new hp
    have hDv3 : H3 D = some (.lst vs) := by
      rcases hh with rfl | ⟨p, o, hp, rfl⟩
      · exact hDv
      · rw [upd_ne (ne_of_none hDv hp)]
        exact hDv
    have ra3 := ra.mono x3 (List.prefix_refl _)
    have ed : ds.drop i = d :: ds.drop (i + 1) := by
      obtain ⟨h1, h2⟩ := List.getElem?_eq_some_iff.mp hd
      rw [List.drop_eq_getElem_cons h1, h2]
    rw [ed] at P3
    unfold lcGo at P3
    cases hk : k d with
    | none =>
      rw [hk] at P3
      cases P3
    | some l =>
      rw [hk] at P3
      dsimp only at P3
      obtain ⟨ws, rw1, hw1⟩ := hp.run g _ _ _ x d l rfl rd hk
      have hin := hp.own d l hk
      refine hw1 _ _ ⟨?_, ?_⟩
      · rw [wipe_sets rw1 hin]
        exact wipe_idem own fun i h => h
      have S6 : StRel g B im2 ow (setsS (wipeS r own) l) M2 (setsV (L2.wipe σ own) ws) H3 := S5.sets rw1 fun p hp => hn _ (hin p hp)
      have back : ∀ {im7 : List Addr} {M7 : Mem} {H7 : Hp}, StRel g B im7 ow (setsS (wipeS r own) l) M7 (setsV (L2.wipe σ own) ws) H7 → StRel g B im7 ow (wipeS r own) M7 (L2.wipe σ own) H7 := fun S7 => by
        have z := S7.wipe hn
        rw [wipeS_sets hin, wipe_sets rw1 hin, wipeS_idem own (fun i h => h), wipe_idem own (fun i h => h)] at z
        exact z
      have keepD : ∀ {im7 : List Addr} {H7 : Hp}, Ext (wr im2 ow) H3 (wr im7 ow) H7 → H7 D = some (.lst vs) := fun x7 => (x7 D _ hDv3 (fun ps z => by cases z) (by
        rintro (z | ⟨i, z⟩)
        · exact S5.imF D z hFD
        · exact (S5.sep i D z).2 hFD)).1
      cases ht : t (setsS (wipeS r own) l) M2 with
      | ok b M5 =>
        rw [ht] at P3
        refine ⟨B, im2, ow, _, M2, S6, ?_⟩
        rw [ht]
        intro b' im5 H5 S7 E7 p7 eb
        have eb : b' = b := eb
        subst eb
        cases b' with
        | false =>
          rw [if_neg (by simp)]
          exact ⟨im5, M5, acc, ⟨back S7, vs, keepD E7, ra3.mono E7.ns p7⟩, P3⟩
        | true =>
          rw [if_pos rfl]
          dsimp only at P3
          cases he : e (setsS (wipeS r own) l) M5 with
          | ok y M8 =>
            rw [he] at P3
            refine ⟨B, im5, ow, _, M5, S7, ?_⟩
            rw [he]
            intro v im8 H8 S8 E8 p8 r8
            dsimp only at P3
            split at P3
            · rename_i hl
              have E78 := E7.trans E8
              have ra8 := ra3.mono E78.ns (p7.trans p8)
              have hD8 := keepD E78
              exact ⟨vs, hD8, by rw [ra8.length]; exact hl, im8, M8, acc ++ [y], ⟨(back S8).pokeF hFD hWD hD8 (plain_lst _) (fun ps z => by cases z), vs ++ [v], upd_same, (ra8.append (.cons r8 .nil)).mono (Ext.put (.inl hFD)) (List.prefix_refl _)⟩, P3⟩
            · cases P3
          | _ =>
            rw [he] at P3
            cases P3
      | _ =>
        rw [ht] at P3
        cases P3
  · rintro H2 ⟨im2, M2, acc, A2, P3⟩
    rw [List.drop_length] at P3
    cases P3
    exact fin im2 H2 A2
end
end Dy

/-! Dy22: list comprehensions of two clauses: the rule. -/
namespace Dy
open PySem
open PySem.Spec
open L2

def lc2Go (k : Dm → Option (List (Nat × Dm))) (t : SE Bool) (it1 : SE (List Dm)) (own1 : List Nat) (k1 : Dm → Option (List (Nat × Dm))) (t1 : SE Bool) (e : SE Dm) (r0 : Sl) : List Dm → List Dm → Mem → R MO
  | [], acc, M => .ok (.lst acc) M
  | d :: ds, acc, M => match k d with
    | none => .bad
    | some l => match t (setsS r0 l) M with
      | .ok true M1 => match it1 (setsS r0 l) M1 with
        | .ok ds1 M2 => if noOwn (setsS r0 l) own1 = true then match lcGo k1 t1 e (wipeS (setsS r0 l) own1) ds1 acc M2 with
          | .ok (.lst acc') M3 => lc2Go k t it1 own1 k1 t1 e r0 ds acc' M3
          | _ => .bad else .bad
        | _ => .bad
      | .ok false M1 => lc2Go k t it1 own1 k1 t1 e r0 ds acc M1
      | _ => .bad
section
variable {g : Gm} {B : Bs} {ow : Ow} {r : Sl} {σ : St} {D : Addr} {own own1 : List Nat} {k k1 : Dm → Option (List (Nat × Dm))} {t t1 : SE Bool} {it1 : SE (List Dm)} {e : SE Dm} {tg tg1 : TG} {J : It} {ds : List Dm}
/-- the second clause's loop, from any state of the block -/
theorem inner (hp : Pt g.K tg1 own1 k1) (hn : ∀ i ∈ own1, ow i = none) (hFD : B.F D) (hWD : Frh B.W0 B.H0 D) {im1 : List Addr} {M1 : Mem} {acc1 : List Dm} {H1 : Hp} (src : Src g (ns B.F im1 ow) im1 H1 J ds) (S : StRel g B im1 ow r M1 σ H1) (hD : ∃ vs, H1 D = some (.lst vs) ∧ Reps g (ns B.F im1 ow) im1 H1 vs acc1)
    {acc' : List Dm} {M' : Mem} (hgo : lcGo k1 t1 e (wipeS r own1) ds acc1 M1 = .ok (.lst acc') M') {Qd : Hp → Prop} (fin : ∀ im H, At g B ow (wipeS r own1) (L2.wipe σ own1) D im M' acc' H → Qd H) :
    ∃ W : Nat → Nat → Hp → Prop, (∃ m, W 0 m H1) ∧ ∀ i m H, W i m H → (J.stop i H ∧ Qd H) ∨ (J.go i H ∧ ∃ Nx : Hp → Prop, (∀ H', Nx H' → ∃ m', m' < m ∧ W (i + 1) m' H') ∧ ∀ x H', J.yld i H x H' →
      tg1 x (L2.wipe σ own1) H' fun σ2 H2 => L2.wipe σ2 own1 = L2.wipe σ own1 ∧ tB g W0F t1 σ2 H2 fun b H3 => if b = true then tD g W0F e σ2 H3 fun y H4 => ∃ acc, H4 D = some (.lst acc) ∧ acc.length < sizeLine ∧ Nx (upd H4 D (.lst (acc ++ [y]))) else Nx H3) := by
  have Sw := S.wipe hn
  have Sn : StRel g ⟨B.F, H1, fun a => wr im1 ow a ∨ a = D, im1⟩ im1 ow (wipeS r own1) M1 (L2.wipe σ own1) H1 :=
    ⟨Sw.len, Sw.sl, Sw.out, Sw.inj, Sw.sep, Sw.tr, Sw.mlen, Sw.nd, Sw.mem, Sw.imF, Sw.fr, fun a o ea ta na => ⟨ea, fun z => na (.inl z)⟩, List.prefix_refl _, Sw.tab, S.root.step (fun a o ea ta na => by
      obtain ⟨e1, n1⟩ := S.ext a o ea ta fun z => na (.inr z)
      refine ⟨e1, fun z => z.elim (fun z => na (.inl z)) fun z => z.elim n1 fun z => na (.inl ?_)⟩
      rw [z]
      exact hFD) S.pre⟩
  refine loop1 (B := ⟨B.F, H1, fun a => wr im1 ow a ∨ a = D, im1⟩) hp hn hFD (fun _ _ _ => .inr rfl) src ⟨Sn, hD⟩ (fun _ _ _ => trivial) (fun im M acc H A => ⟨fun a o ea ta na => ?_, A.st.pre⟩) hgo fun im H A => fin im H ⟨?_, A.here⟩
  · have nD : a ≠ D := fun z => na (.inl (by rw [z]; exact hFD))
    obtain ⟨e1, n1⟩ := A.st.ext a o ea ta fun z => z.elim (fun z => na (.inr z)) nD
    exact ⟨e1, fun z => z.elim (fun z => na (.inl z)) n1⟩
  · have Z := A.st
    refine ⟨Z.len, Z.sl, Z.out, Z.inj, Z.sep, Z.tr, Z.mlen, Z.nd, Z.mem, Z.imF, Z.fr, fun a o ea ta na => ?_, S.pre.trans Z.pre, Z.tab, S.root⟩
    obtain ⟨e1, n1⟩ := S.ext a o ea ta na
    exact Z.ext a o e1 ta fun z => z.elim n1 fun z => na (hWD o (by rw [← z]; exact ea) ta |> fun q => by rw [z]; exact q)
end
theorem lc2Go_noex {k k1 : Dm → Option (List (Nat × Dm))} {t t1 : SE Bool} {it1 : SE (List Dm)} {own1 : List Nat} {e : SE Dm} {r0 : Sl} {C : Str} {fs : List (Str × Dm)} {M' : Mem} : ∀ (ds acc : List Dm) (M : Mem), lc2Go k t it1 own1 k1 t1 e r0 ds acc M ≠ .ex C fs M'
  | [], acc, M, h => by cases h
  | d :: ds, acc, M, h => by
    unfold lc2Go at h
    repeat' split at h
    all_goals first
      | cases h
      | exact lc2Go_noex ds _ _ h
def fLc2 (own : List Nat) (it : SE (List Dm)) (k : Dm → Option (List (Nat × Dm))) (t : SE Bool) (it1 : SE (List Dm)) (own1 : List Nat) (k1 : Dm → Option (List (Nat × Dm))) (t1 : SE Bool) (e : SE Dm) : SE MO := fun r M => (it r M).bind fun ds M1 => if noOwn r own = true then lc2Go k t it1 own1 k1 t1 e (wipeS r own) ds [] M1 else .bad
theorem lc2_of {g : Gm} {W : WX} {own own1 : List Nat} {it it1 : SE (List Dm)} {k k1 : Dm → Option (List (Nat × Dm))} {t t1 : SE Bool} {e : SE Dm} {tg tg1 : TG} (hp : Pt g.K tg own k) (hp1 : Pt g.K tg1 own1 k1) (hsub : ∀ i ∈ own1, i ∈ own) {σ : St} {H : Hp} {Q : VK} (h : tF g W (fLc2 own it k t it1 own1 k1 t1 e) σ H Q) :
    tLc2 (tG Src g W it) tg (tB g W0F t) (tG Src g W0F it1) tg1 (tB g W0F t1) (tD g W0F e) own own1 σ H Q := by
  obtain ⟨B, im, ow, r, M, S, P⟩ := h
  refine ⟨B, im, ow, r, M, S, PostF.bind (rl := Src) P fun ds M1 J im1 H1 _ S1 E1 p1 src P1 => ?_⟩
  intro D hD
  obtain ⟨G, Y, walk, hG, hY⟩ := src
  split at P1
  · rename_i hno
    have hn := S1.notOwned hno
    -- the block's entry
    have S2 : StRel g (B.plus D) im1 ow (wipeS r own) M1 (L2.wipe σ own) (upd H1 D (.lst [])) := (S1.newPlus hD fun ps z => by cases z).wipe hn
    have xD : Ext (wr im1 ow) H1 (wr im1 ow) (upd H1 D (.lst [])) := Ext.new hD
    generalize hB' : (⟨(B.plus D).F, H1, wr im1 ow, im1⟩ : Bs) = B'
    have S3 : StRel g B' im1 ow (wipeS r own) M1 (L2.wipe σ own) (upd H1 D (.lst [])) := by
      rw [← hB']
      exact ⟨S2.len, S2.sl, S2.out, S2.inj, S2.sep, S2.tr, S2.mlen, S2.nd, S2.mem, S2.imF, S2.fr, xD, List.prefix_refl _, S2.tab, S2.root.now S1.ext S1.pre⟩
    have hF' : B'.F = (B.plus D).F := by rw [← hB']
    have hFD : B'.F D := by rw [hF']; exact .inr rfl
    have hWD : Frh B'.W0 B'.H0 D := by
      rw [← hB']
      intro o eo
      have eo : H1 D = some o := eo
      rw [hD] at eo
      cases eo
    -- what is wanted at the end
    let PF : R MO → Prop := fun q => match q with
      | .ok m M' => ∀ im' H', StRel g B' im' ow (wipeS r own) M' (L2.wipe σ own) H' → MoOk g (ns B'.F im' ow) im' H' D m → Q (.ref D) H'
      | _ => False
    have hPF : PF (lc2Go k t it1 own1 k1 t1 e (wipeS r own) ds [] M1) := by
      cases hq : lc2Go k t it1 own1 k1 t1 e (wipeS r own) ds [] M1 with
      | ok m M' =>
        rw [hq] at P1
        intro im' H' S' ok
        have x' : Ext (wr im1 ow) H1 (wr im' ow) H' := by
          have z := S'.ext
          rw [← hB'] at z
          exact z
        have p' : im1 <+: im' := by
          have z := S'.pre
          rw [← hB'] at z
          exact z
        have S5 : StRel g (B.plus D) im' ow (wipeS r own) M' (L2.wipe σ own) H' := by
          have S1'root := S2.root
          have z := S'
          rw [← hB'] at z
          exact ⟨z.len, z.sl, z.out, z.inj, z.sep, z.tr, z.mlen, z.nd, z.mem, z.imF, z.fr, S1.ext.trans x', S1.pre.trans p', z.tab, S1'root⟩
        have S1' : StRel g (B.plus D) im1 ow r M1 σ (upd H1 D (.lst [])) := S1.newPlus hD fun ps z => by cases z
        have nD : ¬ wr im' ow D := by
          rintro (z | ⟨i, z⟩)
          · exact S'.imF D z hFD
          · exact (S'.sep i D z).2 hFD
        refine P1 D im' H' ⟨?_, nD, fun z => S1.fresh hD (.inl z), by rw [hF'] at ok; exact ok⟩ x' p' (S1.frh hD)
        -- the frame as it was
        have le : ∀ x, ns (B.plus D).F im' ow x → ns (B.plus D).F im' ow x := fun x h => h
        refine ⟨S1.len, fun j s ej => ?_, S1.out, S1.inj, S5.sep, S5.tr, S5.mlen, S5.nd, S5.mem, S5.imF, S5.fr, S5.ext, S5.pre, S5.tab, S5.root⟩
        by_cases hj : j ∈ own
        · have h := S1.sl j s ej
          have xx : Ext (ns B.F im1 ow) H1 (ns (B.plus D).F im' ow) H' := fun b o eb tb nb => by
            obtain ⟨e2, n2⟩ := x' b o eb tb fun z => nb (.inr z)
            refine ⟨e2, fun z => ?_⟩
            rcases z with (z | z) | z
            · exact nb (.inl z)
            · exact ne_of_none eb hD z
            · exact n2 z
          cases s with
          | un => exact h
          | pin => exact h
          | val d =>
            obtain ⟨h1, y, h2, h3⟩ := h
            exact ⟨h1, y, h2, h3.mono xx p'⟩
          | own m =>
            obtain ⟨b, h1, _⟩ := h
            rw [hn j hj] at h1
            cases h1
        · have h := S5.sl j s (by rw [wipeS_other hj]; exact ej)
          rw [wipe_other hj] at h
          exact h
      | ex C fs M' => exact absurd hq (lc2Go_noex ds [] M1)
      | bad =>
        rw [hq] at P1
        exact P1.elim
    refine walk_w walk (S := fun Nx x H' => tg x (L2.wipe σ own) H' fun σ2 H2 => L2.wipe σ2 own = L2.wipe σ own ∧ tB g W0F t σ2 H2 fun b H3 => if b = true then tG Src g W0F it1 σ2 H3 fun J1 H4 => ∃ W1 : Nat → Nat → Hp → Prop, (∃ m, W1 0 m H4) ∧ ∀ j k H, W1 j k H →
        (J1.stop j H ∧ Nx H) ∨ (J1.go j H ∧ ∃ Nx1 : Hp → Prop, (∀ H', Nx1 H' → ∃ k', k' < k ∧ W1 (j + 1) k' H') ∧ ∀ x H', J1.yld j H x H' → tg1 x (L2.wipe σ2 own1) H' fun σ3 H5 => L2.wipe σ3 own1 = L2.wipe σ2 own1 ∧ tB g W0F t1 σ3 H5 fun b H6 =>
          if b = true then tD g W0F e σ3 H6 fun y H7 => ∃ acc, H7 D = some (.lst acc) ∧ acc.length < sizeLine ∧ Nx1 (upd H7 D (.lst (acc ++ [y]))) else Nx1 H6) else Nx H3)
      (fun i H2 => ∃ im2 M2 acc, At g B' ow (wipeS r own) (L2.wipe σ own) D im2 M2 acc H2 ∧ PF (lc2Go k t it1 own1 k1 t1 e (wipeS r own) (ds.drop i) acc M2)) ⟨im1, M1, [], ⟨S3, [], upd_same, .nil⟩, hPF⟩ (fun i H2 hi ⟨im2, M2, acc, A2, _⟩ => ?_) ?_ ?_
    · refine hG (ns B.F im2 ow) H2 ?_
      have z := A2.st.ext
      rw [← hB'] at z
      exact z.ns
    · rintro i x H2 H3 hi ⟨im2, M2, acc, ⟨S4, vs, hDv, ra⟩, P3⟩ hy
      have x4 : Ext (wr im1 ow) H1 (wr im2 ow) H2 := by
        have z := S4.ext
        rw [← hB'] at z
        exact z
      have p4 : im1 <+: im2 := by
        have z := S4.pre
        rw [← hB'] at z
        exact z
      have x5 : Ext (ns B.F im1 ow) H1 (ns B'.F im2 ow) H2 := fun b o eb tb nb => by
        obtain ⟨e2, n2⟩ := x4 b o eb tb fun z => nb (.inr z)
        refine ⟨e2, fun z => ?_⟩
        rw [hF'] at z
        rcases z with (z | z) | z
        · exact nb (.inl z)
        · exact ne_of_none eb hD z
        · exact n2 z
      obtain ⟨hh, d, hd, rd⟩ := hY i (ns B'.F im2 ow) im2 H2 x H3 hi x5 p4 (fun a hn e => S4.fresh e hn) hy
      have S5 : StRel g B' im2 ow (wipeS r own) M2 (L2.wipe σ own) H3 := by
        rcases hh with rfl | ⟨p, o, hp, rfl⟩
        · exact S4
        · exact S4.new hp o
      have x3 : Ext (ns B'.F im2 ow) H2 (ns B'.F im2 ow) H3 := by
        rcases hh with rfl | ⟨p, o, hp, rfl⟩
        · exact Ext.refl
        · exact Ext.new hp
      have hDv3 : H3 D = some (.lst vs) := by
        rcases hh with rfl | ⟨p, o, hp, rfl⟩
        · exact hDv
        · rw [upd_ne (ne_of_none hDv hp)]
          exact hDv
      have ra3 := ra.mono x3 (List.prefix_refl _)
      have ed : ds.drop i = d :: ds.drop (i + 1) := by
        obtain ⟨h1, h2⟩ := List.getElem?_eq_some_iff.mp hd
        rw [List.drop_eq_getElem_cons h1, h2]
      rw [ed] at P3
      unfold lc2Go at P3
      cases hk : k d with
      | none =>
        rw [hk] at P3
        exact P3.elim
      | some l =>
        rw [hk] at P3
        dsimp only at P3
        obtain ⟨ws, rw1, hw1⟩ := hp.run g _ _ _ x d l rfl rd hk
        have hin := hp.own d l hk
        refine hw1 _ _ ⟨?_, ?_⟩
        · rw [wipe_sets rw1 hin]
          exact wipe_idem own fun i h => h
        have S6 : StRel g B' im2 ow (setsS (wipeS r own) l) M2 (setsV (L2.wipe σ own) ws) H3 := S5.sets rw1 fun p hp => hn _ (hin p hp)
        have back : ∀ {im7 : List Addr} {M7 : Mem} {H7 : Hp}, StRel g B' im7 ow (setsS (wipeS r own) l) M7 (setsV (L2.wipe σ own) ws) H7 → StRel g B' im7 ow (wipeS r own) M7 (L2.wipe σ own) H7 := fun S7 => by
          have z := S7.wipe hn
          rw [wipeS_sets hin, wipe_sets rw1 hin, wipeS_idem own (fun i h => h), wipe_idem own (fun i h => h)] at z
          exact z
        have back1 : ∀ {im7 : List Addr} {M7 : Mem} {H7 : Hp}, StRel g B' im7 ow (wipeS (setsS (wipeS r own) l) own1) M7 (L2.wipe (setsV (L2.wipe σ own) ws) own1) H7 → StRel g B' im7 ow (wipeS r own) M7 (L2.wipe σ own) H7 := fun S7 => by
          have z := S7.wipe hn
          rw [wipeS_idem own1 hsub, wipe_idem own1 hsub, wipeS_sets hin, wipe_sets rw1 hin, wipeS_idem own (fun i h => h), wipe_idem own (fun i h => h)] at z
          exact z
        have keepD : ∀ {im7 : List Addr} {H7 : Hp}, Ext (wr im2 ow) H3 (wr im7 ow) H7 → H7 D = some (.lst vs) := fun x7 => (x7 D _ hDv3 (fun ps z => by cases z) (by
          rintro (z | ⟨i, z⟩)
          · exact S5.imF D z hFD
          · exact (S5.sep i D z).2 hFD)).1
        cases ht : t (setsS (wipeS r own) l) M2 with
        | ok b M5 =>
          rw [ht] at P3
          refine ⟨B', im2, ow, _, M2, S6, ?_⟩
          rw [ht]
          intro b' im5 H5 S7 E7 p7 eb
          have eb : b' = b := eb
          subst eb
          cases b' with
          | false =>
            rw [if_neg (by simp)]
            exact ⟨im5, M5, acc, ⟨back S7, vs, keepD E7, ra3.mono E7.ns p7⟩, P3⟩
          | true =>
            rw [if_pos rfl]
            dsimp only at P3
            cases hi1 : it1 (setsS (wipeS r own) l) M5 with
            | ok ds1 M8 =>
              rw [hi1] at P3
              refine ⟨B', im5, ow, _, M5, S7, ?_⟩
              rw [hi1]
              intro J1 im8 H8 S8 E8 p8 src1
              dsimp only at P3
              split at P3
              · rename_i hno1
                have E78 := E7.trans E8
                have ra8 := ra3.mono E78.ns (p7.trans p8)
                have hD8 := keepD E78
                cases hgo : lcGo k1 t1 e (wipeS (setsS (wipeS r own) l) own1) ds1 acc M8 with
                | ok mo M9 =>
                  rw [hgo] at P3
                  cases mo with
                  | lst acc' =>
                    exact inner hp1 (S8.notOwned hno1) hFD hWD src1 S8 ⟨vs, hD8, ra8⟩ hgo fun im9 H9 A9 => ⟨im9, M9, acc', ⟨back1 A9.st, A9.here⟩, P3⟩
                  | _ => exact P3.elim
                | _ =>
                  rw [hgo] at P3
                  exact P3.elim
              · exact P3.elim
            | _ =>
              rw [hi1] at P3
              exact P3.elim
        | _ =>
          rw [ht] at P3
          exact P3.elim
    · rintro H2 ⟨im2, M2, acc, ⟨S4, vs, hDv, ra⟩, P3⟩
      rw [List.drop_length] at P3
      exact P3 im2 H2 S4 ⟨vs, hDv, ra⟩
  · exact P1.elim
section
variable {X : Cx} {T : Tb} {W : WX}
theorem df_lc2 {elt tg iter tg1 iter1 : Expr} {ifs ifs1 : List Expr} {scope : Scope} {own : List (Str × Nat)} {vs1 : List Nat} {pos : Pos} {it it1 : SE (List Dm)} {k k1 : Dm → Option (List (Nat × Dm))} {t t1 : SE Bool} {e : SE Dm} {g g1 : TG} (hc : X.calm = true) (hN : X.N.Nodup) (hi : DI X T W tg iter it) (ok : BlkOk X.N X.env.scope scope own) (hv : ∀ i ∈ vs1, i ∈ own.map (·.2)) (hp : Pt X.K g (own.map (·.2)) k) (hp1 : Pt X.K g1 vs1 k1)
    (hg : ∀ (s : Shared) (H : Hp) (C : Addr) (cl : List (Str × Addr)) (fp : List Addr), PG (X.blk s H scope (compEnvC scope cl C X.env) fp) tg g) (ht : ∀ (s : Shared) (H : Hp) (C : Addr) (cl : List (Str × Addr)) (fp : List Addr), DTs (X.blk s H scope (compEnvC scope cl C X.env) fp) T ifs t)
    (hi1 : ∀ (s : Shared) (H : Hp) (C : Addr) (cl : List (Str × Addr)) (fp : List Addr), DI (X.blk s H scope (compEnvC scope cl C X.env) fp) T W0F tg1 iter1 it1)
    (hg1 : ∀ (s : Shared) (H : Hp) (C : Addr) (cl : List (Str × Addr)) (fp : List Addr), PG (X.blk s H scope (compEnvC scope cl C X.env) fp) tg1 g1) (ht1 : ∀ (s : Shared) (H : Hp) (C : Addr) (cl : List (Str × Addr)) (fp : List Addr), DTs (X.blk s H scope (compEnvC scope cl C X.env) fp) T ifs1 t1)
    (he : ∀ (s : Shared) (H : Hp) (C : Addr) (cl : List (Str × Addr)) (fp : List Addr), DE (X.blk s H scope (compEnvC scope cl C X.env) fp) T W0F elt e) (hs : ∀ x, foldedSetIterable iter X.env x = pure x := by intro _; rfl) (hs1 : ∀ env x, foldedSetIterable iter1 env x = pure x := by intro _ _; rfl) :
    DF X T W (.ListComp elt [⟨tg, iter, ifs, 0⟩, ⟨tg1, iter1, ifs1, 0⟩] scope pos) (fLc2 (own.map (·.2)) it k t it1 vs1 k1 t1 e) :=
  pe_le (pe_lc2 hc hN hi ok hv hg ht hi1 hg1 ht1 he hs hs1) fun σ H Q h => lc2_of hp hp1 hv h
end
end Dy

/-! Dy23: keyword-only parameters. -/
namespace Dy
open PySem
open PySem.Spec
open L2

/-- defaults as data, those of the written part among them -/
def DflK (K : PySem.W.Frag) (dvs : List V) (dds : List Dm) : Prop := ∀ (g : Gm), g.K = K → ∀ (N : Av) (im : List Addr) (H : Hp), Reps g N im H dvs dds
theorem dflK_nil {K : PySem.W.Frag} : DflK K [] [] := fun _ _ _ _ _ => .nil
theorem dflK_int {K : PySem.W.Frag} {i : Int} {vs : List V} {ds : List Dm} (h : DflK K vs ds) : DflK K (.int i :: vs) (.int i :: ds) := fun g e N im H => .cons (.int i) (h g e N im H)
theorem dflK_non {K : PySem.W.Frag} {vs : List V} {ds : List Dm} (h : DflK K vs ds) : DflK K (.non :: vs) (.non :: ds) := fun g e N im H => .cons .non (h g e N im H)
theorem dflK_str {K : PySem.W.Frag} {x : Str} {vs : List V} {ds : List Dm} (h : DflK K vs ds) : DflK K (.str x :: vs) (.str x :: ds) := fun g e N im H => .cons (.str x) (h g e N im H)
theorem dflK_bl {K : PySem.W.Frag} {b : Bool} {vs : List V} {ds : List Dm} (h : DflK K vs ds) : DflK K (.bl b :: vs) (.bl b :: ds) := fun g e N im H => .cons (.bl b) (h g e N im H)
/-- a tuple of the written part -/
theorem dflK_tup {K : PySem.W.Frag} {a : Addr} {xs vs : List V} {es ds : List Dm} (t : KT K a xs) (hx : DflK K xs es) (h : DflK K vs ds) : DflK K (.ref a :: vs) (.tup es :: ds) := fun g e N im H => .cons (.tup (.inr (by rw [e]; exact t)) (hx g e N im H)) (h g e N im H)
section
variable {K : PySem.W.Frag} {x qual : Str} {params : Arguments} {body : List Stmt} {scope : Scope} {kws : List (Str × V)} {f : Addr} {fd : FuncData} {ps : List Str}
/-- no positional defaults, keyword-only parameters: n values, the keywords ks; ms lack -/
theorem bind_kwo (F : FunD K x qual params body scope [] kws f fd) {n : Nat} {ks : List Str} (ms : List (Str × V)) (dms : List Dm) (p : {α : Type} → List α → List α → List α → List α) (hk : kws ≠ []) (hms : ∀ q ∈ ms, q ∈ kws) (hq : DflK K (ms.map (·.2)) dms)
    (hrel : ∀ {vs mz zs : List V} {us mv ws : List Value}, Vals vs us → Vals mz mv → Vals zs ws → Vals (p vs mz zs) (p us mv ws))
    (hrep : ∀ {g : Gm} {N : Av} {im : List Addr} {H : Hp} {vs mz zs : List V} {ds em es : List Dm}, Reps g N im H vs ds → Reps g N im H mz em → Reps g N im H zs es → Reps g N im H (p vs mz zs) (p ds em es))
    (hlen : ∀ {vs zs : List V}, vs.length = n → zs.length = ks.length → (p vs (ms.map (·.2)) zs).length = ps.length)
    (h : ∀ (D : Addr) (doc pm : Value) (an : Option Addr) (cdv ct : Value) (us mv ws : List Value), us.length = n → mv.length = ms.length → ws.length = ks.length →
      KwChain D ((ms.map (·.1)).zip mv) (bindArgs (PySem.W.fnOf x qual params body scope .none (.ref D) doc pm an cdv ct) ⟨us, ks.zip ws⟩) (ps.zip (p us mv ws))) : DBind K fd ps n ks (fun ds es => p ds dms es) := by
  obtain ⟨mv, hb⟩ := F.kbinds0 (ps := ps) n ks ms p hk hms hrel h
  exact ⟨fun g N im H s vs zs us ws ds es eK KI rv rz rd re lv lz => ⟨p vs (ms.map (·.2)) zs, p us mv ws, hb.to s us ws KI (rv.length.symm.trans lv) (rz.length.symm.trans lz), hb.rel rv rz, hlen lv lz, hrep rd (hq g eK N im H) re⟩⟩
end
end Dy

/-! Dy24: a def that is handed over, called by a parameter's name. -/
namespace Dy
open PySem
open PySem.Spec
open L2

/-- the defs that may stand at the name -/
def Cand (X : Cx) (T : Tb) (k np : Nat) (tbl : Str → Option SF) : Prop := ∀ x h, tbl x = some h → ∃ (fa : Addr) (fd : FuncData) (ps : List Str), X.mg x = some (.ref fa) ∧ PySem.W.keepIn X.K (.ref fa) = true ∧ DFn X.prog X.w X.K X.mg X.base k fa fd ps (spD (gm X T) np h) ∧ DBind X.K fd ps np [] (fun ds _ => ds) ∧ ps.length = np
def sCallV (i n : Nat) (fp : SE (List Dm)) (tbl : Str → Option SF) : SE Dm := fun r M => match r[i]? with
  | some (.val (.glo x)) => match tbl x with
    | some h => (fp r M).bind fun ds M1 => (sNo r M1).bind fun es M2 => if ds.length = n ∧ es.length = 0 then h ds M2 else .bad
    | none => .bad
  | _ => .bad
section
variable {X : Cx} {T : Tb} {W : WX} {es : List Expr} {fp : SE (List Dm)} {pos p : Pos} {k n i : Nat} {a : Str} {tbl : Str → Option SF}
theorem de_callV (A : DArgs X T W es [] pos [] fp sNo) (C : Cand X T k n tbl) (site : Site X k) (tk : L2N.Takes X W) (hN : X.N[i]? = some a) (hv : Vis X.env.scope a) (hd : (a == ("__debug__" : Str)) = false := by decide) (hc : (a == ("__classdict__" : Str)) = false := by decide) :
    DE X T W (.Call (.Name a p) es [] pos) (sCallV i n fp tbl) :=
  ⟨fun pins s σ H Q I ⟨B, im, ow, r, M, S, P⟩ => by
    unfold sCallV at P
    cases hr : r[i]? with
    | none =>
      simp only [hr] at P
      exact P.elim
    | some sl =>
      simp only [hr] at P
      cases sl with
      | val d =>
        cases d with
        | glo x =>
          dsimp only at P
          cases hx : tbl x with
          | none =>
            simp only [hx] at P
            exact P.elim
          | some h =>
            simp only [hx] at P
            obtain ⟨fa, fd, ps, m1, m2, F, b, hnp⟩ := C x h hx
            obtain ⟨_, y, s2, s3⟩ := S.sl i _ hr
            have ey : y = .ref fa := by
              cases s3 with
              | @glo _ _ u g1 g2 =>
                have e : (some u : Option Value) = some (.ref fa) := g1.symm.trans m1
                cases e
                cases y with
                | ref z =>
                  have e2 : Value.ref fa = Value.ref z := g2
                  cases e2
                  rfl
                | non => cases (show Value.ref fa = Value.none from g2)
                | bl z => cases (show Value.ref fa = Value.bool z from g2)
                | int z =>
                  obtain ⟨t, q⟩ := (show ∃ t, Value.ref fa = Value.int z t from g2)
                  cases q
                | str z =>
                  obtain ⟨t, q⟩ := (show ∃ t, Value.ref fa = Value.str z t from g2)
                  cases q
                | byt z =>
                  obtain ⟨t, q⟩ := (show ∃ t, Value.ref fa = Value.bytes z t from g2)
                  cases q
                | flt z =>
                  obtain ⟨t, q⟩ := (show ∃ t, Value.ref fa = Value.float z t from g2)
                  cases q
                | ty z => cases (show Value.ref fa = Value.type z from g2)
            subst ey
            refine wpAny_Call_Name_kw (thn ((pe_var (pos := p) hN hv hd hc).run pins s σ H (fun v H1 => v = .ref fa ∧ H1 = H) I ⟨_, s2, rfl, rfl⟩) fun u s1 ⟨v, H1, I1, r1, e1, e2⟩ => ?_)
            subst e1 e2
            cases (show u = Value.ref fa from r1)
            refine A.run (.ref fa) [] pins s1 σ H1 (fun vs zs H2 => ∀ (s2 : Shared) (us ws : List Value), X.K.In s2.heap → Vals vs us → Vals zs ws → ∃ (xs : List V) (us' : List Value), BindsTo s2 fd ⟨us, [].zip ws⟩ (ps.zip us') ∧ Vals xs us' ∧ xs.length = ps.length ∧ spD (gm X T) n h xs H2 Q (WE W σ)) _ m2 I1
              (tArgs_of (α := Unit) (q := fun ds _ M => h ds M) S P fun vs zs ds es im2 M2 H2 S2 E2 p2 rd re lv lz P2 s2 us ws KI rv rz => by
                obtain ⟨xs, us', b1, b2, b3, b4⟩ := b.to (gm X T) _ _ _ s2 vs zs us ws ds es rfl KI rv rz rd re lv lz
                exact ⟨xs, us', b1, b2, b3, callD_le S2 b4 (b3.trans hnp) P2⟩) fun us ws vs zs s2 H2 I2 rv rz q => ?_
            obtain ⟨xs, us', b1, b2, b3, b4⟩ := q s2 us ws I2.kIn rv rz
            exact wpAny_call (codeAny_mono (run_d F site tk I2 b1 b2 b3 b4) fun r s' hq => by
              cases r with
              | error e => exact hq
              | ok fl =>
                cases fl with
                | ret u => exact hq
                | next => exact False.elim hq
                | brk => exact False.elim hq
                | cont => exact False.elim hq)
        | _ => exact P.elim
      | _ => exact P.elim⟩
end
end Dy

/-! Dy25: new instances that stay in the memory. -/
namespace Dy
open PySem
open PySem.Spec
open L2

def oMakeM (Cn : Str) (gD : List Dm → List Dm → List Dm) (h : SF) (ds es : List Dm) (M : Mem) : R Dm := (h (gD (.ref M.length :: ds) es) (M ++ [.ins Cn []])).bind fun v M3 => match v with
  | .non => .ok (.ref M.length) M3
  | _ => .bad
def sMakeM (Cn : Str) (fp fk : SE (List Dm)) (n k : Nat) (gD : List Dm → List Dm → List Dm) (h : SF) : SE Dm := fun r M => (fp r M).bind fun ds M1 => (fk r M1).bind fun es M2 => if ds.length = n ∧ es.length = k then oMakeM Cn gD h ds es M2 else .bad
section
variable {X : Cx} {T : Tb} {W : WX} {es : List Expr} {kws : List Keyword} {fp fk : SE (List Dm)} {pos p : Pos} {k n mk np : Nat} {ks ps : List Str} {fa C : Addr} {fd : FuncData} {Cn : Str} {gD : List Dm → List Dm → List Dm}
theorem made_mem {g : Gm} {B : Bs} {im : List Addr} {ow : Ow} {r : Sl} {M : Mem} {σ : St} {H : Hp} {a dx : Addr} (S : StRel g B im ow r M σ H) (hC : g.mg Cn = some (.ref C)) (ha : H a = none) (hdx : H dx = none) (hne : dx ≠ a) :
    StRel g B (im ++ [a]) ow r (M ++ [.ins Cn []]) σ (upd (upd H dx (.own a)) a (.ins C dx [])) ∧ Ext (ns B.F im ow) H (ns B.F (im ++ [a]) ow) (upd (upd H dx (.own a)) a (.ins C dx [])) := by
  have S1 := S.new hdx (.own a)
  have ha1 : (upd H dx (.own a)) a = none := by rw [upd_ne (Ne.symm hne)]; exact ha
  have N := New.of_new (m := .ins Cn []) S1 ha1 (o := .ins C dx []) (fun ps z => by cases z) ⟨C, dx, [], hC, upd_same, .nil⟩
  refine ⟨N.push fun o eo t => ?_, fun b o eb tb nb => ⟨by rw [upd_ne (ne_of_none eb ha), upd_ne (ne_of_none eb hdx)]; exact eb, fun z => ?_⟩⟩
  · by_cases hw : B.W0 a
    · exact hw
    · obtain ⟨e1, _⟩ := S.ext a o eo t hw
      exact absurd e1 (by rw [ha]; simp)
  · rcases z with z | z | z
    · exact nb (.inl z)
    · rcases List.mem_append.mp z with z | z
      · exact nb (.inr (.inl z))
      · exact ne_of_none eb ha (List.mem_singleton.mp z)
    · exact nb (.inr (.inr z))
theorem makeM_le {g : Gm} {B : Bs} {im : List Addr} {ow : Ow} {r : Sl} {M : Mem} {σ : St} {H : Hp} {h : SF} {xs : List V} {as : List Dm} {Q : VK} {a dx : Addr} (S : StRel g B im ow r M σ H) (hC : g.mg Cn = some (.ref C)) (ha : H a = none) (hdx : H dx = none) (hne : dx ≠ a) (hl : xs.length = np)
    (rs : Reps g (ns B.F (im ++ [a]) ow) (im ++ [a]) (upd (upd H dx (.own a)) a (.ins C dx [])) xs as)
    (P : Post rlV g B W im ow r σ H ((h as (M ++ [.ins Cn []])).bind fun v M3 => match v with
      | .non => .ok (.ref M.length) M3
      | _ => .bad) Q) : spD g np h xs (upd (upd H dx (.own a)) a (.ins C dx [])) (fun v H3 => v = .non ∧ Q (.ref a) H3) (WE W σ) := by
  obtain ⟨S3, x3⟩ := made_mem (Cn := Cn) (C := C) S hC ha hdx hne
  have xw : ∀ {im' : List Addr} {H' : Hp}, Ext (wr (im ++ [a]) ow) (upd (upd H dx (.own a)) a (.ins C dx [])) (wr im' ow) H' → Ext (wr im ow) H (wr im' ow) H' := fun {im' H'} e b o eb tb nb => by
    refine e b o (by rw [upd_ne (ne_of_none eb ha), upd_ne (ne_of_none eb hdx)]; exact eb) tb fun z => ?_
    rcases z with z | z
    · rcases List.mem_append.mp z with z | z
      · exact nb (.inl z)
      · exact ne_of_none eb ha (List.mem_singleton.mp z)
    · exact nb (.inr z)
  refine callD_le S3 rs hl ?_
  cases hq : h as (M ++ [.ins Cn []]) with
  | ok d M3 =>
    rw [hq] at P
    cases d with
    | non =>
      intro v im' H' S' e' p' rr
      cases rr
      refine ⟨rfl, P (.ref a) im' H' S' (xw e') ((List.prefix_append _ _).trans p') (.ref (pre_get p' ?_))⟩
      rw [← S.mlen]
      simp
    | _ => exact P.elim
  | ex C' fs M3 =>
    rw [hq] at P
    exact fun Ca dd ys im' H' S' e' p' => P Ca dd ys im' H' S' (xw e') ((List.prefix_append _ _).trans p')
  | bad =>
    rw [hq] at P
    exact P.elim
/-- C(..) -/
theorem de_makeM {h : SF} (A : DArgs X T W es kws pos ks fp fk) (Mk : Mk X.K C fa) (F : DFn X.prog X.w X.K X.mg X.base k fa fd ps (spD (gm X T) np h)) (b : DBind X.K fd ps (n + 1) ks gD) (hnp : ps.length = np) (site : Site X (k + 1)) (tk : L2N.Takes X W) (hg : Gl X Cn) (hm : X.mg Cn = some (.ref C))
    (hdb : (Cn == ("__debug__" : Str)) = false := by decide) (hks : ks.length = mk := by rfl) : DE X T W (.Call (.Name Cn p) es kws pos) (sMakeM Cn fp fk n mk gD h) := by
  subst hks
  exact ⟨fun pins s σ H Q I ⟨B, im, ow, r, M, S, P⟩ => wpAny_Call_Name_kw (ld_glob I hg hm (A.run (.ref C) [] pins s σ H
    (fun vs zs H2 => ∀ (a dx : Addr), H2 a = none → H2 dx = none → dx ≠ a → ∀ (s2 : Shared) (us ws : List Value), X.K.In s2.heap → Vals vs us → Vals zs ws → ∃ (xs : List V) (us' : List Value), BindsTo s2 fd ⟨.ref a :: us, ks.zip ws⟩ (ps.zip us') ∧ Vals xs us' ∧ xs.length = ps.length ∧
      spD (gm X T) np h xs (upd (upd H2 dx (.own a)) a (.ins C dx [])) (fun v H3 => v = .non ∧ Q (.ref a) H3) (WE W σ)) _ Mk.kp I
    (tArgs_of (α := Unit) (q := oMakeM Cn gD h) S P fun vs zs ds es im2 M2 H2 S2 E2 p2 rd re lv lz P2 a dx ha hdx hne s2 us ws KI rv rz => by
      obtain ⟨_, x3⟩ := made_mem (Cn := Cn) (C := C) S2 hm ha hdx hne
      have pf : im2 <+: im2 ++ [a] := List.prefix_append _ _
      have r0 : Rep (gm X T) (ns B.F (im2 ++ [a]) ow) (im2 ++ [a]) (upd (upd H2 dx (.own a)) a (.ins C dx [])) (.ref a) (.ref M2.length) := .ref (by rw [← S2.mlen]; simp)
      obtain ⟨ys, us', b1, b2, b3, b4⟩ := b.to (gm X T) _ _ _ s2 (.ref a :: vs) zs (.ref a :: us) ws (.ref M2.length :: ds) es rfl KI (.cons rfl rv) rz (.cons r0 (Reps.mono x3 pf rd)) (Reps.mono x3 pf re) (by rw [List.length_cons, lv]) lz
      exact ⟨ys, us', b1, b2, b3, makeM_le S2 hm ha hdx hne (b3.trans hnp) b4 P2⟩)
    fun us ws vs zs s2 H2 I2 rv rz q => by
      have I3 := Inv.made (C := C) I2
      obtain ⟨ys, us', b1, b2, b3, b4⟩ := q (s2.heap.objs.size + 1) s2.heap.objs.size (I2.hok.fresh (Nat.le_succ _)) (I2.hok.fresh (Nat.le_refl _)) (Nat.ne_of_lt (Nat.lt_succ_self _)) _ us ws I3.kIn rv rz
      refine wpAny_call (make_map (f := fa) I2.kIn Mk.makes Mk.init (beq_iff_eq.mp Mk.fn) (codeAny_mono (F.run _ X.stack _ _ ⟨Value.ref (s2.heap.objs.size + 1) :: us, ks.zip ws⟩ us' ys _ (WE W σ) (site.room.make C us (ks.zip ws)) ?_ (I3.env0.make C us (ks.zip ws)) b1 b2 b3 b4) fun r s' hq => ?_))
      · have gu := site.gu
        first
          | exact gu
          | simpa [Around.under, Code.guards, Code.isGuard, pushGuards] using gu
      · cases r with
        | error e => exact L2N.passAt tk σ pins _ _ e s' I3 hq
        | ok fl =>
          cases fl with
          | ret u =>
            obtain ⟨v, H', I4, rv', ev, q3⟩ := I3.after hq
            subst ev
            exact ⟨rv', ⟨V.ref (s2.heap.objs.size + 1), H', I4, rfl, q3⟩⟩
          | next => exact False.elim hq
          | brk => exact False.elim hq
          | cont => exact False.elim hq) hdb)⟩
end
end Dy

/-! Dy26: defaults that are tuples: where they stand, what they hold. -/
namespace Dy
open PySem
open PySem.Spec
open L2

/-- the default of the keyword-only parameter x of the def at p -/
def kwAt (p : Str × Option Str) (x : Str) (K : PySem.W.Frag) : Addr := match K.lookup (He.fAd K p) with
  | some ⟨_, _, .func fd, _⟩ => (match fd.kwdefaults with
    | .ref D => (match PySem.W.nsIn K D x with
      | some (some (.ref a)) => a
      | _ => 0)
    | _ => 0)
  | _ => 0
/-- a tuple of these stands at a -/
def ktB (K : PySem.W.Frag) (a : Addr) (vs : List V) : Bool := match K.lookup a with
  | some ⟨.type c, _, .seq its _, _⟩ => decide (c = "tuple") && (decide (its.size ≤ sizeLine) && He.relAll vs its.toList)
  | _ => false
theorem ktB_ok {K : PySem.W.Frag} {a : Addr} {vs : List V} (h : ktB K a vs = true) : KT K a vs := by
  unfold ktB at h
  split at h
  · rename_i c dd its z sl e
    simp only [Bool.and_eq_true, decide_eq_true_eq] at h
    obtain ⟨h1, h2, h3⟩ := h
    exact .inr ⟨_, its, z, e, congrArg Value.type h1, rfl, h2, He.relAll_ok h3⟩
  · cases h
end Dy

/-! Dy27: a def that gives NotImplemented. -/
namespace Dy
open PySem
open PySem.Spec
open PyProof.Rows hiding St
open L2

/-- a call's end: what it gives is as G says, or an exception -/
def CNR (CX : CXT) (outer : List Env) (H : Hp) (s : Shared) (E : XK) (G : Value → Shared → Prop) : Result → Shared → Prop
  | .ok fl, t => ∃ v, fl = .ret v ∧ G v t
  | .error e, t => CX outer H s E e t
/-- NotImplemented -/
def CNi (outer : List Env) (P : Program) (w : World) (H : Hp) (s : Shared) (Q : Hp → Prop) : Value → Shared → Prop := fun v t =>
  v = .notImplemented ∧ ∃ G, t.os = s.os ∧ AllBare t.gens ∧ Un (frs outer) [] H G s.heap t.heap ∧ HOk P w G t.heap ∧ Q G
section
variable {CX : CXT} {P : Program} {w : World} {K : PySem.W.Frag} {mg : Str → Option Value} {base : Heap} {k : Nat} {f : Addr} {name qual : Str} {params : Arguments} {body : List Stmt} {scope : Scope} {dV kV doc pm cdv ct oc : Value} {an od : Option Addr} {osl : Array (Option Value)} {N ps : List Str}
/-- a def's body begins: what its end is to show is given as it is -/
theorem begins (lk : K.lookup f = some ⟨oc, od, .func (PySem.W.fnOf name qual params body scope dV kV doc pm an cdv ct), osl⟩) (code : PySem.W.codeIn K cdv qual = true) (S : FnScope N ps scope) {A : Around} {outer : List Env} {s : Shared} {H : Hp} {args : Args} {us : List Value} {vs : List V} {E : XK} {G : Value → Shared → Prop}
    (room : Room (k + 1) A) (env0 : Env0 P w K mg base A outer s H) (binds : BindsTo s (PySem.W.fnOf name qual params body scope dV kV doc pm an cdv ct) args (ps.zip us)) (vals : Vals vs us) (len : vs.length = ps.length)
    (go : ∀ t, Room k (A.deeper (envOfC qual scope s.heap.objs.size f cdv)) → Inv (cxOf CX P w K mg base N qual scope f cdv A outer s H E) [] (L2.start N vs) H t →
      wpAny (model P w) (A.deeper (envOfC qual scope s.heap.objs.size f cdv)) (execs body (envOfC qual scope s.heap.objs.size f cdv)) (fun fl t' => ∃ v, fl = .ret v ∧ G v t') (cxOf CX P w K mg base N qual scope f cdv A outer s H E).xe t) :
    codeAny (model P w) A (.call (.ref f) args) (CNR CX outer H s E G) s :=
  codeAny_call_function room.depth (env0.mod.kin.keeps (fun b o z => (env0.bs b o z).1) _ _ lk) rfl S.co S.gen rfl (PySem.W.codeRec_of (env0.mod.kin.keeps fun b o z => (env0.bs b o z).1) code)
    (binds _ _ _ _ (wpAny_newFunctionEnv_cells S.kind
      (fun y hy => (S.par y.1 (List.of_mem_zip (a := y.1) (b := y.2) hy).1).elim Or.inl fun q => .inr ⟨q, PySem.W.cellsFrom_some _ _ _ (.inl q)⟩)
      fun env he t x => by
        subst he
        exact ⟨(env0.mod.nolimit.keeps fun b o z => (env0.bs b o z).1).keeps x.toInCall.keep, codeAny_func (wpAny_mono (go t (room.deeper _) (inv_start S room.hd env0 len vals x)) (fun fl t' hv => by obtain ⟨v, rfl, q⟩ := hv; exact ⟨v, rfl, q⟩) fun e t' z => z)⟩))
end
section
variable {X : Cx} {T : Tb} {W : WX} {c : Expr} {fc : SE Bool} {rest : List Stmt} {p1 p2 p3 : Pos}
/-- if c: return NotImplemented; c is so -/
theorem ends_ni (hc : DT X T W c fc) (hg : Gl X "NotImplemented") (hm : X.mg "NotImplemented" = none) {pins : List (Addr × Obj)} {s : Shared} {σ : St} {H : Hp} {Q : Hp → Prop} {B : Bs} {im : List Addr} {ow : Ow} {r : Sl} {M : Mem} (I : Inv X pins σ H s) (S : StRel (gm X T) B im ow r M σ H)
    (P : Post rlB (gm X T) B W im ow r σ H (fc r M) (fun b H' => b = true ∧ Q H')) : wpAny (model X.prog X.w) X.A (execs (.If c [.Return (some (.Name "NotImplemented" p1)) p2] [] p3 :: rest) X.env) (fun fl t => fl = .ret .notImplemented ∧ ∃ τ G, Inv X pins τ G t ∧ Q G) X.xe s := by
  refine wpAny_execs_cons (wpAny_If (thn (hc.run pins s σ H _ I ⟨B, im, ow, r, M, S, P⟩) fun d t hd => ?_))
  obtain ⟨G, J, rfl, q⟩ := hd
  exact wpAny_execs_cons (wpAny_Return_some (ld_blt J hg hm (u := .notImplemented) rfl ⟨rfl, σ, G, J, q⟩))
end
end Dy

/-! Dy28: two-place operations by data; own ==. -/
namespace Dy
open PySem
open PySem.Spec
open PyProof.Rows hiding St
open L2

/-- an operation on values, told by the data -/
def OpD (X : Cx) (T : Tb) (W : WX) (f : Value → Value → Sem Value) (o : Dm → Dm → Mem → R Dm) : Prop :=
  ∀ (pins : List (Addr × Obj)) (s : Shared) (B : Bs) (im : List Addr) (ow : Ow) (r : Sl) (M : Mem) (σ : St) (H : Hp) (x y : Dm) (v w : V) (u1 u2 : Value) (Q : VK), Inv X pins σ H s → RelV v u1 → RelV w u2 →
    StRel (gm X T) B im ow r M σ H → Rep (gm X T) (ns B.F im ow) im H v x → Rep (gm X T) (ns B.F im ow) im H w y → Post rlV (gm X T) B W im ow r σ H (o x y M) Q → wpAny (model X.prog X.w) X.A (f u1 u2) (EP X pins σ Q) X.xe s
theorem OpD.of {X : Cx} {T : Tb} {W : WX} {f : Value → Value → Sem Value} {rr : R2} {o : Dm → Dm → Mem → R Dm} (ho : OpR X f rr) (hs : Sound X T W rr o) : OpD X T W f o :=
  fun pins s B im ow r M σ H x y v w u1 u2 Q I r1 r2 S q1 q2 P => ho pins s σ H v w u1 u2 Q I r1 r2 (hs B im ow r M σ H x y v w Q S q1 q2 P)
section
variable {X : Cx} {T : Tb} {W : WX} {a b : Expr} {fa fb : SE Dm} {pos : Pos}
theorem de_cmpD {op : CmpOp} {o : Dm → Dm → Mem → R Dm} (ho : OpD X T W (compareOp op) o) (ha : DE X T W a fa) (hb : DE X T W b fb) (hm : behindInMarks op b = false) : DE X T W (.Compare a [op] [b] pos) (sBin o fa fb) :=
  ⟨fun pins s σ H Q I ⟨B, im, ow, r, M, S, P⟩ => by
    have P' : Post rlV (gm X T) B W im ow r σ H ((fa r M).bind fun x M1 => (fb r M1).bind fun y M2 => o x y M2) Q := P
    refine wpAny_Compare1 (thn (ha.run pins s σ H _ I ⟨B, im, ow, r, M, S, P'.bind (rl := rlV) (Q1 := fun v H1 => ∃ B im ow r M x, StRel (gm X T) B im ow r M σ H1 ∧ Rep (gm X T) (ns B.F im ow) im H1 v x ∧ Post rlV (gm X T) B W im ow r σ H1 ((fb r M).bind fun y M2 => o x y M2) Q) fun x M1 v im1 H1 _ S1 E1 p1 r1 P1 => ⟨B, im1, ow, r, M1, x, S1, r1, P1⟩⟩)
      fun u1 s1 ⟨v, H1, I1, rv, B1, im1, ow1, r1, M1, x, S1, rx, P1⟩ => ?_) hm
    refine thn (hb.run pins s1 σ H1 _ I1 ⟨B1, im1, ow1, r1, M1, S1, P1.bind (rl := rlV) (Q1 := fun w H2 => ∃ im2 M2 y, StRel (gm X T) B1 im2 ow1 r1 M2 σ H2 ∧ Rep (gm X T) (ns B1.F im2 ow1) im2 H2 v x ∧ Rep (gm X T) (ns B1.F im2 ow1) im2 H2 w y ∧ Post rlV (gm X T) B1 W im2 ow1 r1 σ H2 (o x y M2) Q)
      fun y M2 w im2 H2 _ S2 E2 p2 r2 P2 => ⟨im2, M2, y, S2, rx.mono E2.ns p2, r2, P2⟩⟩) fun u2 s2 ⟨w, H2, I2, rw', im2, M2, y, S2, q1, q2, P2⟩ => ?_
    exact ho pins s2 B1 im2 ow1 r1 M2 σ H2 x y v w u1 u2 Q I2 rv rw' S2 q1 q2 P2⟩
theorem dt_cmpD {op : CmpOp} {o : Dm → Dm → Mem → R Dm} (ho : OpD X T W (compareOp op) o) (ha : DE X T W a fa) (hb : DE X T W b fb) (hm : behindInMarks op b = false) : DT X T W (.Compare a [op] [b] pos) (fun r M => (sBin o fa fb r M).bind toB) :=
  ⟨fun pins s σ H Q I ⟨B, im, ow, r, M, S, P⟩ => by
    have P' : Post rlB (gm X T) B W im ow r σ H ((fa r M).bind fun x M1 => (fb r M1).bind fun y M2 => (o x y M2).bind toB) Q := by
      have e : ((sBin o fa fb) r M).bind toB = ((fa r M).bind fun x M1 => ((fb r M1).bind fun y M2 => (o x y M2).bind toB)) := by
        unfold sBin
        rw [R.bind_bind]
        congr 1
        funext x M1
        rw [R.bind_bind]
      rw [← e]
      exact P
    refine wpAny_isTrue_Compare1 (thn (ha.run pins s σ H _ I ⟨B, im, ow, r, M, S, P'.bind (rl := rlV) (Q1 := fun v H1 => ∃ B im ow r M x, StRel (gm X T) B im ow r M σ H1 ∧ Rep (gm X T) (ns B.F im ow) im H1 v x ∧ Post rlB (gm X T) B W im ow r σ H1 ((fb r M).bind fun y M2 => (o x y M2).bind toB) Q) fun x M1 v im1 H1 _ S1 E1 p1 r1 P1 => ⟨B, im1, ow, r, M1, x, S1, r1, P1⟩⟩)
      fun u1 s1 ⟨v, H1, I1, rv, B1, im1, ow1, r1, M1, x, S1, rx, P1⟩ => ?_) hm
    refine thn (hb.run pins s1 σ H1 _ I1 ⟨B1, im1, ow1, r1, M1, S1, P1.bind (rl := rlV) (Q1 := fun w H2 => ∃ im2 M2 y, StRel (gm X T) B1 im2 ow1 r1 M2 σ H2 ∧ Rep (gm X T) (ns B1.F im2 ow1) im2 H2 v x ∧ Rep (gm X T) (ns B1.F im2 ow1) im2 H2 w y ∧ Post rlB (gm X T) B1 W im2 ow1 r1 σ H2 ((o x y M2).bind toB) Q)
      fun y M2 w im2 H2 _ S2 E2 p2 r2 P2 => ⟨im2, M2, y, S2, rx.mono E2.ns p2, r2, P2⟩⟩) fun u2 s2 ⟨w, H2, I2, rw', im2, M2, y, S2, q1, q2, P2⟩ => ?_
    refine thn (ho pins s2 B1 im2 ow1 r1 M2 σ H2 x y v w u1 u2 (fun z H3 => ∃ k, z = .bl k ∧ Q k H3) I2 rv rw' S2 q1 q2 (P2.bind fun d M3 v3 im3 H3 _ S3 E3 p3 r3 P3 => ?_)) fun c s3 ⟨z, H3, I3, r3, k, e, q3⟩ => ?_
    · cases r3 with
      | bl b => exact ⟨b, rfl, P3.here S3 rfl⟩
      | _ => exact P3.elim
    · subst e
      cases r3
      exact wpAny_truthy_bool ⟨H3, I3, q3⟩⟩
end
end Dy

/-! Dy29: own special methods: ==, !=, len, str, repr, truth. -/
namespace Dy
open PySem
open PySem.Spec
open PyProof.Rows hiding St
open L2

section
variable {X : Cx} {T : Tb} {W : WX} {k n np : Nat} {f C : Addr} {fd : FuncData} {ps : List Str} {gD : List Dm → List Dm → List Dm} {h : SF}
  {pins : List (Addr × Obj)} {s : Shared} {B : Bs} {im : List Addr} {ow : Ow} {r : Sl} {M : Mem} {σ : St} {H : Hp} {Q : VK}
/-- a def runs on values that are had, at A' below the running body -/
theorem call_own (F : DFn X.prog X.w X.K X.mg X.base k f fd ps (spD (gm X T) np h)) (b : DBind X.K fd ps n [] gD) (hnp : ps.length = np) (tk : L2N.Takes X W) {A' : Around} (hr : Room k A') (gu : A'.guards = some []) (e0 : Env0 X.prog X.w X.K X.mg X.base A' X.stack s H)
    (I : Inv X pins σ H s) (S : StRel (gm X T) B im ow r M σ H) {vs : List V} {us : List Value} {ds : List Dm} (rv : Vals vs us) (rd : Reps (gm X T) (ns B.F im ow) im H vs ds) (lv : vs.length = n)
    (P : Post rlV (gm X T) B W im ow r σ H (h (gD ds []) M) Q) : wpAny (model X.prog X.w) A' (call (.ref f) us) (EP X pins σ Q) X.xe s := by
  obtain ⟨xs, us', b1, b2, b3, b4⟩ := b.to (gm X T) _ _ _ s vs [] us [] ds [] rfl I.kIn rv .nil rd .nil lv rfl
  refine wpAny_call (codeAny_mono (F.run A' X.stack s H _ us' xs Q (WE W σ) hr gu e0 b1 b2 b3 (callD_le S b4 (b3.trans hnp) P)) fun r s' hq => ?_)
  cases r with
  | error e => exact L2N.passAt tk σ pins H s e s' I hq
  | ok fl =>
    cases fl with
    | ret u => exact I.after hq
    | next => exact False.elim hq
    | brk => exact False.elim hq
    | cont => exact False.elim hq
end
/-- a def that gives NotImplemented where c holds -/
structure DNi (P : Program) (w : World) (K : PySem.W.Frag) (mg : Str → Option Value) (base : Heap) (T : Tb) (k : Nat) (f : Addr) (fd : FuncData) (ps : List Str) (n : Nat) (c : List Dm → Mem → R Bool) : Prop where
  run : ∀ (A : Around) (outer : List Env) (s : Shared) (H : Hp) (args : Args) (us : List Value) (vs : List V) (Q : Hp → Prop) (E : XK), Room k A → A.guards = some [] → Env0 P w K mg base A outer s H → BindsTo s fd args (ps.zip us) → Vals vs us → vs.length = ps.length →
    (vs.length = n ∧ ∃ B im M M1 ds, StRel ⟨K, mg, T⟩ B im noOw [] M [] H ∧ Reps ⟨K, mg, T⟩ (ns B.F im noOw) im H vs ds ∧ c ds M = .ok true M1 ∧ ∀ im' H', StRel ⟨K, mg, T⟩ B im' noOw [] M1 [] H' → Ext (wr im noOw) H (wr im' noOw) H' → im <+: im' → Q H') →
    codeAny (model P w) A (.call (.ref f) args) (CNR (L2N.CX P w) outer H s E (CNi outer P w H s Q)) s
theorem DNi.mono {P : Program} {w : World} {K : PySem.W.Frag} {mg : Str → Option Value} {base : Heap} {T : Tb} {j k : Nat} {f : Addr} {fd : FuncData} {ps : List Str} {n : Nat} {c : List Dm → Mem → R Bool} (F : DNi P w K mg base T j f fd ps n c) (h : j ≤ k) : DNi P w K mg base T k f fd ps n c :=
  ⟨fun A outer s H args us vs Q E hr => F.run A outer s H args us vs Q E (hr.mono h)⟩
section
variable {P : Program} {w : World} {K : PySem.W.Frag} {mg : Str → Option Value} {base : Heap} {T : Tb} {k n m : Nat} {f : Addr} {fd : FuncData} {x qual : Str} {params : Arguments} {body rest : List Stmt} {scope : Scope} {dvs : List V} {kws : List (Str × V)} {N ps : List Str} {fc : SE Bool} {test : Expr} {p1 p2 p3 : Pos}
theorem dni (F : FunD K x qual params body scope dvs kws f fd) (S : FnScope N ps scope) (hm : N.length = n + m) (hb0 : body = .If test [.Return (some (.Name "NotImplemented" p1)) p2] [] p3 :: rest) (hn : mg "NotImplemented" = none)
    (hg : ∀ (cdv : Value) (A : Around) (outer : List Env) (s : Shared) (H : Hp) (E : XK), Gl (cxD P w K mg base N qual scope f cdv A outer s H E) "NotImplemented")
    (hbody : ∀ (cdv : Value) (A : Around) (outer : List Env) (s : Shared) (H : Hp) (E : XK), Site (cxD P w K mg base N qual scope f cdv A outer s H E) k → DT (cxD P w K mg base N qual scope f cdv A outer s H E) T (wE E) test fc) :
    DNi P w K mg base T (k + 1) f fd ps n (fun ds M => fc (ds.map Slot.val ++ List.replicate m .un) M) := by
  obtain ⟨oc, od, dV, kV, doc, pm, an, cdv, ct, osl, rfl, lk, hcd, _, _⟩ := F.ex
  refine ⟨fun A outer s H args us vs Q E hr gu e0 hb rv hl h => begins lk hcd S hr e0 hb rv hl fun t hr2 I => ?_⟩
  obtain ⟨hl2, B, im, M, M1, ds, St, rs, hc, hq⟩ := h
  rw [hb0]
  refine wpAny_mono (ends_ni (Q := Q) (fc := fc) (hbody cdv A outer s H E ⟨hr2, gu⟩) (hg cdv A outer s H E) hn I (St.enter rs hl2 hm) ?_) (fun fl t' hv => ?_) fun _ _ z => z
  · have hc' : fc (ds.map Slot.val ++ List.replicate m .un) M = .ok true M1 := hc
    rw [hc']
    intro v im2 H2 S2 e2 p2 rr
    have S3 := S2.drop.1
    exact ⟨rr, hq im2 H2 (St.base S3 (B1 := B)) S3.ext S3.pre⟩
  · obtain ⟨rfl, τ, G, J, q⟩ := hv
    exact ⟨_, rfl, rfl, G, J.os, J.bare, J.base, J.hok, q⟩
end
end Dy

/-! Dy30: own ==, against an instance of the class, against plain data. -/
namespace Dy
open PySem
open PySem.Spec
open PyProof.Rows hiding St
open L2

section
open Builtin
/-- a text's == with an instance declines -/
theorem seq_ni {P : Program} {w : World} {A : Around} {E : Value → Shared → Prop} {s : Shared} {y : Str} {u : Tok} {a C dx : Addr} {Q : PySem.Fin → Shared → Prop} (h : s.heap.get? a = some (PySem.W.instObj C dx)) (q : Q (.done (.ret .notImplemented)) s) : wpAny (model P w) A (Builtin.«str.__eq__» ⟨[.str y u, .ref a], []⟩) Q E s := by
  wp_walk using wpAny_loadPart' h, wpAny_load h
  first
    | exact q
    | exact ⟨_, rfl, q⟩
end
end Dy

/-! Dy31: lambdas that are handed over as the last argument: their making, the frame of their body. -/
namespace Dy
open PySem
open PySem.Spec
open PyProof.Rows hiding St
open L2

/-- the names of a lambda: its parameters, captured ones, globals -/
structure LamP (sc scope : Scope) (ps : List Str) : Prop where
  kind : scope.kind = .function
  co : scope.isCoroutine = false
  gen : scope.isGenerator = false
  own : ∀ y ∈ scope.names, y.2 ≠ .cell ∧ (y.2 = .local → y.1 ∈ ps)
  par : ∀ p ∈ ps, scope.names.lookup p = some .local
  free : ∀ y ∈ scope.names, y.2 = .free → sc.names.lookup y.1 = some .cell ∨ sc.names.lookup y.1 = some .free
def lamNm (sc : Scope) (ps : List Str) (y : Str × NameKind) : Bool := match y.2 with
  | .cell => false
  | .local => decide (y.1 ∈ ps)
  | .free => decide (sc.names.lookup y.1 = some .cell ∨ sc.names.lookup y.1 = some .free)
  | _ => true
def lamPB (sc scope : Scope) (ps : List Str) : Bool :=
  decide (scope.kind = .function ∧ scope.isCoroutine = false ∧ scope.isGenerator = false) && (scope.names.all (lamNm sc ps) && ps.all fun p => decide (scope.names.lookup p = some .local))
theorem lamP_by {sc scope : Scope} {ps : List Str} (h : lamPB sc scope ps = true) : LamP sc scope ps := by
  obtain ⟨h1, h⟩ := Bool.and_eq_true_iff.mp h
  obtain ⟨h2, h3⟩ := Bool.and_eq_true_iff.mp h
  obtain ⟨k1, k2, k3⟩ := of_decide_eq_true h1
  have nm : ∀ y ∈ scope.names, lamNm sc ps y = true := List.all_eq_true.mp h2
  refine ⟨k1, k2, k3, fun y hy => ?_, fun p hp => of_decide_eq_true (List.all_eq_true.mp h3 p hp), fun y hy e => ?_⟩
  · have z := nm y hy
    unfold lamNm at z
    cases e : y.2 with
    | cell =>
      rw [e] at z
      cases z
    | «local» =>
      rw [e] at z
      exact ⟨fun q => (nomatch q), fun _ => of_decide_eq_true z⟩
    | _ => exact ⟨fun q => (nomatch q), fun q => (nomatch q)⟩
  · have z := nm y hy
    unfold lamNm at z
    rw [e] at z
    exact of_decide_eq_true z
/-- the context of a lambda's body, with the exceptions of L2N -/
abbrev lamCxN (X : Cx) (A : Around) (outer : List Env) (s : Shared) (H : Hp) (E : XK) (scope : Scope) (f c' : Addr) : Cx :=
  { LamX.lamCx X A outer s H E scope f c' with xe := fun e s' => wpAny (model X.prog X.w) (A.deeper (LamX.lamEnv X scope s.heap.objs.size f c')) («leaving» (LamX.lamEnv X scope s.heap.objs.size f c') e) (fun _ z => L2N.CX X.prog X.w outer H s E e z) (fun e' z => L2N.CX X.prog X.w outer H s E e' z) s' }
section
variable {X : Cx} {pins : List (Addr × Obj)} {σ : St} {H HZ : Hp} {s s1 : Shared} {ps : List Str} {scope : Scope}
theorem LamP.has (L : LamP X.env.scope scope ps) (ok : X.Ok) {y : Str × NameKind} (hy : y ∈ scope.names) (e : y.2 = .free) : ∃ c, X.env.cells.lookup y.1 = some c := ok.has _ (L.free y hy e)
/-- a lambda's cells are the maker's -/
theorem LamP.cells (L : LamP X.env.scope scope ps) (ok : X.Ok) {y : Str} {c : Addr} (e : (cloFrom X.env.cells scope.names []).lookup y = some c) : X.env.cells.lookup y = some c := by
  rcases cloFrom_mem (PySem.mem_of_lookup e) with q | ⟨q1, q2⟩
  · exact absurd q List.not_mem_nil
  · obtain ⟨d, hd⟩ := L.has ok q1 rfl
    have hd' : X.env.cells.lookup y = some d := hd
    rw [hd', q2, hd']
    rfl
theorem LamP.cell (L : LamP X.env.scope scope ps) {y : Str} (e : scope.names.lookup y = some .free) : ∃ c, (cloFrom X.env.cells scope.names []).lookup y = some c :=
  mem_lookup (cloFrom_has (acc := []) (n := y) (PySem.mem_of_lookup (c := NameKind.free) e))
/-- at the entry of a lambda's body: the maker's names, the parameters -/
theorem lam_inv {A : Around} {outer : List Env} {E : XK} {f c' : Addr} {h₁ : Heap} {tk : Nat} {us : List Value} {τ : St} (I : Inv X pins σ H s) (L : LamP X.env.scope scope ps) (e0 : Env0 X.prog X.w X.K X.mg X.base A outer s1 HZ) (calm : A.handled = none)
    (un : Un (frs X.stack) [] H HZ s.heap s1.heap) (ns : h₁.Ns s1.heap.objs.size fun y => (ps.zip us).reverse.lookup y) (k : ∀ b o, s1.heap.get? b = some o → h₁.get? b = some o)
    (len : τ.length = σ.length) (par : ∀ (i : Nat) (y : Str) (v : V), X.N[i]? = some y → y ∈ ps → τ[i]? = some (some v) → ∃ u, RelV v u ∧ (ps.zip us).reverse.lookup y = some u) (oth : ∀ (i : Nat) (y : Str), X.N[i]? = some y → y ∉ ps → τ[i]? = σ[i]?) :
    Inv (lamCxN X A outer s1 HZ E scope f c') [] τ HZ { s1 with heap := h₁, toks := tk } where
  ok := {
    mod := e0.mod
    kind := L.kind
    glob := rfl
    blt := rfl
    above := Nat.le_refl _
    inj := fun y z c e1 e2 => I.ok.inj y z c (L.cells I.ok e1) (L.cells I.ok e2)
    has := fun y hy => hy.elim (fun q => absurd rfl (L.own _ (PySem.mem_of_lookup q)).1) fun q => L.cell q
    cab := fun y c z _ => (nomatch z)
    hd := fun _ => calm
    frames := Around.frames_deeper e0.frames
    stk := .inr ⟨rfl, rfl⟩
    exf := fun b z => (nomatch z)
    bs := e0.bs
    bsz := e0.bsz
    noex := fun b o _ z => (nomatch z)
    exfs := fun b z => (nomatch z)
    funs := e0.funs
    frf := e0.frf }
  os := rfl
  bare := e0.bare
  base := Un.kept k
  loc := by
    refine ⟨_, ns, fun i y v hi hv vis => ?_⟩
    have look : ∀ {z : Str}, scope.names.lookup z = some .free → z ∉ ps := fun {z} e m => by
      rw [L.par z m] at e
      cases e
    rcases vis with q | q | q
    · obtain ⟨u, ru, eu⟩ := par i y v hi ((L.own _ (PySem.mem_of_lookup q)).2 rfl) hv
      exact ⟨u, ru, Or.inl ⟨q, eu⟩⟩
    · exact absurd rfl (L.own _ (PySem.mem_of_lookup q)).1
    · have fr := L.free _ (PySem.mem_of_lookup q) rfl
      rw [oth i y hi (look q)] at hv
      obtain ⟨m, _, hm⟩ := I.loc
      obtain ⟨u, ru, at_⟩ := hm i y v hi hv (Or.inr fr)
      obtain ⟨c, hc⟩ := L.cell q
      refine ⟨u, ru, Or.inr ⟨Or.inr q, c, hc, ?_⟩⟩
      have hX := L.cells I.ok hc
      rcases at_ with ⟨lo, _⟩ | ⟨_, d, hd, isc⟩
      · have lo' : X.env.scope.names.lookup y = some .local := lo
        rcases fr with z | z <;> exact absurd (lo'.symm.trans z) (fun w => nomatch w)
      · rw [hX] at hd
        cases hd
        obtain ⟨o, ho, hdat⟩ := isc
        obtain ⟨sl, q2⟩ := un.any ho (I.freeC y c hX) List.not_mem_nil
        exact ⟨_, k _ _ q2, hdat⟩
  cell := fun y c e => by
    have hX := L.cells I.ok e
    obtain ⟨v, o, ho, hdat⟩ := I.cell y c hX
    obtain ⟨sl, q2⟩ := un.any ho (I.freeC y c hX) List.not_mem_nil
    exact ⟨v, _, k _ _ q2, hdat⟩
  free := e0.hok.fresh (Nat.le_refl _)
  freeC := fun y c e => by
    have hX := L.cells I.ok e
    obtain ⟨v, o, ho, _⟩ := I.cell y c hX
    exact un.free c o ho (I.freeC y c hX) List.not_mem_nil
  pin := fun p hp => absurd hp List.not_mem_nil
  hok := e0.hok.kept k
  len := len.trans I.len
/-- the lambda at f -/
structure LamAt (X : Cx) (params : Arguments) (body : Expr) (scope : Scope) (f c' : Addr) (H : Hp) (s : Shared) : Prop where
  ob : ∃ pm ctv, s.heap.get? f = some (PySem.W.kla_obj "<lambda>" (X.env.qual ++ "<lambda>") params body scope (cloFrom X.env.cells scope.names []) pm c' ctv)
  un : H f = none
  fr : f ∉ frs X.stack
  co : H c' = some (LamX.CodeO c' (X.env.qual ++ "<lambda>"))
end
/-- arguments that end in a lambda -/
structure ArgL (X : Cx) (T : Tb) (W : WX) (params : Arguments) (body : Expr) (scope : Scope) (es : List Expr) (fp : SE (List Dm)) : Prop where
  run : ∀ (pos : Pos) (pins : List (Addr × Obj)) (s : Shared) (σ : St) (H : Hp) (R : List Value → Shared → Prop), Inv X pins σ H s →
    tA (gm X T) W fp σ H (fun vs H1 => LamX.Tabs T.tabs H1 ∧ ∀ (f c' : Addr) (H2 : Hp) (s2 : Shared) (us : List Value), Inv X pins σ H2 s2 → LamX.ExtN H1 H2 → LamX.Tabs T.tabs H2 → LamAt X params body scope f c' H2 s2 → Vals (vs ++ [.ref f]) us → R us s2) →
    wpAny (model X.prog X.w) X.A (spliced (backTo pos (starEach es X.env))) R X.xe s
section
variable {X : Cx} {T : Tb} {W : WX} {e : Expr} {es : List Expr} {h : SE Dm} {fp : SE (List Dm)} {params : Arguments} {body : Expr} {scope : Scope} {ps : List Str} {c P : Addr} {lpos : Pos}
theorem argl_one (TB : LamX.TabB X.base X.mg c P) (hcode : X.env.code = .ref c) (hm : (P, X.env.qual ++ "<lambda>") ∈ T.tabs) (hu : ∀ p ∈ T.tabs, p.1 = P → p.2 = X.env.qual ++ "<lambda>") (L : LamP X.env.scope scope ps) (hdef : defaultsOf params X.env = ([], []))
    (hs : starEach [.Lambda params body scope lpos] X.env = (false, eval (.Lambda params body scope lpos) X.env) :: starEach [] X.env := by rfl) : ArgL X T W params body scope [.Lambda params body scope lpos] sNil :=
  ⟨fun pos pins s σ H R I w => by
    obtain ⟨tb, k⟩ := tG_empty w
    rw [hs]
    exact Calls.spliced_cons (LamX.lam_make2 I TB hcode hm hu tb hdef (fun y hy q => L.has I.ok hy q) fun f c' pm ctv H2 s2 J x t ob un fr co => Calls.spliced_nil (k f c' H2 s2 [.ref f] J x t ⟨⟨pm, ctv, ob⟩, un, fr, co⟩ (.cons rfl .nil)))⟩
theorem argl_cons (he : DE X T W e h) (hr : ArgL X T W params body scope es fp) (hs : starEach (e :: es) X.env = (false, eval e X.env) :: starEach es X.env := by rfl) : ArgL X T W params body scope (e :: es) (sCons h fp) :=
  ⟨fun pos pins s σ H R I ⟨B, im, ow, r, M, S, Pw⟩ => by
    rw [hs]
    refine Calls.spliced_cons (thn (he.run pins s σ H _ I ⟨B, im, ow, r, M, S, Pw.bind (rl := rlV) (Q1 := fun v H1 => ∃ im1 M1 d, StRel (gm X T) B im1 ow r M1 σ H1 ∧ Rep (gm X T) (ns B.F im1 ow) im1 H1 v d ∧ _) fun d M1 v im1 H1 _ S1 E1 p1 r1 P1 => ⟨im1, M1, d, S1, r1, P1⟩⟩)
      fun u s1 ⟨v, H1, I1, rv, im1, M1, d, S1, r1, P1⟩ => ?_)
    exact hr.run pos pins s1 σ H1 _ I1 ⟨B, im1, ow, r, M1, S1, P1.bind (rl := rlVs) fun ds M2 vs im2 H2 _ S2 E2 p2 r2 P2 => by
      obtain ⟨tb, k⟩ := P2.here S2 (.cons (r1.mono E2.ns p2) r2)
      exact ⟨tb, fun f c' H3 s3 us J x t la rv2 => k f c' H3 s3 (u :: us) J x t la (.cons rv rv2)⟩⟩⟩
end
end Dy

/-! Dy32: what is handed over and called by a parameter's name; defs that take such a thing. -/
namespace Dy
open PySem
open PySem.Spec
open PyProof.Rows hiding St
open L2

/-- the name at slot i is called -/
def sPin (i n : Nat) (fp : SE (List Dm)) (cb : SF) : SE Dm := fun r M => match r[i]? with
  | some .pin => (fp r M).bind fun ds M1 => if ds.length = n then cb ds M1 else .bad
  | _ => .bad
/-- arguments as they are had in order -/
inductive PlainA (X : Cx) (T : Tb) (W : WX) : List Expr → SE (List Dm) → Prop
  | nil : PlainA X T W [] sNil
  | cons {e : Expr} {es : List Expr} {fp : SE (List Dm)} (ha : DA X T W (e :: es) fp) (he : starEach (e :: es) X.env = (false, eval e X.env) :: starEach es X.env := by rfl) (hpl : ∀ pos, (backTo pos (starEach es X.env)).any (·.1) = false := by intro; rfl) : PlainA X T W (e :: es) fp
/-- c, handed to the def at g that is called at s, does what cb says -/
structure CbOk (P : Program) (w : World) (K : PySem.W.Frag) (mg : Str → Option Value) (base : Heap) (T : Tb) (g : Addr) (A : Around) (outer : List Env) (s : Shared) (H : Hp) (E : XK) (kc n : Nat) (cb : SF) : Prop where
  de : ∀ (N : List Str) (q : Str) (sc : Scope) (cdv : Value) (W : WX) (pn : List (Addr × Obj)) (xe : Value → Shared → Prop) (i : Nat) (a : Str) (es : List Expr) (fp : SE (List Dm)) (p1 p2 : Pos), N[i]? = some a → Vis sc a → (a == ("__debug__" : Str)) = false → (a == ("__classdict__" : Str)) = false →
    L2N.Takes ((cxD P w K mg base N q sc g cdv A outer s H E).tr pn xe) W → Room (kc + 1) (cxD P w K mg base N q sc g cdv A outer s H E).A → (cxD P w K mg base N q sc g cdv A outer s H E).A.guards = some [] → PlainA ((cxD P w K mg base N q sc g cdv A outer s H E).tr pn xe) T W es fp →
    DE ((cxD P w K mg base N q sc g cdv A outer s H E).tr pn xe) T W (.Call (.Name a p1) es [] p2) (sPin i n fp cb)
theorem Post.intoC {g : Gm} {B : Bs} {W : WX} {im : List Addr} {ow : Ow} {r : Sl} {M : Mem} {σ : St} {H : Hp} {q : R Dm} {Q : VK} (S : StRel g B im ow r M σ H) (P : Post rlV g B W im ow r σ H q Q) : Post rlV g (inB B im ow H) (wE (WE W σ)) im noOw [] [] H q Q := by
  have hF : ∀ a, B.F a → (inB B im ow H).F a := fun a h => .inl h
  have hO : ∀ i a, ow i = some a → (inB B im ow H).F a := fun i a h => .inr ⟨i, h⟩
  cases q with
  | ok d M' => exact fun v im' H' S' e p' rr => P v im' H' (S.back S' e p' hF hO) (Ext.out S S' hO e) p' (rr.mono (Ext.refl.less (le_out hF hO)) (List.prefix_refl _))
  | ex C fs M' => exact fun Ca dd xs im' H' S' e p' c hx nx rf => P Ca dd xs im' H' (S.back S' e p' hF hO) (Ext.out S S' hO e) p' c hx (fun x h z => nx x h (le_out hF hO x z)) (rf.mono (Ext.refl.less (le_out hF hO)) (List.prefix_refl _))
  | bad => exact P.elim
/-- a call's end, seen from a frame that begins there -/
theorem Post.lam {g : Gm} {B : Bs} {E : XK} {im : List Addr} {M : Mem} {H : Hp} {q : R Dm} {Q : VK} {T : Tb} {r' : Sl} {σ' : St} (S : StRel g B im noOw [] M [] H) (P : Post rlV g B (wE E) im noOw [] [] H q Q) (hh : g.T.hot = T.hot) (ht : g.T.tabs = T.tabs) (hc : ∀ p ∈ g.T.codes, p ∈ T.codes) :
    Post rlV (g.to T) ⟨B.F, H, wr im noOw, im⟩ (wE E) im noOw r' σ' H q Q := by
  have rt : RtOk g.T ⟨B.F, H, wr im noOw, im⟩ := S.root.now S.ext S.pre
  cases q with
  | ok d M' =>
    intro v im' H' S' e' p' rr
    have S3 : StRel g ⟨B.F, H, wr im noOw, im⟩ im' noOw [] M' [] H' := S'.drop.1.cg (T := g.T) hh.symm ht.symm (fun p hp => S'.tab.2 p (hc p hp)) np_nil rt
    have rr' : Rep g _ im' H' v d := rr.cg (T := g.T) hh.symm
    exact P v im' H' (S.base S3 (B1 := B)) S3.ext S3.pre rr'
  | ex C fs M' =>
    intro Ca dd xs im' H' S' e' p' c hx nx rf
    have S3 : StRel g ⟨B.F, H, wr im noOw, im⟩ im' noOw [] M' [] H' := S'.drop.1.cg (T := g.T) hh.symm ht.symm (fun p hp => S'.tab.2 p (hc p hp)) np_nil rt
    have rf' : RepF g _ im' H' xs fs := rf.cg (T := g.T) hh.symm
    exact P Ca dd xs im' H' (S.base S3 (B1 := B)) S3.ext S3.pre c hx nx rf'
  | bad => exact P.elim
/-! ### a lambda -/
def hide (r : Sl) : Sl := r.map fun s => match s with
  | .val d => .val d
  | _ => .un
theorem np_hide {r : Sl} : ∀ i : Nat, (hide r)[i]? ≠ some Slot.pin := fun i e => by
  obtain ⟨s, _, z⟩ := List.mem_map.mp (List.mem_of_getElem? e)
  cases s <;> cases z
theorem np_sets : ∀ {l : List (Nat × Dm)} {r : Sl}, (∀ i : Nat, r[i]? ≠ some Slot.pin) → ∀ i : Nat, (setsS r l)[i]? ≠ some Slot.pin
  | [], _, h => h
  | p :: l, r, h => np_sets (l := l) fun i e => by
    by_cases hi : p.1 = i
    · subst hi
      by_cases hl : p.1 < r.length
      · rw [List.getElem?_set_self hl] at e
        cases e
      · rw [List.getElem?_eq_none (by rw [List.length_set]; omega)] at e
        cases e
    · rw [List.getElem?_set_ne hi] at e
      exact h i e
/-- what a lambda does: e at the maker's names -/
def lamF (r : Sl) (js : List Nat) (e : SE Dm) : SF := fun ds M => e (setsS (hide r) (js.zip ds)) M
/-- the parameters' slots -/
structure ParOk (N ps : List Str) (js : List Nat) : Prop where
  hp : ∀ (σ : St) (us : List Value) (vs : List V), σ.length = N.length → Vals vs us → vs.length = ps.length → ∀ (i : Nat) (y : Str) (v : V), N[i]? = some y → y ∈ ps → (setsV σ (js.zip vs))[i]? = some (some v) → ∃ u, RelV v u ∧ (ps.zip us).reverse.lookup y = some u
  hq : ∀ (σ : St) (vs : List V) (i : Nat) (y : Str), N[i]? = some y → y ∉ ps → (setsV σ (js.zip vs))[i]? = σ[i]?
  len : js.length = ps.length
theorem par0 {N : List Str} : ParOk N [] [] := ⟨fun _ _ _ _ _ _ _ _ _ _ h => (nomatch h), fun _ _ _ _ _ _ => rfl, rfl⟩
theorem par1 {N : List Str} {a : Str} {j : Nat} (hN : N.Nodup) (hj : N[j]? = some a) : ParOk N [a] [j] := by
  have inj : ∀ i, N[i]? = some a → i = j := fun i h => by
    obtain ⟨h1, e1⟩ := List.getElem?_eq_some_iff.mp h
    obtain ⟨h2, e2⟩ := List.getElem?_eq_some_iff.mp hj
    have e3 : N[i] = N[j] := e1.trans e2.symm
    rcases Nat.lt_trichotomy i j with z | z | z
    · exact absurd e3 (List.pairwise_iff_getElem.mp hN i j h1 h2 z)
    · exact z
    · exact absurd e3.symm (List.pairwise_iff_getElem.mp hN j i h2 h1 z)
  refine ⟨fun σ us vs hl rv lv i y v hi hy e => ?_, fun σ vs i y hi hy => ?_, rfl⟩
  · cases List.mem_singleton.mp hy
    have ei := inj i hi
    subst ei
    cases rv with
    | nil => cases lv
    | @cons v0 u0 vs' us' r0 rest =>
      have e2 : (σ.set i (some v0))[i]? = some (some v) := e
      have hil : i < σ.length := by
        rw [hl]
        exact (List.getElem?_eq_some_iff.mp hi).1
      rw [List.getElem?_set_self hil] at e2
      cases e2
      refine ⟨u0, r0, ?_⟩
      show ([(_, u0)] : List (Str × Value)).lookup _ = some u0
      simp
  · have ne : j ≠ i := fun z => by
      rw [← z, hj] at hi
      cases hi
      exact hy (List.mem_singleton.mpr rfl)
    cases vs with
    | nil => rfl
    | cons v vs => exact List.getElem?_set_ne ne
theorem repl_zip {g : Gm} {N : Av} {im : List Addr} {H : Hp} : ∀ {js : List Nat} {vs : List V} {ds : List Dm}, Reps g N im H vs ds → RepL g N im H (js.zip vs) (js.zip ds)
  | [], _, _, _ => by simp [List.zip]; exact .nil
  | j :: js, _, _, .nil => .nil
  | j :: js, _, _, .cons r rs => .cons r (repl_zip rs)
theorem setsV_length : ∀ {l : List (Nat × V)} {σ : St}, (setsV σ l).length = σ.length
  | [], _ => rfl
  | p :: l, σ => by
    unfold setsV
    rw [setsV_length, List.length_set]
/-- the tables of a def that got the lambda at f -/
abbrev TbC (X : Cx) (T : Tb) (B : Bs) (im : List Addr) (ow : Ow) (H : Hp) (f c' : Addr) : Tb := ⟨T.tabs, (c', X.env.qual ++ "<lambda>") :: T.codes, some ⟨(inB B im ow H).F, H, wr im noOw, im⟩, T.hot, some f⟩
theorem cb_lam {X : Cx} {pins : List (Addr × Obj)} {σ : St} {H : Hp} {s : Shared} {T : Tb} {B : Bs} {im : List Addr} {ow : Ow} {r : Sl} {M : Mem} {f c' g : Addr} {params : Arguments} {body : Expr} {scope : Scope} {ps : List Str} {js : List Nat} {kc : Nat} {fb : SE Dm} {E : XK}
    (I : Inv X pins σ H s) (S : StRel (gm X T) B im ow r M σ H) (la : LamAt X params body scope f c' H s)
    (L : LamP X.env.scope scope ps) (pr : ParOk X.N ps js) (hbind : ∀ (q : Str) (cl : List (Str × Addr)) (pm cv ctv : Value) (us : List Value), us.length = ps.length → bindArgs (PySem.W.kla_fn "<lambda>" q params body scope cl pm cv ctv) ⟨us, []⟩ = pure (ps.zip us))
    (hbody : ∀ (T' : Tb) (A : Around) (outer : List Env) (s : Shared) (H : Hp) (E : XK) (f c' : Addr), T'.hot = T.hot → T'.tabs = T.tabs → Site (lamCxN X A outer s H E scope f c') kc → L2N.Takes (lamCxN X A outer s H E scope f c') (wE E) → DE (lamCxN X A outer s H E scope f c') T' (wE E) body fb) :
    CbOk X.prog X.w X.K X.mg X.base (TbC X T B im ow H f c') g X.A X.stack s H E kc ps.length (lamF r js fb) := by
  obtain ⟨pm, ctv, ob⟩ := la.ob
  refine ⟨fun N q sc cdv W pn xe i a es fp p1 p2 hN hv hd hcd tk hr gu hA => ⟨fun pinsZ sZ σZ HZ Q IZ ⟨BZ, imZ, owZ, rZ, MZ, SZ, PZ⟩ => ?_⟩⟩
  unfold sPin at PZ
  cases hri : rZ[i]? with
  | none =>
    simp only [hri] at PZ
    exact PZ.elim
  | some sl =>
    simp only [hri] at PZ
    cases sl with
    | pin =>
      dsimp only at PZ
      obtain ⟨_, a0, ea, hs⟩ := SZ.sl i _ hri
      obtain rfl : f = a0 := Option.some.inj ea
      refine wpAny_Call_Name_kw (thn ((pe_var (pos := p1) (i := i) hN hv hd hcd).run pinsZ sZ σZ HZ (fun v H1 => v = .ref f ∧ H1 = HZ) IZ ⟨.ref f, hs, rfl, rfl⟩) fun u s1 ⟨v, H1, I1, r1, ev, eH⟩ => ?_)
      subst ev eH
      obtain rfl : u = Value.ref f := r1
      -- what stood when the def was entered
      have old : ∀ {im2 : List Addr} {M2 : Mem} {H2 : Hp}, StRel (gm X (TbC X T B im ow H f c')) BZ im2 owZ rZ M2 σZ H2 → Ext (ns B.F im ow) H (ns (inB BZ im2 owZ H2).F im2 noOw) H2 ∧ im <+: im2 := fun {im2 M2 H2} S2 => by
        obtain ⟨x, y⟩ := S2.root _ rfl
        refine ⟨fun b o e t n => ?_, y.trans S2.pre⟩
        obtain ⟨e1, n1⟩ := x b o e t (fun z => by
          rcases z with (z | z) | z | ⟨i, z⟩
          · exact n (.inl z)
          · exact n (.inr (.inr z))
          · exact n (.inr (.inl z))
          · cases z)
        obtain ⟨e2, n2⟩ := S2.ext b o e1 t fun z => n1 (.inr z)
        refine ⟨e2, fun z => ?_⟩
        rcases z with (z | z) | z | ⟨i, z⟩
        · exact n1 (.inl z)
        · exact n2 (.inr z)
        · exact n2 (.inl z)
        · cases z
      have objAt : ∀ {im2 : List Addr} {M2 : Mem} {H2 : Hp} {s2 : Shared}, Inv ((cxD X.prog X.w X.K X.mg X.base N q sc g cdv X.A X.stack s H E).tr pn xe) pinsZ σZ H2 s2 → StRel (gm X (TbC X T B im ow H f c')) BZ im2 owZ rZ M2 σZ H2 →
          s2.heap.get? f = some (PySem.W.kla_obj "<lambda>" (X.env.qual ++ "<lambda>") params body scope (cloFrom X.env.cells scope.names []) pm c' ctv) := fun {im2 M2 H2 s2} I2 _ => by
        have U : Un (frs X.stack) [] H H2 s.heap s2.heap := I2.base
        exact U.keep f _ ob la.un la.fr List.not_mem_nil
      have go : ∀ (us : List Value) (vs : List V) (ds : List Dm) (s2 : Shared) (H2 : Hp) (im2 : List Addr) (M2 : Mem), Inv ((cxD X.prog X.w X.K X.mg X.base N q sc g cdv X.A X.stack s H E).tr pn xe) pinsZ σZ H2 s2 → StRel (gm X (TbC X T B im ow H f c')) BZ im2 owZ rZ M2 σZ H2 →
          Vals vs us → Reps (gm X (TbC X T B im ow H f c')) (ns BZ.F im2 owZ) im2 H2 vs ds → ds.length = ps.length → Post rlV (gm X (TbC X T B im ow H f c')) BZ W im2 owZ rZ σZ H2 (lamF r js fb ds M2) Q →
          wpAny (model X.prog X.w) (cxD X.prog X.w X.K X.mg X.base N q sc g cdv X.A X.stack s H E).A (call (.ref f) us) (EP ((cxD X.prog X.w X.K X.mg X.base N q sc g cdv X.A X.stack s H E).tr pn xe) pinsZ σZ Q) xe s2 := fun us vs ds s2 H2 im2 M2 I2 S2 rv rd hl2 P2 => by
        have of2 := objAt I2 S2
        have lv : vs.length = ps.length := rd.length.trans hl2
        have lu : us.length = ps.length := rv.length.symm.trans lv
        have hco := S2.tab.2 (c', X.env.qual ++ "<lambda>") List.mem_cons_self
        obtain ⟨⟨oc, vs0, t, hoc, hdc, hvc⟩, _, _⟩ := I2.hok c' _ hco
        have un : Un (frs X.stack) [] H H2 s.heap s2.heap := I2.base
        obtain ⟨xo, pf⟩ := old S2
        -- the lambda's frame
        have S0 := S2.into
        have S1 : StRel (gm X (TbC X T B im ow H f c')) (inB BZ im2 owZ H2) im2 noOw (hide r) M2 σ H2 := by
          refine ⟨?_, fun j sl e => ?_, fun _ _ => rfl, fun i j a h => (nomatch h), fun i a h => (nomatch h), fun i a h => (nomatch h), S0.mlen, S0.nd, S0.mem, S0.imF, S0.fr, S0.ext, S0.pre, S0.tab, S0.root⟩
          · rw [S.len]
            unfold hide
            rw [List.length_map]
          · unfold hide at e
            rw [List.getElem?_map] at e
            cases hrj : r[j]? with
            | none =>
              rw [hrj] at e
              cases e
            | some sj =>
              rw [hrj] at e
              have e' := Option.some.inj e
              subst e'
              cases sj with
              | val d =>
                obtain ⟨_, y, h2, h3⟩ := S.sl j _ hrj
                have h4 : Rep (gm X (TbC X T B im ow H f c')) _ im H y d := h3.cg (T := TbC X T B im ow H f c') rfl
                exact ⟨rfl, y, h2, h4.mono xo pf⟩
              | _ => rfl
        have S3 := (S1.sets (repl_zip (js := js) (rd.into (H := H2))) (fun _ _ => rfl)).here
        have S4 := S3.cg (T := (TbC X T B im ow H f c').inn ⟨(inB BZ im2 owZ H2).F, H2, wr im2 noOw, im2⟩) rfl rfl S3.tab.2 (np_sets np_hide) (rt_self _)
        have PL := Post.lam (T := (TbC X T B im ow H f c').inn ⟨(inB BZ im2 owZ H2).F, H2, wr im2 noOw, im2⟩) (r' := setsS (hide r) (js.zip ds)) (σ' := setsV σ (js.zip vs)) S0 (Post.intoC S2 P2) rfl rfl (fun _ h => h)
        have rc : codeAny (model X.prog X.w) (cxD X.prog X.w X.K X.mg X.base N q sc g cdv X.A X.stack s H E).A (.call (.ref f) ⟨us, []⟩) (CR (L2N.CX X.prog X.w) (cxD X.prog X.w X.K X.mg X.base N q sc g cdv X.A X.stack s H E).stack X.prog X.w H2 s2 Q (WE W σZ)) s2 := by
          refine PySem.W.kla_callFunE hr.depth of2 rfl L.co L.gen rfl ⟨c', oc, vs0, t, rfl, hoc, hdc, hvc⟩ ?_
          rw [hbind _ _ _ _ _ us lu]
          refine wpAny_pure (wpAny_newFunctionEnv (fun y hy => (L.own y hy).1) (fun y hy => L.par y.1 (List.of_mem_zip hy).1) (fun h₁ hns hsb => ⟨I2.nolimit.fresh _ hsb, ?_⟩) L.kind)
          show codeAny _ _ (.expr body (LamX.lamEnv X scope s2.heap.objs.size f c')) _ _
          have kp : ∀ b o, s2.heap.get? b = some o → h₁.get? b = some o := fun b o e => hsb.extBut b o (Nat.ne_of_lt (Heap.lt_size e)) (Heap.get?_push_of_some _ e)
          have J : Inv (lamCxN X (cxD X.prog X.w X.K X.mg X.base N q sc g cdv X.A X.stack s H E).A (cxD X.prog X.w X.K X.mg X.base N q sc g cdv X.A X.stack s H E).stack s2 H2 (WE W σZ) scope f c') [] (setsV σ (js.zip vs)) H2 { s2 with heap := h₁, toks := s2.toks + (ps.zip us).length } :=
            lam_inv I L I2.env0 hr.hd un hns kp setsV_length (fun i y v h1 h2 h3 => pr.hp σ us vs I.len rv lv i y v h1 h2 h3) (fun i y h1 h2 => pr.hq σ vs i y h1 h2)
          refine PySem.W.kla_codeExpr (wpAny_mono ((hbody ((TbC X T B im ow H f c').inn ⟨(inB BZ im2 owZ H2).F, H2, wr im2 noOw, im2⟩) _ _ s2 H2 (WE W σZ) f c' rfl rfl ⟨hr.deeper _, gu⟩ (L2N.takes_of rfl rfl rfl rfl)).run [] _ _ H2 Q J ⟨_, im2, noOw, _, M2, S4, PL⟩) (fun v s' hq => ?_) fun e s' hq => hq)
          obtain ⟨w', H', J', rv, q⟩ := hq
          exact ⟨w', H', J'.os, J'.bare, J'.base, J'.hok, rv, q⟩
        refine wpAny_call (codeAny_mono rc fun rr s' hq => ?_)
        cases rr with
        | error e => exact L2N.passAt tk σZ pinsZ H2 s2 e s' I2 hq
        | ok fl =>
          cases fl with
          | ret u => exact I2.after hq
          | next => exact False.elim hq
          | brk => exact False.elim hq
          | cont => exact False.elim hq
      cases hA with
      | nil =>
        refine PySem.W.callWith_F0 ⟨_, _, _, _, objAt I1 SZ⟩ ?_
        have PZ' : Post rlV _ BZ W imZ owZ rZ σZ H1 (if ([] : List Dm).length = ps.length then lamF r js fb [] MZ else .bad) Q := PZ
        split at PZ'
        · rename_i h0
          exact go [] [] [] _ _ _ _ I1 SZ .nil .nil h0 PZ'
        · exact PZ'.elim
      | cons ha he hpl =>
        refine PySem.W.callWith_F ⟨_, _, _, _, objAt I1 SZ⟩ (thn (ha.run p2 pinsZ s1 σZ H1 _ I1 ⟨BZ, imZ, owZ, rZ, MZ, SZ, PZ.bind (rl := rlVs) (Q1 := fun vs H2 => ∃ im2 M2 ds, StRel (gm X (TbC X T B im ow H f c')) BZ im2 owZ rZ M2 σZ H2 ∧ Reps (gm X (TbC X T B im ow H f c')) (ns BZ.F im2 owZ) im2 H2 vs ds ∧ ds.length = ps.length ∧ Post rlV (gm X (TbC X T B im ow H f c')) BZ W im2 owZ rZ σZ H2 (lamF r js fb ds M2) Q)
          fun ds M2 vs im2 H2 _ S2 E2 p2 rd P2 => by
            split at P2
            · rename_i h0
              exact ⟨im2, M2, ds, S2, rd, h0, P2⟩
            · exact P2.elim⟩) fun us s2 ⟨vs, H2, I2, rv, im2, M2, ds, S2, rd, h0, P2⟩ => ⟨⟨_, _, _, _, objAt I2 S2⟩, go us vs ds s2 H2 im2 M2 I2 S2 rv rd h0 P2⟩) he (hpl p2)
    | _ => exact PZ.elim
end Dy

/-! Dy33: defs whose last parameter is called; their calls with a lambda or a def. -/
namespace Dy
open PySem
open PySem.Spec
open PyProof.Rows hiding St
open L2

/-- a module's def handed over -/
theorem cb_glo {P : Program} {w : World} {K : PySem.W.Frag} {mg : Str → Option Value} {base : Heap} {T : Tb} {g fa : Addr} {A : Around} {outer : List Env} {s : Shared} {H : Hp} {E : XK} {fd : FuncData} {ps : List Str} {k n : Nat} {h : SF} (hp : T.pin = some fa) (hk : PySem.W.keepIn K (.ref fa) = true)
    (F : DFn P w K mg base k fa fd ps (spD ⟨K, mg, T⟩ n h)) (b : DBind K fd ps n [] (fun ds _ => ds)) (hnp : ps.length = n) : CbOk P w K mg base T g A outer s H E k n h := by
  refine ⟨fun N q sc cdv W pn xe i a es fp p1 p2 hN hv hd hcd tk hr gu hA => ⟨fun pinsZ sZ σZ HZ Q IZ ⟨BZ, imZ, owZ, rZ, MZ, SZ, PZ⟩ => ?_⟩⟩
  unfold sPin at PZ
  cases hri : rZ[i]? with
  | none =>
    simp only [hri] at PZ
    exact PZ.elim
  | some sl =>
    simp only [hri] at PZ
    cases sl with
    | pin =>
      dsimp only at PZ
      obtain ⟨_, a0, ea, hs⟩ := SZ.sl i _ hri
      rw [show (gm ((cxD P w K mg base N q sc g cdv A outer s H E).tr pn xe) T).T.pin = some fa from hp] at ea
      cases ea
      refine wpAny_Call_Name_kw (thn ((pe_var (pos := p1) (i := i) hN hv hd hcd).run pinsZ sZ σZ HZ (fun v H1 => v = .ref fa ∧ H1 = HZ) IZ ⟨.ref fa, hs, rfl, rfl⟩) fun u s1 ⟨v, H1, I1, r1, ev, eH⟩ => ?_)
      subst ev eH
      obtain rfl : u = Value.ref fa := r1
      have go : ∀ (us : List Value) (vs : List V) (ds : List Dm) (s2 : Shared) (H2 : Hp) (im2 : List Addr) (M2 : Mem), Inv ((cxD P w K mg base N q sc g cdv A outer s H E).tr pn xe) pinsZ σZ H2 s2 → StRel ⟨K, mg, T⟩ BZ im2 owZ rZ M2 σZ H2 →
          Vals vs us → Reps ⟨K, mg, T⟩ (ns BZ.F im2 owZ) im2 H2 vs ds → ds.length = n → Post rlV ⟨K, mg, T⟩ BZ W im2 owZ rZ σZ H2 (h ds M2) Q →
          wpAny (model P w) (cxD P w K mg base N q sc g cdv A outer s H E).A (call (.ref fa) us) (EP ((cxD P w K mg base N q sc g cdv A outer s H E).tr pn xe) pinsZ σZ Q) xe s2 := fun us vs ds s2 H2 im2 M2 I2 S2 rv rd hl P2 => by
        obtain ⟨xs, us', b1, b2, b3, b4⟩ := b.to ⟨K, mg, T⟩ _ _ _ s2 vs [] us [] ds [] rfl I2.kIn rv .nil rd .nil (rd.length.trans hl) rfl
        refine wpAny_call (codeAny_mono (run_d (X := (cxD P w K mg base N q sc g cdv A outer s H E).tr pn xe) F ⟨Room.mono (k := k + 1) hr (Nat.le_succ k), gu⟩ tk I2 b1 b2 b3 (callD_le S2 b4 (b3.trans hnp) P2)) fun r s' hq => ?_)
        cases r with
        | error e => exact hq
        | ok fl =>
          cases fl with
          | ret u => exact hq
          | next => exact False.elim hq
          | brk => exact False.elim hq
          | cont => exact False.elim hq
      cases hA with
      | nil =>
        refine PySem.W.callWith_K0 I1.kIn hk ?_
        have PZ' : Post rlV _ BZ W imZ owZ rZ σZ H1 (if ([] : List Dm).length = n then h [] MZ else .bad) Q := PZ
        split at PZ'
        · rename_i h0
          exact go [] [] [] _ _ _ _ I1 SZ .nil .nil h0 PZ'
        · exact PZ'.elim
      | cons ha he hpl =>
        refine PySem.W.callWith_K (h₀ := base) I1.ok.mod.kin hk (thn (ha.run p2 pinsZ s1 σZ H1 _ I1 ⟨BZ, imZ, owZ, rZ, MZ, SZ, PZ.bind (rl := rlVs) (Q1 := fun vs H2 => ∃ im2 M2 ds, StRel ⟨K, mg, T⟩ BZ im2 owZ rZ M2 σZ H2 ∧ Reps ⟨K, mg, T⟩ (ns BZ.F im2 owZ) im2 H2 vs ds ∧ ds.length = n ∧ Post rlV ⟨K, mg, T⟩ BZ W im2 owZ rZ σZ H2 (h ds M2) Q)
          fun ds M2 vs im2 H2 _ S2 E2 p2 rd P2 => by
            split at P2
            · rename_i h0
              exact ⟨im2, M2, ds, S2, rd, h0, P2⟩
            · exact P2.elim⟩) fun us s2 ⟨vs, H2, I2, rv, im2, M2, ds, S2, rd, h0, P2⟩ => ⟨I2.kIn, go us vs ds s2 H2 im2 M2 I2 S2 rv rd h0 P2⟩) he (hpl p2)
    | _ => exact PZ.elim
/-! ### a def whose last parameter is called -/
structure DFnC (P : Program) (w : World) (K : PySem.W.Frag) (mg : Str → Option Value) (base : Heap) (T : Tb) (k : Nat) (f : Addr) (fd : FuncData) (ps : List Str) (n kc nc : Nat) (F : SF → SF) : Prop where
  run : ∀ (A : Around) (outer : List Env) (s : Shared) (H : Hp) (args : Args) (us : List Value) (vs : List V) (Q : VK) (E : XK) (c : Addr) (cs : List (Addr × Str)) (cb : SF) (B : Bs) (im : List Addr) (M : Mem) (ds : List Dm), (∀ p ∈ cs, H p.1 = some (LamX.CodeO p.1 p.2)) → (∀ p ∈ T.codes, p ∈ cs) → Room k A → A.guards = some [] → Env0 P w K mg base A outer s H → BindsTo s fd args (ps.zip us) → Vals (vs ++ [.ref c]) us → vs.length = n →
    StRel ⟨K, mg, T⟩ B im noOw [] M [] H → Reps ⟨K, mg, T⟩ (ns B.F im noOw) im H vs ds → CbOk P w K mg base ⟨T.tabs, cs, some ⟨B.F, H, wr im noOw, im⟩, T.hot, some c⟩ f A outer s H E kc nc cb → Post rlV ⟨K, mg, T⟩ B (wE E) im noOw [] [] H (F cb ds M) Q →
    codeAny (model P w) A (.call (.ref f) args) (CR (L2N.CX P w) outer P w H s Q E) s
def endB : RS → R Dm
  | .nx _ M' => .ok .non M'
  | .rt d M' => .ok d M'
  | .ex _ C fs M' => .ex C fs M'
  | _ => .bad
/-- a body, run at the parameters, the one that is called, m further names -/
def runP (m : Nat) (b : SS) : SF := fun ds M => endB (b (ds.map Slot.val ++ .pin :: List.replicate m .un) M)
theorem end_le {g : Gm} {B : Bs} {im : List Addr} {M : Mem} {H : Hp} {E : XK} {Q : VK} {T : Tb} (hh : g.T.hot = T.hot) (ht : g.T.tabs = T.tabs) (hc : ∀ p ∈ g.T.codes, p ∈ T.codes) {q : RS} (S : StRel g B im Dy.noOw [] M [] H) (P : Post rlV g B (wE E) im Dy.noOw [] [] H (endB q) Q) :
    PostS (g.to T) ⟨B.F, H, wr im Dy.noOw, im⟩ (wE E) { nx := fun _ H' => Q .non H', rt := Q } q := by
  have rt : RtOk g.T ⟨B.F, H, wr im Dy.noOw, im⟩ := S.root.now S.ext S.pre
  cases q with
  | nx r M' =>
    intro im2 ow2 σ2 H2 S2
    have S3 : StRel g _ im2 Dy.noOw [] M' [] H2 := S2.drop.1.cg (T := g.T) hh.symm ht.symm (fun p hp => S2.tab.2 p (hc p hp)) np_nil rt
    exact P .non im2 H2 (S.base S3 (B1 := B)) S3.ext S3.pre .non
  | rt d M' =>
    intro v im2 ow2 r2 σ2 H2 S2 rr
    have S3 : StRel g _ im2 Dy.noOw [] M' [] H2 := S2.drop.1.cg (T := g.T) hh.symm ht.symm (fun p hp => S2.tab.2 p (hc p hp)) np_nil rt
    have rr' : Rep g _ im2 H2 v d := rr.cg (T := g.T) hh.symm
    exact P v im2 H2 (S.base S3 (B1 := B)) S3.ext S3.pre (rr'.less S2.drop.2)
  | ex r C fs M' =>
    intro Ca dd xs im2 ow2 σ2 H2 S2 c hx nx rf
    have S3 : StRel g _ im2 Dy.noOw [] M' [] H2 := S2.drop.1.cg (T := g.T) hh.symm ht.symm (fun p hp => S2.tab.2 p (hc p hp)) np_nil rt
    have rf' : RepF g _ im2 H2 xs fs := rf.cg (T := g.T) hh.symm
    exact P Ca dd xs im2 H2 (S.base S3 (B1 := B)) S3.ext S3.pre c hx (fun x h z => nx x h (S2.drop.2 x z)) (rf'.mono (Ext.refl.less S2.drop.2) (List.prefix_refl _))
  | _ => exact P.elim
theorem start_snoc {N : List Str} {vs : List V} {x : V} {m : Nat} (h : N.length = vs.length + 1 + m) : L2.start N (vs ++ [x]) = vs.map some ++ some x :: List.replicate m none := by
  unfold L2.start
  rw [h, List.map_append, List.append_assoc]
  have e : vs.length + 1 + m - (vs ++ [x]).length = m := by
    rw [List.length_append, List.length_singleton]
    omega
  rw [e]
  rfl
theorem StRel.enterP {g : Gm} {B : Bs} {im : List Addr} {M : Mem} {H : Hp} {N : List Str} {n m : Nat} {vs : List V} {ds : List Dm} {c : Addr} {T : Tb} (S : StRel g B im Dy.noOw [] M [] H) (rs : Reps g (ns B.F im Dy.noOw) im H vs ds) (hn : vs.length = n) (hm : N.length = n + 1 + m)
    (hh : g.T.hot = T.hot) (ht : g.T.tabs = T.tabs) (hk : ∀ p ∈ T.codes, H p.1 = some (LamX.CodeO p.1 p.2)) (hp : T.pin = some c) (hr : RtOk T ⟨B.F, H, wr im Dy.noOw, im⟩) :
    StRel (g.to T) ⟨B.F, H, wr im Dy.noOw, im⟩ im Dy.noOw (ds.map Slot.val ++ .pin :: List.replicate m .un) M (L2.start N (vs ++ [.ref c])) H := by
  have S0 := S.here.cg (T := T) hh ht hk np_nil hr
  have rs' : Reps (g.to T) (ns B.F im Dy.noOw) im H vs ds := rs.cg hh
  have ld := rs.length
  rw [start_snoc (by rw [hn]; exact hm)]
  refine ⟨by simp [ld], fun i s e => ?_, fun i _ => rfl, fun i j a h => (nomatch h), fun i a h => (nomatch h), fun i a h => (nomatch h), S0.mlen, S0.nd, S0.mem, S0.imF, S0.fr, S0.ext, S0.pre, S0.tab, S0.root⟩
  by_cases hi : i < ds.length
  · rw [List.getElem?_append_left (by simpa using hi), List.getElem?_map] at e
    cases hd : ds[i]? with
    | none =>
      rw [hd] at e
      cases e
    | some d =>
      rw [hd] at e
      cases e
      obtain ⟨x, h1, h2⟩ := rs'.get hd
      refine ⟨rfl, x, ?_, h2⟩
      rw [List.getElem?_append_left (by simpa [ld] using hi), List.getElem?_map, h1]
      rfl
  · rw [List.getElem?_append_right (by simpa using hi), List.length_map] at e
    rw [List.getElem?_append_right (by simpa [ld] using hi), List.length_map, ld]
    cases hj : i - ds.length with
    | zero =>
      rw [hj] at e
      cases e
      exact ⟨rfl, c, hp, rfl⟩
    | succ j =>
      rw [hj] at e
      rw [List.getElem?_cons_succ, List.getElem?_replicate] at e
      split at e
      · cases e
        rfl
      · cases e
section
variable {P : Program} {w : World} {K : PySem.W.Frag} {mg : Str → Option Value} {base : Heap} {T : Tb} {k : Nat} {f : Addr} {x qual : Str} {params : Arguments} {body : List Stmt} {scope : Scope} {dvs : List V} {kws : List (Str × V)} {fd : FuncData} {N ps : List Str} {n m kc nc : Nat} {b : SF → SS}
theorem dfnC (F : FunD K x qual params body scope dvs kws f fd) (S : FnScope N ps scope) (hm : N.length = n + 1 + m) (hps : ps.length = n + 1)
    (hbody : ∀ (T' : Tb) (cdv : Value) (A : Around) (outer : List Env) (s : Shared) (H : Hp) (E : XK) (cb : SF), T'.hot = T.hot → T'.tabs = T.tabs → Site (cxD P w K mg base N qual scope f cdv A outer s H E) k → L2N.Takes (cxD P w K mg base N qual scope f cdv A outer s H E) (wE E) → CbOk P w K mg base T' f A outer s H E kc nc cb → DB (cxD P w K mg base N qual scope f cdv A outer s H E) T' (wE E) body (b cb)) :
    DFnC P w K mg base T (k + 1) f fd ps n kc nc (fun cb => runP m (b cb)) := by
  obtain ⟨oc, od, dV, kV, doc, pm, an, cdv, ct, osl, rfl, lk, hcd, _, _⟩ := F.ex
  exact ⟨fun A outer s H args us vs Q E c cs cb B im M ds hk hsub hr gu e0 hb rv hl St rs C Pq => LamX.run_ofS lk hcd S hr e0 hb rv (by rw [List.length_append, hl, hps]; rfl) fun hr2 =>
    ⟨_, hbody ⟨T.tabs, cs, some ⟨B.F, H, wr im Dy.noOw, im⟩, T.hot, some c⟩ cdv A outer s H E cb rfl rfl ⟨hr2, gu⟩ (L2N.takes_of rfl rfl rfl rfl) C, _, im, _, _, M, St.enterP (T := ⟨T.tabs, cs, some ⟨B.F, H, wr im Dy.noOw, im⟩, T.hot, some c⟩) rs hl hm rfl rfl hk rfl (fun R e => by
      cases e
      exact ⟨Ext.refl, List.prefix_refl _⟩), end_le (T := ⟨T.tabs, cs, some ⟨B.F, H, wr im Dy.noOw, im⟩, T.hot, some c⟩) rfl rfl hsub St Pq⟩⟩
end
theorem DFnC.mono {P : Program} {w : World} {K : PySem.W.Frag} {mg : Str → Option Value} {base : Heap} {T : Tb} {j k : Nat} {f : Addr} {fd : FuncData} {ps : List Str} {n kc nc : Nat} {F : SF → SF} (D : DFnC P w K mg base T j f fd ps n kc nc F) (h : j ≤ k) : DFnC P w K mg base T k f fd ps n kc nc F :=
  ⟨fun A outer s H args us vs Q E c cs cb B im M ds hk hs hr => D.run A outer s H args us vs Q E c cs cb B im M ds hk hs (hr.mono h)⟩
/-- the name is called, in the def itself -/
theorem de_pin {P : Program} {w : World} {K : PySem.W.Frag} {mg : Str → Option Value} {base : Heap} {T : Tb} {g : Addr} {A : Around} {outer : List Env} {s : Shared} {H : Hp} {E : XK} {kc n : Nat} {cb : SF} {N : List Str} {q : Str} {sc : Scope} {cdv : Value} {W : WX} {i : Nat} {a : Str} {es : List Expr} {fp : SE (List Dm)} {p1 p2 : Pos}
    (C : CbOk P w K mg base T g A outer s H E kc n cb) (hN : N[i]? = some a) (hv : Vis sc a) (site : Site (cxD P w K mg base N q sc g cdv A outer s H E) (kc + 1)) (tk : L2N.Takes (cxD P w K mg base N q sc g cdv A outer s H E) W) (hA : PlainA (cxD P w K mg base N q sc g cdv A outer s H E) T W es fp)
    (hd : (a == ("__debug__" : Str)) = false := by decide) (hcd : (a == ("__classdict__" : Str)) = false := by decide) : DE (cxD P w K mg base N q sc g cdv A outer s H E) T W (.Call (.Name a p1) es [] p2) (sPin i n fp cb) :=
  C.de N q sc cdv W (cxD P w K mg base N q sc g cdv A outer s H E).pn (cxD P w K mg base N q sc g cdv A outer s H E).xe i a es fp p1 p2 hN hv hd hcd tk site.room site.gu hA
/-! ### calls of such defs -/
def sHof (fp : SE (List Dm)) (n : Nat) (cb : Sl → SF) (F : SF → SF) : SE Dm := fun r M => (fp r M).bind fun ds M1 => if ds.length = n then F (cb r) ds M1 else .bad
/-- values bind as they stand -/
def BindsP (K : PySem.W.Frag) (fd : FuncData) (ps : List Str) : Prop := ∀ (s : Shared) (us : List Value), K.In s.heap → us.length = ps.length → BindsTo s fd ⟨us, []⟩ (ps.zip us)
theorem binds_p {K : PySem.W.Frag} {x qual : Str} {params : Arguments} {body : List Stmt} {scope : Scope} {kws : List (Str × V)} {f : Addr} {fd : FuncData} {ps : List Str} (F : FunD K x qual params body scope [] kws f fd)
    (h : ∀ (kV doc pm : Value) (an : Option Addr) (cdv ct : Value) (us : List Value), us.length = ps.length → bindArgs (PySem.W.fnOf x qual params body scope .none kV doc pm an cdv ct) ⟨us, []⟩ = pure (ps.zip us)) : BindsP K fd ps := fun s us KI hl => FunD.bindsA F h s us hl
/-- arguments that end in a module's def -/
def tAG (g : Gm) (W : WX) (fp : SE (List Dm)) (v : V) : TA := fun σ H Q => tA g W fp σ H fun vs H1 => Q (vs ++ [v]) H1
section
variable {X : Cx} {T : Tb} {W : WX} {e : Expr} {es : List Expr} {f : SE Dm} {h : SE (List Dm)} {v : V}
theorem dag_one (hl : PE X e (tC v)) (hs : starEach [e] X.env = (false, eval e X.env) :: starEach [] X.env := by rfl) : PA X [e] (tAG (gm X T) W sNil v) := pa_le (pa_cons hl pa_nil hs) fun σ H Q w => tG_empty w
theorem dag_cons (h1 : DE X T W e f) (h2 : PA X es (tAG (gm X T) W h v)) (hs : starEach (e :: es) X.env = (false, eval e X.env) :: starEach es X.env := by rfl) : PA X (e :: es) (tAG (gm X T) W (sCons f h) v) := pa_le (pa_cons h1 h2 hs) fun σ H Q ⟨B, im, ow, r, M, S, P⟩ =>
  ⟨B, im, ow, r, M, S, Post.bind P fun x M1 v im1 H1 _ S1 E1 p1 r1 P1 => ⟨B, im1, ow, r, M1, S1, P1.bind fun ds M2 vs im2 H2 _ S2 E2 p2 r2 P2 => P2.here S2 (.cons (r1.mono E2.ns p2) r2)⟩⟩
end
section
variable {X : Cx} {T : Tb} {W : WX} {e : Expr} {es : List Expr} {fp : SE (List Dm)} {x : Str} {g : Addr} {fd : FuncData} {psg ps : List Str} {js : List Nat} {k n kc : Nat} {F : SF → SF} {params : Arguments} {body : Expr} {scope : Scope} {p pos : Pos} {fb : SE Dm}
/-- behind the arguments: the def runs -/
theorem hof_run {nc : Nat} {pins : List (Addr × Obj)} {σ : St} {H1 : Hp} {s1 : Shared} {Q : VK} {B : Bs} {im1 : List Addr} {ow : Ow} {r : Sl} {M1 : Mem} {us : List Value} {vs : List V} {ds : List Dm} {f : Addr} {cs : List (Addr × Str)} {cb : SF} (Fn : DFnC X.prog X.w X.K X.mg X.base T k g fd psg n kc nc F) (hb : BindsP X.K fd psg) (hpg : psg.length = n + 1) (site : Site X k) (tk : L2N.Takes X W)
    (I1 : Inv X pins σ H1 s1) (S1 : StRel (gm X T) B im1 ow r M1 σ H1) (rv : Vals (vs ++ [.ref f]) us) (rd : Reps (gm X T) (ns B.F im1 ow) im1 H1 vs ds) (hl : ds.length = n) (hk : ∀ p ∈ cs, H1 p.1 = some (LamX.CodeO p.1 p.2)) (hsub : ∀ p ∈ T.codes, p ∈ cs)
    (C : CbOk X.prog X.w X.K X.mg X.base ⟨T.tabs, cs, some ⟨(inB B im1 ow H1).F, H1, wr im1 noOw, im1⟩, T.hot, some f⟩ g X.A X.stack s1 H1 (WE W σ) kc nc cb) (P1 : Post rlV (gm X T) B W im1 ow r σ H1 (F cb ds M1) Q) : wpAny (model X.prog X.w) X.A (call (.ref g) us) (EP X pins σ Q) X.xe s1 := by
  have lv : vs.length = n := rd.length.trans hl
  have lu : us.length = psg.length := by rw [← rv.length, List.length_append, lv, hpg]; rfl
  refine wpAny_call (codeAny_mono (Fn.run X.A X.stack s1 H1 ⟨us, []⟩ us vs Q (WE W σ) f cs cb (inB B im1 ow H1) im1 M1 ds hk hsub site.room site.gu I1.env0 (hb s1 us I1.kIn lu) rv lv S1.into rd.into C (Post.intoC S1 P1)) fun rr s' hq => ?_)
  cases rr with
  | error er => exact L2N.passAt tk σ pins H1 s1 er s' I1 hq
  | ok fl =>
    cases fl with
    | ret u => exact I1.after hq
    | next => exact False.elim hq
    | brk => exact False.elim hq
    | cont => exact False.elim hq
/-- x(.., lambda ..: body) -/
theorem de_hofL (A : ArgL X T W params body scope (e :: es) fp) (Fn : DFnC X.prog X.w X.K X.mg X.base T k g fd psg n kc ps.length F) (hb : BindsP X.K fd psg) (hpg : psg.length = n + 1) (site : Site X k) (tk : L2N.Takes X W)
    (hg : Gl X x) (hmx : X.mg x = some (.ref g)) (hk : PySem.W.keepIn X.K (.ref g) = true) (L : LamP X.env.scope scope ps) (pr : ParOk X.N ps js)
    (hbind : ∀ (q : Str) (cl : List (Str × Addr)) (pm cv ctv : Value) (us : List Value), us.length = ps.length → bindArgs (PySem.W.kla_fn "<lambda>" q params body scope cl pm cv ctv) ⟨us, []⟩ = pure (ps.zip us))
    (hbody : ∀ (T' : Tb) (A : Around) (outer : List Env) (s : Shared) (H : Hp) (E : XK) (f c' : Addr), T'.hot = T.hot → T'.tabs = T.tabs → Site (lamCxN X A outer s H E scope f c') kc → L2N.Takes (lamCxN X A outer s H E scope f c') (wE E) → DE (lamCxN X A outer s H E scope f c') T' (wE E) body fb)
    (he : starEach (e :: es) X.env = (false, eval e X.env) :: starEach es X.env := by rfl) (hpl : (backTo pos (starEach es X.env)).any (·.1) = false := by rfl) (hdb : (x == ("__debug__" : Str)) = false := by decide) :
    DE X T W (.Call (.Name x p) (e :: es) [] pos) (sHof fp n (fun r => lamF r js fb) F) :=
  ⟨fun pins s σ H Q I ⟨B, im, ow, r, M, S, Pq⟩ => by
    have Pq' : Post rlV (gm X T) B W im ow r σ H ((fp r M).bind fun ds M1 => if ds.length = n then F (lamF r js fb) ds M1 else .bad) Q := Pq
    refine wpAny_Call_Name_kw (ld_glob I hg hmx (PySem.W.callWith_K (h₀ := X.base) I.ok.mod.kin hk (A.run pos pins s σ H _ I ⟨B, im, ow, r, M, S, Pq'.bind (rl := rlVs) fun ds M1 vs im1 H1 _ S1 E1 p1 rd P1 => ⟨S1.tab.1, fun f c' H2 s2 us I2 eN tN la rv => ⟨I2.kIn, ?_⟩⟩⟩) he hpl) hdb)
    split at P1
    · rename_i hl
      have x1 : Ext (wr im1 ow) H1 (wr im1 ow) H2 := fun a o ea ta na => ⟨eN a o ea ta, na⟩
      have S2 : StRel (gm X T) B im1 ow r M1 σ H2 := S1.grow x1 (fun b o hb eb => by
        rcases hb with hb | ⟨i, hb⟩
        · obtain ⟨_, _, _, _, ok⟩ := S1.in_im hb
          obtain ⟨u, eu, tu⟩ := ok.there
          rw [eb] at eu
          cases eu
          exact eN b _ eb tu
        · obtain ⟨u, eu, tu⟩ := S1.tr i b hb
          rw [eb] at eu
          cases eu
          exact eN b _ eb tu) ⟨tN, fun q hq => eN _ _ (S1.tab.2 q hq) LamX.codeO_ne⟩
      exact hof_run Fn hb hpg site tk I2 S2 rv (rd.mono x1.ns (List.prefix_refl _)) hl (fun q hq => by
        rcases List.mem_cons.mp hq with z | z
        · rw [z]
          exact la.co
        · exact S2.tab.2 q z) (fun q hq => List.mem_cons_of_mem _ hq) (cb_lam (g := g) (E := WE W σ) (kc := kc) I2 S2 la L pr hbind hbody) (Post.rebase P1 x1 (List.prefix_refl _))
    · exact P1.elim⟩
/-- x(.., y), y a module's def -/
theorem de_hofG {fy : Addr} {fdy : FuncData} {psy : List Str} {nc : Nat} {h : SF} (A : PA X (e :: es) (tAG (gm X T) W fp (.ref fy))) (Fn : DFnC X.prog X.w X.K X.mg X.base T k g fd psg n kc nc F) (hb : BindsP X.K fd psg) (hpg : psg.length = n + 1) (site : Site X k) (tk : L2N.Takes X W)
    (hg : Gl X x) (hmx : X.mg x = some (.ref g)) (hk : PySem.W.keepIn X.K (.ref g) = true) (hky : PySem.W.keepIn X.K (.ref fy) = true) (Fy : ∀ T', T'.hot = T.hot → T'.tabs = T.tabs → DFn X.prog X.w X.K X.mg X.base kc fy fdy psy (spD (gm X T') nc h)) (by' : DBind X.K fdy psy nc [] (fun ds _ => ds)) (hpy : psy.length = nc)
    (he : starEach (e :: es) X.env = (false, eval e X.env) :: starEach es X.env := by rfl) (hpl : (backTo pos (starEach es X.env)).any (·.1) = false := by rfl) (hdb : (x == ("__debug__" : Str)) = false := by decide) :
    DE X T W (.Call (.Name x p) (e :: es) [] pos) (sHof fp n (fun _ => h) F) :=
  ⟨fun pins s σ H Q I ⟨B, im, ow, r, M, S, Pq⟩ => by
    have Pq' : Post rlV (gm X T) B W im ow r σ H ((fp r M).bind fun ds M1 => if ds.length = n then F h ds M1 else .bad) Q := Pq
    refine wpAny_Call_Name_kw (ld_glob I hg hmx (PySem.W.callWith_K (h₀ := X.base) I.ok.mod.kin hk (thn (A.run pos pins s σ H (fun ws H1 => ∃ vs im1 M1 ds, ws = vs ++ [.ref fy] ∧ StRel (gm X T) B im1 ow r M1 σ H1 ∧ Reps (gm X T) (ns B.F im1 ow) im1 H1 vs ds ∧ ds.length = n ∧ Post rlV (gm X T) B W im1 ow r σ H1 (F h ds M1) Q) I
      ⟨B, im, ow, r, M, S, Pq'.bind (rl := rlVs) fun ds M1 vs im1 H1 _ S1 E1 p1 rd P1 => ?_⟩) fun us s1 ⟨ws, H1, I1, rv, vs, im1, M1, ds, ew, S1, rd, hl, P1⟩ => ⟨I1.kIn, ?_⟩) he hpl) hdb)
    · split at P1
      · rename_i hl
        exact ⟨vs, im1, M1, ds, rfl, S1, rd, hl, P1⟩
      · exact P1.elim
    · subst ew
      exact hof_run (cs := T.codes) Fn hb hpg site tk I1 S1 rv rd hl S1.tab.2 (fun _ h => h) (cb_glo rfl hky (Fy _ rfl rfl) by' hpy) P1⟩
end
end Dy

/-! Dy34: own len, str, repr, truth, and {x} in an f-string. -/
namespace Dy
open PySem
open PySem.Spec
open PyProof.Rows hiding St
open L2

/-- d's own method, of the class C, with d alone; what is made of its answer -/
def oOwn {α : Type} (C : Str) (h : SF) (g : Dm → Mem → R α) : Dm → Mem → R α := fun d M => match insOf d M with
  | some (C', _) => if C' = C then (h [d] M).bind g else .bad
  | none => .bad
/-- what a method of one parameter is, of the class called C -/
structure Own1 (X : Cx) (T : Tb) (k : Nat) (C m : Str) (h : SF) : Prop where
  ex : ∃ (Ca f : Addr) (fd : FuncData) (ps : List Str), X.mg C = some (.ref Ca) ∧ Meth X.K Ca m f ∧ DFn X.prog X.w X.K X.mg X.base k f fd ps (spD (gm X T) 1 h) ∧ DBind X.K fd ps 1 [] (fun ds _ => ds) ∧ ps.length = 1
theorem own1 {X : Cx} {T : Tb} {k : Nat} {C m : Str} {h : SF} {Ca f : Addr} {fd : FuncData} {ps : List Str} (F : DFn X.prog X.w X.K X.mg X.base k f fd ps (spD (gm X T) 1 h)) (b : DBind X.K fd ps 1 [] (fun ds _ => ds)) (hm : Meth X.K Ca m f) (hC : X.mg C = some (.ref Ca)) (hl : ps.length = 1) : Own1 X T k C m h :=
  ⟨⟨Ca, f, fd, ps, hC, hm, F, b, hl⟩⟩
theorem inst_at {X : Cx} {pins : List (Addr × Obj)} {σ : St} {H : Hp} {s : Shared} {a C dx : Addr} {fs : List (Str × V)} (I : Inv X pins σ H s) (e : H a = some (.ins C dx fs)) : ∃ ox od, PySem.W.InstAt s.heap a ox C od := by
  obtain ⟨mA, O, _⟩ := ins_get I.hok e
  obtain ⟨od, J, _⟩ := O.look
  exact ⟨_, _, J⟩
section
variable {X : Cx} {T : Tb} {W : WX} {k : Nat} {C m : Str} {h : SF} {α : Type} {β : Type} {rl : Rl β α} {g : Dm → Mem → R α}
theorem own_run (O : Own1 X T k C m h) (tk : L2N.Takes X W) {pins : List (Addr × Obj)} {s : Shared} {B : Bs} {im : List Addr} {ow : Ow} {r : Sl} {M : Mem} {σ : St} {H : Hp} {v : V} {d : Dm} {Q : β → Hp → Prop} (I : Inv X pins σ H s) (S : StRel (gm X T) B im ow r M σ H) (q : Rep (gm X T) (ns B.F im ow) im H v d)
    (P : Post rl (gm X T) B W im ow r σ H (oOwn C h g d M) Q) : ∃ (a Ca f : Addr) (ox : Obj) (od : Option Obj), v = .ref a ∧ PySem.W.InstAt s.heap a ox Ca od ∧ Meth X.K Ca m f ∧ X.mg C = some (.ref Ca) ∧
      ∀ (A' : Around) (s' : Shared), Room k A' → A'.guards = some [] → Env0 X.prog X.w X.K X.mg X.base A' X.stack s' H → Inv X pins σ H s' →
        wpAny (model X.prog X.w) A' (call (.ref f) [.ref a]) (fun u s1 => ∃ z H1 im1 M1 y, Inv X pins σ H1 s1 ∧ RelV z u ∧ StRel (gm X T) B im1 ow r M1 σ H1 ∧ Rep (gm X T) (ns B.F im1 ow) im1 H1 z y ∧ Post rl (gm X T) B W im1 ow r σ H1 (g y M1) Q) X.xe s' := by
  obtain ⟨Ca, f, fd, ps, hC, hm, F, b, hl⟩ := O.ex
  unfold oOwn at P
  cases hi : insOf d M with
  | none =>
    rw [hi] at P
    exact P.elim
  | some c =>
    obtain ⟨C1, fs⟩ := c
    rw [hi] at P
    dsimp only at P
    split at P
    · rename_i e
      subst e
      obtain ⟨a, Cb, dx, xs, rfl, e2, e3, _⟩ := ins_of S q hi
      have eC : Cb = Ca := by
        have y : X.mg C1 = some (.ref Cb) := e2
        rw [hC] at y
        cases y
        rfl
      subst eC
      obtain ⟨ox, od, J⟩ := inst_at I e3
      refine ⟨a, Cb, f, ox, od, rfl, J, hm, hC, fun A' s' hr gu e0 I' => ?_⟩
      refine wpAny_mono (call_own (Q := fun z H1 => ∃ im1 M1 y, StRel (gm X T) B im1 ow r M1 σ H1 ∧ Rep (gm X T) (ns B.F im1 ow) im1 H1 z y ∧ Post rl (gm X T) B W im1 ow r σ H1 (g y M1) Q) F b hl tk hr gu e0 I' S (vs := [.ref a]) (us := [.ref a]) (.cons rfl .nil) (.cons q .nil) rfl
        (P.bind (rl := rlV) fun y M1 z im1 H1 _ S1 E1 p1 r1 P1 => ⟨im1, M1, y, S1, r1, P1⟩)) (fun u s1 hu => ?_) fun _ _ z => z
      obtain ⟨z, H1, I1, rz, im1, M1, y, S1, r1, P1⟩ := hu
      exact ⟨z, H1, im1, M1, y, I1, rz, S1, r1, P1⟩
    · exact P.elim
/-- what len and truth make of an int, str and repr of a text -/
def gLen : Dm → Mem → R Dm
  | .int i, M => if 0 ≤ i ∧ i < 2 ^ 63 then .ok (.int i) M else .bad
  | _, _ => .bad
def gTxt : Dm → Mem → R Dm
  | .str x, M => .ok (.str x) M
  | _, _ => .bad
def gTru : Dm → Mem → R Bool
  | .int i, M => if 0 ≤ i ∧ i < 2 ^ 63 then .ok (i != 0) M else .bad
  | _, _ => .bad
theorem gLen_int {i : Int} {M : Mem} : gLen (.int i) M = if 0 ≤ i ∧ i < 2 ^ 63 then .ok (.int i) M else .bad := rfl
theorem gTru_int {i : Int} {M : Mem} : gTru (.int i) M = if 0 ≤ i ∧ i < 2 ^ 63 then .ok (i != 0) M else .bad := rfl
/-- of one thing -/
def oOne (o : Dm → Mem → R Dm) : List Dm → Mem → R Dm
  | [d], M => o d M
  | _, _ => .bad
/-- a call, told by the data -/
def CallD (X : Cx) (T : Tb) (W : WX) (c : Value) (o : List Dm → Mem → R Dm) : Prop :=
  ∀ (pins : List (Addr × Obj)) (s : Shared) (B : Bs) (im : List Addr) (ow : Ow) (r : Sl) (M : Mem) (σ : St) (H : Hp) (xs : List Dm) (vs : List V) (us : List Value) (Q : VK), Inv X pins σ H s → Vals vs us → StRel (gm X T) B im ow r M σ H → Reps (gm X T) (ns B.F im ow) im H vs xs →
    Post rlV (gm X T) B W im ow r σ H (o xs M) Q → wpAny (model X.prog X.w) X.A (call c us) (EP X pins σ Q) X.xe s
theorem CallD.one {c : Value} {o : Dm → Mem → R Dm} (hc : ∀ (pins : List (Addr × Obj)) (s : Shared) (B : Bs) (im : List Addr) (ow : Ow) (r : Sl) (M : Mem) (σ : St) (H : Hp) (x : Dm) (v : V) (u : Value) (Q : VK), Inv X pins σ H s → RelV v u → StRel (gm X T) B im ow r M σ H → Rep (gm X T) (ns B.F im ow) im H v x →
    Post rlV (gm X T) B W im ow r σ H (o x M) Q → wpAny (model X.prog X.w) X.A (call c [u]) (EP X pins σ Q) X.xe s) : CallD X T W c (oOne o) := by
  intro pins s B im ow r M σ H xs vs us Q I rv S q P
  match xs, vs, us, rv, q with
  | [d], [v], [u], .cons rv .nil, .cons q .nil => exact hc pins s B im ow r M σ H d v u Q I rv S q P
  | [], _, _, _, _ => exact P.elim
  | _ :: _ :: _, _, _, _, _ => exact P.elim
theorem cd_len (O : Own1 X T k C "__len__" h) (tk : L2N.Takes X W) (st : Site X (k + 2)) : CallD X T W (.builtin "len") (oOne (oOwn C h gLen)) := CallD.one (by
  intro pins s B im ow r M σ H x v u Q I rv S q P
  obtain ⟨a, Ca, f, ox, od, rfl, J, hm, _, run⟩ := own_run O tk I S q P
  obtain rfl : u = Value.ref a := rv
  obtain ⟨mf, hF⟩ := I.fr
  refine PySem.W.len_K hF I.ok.mod.kin J hm.at_ hm.fn (wpAny_mono (run _ s (st.mono (by omega : k + 1 ≤ k + 2)).room.in1 st.gu I.env0.in1 I) (fun w s1 hw => ?_) fun _ _ z => z)
  obtain ⟨z, H1, im1, M1, y, I1, rz, S1, r1, P1⟩ := hw
  cases r1 with
  | int i =>
    obtain ⟨t, rfl⟩ := (show ∃ t, w = Value.int i t from rz)
    rw [gLen_int] at P1
    split at P1
    · rename_i hb
      exact ⟨hb, V.int i, H1, I1.tok _, ⟨_, rfl⟩, P1.here S1 (Rep.int i)⟩
    · exact P1.elim
  | _ => exact P1.elim)
theorem cd_repr (O : Own1 X T k C "__repr__" h) (tk : L2N.Takes X W) (st : Site X (k + 2)) : CallD X T W (.builtin "repr") (oOne (oOwn C h gTxt)) := CallD.one (by
  intro pins s B im ow r M σ H x v u Q I rv S q P
  obtain ⟨a, Ca, f, ox, od, rfl, J, hm, _, run⟩ := own_run O tk I S q P
  obtain rfl : u = Value.ref a := rv
  obtain ⟨mf, hF⟩ := I.fr
  have hr := (st.mono (by omega : k + 1 ≤ k + 2)).room.in1
  refine PySem.W.repr_K hr.units0 hF I.ok.mod.kin J hm.at_ hm.fn (wpAny_mono (run _ s hr st.gu I.env0.in1 I) (fun w s1 hw => ?_) fun _ _ z => z)
  obtain ⟨z, H1, im1, M1, y, I1, rz, S1, r1, P1⟩ := hw
  cases r1 with
  | str x =>
    obtain ⟨t, rfl⟩ := (show ∃ t, w = Value.str x t from rz)
    exact ⟨V.str x, H1, I1, ⟨_, rfl⟩, P1.here S1 (Rep.str x)⟩
  | _ => exact P1.elim)
theorem cd_str (O : Own1 X T k C "__str__" h) (tk : L2N.Takes X W) (st : Site X (k + 2)) : CallD X T W (.type "str") (oOne (oOwn C h gTxt)) := CallD.one (by
  intro pins s B im ow r M σ H x v u Q I rv S q P
  obtain ⟨a, Ca, f, ox, od, rfl, J, hm, _, run⟩ := own_run O tk I S q P
  obtain rfl : u = Value.ref a := rv
  have hr : Room k X.A.in1.in1 := (Room.in1 (k := k + 1) st.room).in1
  refine PySem.W.kso_call hr.units0 I.kIn J hm.at_ hm.fn (wpAny_mono (run _ s hr st.gu I.env0.in1.in1 I) (fun w s1 hw => ?_) fun _ _ z => z)
  obtain ⟨z, H1, im1, M1, y, I1, rz, S1, r1, P1⟩ := hw
  cases r1 with
  | str x =>
    obtain ⟨t, rfl⟩ := (show ∃ t, w = Value.str x t from rz)
    exact ⟨V.str x, H1, I1, ⟨_, rfl⟩, P1.here S1 (Rep.str x)⟩
  | _ => exact P1.elim)
end
section
variable {X : Cx} {T : Tb} {W : WX} {e : Expr} {es : List Expr} {h : SE (List Dm)} {o : List Dm → Mem → R Dm} {pos p : Pos} {x : Str} {id : String} {c : Value}
theorem cd_run (hc : CallD X T W c o) (ha : DA X T W (e :: es) h) {pins : List (Addr × Obj)} {s : Shared} {σ : St} {H : Hp} {Q : VK} (I : Inv X pins σ H s) (t : tD (gm X T) W (sCall o h) σ H Q) :
    wpAny (model X.prog X.w) X.A (spliced (backTo pos (starEach (e :: es) X.env))) (fun us s1 => wpAny (model X.prog X.w) X.A (call c us) (EP X pins σ Q) X.xe s1) X.xe s := by
  obtain ⟨B, im, ow, r, M, S, P⟩ := t
  refine thn (ha.run pos pins s σ H (fun vs H1 => ∃ im1 M1 ds, StRel (gm X T) B im1 ow r M1 σ H1 ∧ Reps (gm X T) (ns B.F im1 ow) im1 H1 vs ds ∧ Post rlV (gm X T) B W im1 ow r σ H1 (o ds M1) Q) I
    ⟨B, im, ow, r, M, S, Post.bind (k := o) (rl' := rlV) P fun ds M1 vs im1 H1 _ S1 E1 p1 r1 P1 => ⟨im1, M1, ds, S1, r1, P1⟩⟩) fun us s1 hu => ?_
  obtain ⟨vs, H1, I1, rv, im1, M1, ds, S1, r1, P1⟩ := hu
  exact hc pins s1 B im1 ow r M1 σ H1 ds vs us Q I1 rv S1 r1 P1
theorem de_cdB (hc : CallD X T W (.builtin id) o) (hg : Gl X x) (hm : X.mg x = none) (hv : bootBuiltins x = some (.builtin id)) (ha : DA X T W (e :: es) h) (hn : x ≠ "__name__" := by decide) (hd : (x == ("__debug__" : Str)) = false := by decide)
    (he : starEach (e :: es) X.env = (false, eval e X.env) :: starEach es X.env := by rfl) (hpl : (backTo pos (starEach es X.env)).any (·.1) = false := by rfl) : DE X T W (.Call (.Name x p) (e :: es) [] pos) (sCall o h) :=
  ⟨fun pins s σ H Q I t => wpAny_Call_Name_kw (ld_blt I hg hm hv (PyProof.Rows.callWith_builtin1 (cd_run hc ha I t) he hpl) hn hd)⟩
theorem de_cdT (hc : CallD X T W (.type id) o) (hg : Gl X x) (hm : X.mg x = none) (hv : bootBuiltins x = some (.type id)) (ha : DA X T W (e :: es) h) (hn : x ≠ "__name__" := by decide) (hd : (x == ("__debug__" : Str)) = false := by decide)
    (he : starEach (e :: es) X.env = (false, eval e X.env) :: starEach es X.env := by rfl) (hpl : (backTo pos (starEach es X.env)).any (·.1) = false := by rfl) : DE X T W (.Call (.Name x p) (e :: es) [] pos) (sCall o h) :=
  ⟨fun pins s σ H Q I t => wpAny_Call_Name_kw (ld_blt I hg hm hv (PyProof.Rows.callWith_type1 (cd_run hc ha I t) he hpl) hn hd)⟩
end
end Dy

/-! Dy35: own truth (by __len__), {x}, own == and !=. -/
namespace Dy
open PySem
open PySem.Spec
open PyProof.Rows hiding St
open L2

section
variable {P : Program} {w : World} {A : Around} {E : Value → Shared → Prop} {s : Shared} {K : PySem.W.Frag} {a C f : Addr} {ox : Obj} {od : Option Obj}
/-- its truth, where there is no __bool__ and __len__ is at f -/
theorem tru_ins {Q : Bool → Shared → Prop} (X : K.In s.heap) (J : PySem.W.InstAt s.heap a ox C od) (nb : PySem.W.findIn K (.ref C) "__bool__" = some none) (hm : Meth K C "__len__" f)
    (h : wpAny (model P w) A.in1 (call (.ref f) [.ref a]) (fun v s1 => ∃ i t, v = .int i t ∧ (0 ≤ i ∧ i < 2 ^ 63) ∧ Q (i != 0) { s1 with toks := s1.toks + 1 }) E s) : wpAny (model P w) A (truthy (.ref a)) Q E s := by
  have sp : ∀ {R : Option Value → Shared → Prop}, R (some (.ref f)) s → wpAny (model P w) A (specialOf (.ref a) "__len__") R E s := fun z => by
    unfold specialOf
    exact wpAny_bind (J.type.here ((PySem.W.looks_findIn X hm.at_).here z))
  have ln : wpAny (model P w) A (runValue (.builtin "len" ⟨[.ref a], []⟩)) (fun v s1 => ∃ i t, v = .int i t ∧ Q (i != 0) s1) E s := by
    refine wpAny_runValue (codeAny_builtin entry_len ?_)
    rw [Around.under_plainId plain_len _]
    unfold Builtin.«len»
    refine wpAny_bind (m := oneArg "len" _) (wpAny_pure (wpAny_bind (m := callSpecial? (.ref a) (Str.ofString "__len__")) (PySem.W.special_fn X J hm.at_ (beq_iff_eq.mp hm.fn) (wpAny_mono h (fun v s1 hv => ?_) fun _ _ z => z))))
    obtain ⟨i, t, rfl, ⟨h0, h1⟩, q⟩ := hv
    refine wpAny_bind (wpAny_holding (wpAny_pure (wpAny_bind (wpAny_letGo ?_))))
    show wpAny _ _ (if i < 0 then _ else _) _ _ _
    rw [if_neg (Int.not_lt.mpr h0)]
    show wpAny _ _ (if i ≥ 2 ^ 63 then _ else _) _ _ _
    rw [if_neg (Int.not_le.mpr h1)]
    exact wpAny_bind (wpAny_mkInt (wpAny_pure ⟨i, _, rfl, q⟩))
  unfold truthy
  refine wpAny_bind (DSub.special_no (name := Str.ofString "__bool__") X J nb ?_)
  refine wpAny_bind (sp ?_)
  refine wpAny_bind (wpAny_mono ln (fun v s1 hv => ?_) fun _ _ z => z)
  obtain ⟨i, t, rfl, q⟩ := hv
  exact wpAny_pure q
/-- x.__ne__(b) of an instance whose class has __eq__ at f and no __ne__ of its own -/
theorem try_ne {b : Value} {Q : Option Value → Shared → Prop} (hu : A.in1.units < cLine) (X : K.In s.heap) (J : PySem.W.InstAt s.heap a ox C od) (hm : Meth K C "__eq__" f) (hn : PySem.W.findIn K (.ref C) "__ne__" = some (some (.builtin "object.__ne__"))) (ho : PySem.W.mroIn K C (.type "object") = some true)
    (h : wpAny (model P w) A.in1 (call (.ref f) [.ref a, b]) (fun v s1 => ∃ k, v = .bool k ∧ Q (some (.bool (!k))) s1) E s) : wpAny (model P w) A (tryCompare (.ref a) "__ne__" b) Q E s := by
  have body : wpAny (model P w) A.in1 (Builtin.«object.__ne__» ⟨[.ref a, b], []⟩) (fun fin s1 => ∃ k, fin = .done (.ret (.bool k)) ∧ Q (some (.bool k)) s1) E s := by
    unfold Builtin.«object.__ne__»
    refine wpAny_bind (m := slotArgs "__ne__" 1 _) (wpAny_pure (wpAny_bind (m := cRoomFor _ _) (wpAny_cRoomFor hu ?_)))
    refine wpAny_bind (m := callSpecialIfBound? (.ref a) (Str.ofString "__eq__") [b]) (PySem.W.ifBound_K X J hm.at_ hm.fn (wpAny_mono h (fun v s1 hv => ?_) fun _ _ z => z))
    obtain ⟨k, rfl, q⟩ := hv
    exact wpAny_bind (wpAny_bind (m := truthy (.bool k)) (wpAny_truthy_bool (wpAny_pure (wpAny_pure ⟨_, rfl, q⟩))))
  have run : wpAny (model P w) A (call (.builtin "object.__ne__") [.ref a, b]) (fun v s1 => ∃ k, v = .bool k ∧ Q (some (.bool k)) s1) E s :=
    wpAny_call (codeAny_call_builtin PySem.F.cmp_object.ne.plain PySem.F.cmpEntry_ne (PySem.W.check_slot (i := "object.__ne__") PySem.F.cmpKind_ne PySem.F.cmpSplit_ne (J.type.andThen (PySem.W.looks_mroIn X ho)) (PySem.F.cmpArgs_ne _ _)
      (wpAny_mono body (fun fin s1 hv => by obtain ⟨k, rfl, q⟩ := hv; exact ⟨k, rfl, q⟩) fun _ _ z => z)))
  have fin : wpAny (model P w) A (call (.builtin "object.__ne__") ([.ref a] ++ [b]) >>= fun v => pure (some v)) (fun r s1 => ∃ k, r = some (.bool k) ∧ Q (some (.bool k)) s1) E s :=
    wpAny_bind (wpAny_mono run (fun v s1 hv => by obtain ⟨k, rfl, q⟩ := hv; exact wpAny_pure ⟨k, rfl, q⟩) fun _ _ z => z)
  unfold tryCompare
  refine wpAny_bind (m := callSpecialIfBound? (.ref a) (Str.ofString "__ne__") [b]) (wpAny_mono (Q := fun r s1 => ∃ k, r = some (.bool k) ∧ Q (some (.bool k)) s1) ?_ (fun r s1 hv => by obtain ⟨k, rfl, q⟩ := hv; exact wpAny_pure q) fun _ _ z => z)
  unfold callSpecialIfBound? bindSpecialIfBound? specialOf
  refine wpAny_holding (wpAny_bind (wpAny_bind (wpAny_bind (J.type.here ((PySem.W.looks_findIn X hn).here ?_)))))
  simp only [PySem.F.cmp_object.ne.bind]
  refine wpAny_bind (wpAny_askSetting (wpAny_ite ?_))
  split
  · exact wpAny_bind (wpAny_pure (wpAny_pure fin))
  · exact wpAny_tryCatch (wpAny_bind (wpAny_pure (wpAny_pure fin)))
end
end Dy

/-! Dy36: rules: own truth, own == and != of two instances of one class, f-strings. -/
namespace Dy
open PySem
open PySem.Spec
open PyProof.Rows hiding St
open L2

/-- what the class called C has of object's own -/
structure Obj0 (X : Cx) (C : Str) : Prop where
  ex : ∀ Ca, X.mg C = some (.ref Ca) → PySem.W.findIn X.K (.ref Ca) "__bool__" = some none ∧ PySem.W.findIn X.K (.ref Ca) "__ne__" = some (some (.builtin "object.__ne__")) ∧ PySem.W.findIn X.K (.ref Ca) "__format__" = some (some (.builtin "object.__format__")) ∧ PySem.W.mroIn X.K Ca (.type "object") = some true
/-- as a Bool of the written part -/
def obj0B (K : PySem.W.Frag) (C : Addr) : Bool := (PySem.W.findIn K (.ref C) "__bool__" == some none) && ((PySem.W.findIn K (.ref C) "__ne__" == some (some (.builtin "object.__ne__"))) && ((PySem.W.findIn K (.ref C) "__format__" == some (some (.builtin "object.__format__"))) && (PySem.W.mroIn K C (.type "object") == some true)))
theorem obj0_of {X : Cx} {C : Str} {Ca : Addr} (hC : X.mg C = some (.ref Ca)) (h : obj0B X.K Ca = true) : Obj0 X C := ⟨fun Cb e => by
  rw [hC] at e
  cases e
  unfold obj0B at h
  simp only [Bool.and_eq_true, beq_iff_eq] at h
  exact h⟩
/-- .. without what is said of __bool__ -/
structure ObjE (X : Cx) (C : Str) : Prop where
  ex : ∀ Ca, X.mg C = some (.ref Ca) → PySem.W.findIn X.K (.ref Ca) "__ne__" = some (some (.builtin "object.__ne__")) ∧ PySem.W.findIn X.K (.ref Ca) "__format__" = some (some (.builtin "object.__format__")) ∧ PySem.W.mroIn X.K Ca (.type "object") = some true
def objEB (K : PySem.W.Frag) (C : Addr) : Bool := (PySem.W.findIn K (.ref C) "__ne__" == some (some (.builtin "object.__ne__"))) && ((PySem.W.findIn K (.ref C) "__format__" == some (some (.builtin "object.__format__"))) && (PySem.W.mroIn K C (.type "object") == some true))
theorem objE_of {X : Cx} {C : Str} {Ca : Addr} (hC : X.mg C = some (.ref Ca)) (h : objEB X.K Ca = true) : ObjE X C := ⟨fun Cb e => by
  rw [hC] at e
  cases e
  unfold objEB at h
  simp only [Bool.and_eq_true, beq_iff_eq] at h
  exact h⟩
section
variable {X : Cx} {T : Tb} {W : WX} {k : Nat} {C : Str} {h : SF} {e a b : Expr} {fe fa fb : SE Dm} {pos : Pos}
/-- e's truth, by its __len__ -/
def tOwn (C : Str) (h : SF) (fe : SE Dm) : SE Bool := fun r M => (fe r M).bind (oOwn C h gTru)
theorem dt_own (O : Own1 X T k C "__len__" h) (o : Obj0 X C) (tk : L2N.Takes X W) (st : Site X (k + 1)) (he : DE X T W e fe) (hi : ∀ whole, isTrue e X.env whole = (do let v ← whole; standAt e.pos; holding [v] (truthy v)) := by intro _; rfl) : DT X T W e (tOwn C h fe) := by
  refine ⟨fun pins s σ H Q I ⟨B, im, ow, r, M, S, P⟩ => isTrue_plain (thn (he.run pins s σ H (fun v H1 => ∃ im1 M1 d, StRel (gm X T) B im1 ow r M1 σ H1 ∧ Rep (gm X T) (ns B.F im1 ow) im1 H1 v d ∧ Post rlB (gm X T) B W im1 ow r σ H1 (oOwn C h gTru d M1) Q) I
    ⟨B, im, ow, r, M, S, Post.bind (k := oOwn C h gTru) (rl' := rlB) P fun d M1 v im1 H1 _ S1 E1 p1 r1 P1 => ⟨im1, M1, d, S1, r1, P1⟩⟩) fun u s1 hu => ?_) (hi _)⟩
  obtain ⟨v, H1, I1, rv, im1, M1, d, S1, q, P1⟩ := hu
  obtain ⟨c, Ca, f, ox, od, rfl, J, hm, hC, run⟩ := own_run O tk I1 S1 q P1
  obtain rfl : u = Value.ref c := rv
  refine tru_ins I1.kIn J (o.ex _ hC).1 hm (wpAny_mono (run _ s1 (Room.in1 (k := k) st.room) st.gu I1.env0.in1 I1) (fun w s2 hw => ?_) fun _ _ z => z)
  obtain ⟨z, H2, im2, M2, y, I2, rz, S2, r2, P2⟩ := hw
  cases r2 with
  | int i =>
    obtain ⟨t, rfl⟩ := (show ∃ t, w = Value.int i t from rz)
    rw [gTru_int] at P2
    split at P2
    · rename_i hb
      exact ⟨i, t, rfl, hb, H2, I2.tok _, P2.here S2 rfl⟩
    · exact P2.elim
  | _ => exact P2.elim
/-- a method of two parameters -/
structure Own2 (X : Cx) (T : Tb) (k : Nat) (C m : Str) (h : SF) : Prop where
  ex : ∃ (Ca f : Addr) (fd : FuncData) (ps : List Str), X.mg C = some (.ref Ca) ∧ Meth X.K Ca m f ∧ DFn X.prog X.w X.K X.mg X.base k f fd ps (spD (gm X T) 2 h) ∧ DBind X.K fd ps 2 [] (fun ds _ => ds) ∧ ps.length = 2
theorem own2 {m : Str} {Ca f : Addr} {fd : FuncData} {ps : List Str} (F : DFn X.prog X.w X.K X.mg X.base k f fd ps (spD (gm X T) 2 h)) (b : DBind X.K fd ps 2 [] (fun ds _ => ds)) (hm : Meth X.K Ca m f) (hC : X.mg C = some (.ref Ca)) (hl : ps.length = 2) : Own2 X T k C m h :=
  ⟨⟨Ca, f, fd, ps, hC, hm, F, b, hl⟩⟩
/-- x == y, of two of the class -/
def oEqI (C : Str) (h : SF) (g : Dm → Mem → R Dm) : Dm → Dm → Mem → R Dm := fun x y M => match insOf x M, insOf y M with
  | some (C1, _), some (C2, _) => if C1 = C ∧ C2 = C then (h [x, y] M).bind g else .bad
  | _, _ => .bad
def gAll : Dm → Mem → R Dm := fun d M => .ok d M
def gNot : Dm → Mem → R Dm
  | .bl b, M => .ok (.bl (!b)) M
  | _, _ => .bad
theorem two_run {m : Str} {g : Dm → Mem → R Dm} (O : Own2 X T k C m h) (tk : L2N.Takes X W) {pins : List (Addr × Obj)} {s : Shared} {B : Bs} {im : List Addr} {ow : Ow} {r : Sl} {M : Mem} {σ : St} {H : Hp} {v w : V} {x y : Dm} {Q : VK} (I : Inv X pins σ H s) (S : StRel (gm X T) B im ow r M σ H) (q1 : Rep (gm X T) (ns B.F im ow) im H v x) (q2 : Rep (gm X T) (ns B.F im ow) im H w y)
    (P : Post rlV (gm X T) B W im ow r σ H (oEqI C h g x y M) Q) : ∃ (a b Ca f : Addr) (ox oy : Obj) (od oe : Option Obj), v = .ref a ∧ w = .ref b ∧ PySem.W.InstAt s.heap a ox Ca od ∧ PySem.W.InstAt s.heap b oy Ca oe ∧ Meth X.K Ca m f ∧ X.mg C = some (.ref Ca) ∧
      ∀ (A' : Around), Room k A' → A'.guards = some [] → Env0 X.prog X.w X.K X.mg X.base A' X.stack s H →
        wpAny (model X.prog X.w) A' (call (.ref f) [.ref a, .ref b]) (fun u s1 => ∃ z H1 im1 M1 d, Inv X pins σ H1 s1 ∧ RelV z u ∧ StRel (gm X T) B im1 ow r M1 σ H1 ∧ Rep (gm X T) (ns B.F im1 ow) im1 H1 z d ∧ Post rlV (gm X T) B W im1 ow r σ H1 (g d M1) Q) X.xe s := by
  obtain ⟨Ca, f, fd, ps, hC, hm, F, bd, hl⟩ := O.ex
  unfold oEqI at P
  cases hx : insOf x M with
  | none =>
    rw [hx] at P
    exact P.elim
  | some c1 =>
    cases hy : insOf y M with
    | none =>
      rw [hx, hy] at P
      exact P.elim
    | some c2 =>
      obtain ⟨C1, f1⟩ := c1
      obtain ⟨C2, f2⟩ := c2
      rw [hx, hy] at P
      dsimp only at P
      split at P
      · rename_i e
        obtain ⟨e1, e2⟩ := e
        subst e1
        subst e2
        obtain ⟨a, Cb, dx, xs, rfl, k2, k3, _⟩ := ins_of S q1 hx
        obtain ⟨b, Cc, dy, ys, rfl, j2, j3, _⟩ := ins_of S q2 hy
        have eb : Cb = Ca := by
          have z : X.mg C2 = some (.ref Cb) := k2
          rw [hC] at z
          cases z
          rfl
        have ec : Cc = Ca := by
          have z : X.mg C2 = some (.ref Cc) := j2
          rw [hC] at z
          cases z
          rfl
        subst eb
        subst ec
        obtain ⟨ox, od, J⟩ := inst_at I k3
        obtain ⟨oy, oe, J'⟩ := inst_at I j3
        refine ⟨a, b, Cc, f, ox, oy, od, oe, rfl, rfl, J, J', hm, hC, fun A' hr gu e0 => ?_⟩
        refine wpAny_mono (call_own (Q := fun z H1 => ∃ im1 M1 d, StRel (gm X T) B im1 ow r M1 σ H1 ∧ Rep (gm X T) (ns B.F im1 ow) im1 H1 z d ∧ Post rlV (gm X T) B W im1 ow r σ H1 (g d M1) Q) F bd hl tk hr gu e0 I S (vs := [.ref a, .ref b]) (us := [.ref a, .ref b]) (.cons rfl (.cons rfl .nil)) (.cons q1 (.cons q2 .nil)) rfl
          (P.bind (rl := rlV) fun d M1 z im1 H1 _ S1 E1 p1 r1 P1 => ⟨im1, M1, d, S1, r1, P1⟩)) (fun u s1 hu => ?_) fun _ _ z => z
        obtain ⟨z, H1, I1, rz, im1, M1, d, S1, r1, P1⟩ := hu
        exact ⟨z, H1, im1, M1, d, I1, rz, S1, r1, P1⟩
      · exact P.elim
theorem notFirst_self {K : PySem.W.Frag} {C : Addr} : PySem.W.notFirst K C (.ref C) = true := by
  unfold PySem.W.notFirst
  rw [show ((Value.ref C == Value.ref C) = true) from by simp]
  rfl
theorem op_eqI (O : Own2 X T k C "__eq__" h) (tk : L2N.Takes X W) (st : Site X k) : OpD X T W (compareOp .Eq) (oEqI C h gAll) := by
  intro pins s B im ow r M σ H x y v w u1 u2 Q I rv rw' S q1 q2 P
  obtain ⟨a, b, Ca, f, ox, oy, od, oe, rfl, rfl, J, J', hm, hC, run⟩ := two_run O tk I S q1 q2 P
  obtain rfl : u1 = Value.ref a := rv
  obtain rfl : u2 = Value.ref b := rw'
  obtain ⟨mf, hF⟩ := I.fr
  refine PySem.W.cmp_K (op := .Eq) st.room.units0 hF I.ok.mod.kin J J'.type notFirst_self hm.at_ hm.fn (wpAny_mono (run _ st.room st.gu I.env0) (fun u s1 hu => ?_) fun _ _ z => z)
  obtain ⟨z, H1, im1, M1, d, I1, rz, S1, r1, P1⟩ := hu
  exact SlX.cmpback rz ⟨z, H1, I1, rz, P1.here S1 r1⟩
theorem op_neI (O : Own2 X T k C "__eq__" h) (o : ObjE X C) (tk : L2N.Takes X W) (st : Site X (k + 2)) : OpD X T W (compareOp .NotEq) (oEqI C h gNot) := by
  intro pins s B im ow r M σ H x y v w u1 u2 Q I rv rw' S q1 q2 P
  obtain ⟨a, b, Ca, f, ox, oy, od, oe, rfl, rfl, J, J', hm, hC, run⟩ := two_run O tk I S q1 q2 P
  obtain rfl : u1 = Value.ref a := rv
  obtain rfl : u2 = Value.ref b := rw'
  obtain ⟨hn, _, ho⟩ := o.ex _ hC
  have hr := (st.mono (by omega : k + 1 ≤ k + 2)).room.in1
  have one := try_ne (b := .ref b) (Q := fun t s1 => ∃ j, t = some (Value.bool j) ∧ EP X pins σ Q (.bool j) s1) hr.units0 I.kIn J hm hn ho (wpAny_mono (run _ hr st.gu I.env0.in1) (fun u s1 hu => by
    obtain ⟨z, H1, im1, M1, d, I1, rz, S1, r1, P1⟩ := hu
    cases r1 with
    | bl j =>
      obtain rfl : u = Value.bool j := rz
      exact ⟨j, rfl, !j, rfl, .bl (!j), H1, I1, rfl, P1.here S1 (.bl (!j))⟩
    | _ => exact P1.elim) fun _ _ z => z)
  refine PySem.W.cmp_ofNotEq ?_
  unfold richCompare
  simp only [oneThing_ref]
  refine wpAny_holding (wpAny_bind (wpAny_cRoomFor st.room.units0 (wpAny_bind (J.type.here (wpAny_bind (J'.type.here ?_))))))
  rw [show (Value.ref Ca != Value.ref Ca) = false from by simp]
  refine wpAny_bind (wpAny_pure ?_)
  refine wpAny_bind (m := tryCompare (.ref a) "__ne__" (.ref b)) (wpAny_mono one (fun t s1 ht => ?_) fun _ _ z => z)
  obtain ⟨j, rfl, q⟩ := ht
  exact wpAny_pure q
/-- an f-string's parts -/
def sJs : List (SE Dm) → Str → SE Dm
  | [], acc => fun r M => .ok (.str acc) M
  | f :: fs, acc => fun r M => (f r M).bind fun d M1 => match d with
    | .str y => if (acc ++ y).length ≤ sizeLine then sJs fs (acc ++ y) r M1 else .bad
    | _ => .bad
/-- {x} of a text or an int -/
def oFmt : Dm → Mem → R Dm
  | .str y, M => if y.length ≤ sizeLine then .ok (.str y) M else .bad
  | .int i, M => if i.natAbs.log2 < 1920 then .ok (.str (toString i)) M else .bad
  | _, _ => .bad
theorem de_fmt (he : DE X T W e fe) : DE X T W (.FormattedValue e (-1) none pos) (sUn oFmt fe) := pe_le (pe_fmt he) fun σ H Q ⟨B, im, ow, r, M, S, P⟩ =>
  ⟨B, im, ow, r, M, S, Post.bind (k := oFmt) (rl' := rlV) P fun x M1 v im1 H1 _ S1 E1 p1 r1 P1 => by
    cases r1 with
    | str y =>
      have P2 : Post rlV (gm X T) B W im1 ow r σ H1 (if y.length ≤ sizeLine then .ok (.str y) M1 else .bad) Q := P1
      split at P2
      · rename_i hz
        exact .inl ⟨y, rfl, hz, P2.here S1 (.str y)⟩
      · exact P2.elim
    | int i =>
      have P2 : Post rlV (gm X T) B W im1 ow r σ H1 (if i.natAbs.log2 < 1920 then .ok (.str (toString i)) M1 else .bad) Q := P1
      split at P2
      · rename_i hz
        exact .inr ⟨i, rfl, hz, P2.here S1 (.str _)⟩
      · exact P2.elim
    | _ => exact P1.elim⟩
/-- {x} of an instance that has its own __str__ -/
theorem de_fmtO (O : Own1 X T k C "__str__" h) (o : ObjE X C) (tk : L2N.Takes X W) (st : Site X (k + 2)) (he : DE X T W e fe) : DE X T W (.FormattedValue e (-1) none pos) (sUn (oOwn C h gTxt) fe) := by
  refine ⟨fun pins s σ H Q I ⟨B, im, ow, r, M, S, P⟩ => wpAny_FormattedValue_plain (thn (he.run pins s σ H (fun v H1 => ∃ im1 M1 d, StRel (gm X T) B im1 ow r M1 σ H1 ∧ Rep (gm X T) (ns B.F im1 ow) im1 H1 v d ∧ Post rlV (gm X T) B W im1 ow r σ H1 (oOwn C h gTxt d M1) Q) I
    ⟨B, im, ow, r, M, S, Post.bind (k := oOwn C h gTxt) (rl' := rlV) P fun d M1 v im1 H1 _ S1 E1 p1 r1 P1 => ⟨im1, M1, d, S1, r1, P1⟩⟩) fun u s1 hu => ?_)⟩
  obtain ⟨v, H1, I1, rv, im1, M1, d, S1, q, P1⟩ := hu
  obtain ⟨c, Ca, f, ox, od, rfl, J, hm, hC, run⟩ := own_run O tk I1 S1 q P1
  obtain rfl : u = Value.ref c := rv
  obtain ⟨_, hfm, ho⟩ := o.ex _ hC
  have hr := (st.mono (by omega : k + 1 ≤ k + 2)).room.in1
  have I2 := I1.tok (s1.toks + 1)
  refine PySem.W.kfo_fieldS hr.units0 I1.kIn J hfm ho hm.at_ hm.fn (wpAny_mono (run _ _ hr st.gu I2.env0.in1 I2) (fun w s2 hw => ?_) fun _ _ z => z)
  obtain ⟨z, H2, im2, M2, y, I3, rz, S2, r2, P2⟩ := hw
  cases r2 with
  | str y =>
    obtain ⟨t, rfl⟩ := (show ∃ t, w = Value.str y t from rz)
    exact ⟨V.str y, H2, I3, ⟨_, rfl⟩, P2.here S2 (Rep.str y)⟩
  | _ => exact P2.elim
/-- the parts of an f-string -/
inductive DJ (X : Cx) (T : Tb) (W : WX) : List Expr → List (SE Dm) → Prop
  | nil : DJ X T W [] []
  | cons {e : Expr} {f : SE Dm} {es : List Expr} {fs : List (SE Dm)} (h : DE X T W e f) (r : DJ X T W es fs) : DJ X T W (e :: es) (f :: fs)
theorem DJ.pj : ∀ {es : List Expr} {fs : List (SE Dm)}, DJ X T W es fs → PJ X es (fs.map (tD (gm X T) W))
  | _, _, .nil => .nil
  | _, _, .cons h r => .cons h r.pj
theorem sJs_le {σ : St} {Q : VK} : ∀ (fs : List (SE Dm)) (acc : Str) {H : Hp}, tD (gm X T) W (sJs fs acc) σ H Q → tJs (fs.map (tD (gm X T) W)) acc σ H fun out H1 => Q (.str out) H1
  | [], acc, H, ⟨B, im, ow, r, M, S, P⟩ => P.here S (Rep.str acc)
  | f :: fs, acc, H, ⟨B, im, ow, r, M, S, P⟩ => ⟨B, im, ow, r, M, S, Post.bind (rl := rlV) (rl' := rlV) (k := fun d M1 => match d with
      | .str y => if (acc ++ y).length ≤ sizeLine then sJs fs (acc ++ y) r M1 else .bad
      | _ => .bad) P fun d M1 v im1 H1 _ S1 E1 p1 r1 P1 => by
    cases r1 with
    | str y =>
      dsimp only at P1
      split at P1
      · rename_i hz
        exact ⟨y, rfl, hz, sJs_le fs (acc ++ y) ⟨B, im1, ow, r, M1, S1, P1⟩⟩
      · exact P1.elim
    | _ => exact P1.elim⟩
theorem de_join2 {e1 e2 : Expr} {es : List Expr} {fs : List (SE Dm)} (hj : DJ X T W (e1 :: e2 :: es) fs) : DE X T W (.JoinedStr (e1 :: e2 :: es) pos) (sJs fs Str.empty) := pe_le (pe_joined hj.pj) fun σ H Q t => sJs_le fs Str.empty t
end
end Dy

/-! Dy37: own ==, against a text. -/
namespace Dy
open PySem
open PySem.Spec
open PyProof.Rows hiding St
open L2

section
variable {X : Cx} {T : Tb} {W : WX} {k n : Nat} {C : Str} {f : Addr} {fd : FuncData} {ps : List Str} {c : List Dm → Mem → R Bool}
theorem call_ni (F : DNi X.prog X.w X.K X.mg X.base T k f fd ps n c) (b : DBind X.K fd ps n [] (fun ds _ => ds)) (hnp : ps.length = n) (tk : L2N.Takes X W) {A' : Around} (hr : Room k A') (gu : A'.guards = some []) {pins : List (Addr × Obj)} {s : Shared} {B : Bs} {im : List Addr} {ow : Ow} {r : Sl} {M M1 : Mem} {σ : St} {H : Hp} (e0 : Env0 X.prog X.w X.K X.mg X.base A' X.stack s H)
    (I : Inv X pins σ H s) (S : StRel (gm X T) B im ow r M σ H) {vs : List V} {us : List Value} {ds : List Dm} (rv : Vals vs us) (rd : Reps (gm X T) (ns B.F im ow) im H vs ds) (lv : vs.length = n) (hc : c ds M = .ok true M1) {Q : Hp → Prop}
    (hq : ∀ im' H', StRel (gm X T) B im' ow r M1 σ H' → Ext (wr im ow) H (wr im' ow) H' → im <+: im' → Q H') : wpAny (model X.prog X.w) A' (call (.ref f) us) (fun v s' => v = .notImplemented ∧ ∃ H', Inv X pins σ H' s' ∧ Q H') X.xe s := by
  obtain ⟨xs, ws, b1, b2, b3, b4⟩ := b.to (gm X T) _ _ _ s vs [] us [] ds [] rfl I.kIn rv .nil rd .nil lv rfl
  have hO : ∀ i a, ow i = some a → (inB B im ow H).F a := fun i a h => .inr ⟨i, h⟩
  refine wpAny_call (codeAny_mono (F.run A' X.stack s H _ ws xs Q (WE W σ) hr gu e0 b1 b2 b3 ⟨b3.trans hnp, inB B im ow H, im, M, M1, ds, S.into, b4.into, hc, fun im' H' S' e p' => hq im' H' (S.back S' e p' (fun a h => .inl h) hO) (Ext.out S S' hO e) p'⟩) fun y s1 hy => ?_)
  cases y with
  | error e => exact L2N.passAt tk σ pins H s e s1 I hy
  | ok fl =>
    obtain ⟨v, rfl, rfl, H1, os, bare, un, hok, q⟩ := hy
    obtain ⟨hh, g, d, t, os1⟩ := s1
    cases (show os1 = s.os from os)
    exact ⟨rfl, H1, I.call (h' := hh) (g' := g) (d' := d) (t' := t) (ch := []) un hok bare (fun b z => absurd z (by simp)), q⟩
/-- the class's own == gives NotImplemented -/
structure OwnNi (X : Cx) (T : Tb) (k : Nat) (C : Str) (c : List Dm → Mem → R Bool) : Prop where
  ex : ∃ (Ca f : Addr) (fd : FuncData) (ps : List Str), X.mg C = some (.ref Ca) ∧ Meth X.K Ca "__eq__" f ∧ DNi X.prog X.w X.K X.mg X.base T k f fd ps 2 c ∧ DBind X.K fd ps 2 [] (fun ds _ => ds) ∧ ps.length = 2
theorem ownNi {Ca : Addr} (F : DNi X.prog X.w X.K X.mg X.base T k f fd ps 2 c) (b : DBind X.K fd ps 2 [] (fun ds _ => ds)) (hm : Meth X.K Ca "__eq__" f) (hC : X.mg C = some (.ref Ca)) (hl : ps.length = 2) : OwnNi X T k C c := ⟨⟨Ca, f, fd, ps, hC, hm, F, b, hl⟩⟩
/-- x == y, x of the class, y a text: False, where x's own == gives NotImplemented -/
def oEqS (C : Str) (c : List Dm → Mem → R Bool) : Dm → Dm → Mem → R Dm := fun x y M => match x, y with
  | .obj C1 fs, .str z => if C1 = C then (match c [.obj C1 fs, .str z] M with
    | .ok true M1 => .ok (.bl false) M1
    | _ => .bad) else .bad
  | _, _ => .bad
theorem op_eqS (O : OwnNi X T k C c) (tk : L2N.Takes X W) (st : Site X k) : OpD X T W (compareOp .Eq) (oEqS C c) := by
  intro pins s B im ow r M σ H x y v w u1 u2 Q I rv rw' S q1 q2 P
  obtain ⟨Ca, f, fd, ps, hC, hm, F, bd, hl⟩ := O.ex
  cases q1 with
  | @obj a Cb dx C1 xs fs k2 k3 nN rf =>
    cases q2 with
    | str z =>
      replace P : Post rlV (gm X T) B W im ow r σ H (if C1 = C then (match c [.obj C1 fs, .str z] M with
        | .ok true M1 => .ok (.bl false) M1
        | _ => .bad) else .bad) Q := P
      split at P
      · rename_i e
        subst e
        have q1 := Rep.obj (g := gm X T) (im := im) k2 k3 nN rf
        cases hc : c [.obj C1 fs, .str z] M with
        | ok kk M1 =>
          rw [hc] at P
          cases kk with
          | false => exact P.elim
          | true =>
            obtain rfl : Cb = Ca := by
              have y : X.mg C1 = some (.ref Cb) := k2
              rw [hC] at y
              cases y
              rfl
            obtain ⟨ox, od, J⟩ := inst_at I k3
            obtain rfl : u1 = Value.ref a := rv
            obtain ⟨t, rfl⟩ := (show ∃ t, u2 = Value.str z t from rw')
            have run := call_ni (Q := fun H1 => Q (.bl false) H1 ∧ H1 a = some (.ins Cb dx xs)) F bd hl tk st.room st.gu I.env0 I S (vs := [.ref a, .str z]) (us := [.ref a, .str z t]) (.cons rfl (.cons ⟨t, rfl⟩ .nil)) (.cons q1 (.cons (.str z) .nil)) rfl hc
              fun im' H' S' e p => ⟨P _ _ _ S' e p (.bl false), (e.ns a _ k3 (fun _ z => by cases z) nN).1⟩
            have e1 : PySem.W.subIn X.K (.type "str") (.ref Cb) = some false := by
              show (fastBuiltinMro "str").map (·.contains (Value.ref Cb)) = some false
              rw [show fastBuiltinMro "str" = some [.type "str", .type "object"] from by decide +kernel]
              rfl
            show wpAny _ _ (richCompare .Eq (.ref a) (.str z t)) _ _ _
            unfold richCompare
            simp only [oneThing_ref]
            refine wpAny_holding (wpAny_bind (wpAny_cRoomFor st.room.units0 (wpAny_bind (J.type.here (wpAny_bind (wpAny_typeOf (typeIs_str _ _ _) ?_))))))
            have ne1 : (Value.ref Cb != Value.type "str") = true := by simp
            simp only [ne1, if_true]
            refine wpAny_bind ((PySem.W.looks_subIn I.kIn e1).here ?_)
            simp only [Bool.false_eq_true, if_false, Bool.not_false, if_true]
            have left : wpAny (model X.prog X.w) X.A (tryCompare (.ref a) (cmpInfo .Eq).2.1 (.str z t)) (fun r s1 => r = none ∧ ∃ H1, Inv X pins σ H1 s1 ∧ Q (.bl false) H1 ∧ H1 a = some (.ins Cb dx xs)) X.xe s := by
              unfold tryCompare
              refine wpAny_bind (PySem.W.ifBound_K I.kIn J hm.at_ hm.fn (wpAny_mono run (fun v s1 hv => ?_) fun _ _ z => z))
              obtain ⟨rfl, q⟩ := hv
              exact wpAny_pure ⟨rfl, q⟩
            refine wpAny_bind (wpAny_mono left (fun r1 s1 hr1 => ?_) fun _ _ z => z)
            obtain ⟨rfl, H1, I1, q, at_⟩ := hr1
            obtain ⟨_, O, _⟩ := ins_get I1.hok at_
            have right : wpAny (model X.prog X.w) X.A (tryCompare (.str z t) "__eq__" (.ref a)) (fun r2 s2 => r2 = none ∧ Inv X pins σ H1 s2) X.xe s1 :=
              wpAny_tryCompare_declines (typeIs_str _ _ _) PySem.F.slot_str_eq (wpAny_call (codeAny_call_builtin PySem.F.slot_str_eq.plain PySem.F.entry_str_eq (PySem.F.slot_str_eq.check _ _ _ _ _ _ _ _ (typeIs_str _ _ _) (PySem.F.args_str_eq_2 _ _) (seq_ni O.obj ⟨rfl, rfl, I1⟩))))
            dsimp only
            refine wpAny_bind (wpAny_mono right (fun r2 s2 h2 => ?_) fun _ _ z => z)
            obtain ⟨rfl, I2⟩ := h2
            exact wpAny_bind (wpAny_rule (wpAny_bind (wpAny_isSame_plain rfl (wpAny_pure ⟨.bl false, H1, I2, rfl, q⟩))))
        | ex _ _ _ =>
          rw [hc] at P
          exact P.elim
        | bad =>
          rw [hc] at P
          exact P.elim
      · exact P.elim
    | _ => exact P.elim
  | _ => exact P.elim
end
end Dy

/-! Dy38: str(x) of an int and a text; readings of Dy34..37 as rewriting rules. -/
namespace Dy
open PySem
open PySem.Spec
open PyProof.Rows hiding St
open L2

/-- str(x) -/
def oStr : List Dm → Mem → R Dm
  | [.int i], M => if i.natAbs.log2 < 1920 then .ok (.str (toString i)) M else .bad
  | [.str x], M => .ok (.str x) M
  | _, _ => .bad
section
variable {X : Cx} {T : Tb} {W : WX} {a : Expr} {es : List Expr} {h : SE (List Dm)} {pos p : Pos}
theorem c_strs : SoundC X T W (fun xs H Q => (∃ i, xs = [.int i] ∧ i.natAbs.log2 < 1920 ∧ Q (.str (toString i)) H) ∨ ∃ x, xs = [.str x] ∧ Q (.str x) H) oStr := fun B im ow r M σ H xs vs Q S rs P => by
  match xs, vs, rs with
  | [], _, _ => exact P.elim
  | [d], [v], .cons q .nil =>
    cases q with
    | int i =>
      have P2 : Post rlV (gm X T) B W im ow r σ H (if i.natAbs.log2 < 1920 then .ok (.str (toString i)) M else .bad) Q := P
      split at P2
      · rename_i hz
        exact .inl ⟨i, rfl, hz, P2.here S (.str _)⟩
      · exact P2.elim
    | str x => exact .inr ⟨x, rfl, (show Post rlV (gm X T) B W im ow r σ H (.ok (.str x) M) Q from P).here S (.str x)⟩
    | _ => exact P.elim
  | d :: e :: ds, _, _ => cases d <;> exact P.elim
theorem f_str (hg : Gl X "str") (hm : X.mg "str" = none) (ha : DA X T W (a :: es) h) (he : starEach (a :: es) X.env = (false, eval a X.env) :: starEach es X.env := by rfl) (hpl : (backTo pos (starEach es X.env)).any (·.1) = false := by rfl) : DE X T W (.Call (.Name "str" p) (a :: es) [] pos) (sCall oStr h) :=
  de_callTy (CallR.or call_str_int SkE.call_str_str) c_strs hg hm rfl ha (by decide) (by decide) he hpl
end
section
variable {α : Type} {C : Str} {h : SF} {g : Dm → Mem → R α} {M : Mem} {r : Sl} {fe : SE Dm} {c : List Dm → Mem → R Bool}
@[simp] theorem oOne_ap {o : Dm → Mem → R Dm} {d : Dm} : oOne o [d] M = o d M := Eq.trans rfl rfl
@[simp] theorem oOwn_obj {C1 : Str} {fs : List (Str × Dm)} : oOwn C h g (.obj C1 fs) M = if C1 = C then (h [.obj C1 fs] M).bind g else .bad := Eq.trans rfl rfl
@[simp] theorem gLen_ap {i : Int} : gLen (.int i) M = if 0 ≤ i ∧ i < 2 ^ 63 then .ok (.int i) M else .bad := Eq.trans rfl rfl
@[simp] theorem gTru_ap {i : Int} : gTru (.int i) M = if 0 ≤ i ∧ i < 2 ^ 63 then .ok (i != 0) M else .bad := Eq.trans rfl rfl
@[simp] theorem gTxt_ap {x : Str} : gTxt (.str x) M = .ok (.str x) M := Eq.trans rfl rfl
@[simp] theorem gAll_ap {d : Dm} : gAll d M = .ok d M := Eq.trans rfl rfl
@[simp] theorem gNot_ap {b : Bool} : gNot (.bl b) M = .ok (.bl (!b)) M := Eq.trans rfl rfl
@[simp] theorem tOwn_ap : tOwn C h fe r M = (fe r M).bind (oOwn C h gTru) := Eq.trans rfl rfl
@[simp] theorem oEqI_ap {g : Dm → Mem → R Dm} {C1 C2 : Str} {fs gs : List (Str × Dm)} : oEqI C h g (.obj C1 fs) (.obj C2 gs) M = if C1 = C ∧ C2 = C then (h [.obj C1 fs, .obj C2 gs] M).bind g else .bad := Eq.trans rfl rfl
@[simp] theorem oEqS_ap {C1 z : Str} {fs : List (Str × Dm)} : oEqS C c (.obj C1 fs) (.str z) M = if C1 = C then (match c [.obj C1 fs, .str z] M with
    | .ok true M1 => .ok (.bl false) M1
    | _ => .bad) else .bad := Eq.trans rfl rfl
@[simp] theorem oFmt_str {y : Str} : oFmt (.str y) M = if y.length ≤ sizeLine then .ok (.str y) M else .bad := Eq.trans rfl rfl
@[simp] theorem oFmt_int {i : Int} : oFmt (.int i) M = if i.natAbs.log2 < 1920 then .ok (.str (toString i)) M else .bad := Eq.trans rfl rfl
@[simp] theorem oStr_int {i : Int} : oStr [.int i] M = if i.natAbs.log2 < 1920 then .ok (.str (toString i)) M else .bad := Eq.trans rfl rfl
@[simp] theorem oStr_str {y : Str} : oStr [.str y] M = .ok (.str y) M := Eq.trans rfl rfl
@[simp] theorem sJs_nil {acc : Str} : sJs [] acc r M = .ok (.str acc) M := Eq.trans rfl rfl
@[simp] theorem sJs_cons {f : SE Dm} {fs : List (SE Dm)} {acc : Str} : sJs (f :: fs) acc r M = (f r M).bind fun d M1 => match d with
    | .str y => if (acc ++ y).length ≤ sizeLine then sJs fs (acc ++ y) r M1 else .bad
    | _ => .bad := Eq.trans rfl rfl
@[simp] theorem sOpt_none_ap : sOpt none r M = .ok none M := Eq.trans rfl rfl
@[simp] theorem sOpt_some_ap {f : SE Dm} : sOpt (some f) r M = (f r M).bind fun d M1 => match d with
    | .int i => .ok (some i) M1
    | _ => .bad := Eq.trans rfl rfl
@[simp] theorem sSl_ap {fl fh : Option (SE Dm)} : sSl fe fl fh r M = (fe r M).bind fun x M1 => (sOpt fl r M1).bind fun lo M2 => (sOpt fh r M2).bind fun hi M3 => oSl x lo hi M3 := Eq.trans rfl rfl
end
end Dy

/-! Dy39: the end, with tables of code objects. -/
namespace Dy
open PySem
open PySem.Spec
open PyProof.Rows hiding St
open L2

/-- the abstract heap at the law's call: the script, where it is not of the written part; the tables -/
noncomputable def scHT (K : PySem.W.Frag) (a : Addr) (vs : List Value) (ns : List Int) (ts : List Addr) : Hp := fun b => if b ∈ ts then some (.tbl #[]) else if b = a ∧ K.lookup a = none then some (.frz { cls := .type "list", data := .seq vs.toArray } (.lst (ns.map V.int))) else none
theorem dy_endT {l : PySem.W.OpenLaw} {n k : Nat} {q : Program} {loose : List Str} {XP : (Str → Option Value) → Heap → Prop} {YP : World → Heap → Prop} {d : DefRec} {x : Str}
    (hn : l.most = some n) (hn2 : n ≤ sizeLine) (hdf : d.params.defaults = []) (hr : Room k callerA)
    (F : ∀ (w : World) (mg : Str → Option Value) (fa : Addr) (h : Heap), YP w h → h.Ns mainGlobals mg → mg d.name = some (.ref fa) →
      ∃ (K : PySem.W.Frag) (fd : FuncData) (f : SF) (cs : List (Addr × Addr × Str)), K.In h ∧ ((∀ p ∈ cs, h.get? p.2.1 = some { cls := .none, data := .fields #[] }) ∧ (∀ p ∈ cs, K.lookup p.2.1 = none) ∧ ∀ p ∈ cs, PySem.W.codeHdIn K p.1 p.2.1 = true) ∧ (∀ (s : Shared) (u : Value), BindsTo s fd ⟨[u], []⟩ [(x, u)]) ∧
        (∀ base : Heap, K.In base → base.Ns mainGlobals mg → (∀ p ∈ cs, LamX.TabB base mg p.1 p.2.1) → DFn l.prog w K mg base k fa fd [x] (spD ⟨K, mg, ⟨cs.map (·.2), [], none, none, none⟩⟩ 1 f)) ∧
        ∀ ns : List Int, ns.length ≤ n → (∀ z ∈ ns, Builtin.Int.intBits z ≤ 1048576) → ∃ M', f [.frl (ns.map .int)] [] = .ok (.bl true) M') :
    PySem.W.WalkO q loose XP YP l.row.toRowW d [] (fun f vs => PySem.call f vs) := by
  refine Att.attach_callB hn hdf fun w s₀ s₁ mg mb fa o pm cd doc a vs ns G Y ho hd hcd hmg hobj hints hlen hbits hg => ?_
  obtain ⟨K, fd, f, cs, KX, ⟨hT, nT, hd0⟩, hb, hF, hf⟩ := F w mg fa _ Y G.T.g hmg
  obtain ⟨M', hM⟩ := hf ns hlen hbits
  have rv := vals_ints hints
  have lV := hints.length
  have isT : ∀ b ∈ cs.map (·.2.1), s₁.heap.get? b = some { cls := .none, data := .fields #[] } ∧ K.lookup b = none := fun b z => by
    obtain ⟨p, hp, rfl⟩ := List.mem_map.mp z
    exact ⟨hT p hp, nT p hp⟩
  have aT : a ∉ cs.map (·.2.1) := fun z => by
    have y := (isT a z).1
    rw [hobj] at y
    have y' : Data.seq vs.toArray _ = Data.fields #[] := congrArg Obj.data (Option.some.inj y)
    cases y'
  generalize hH : scHT K a vs ns (cs.map (·.2.1)) = H
  have tb : ∀ b ∈ cs.map (·.2.1), H b = some (.tbl #[]) := fun b z => by
    rw [← hH]
    exact if_pos z
  have at_ : ∀ b, b ≠ a → b ∉ cs.map (·.2.1) → H b = none := fun b z z2 => by
    rw [← hH]
    exact (if_neg z2).trans (if_neg fun y => z y.1)
  have two : (K.lookup a = none ∧ H a = some (.frz { cls := .type "list", data := .seq vs.toArray } (.lst (ns.map V.int)))) ∨ ((∃ o, K.lookup a = some o) ∧ H a = none) := by
    cases hk : K.lookup a with
    | none => exact .inl ⟨rfl, by rw [← hH]; exact (if_neg aT).trans (if_pos ⟨rfl, hk⟩)⟩
    | some o => exact .inr ⟨⟨o, rfl⟩, by rw [← hH]; exact (if_neg aT).trans (if_neg fun y => by rw [hk] at y; cases y.2)⟩
  have seqs : ∀ b o, s₁.heap.get? b = some o → (∀ ws z, o.data ≠ .seq ws z) → o.data ≠ .fields #[] → H b = none := fun b o e z z2 => at_ b (fun y => by
    rw [y, hobj] at e
    cases e
    exact z _ _ rfl) fun y => by
    rw [(isT b y).1] at e
    cases e
    exact z2 rfl
  have ofNs : ∀ {b : Addr} {m : Str → Option Value}, s₁.heap.Ns b m → (hidT s₁.heap H).Ns b m := fun {b m} ⟨u, es, ep, e, y, r⟩ => ⟨u, es, ep, hidT_get e (seqs b u e (fun ws z t => by rw [y] at t; cases t) fun t => by rw [y] at t; cases t), y, r⟩
  have inK : K.In (hidT s₁.heap H) := fun b u e => hidT_get (KX b u e) (by
    by_cases hb : b = a
    · subst hb
      rcases two with z | z
      · rw [z.1] at e
        cases e
      · exact z.2
    · exact at_ b hb fun z => by
        rw [(isT b z).2] at e
        cases e)
  have hM0 : Mod K mg (hidT s₁.heap H) := ⟨inK, ofNs G.T.g, ⟨mb, ofNs G.T.b, G.T.builtins⟩, let ⟨mc, h1, h2⟩ := G.T.nolimit; ⟨mc, ofNs h1, h2⟩⟩
  have hok : HOk l.prog w H s₁.heap := fun b u e => by
    by_cases hb : b = a
    · subst hb
      rcases two with z | z
      · rw [z.2] at e
        cases e
        exact ⟨hobj, by rw [List.length_map]; exact Nat.le_trans hlen hn2, vs, _, rv, hobj⟩
      · rw [z.2] at e
        cases e
    · by_cases hc : b ∈ cs.map (·.2.1)
      · rw [tb b hc] at e
        cases e
        exact (isT b hc).1
      · rw [at_ b hb hc] at e
        cases e
  have e0 : Env0 l.prog w K mg (hidT s₁.heap H) callerA [] s₁ H := ⟨rfl, hM0, fun b u e => of_hidT e, Nat.le_of_eq (hidT_size _ _), trivial, (fun b z => nomatch z), hok, .of_eq hg⟩
  have nos : ∀ b, ¬ Dy.ns (fun _ => False) [] noOw b := fun b z => by
    rcases z with z | z | ⟨i, z⟩
    · exact z
    · exact nomatch z
    · cases z
  have intR : ∀ zs : List Int, Reps ⟨K, mg, ⟨cs.map (·.2), [], none, none, none⟩⟩ (Dy.ns (fun _ => False) [] noOw) [] H (zs.map V.int) (zs.map Dm.int) := fun zs => by
    induction zs with
    | nil => exact .nil
    | cons z zs ih => exact .cons (.int z) ih
  have sz : SZ K (Dy.ns (fun _ => False) [] noOw) H a (ns.map V.int) := by
    rcases two with z | ⟨⟨u, hk⟩, z⟩
    · exact .inl ⟨_, z.2, nos a⟩
    · have e := KX a u hk
      rw [hobj] at e
      cases e
      exact .inr (.inr ⟨_, vs.toArray, _, hk, rfl, rfl, rfl, by rw [List.size_toArray, lV]; exact Nat.le_trans hlen hn2, by simpa using rv⟩)
  have St : StRel ⟨K, mg, ⟨cs.map (·.2), [], none, none, none⟩⟩ ⟨fun _ => False, H, fun _ => False, []⟩ [] noOw [] [] [] H := by
    refine ⟨rfl, fun i s e => ?_, fun i _ => rfl, fun i j b z => ?_, fun i b z => ?_, fun i b z => ?_, rfl, by simp, fun i m e => ?_, fun b z => ?_, fun b z => ?_, fun b u e t z => ⟨e, fun y => nos b (.inr y)⟩, List.prefix_refl _, ⟨fun p z => ?_, fun p z => (nomatch z)⟩, RtOk.not rfl _⟩
    · simp at e
    · cases z
    · cases z
    · cases z
    · simp at e
    · exact nomatch z
    · exact z.elim
    · obtain ⟨c, hc, rfl⟩ := List.mem_map.mp z
      exact ⟨#[], tb c.2.1 (List.mem_map.mpr ⟨c, hc, rfl⟩), trivial, fun _ _ y => nomatch y⟩
  have TB : ∀ p ∈ cs, LamX.TabB (hidT s₁.heap H) mg p.1 p.2.1 := fun p hp => by
    have hTp := hT p hp
    have ng : mainGlobals ≠ p.2.1 := fun z => by
      obtain ⟨o, es, ep, e, y, _⟩ := G.T.g
      rw [z, hTp] at e
      cases e
      cases y
    refine NdefX.tabB_of_K inK (hd0 p hp) ?_ ng
    obtain ⟨bm, ob, b1, b2, b3, b4, b5, b6⟩ := G.T.bmain
    refine ⟨bm, ob, b1, b2, fun z => ?_, fun z => ?_, hidT_get b3 (seqs bm ob b3 (fun _ _ z => by rw [b6] at z; cases z) fun z => by rw [b6] at z; cases z), b4, b5, b6⟩
    · obtain ⟨o, es, ep, e, y, _⟩ := G.T.g
      rw [z, e] at b3
      cases b3
      rw [y] at b6
      cases b6
    · rw [z, hTp] at b3
      cases b3
      cases b6
  refine codeAny_mono ((hF _ inK (ofNs G.T.g) TB).run callerA [] s₁ H ⟨[.ref a], []⟩ [.ref a] [.ref a] (fun v _ => v = .bl true) (fun _ _ _ => False) hr rfl e0 (hb s₁ (.ref a)) (.cons rfl .nil) rfl
    ⟨rfl, ⟨fun _ => False, H, fun _ => False, []⟩, [], [], [.frl (ns.map Dm.int)], St, .cons (.frl sz (intR ns)) .nil, ?_⟩) fun r s' hq => ?_
  · rw [hM]
    intro v im' H' S' e' p' rr
    cases rr
    rfl
  · cases r with
    | error e =>
      obtain ⟨_, _, _, _, _, _, _, _, _, _, _, _, z⟩ := hq
      exact z.elim
    | ok fl =>
      cases fl with
      | next => exact False.elim hq
      | brk => exact False.elim hq
      | cont => exact False.elim hq
      | ret u =>
        obtain ⟨v, H', os, bare, un, hok', rv', ev⟩ := hq
        subst ev
        cases (show u = Value.bool true from rv')
        have hd1 : ∀ b ∈ cs.map (·.2.1), ∃ more, s'.heap.get? b = some { cls := .none, data := .fields more } := fun b z => by
          obtain ⟨more, y⟩ := un.tbls b #[] (tb b z)
          exact ⟨_, hok' b _ y⟩
        have rest : ∀ b o, b ∉ cs.map (·.2.1) → s₁.heap.get? b = some o → s'.heap.get? b = some o := fun b o hc e => by
          by_cases hb : b = a
          · subst hb
            rcases two with z | z
            · have z2 := un.frzs b _ _ z.2
              obtain ⟨y1, _⟩ := hok b _ z.2
              obtain ⟨y2, _⟩ := hok' b _ z2
              rw [y1] at e
              cases e
              exact y2
            · exact un.keep b o e z.2 (fun z => nomatch z) (fun z => nomatch z)
          · exact un.keep b o e (at_ b hb hc) (fun z => nomatch z) (fun z => nomatch z)
        refine ⟨rfl, ⟨fun b o e => ?_, fun b o e => ?_⟩, os, bare⟩
        · by_cases hc : b ∈ cs.map (·.2.1)
          · obtain ⟨more, hm⟩ := hd1 b hc
            obtain ⟨p, hp, rfl⟩ := List.mem_map.mp hc
            rw [hT p hp] at e
            cases e
            exact .inr (.inl ⟨((PySem.W.codeHd_of_K KX (hd0 p hp)).tab (hT p hp)).isCodeTable, rfl, #[], more, rfl, by rw [Array.empty_append]; exact hm⟩)
          · exact .inl (rest b o hc e)
        · by_cases hc : b ∈ cs.map (·.2.1)
          · obtain ⟨more, hm⟩ := hd1 b hc
            exact ⟨_, hm⟩
          · exact ⟨o, rest b o hc e⟩
end Dy

/-! Dy40: the tables of the defs that make lambdas. -/
namespace Dy
open PySem
open PySem.Spec
open PyProof.Rows hiding St
open L2

/-- no exception is handled; the tables are those of the defs ls (with the name of their lambdas) -/
structure EL (ls : List (He.Defn × Str)) (K : PySem.W.Frag) (mg : Str → Option Value) (base : Heap) (T : Tb) : Prop where
  h0 : T.hot = none
  tabs : T.tabs = ls.map fun p => ((He.cT K p.1).2, p.2)
  tb : ∀ p ∈ ls, LamX.TabB base mg (He.cT K p.1).1 (He.cT K p.1).2
  dis : (ls.all fun p => ls.all fun q => decide ((He.cT K p.1).2 = (He.cT K q.1).2 → p.2 = q.2)) = true
section
variable {ls : List (He.Defn × Str)} {K : PySem.W.Frag} {mg : Str → Option Value} {base : Heap} {T T' : Tb}
theorem EL.ch (e : EL ls K mg base T) (h : T'.hot = T.hot) (t : T'.tabs = T.tabs) : EL ls K mg base T' := ⟨h.trans e.h0, t.trans e.tabs, e.tb, e.dis⟩
theorem EL.inn (e : EL ls K mg base T) {R : Bs} : EL ls K mg base (T.inn R) := ⟨e.h0, e.tabs, e.tb, e.dis⟩
theorem EL.off (e : EL ls K mg base T) : EL ls K mg base T.off := ⟨e.h0, e.tabs, e.tb, e.dis⟩
theorem EL.mem (e : EL ls K mg base T) {p : He.Defn × Str} (h : p ∈ ls) : ((He.cT K p.1).2, p.2) ∈ T.tabs := by
  rw [e.tabs]
  exact List.mem_map.mpr ⟨p, h, rfl⟩
theorem EL.one (e : EL ls K mg base T) {p : He.Defn × Str} (h : p ∈ ls) : ∀ q ∈ T.tabs, q.1 = (He.cT K p.1).2 → q.2 = p.2 := fun q hq eq => by
  rw [e.tabs] at hq
  obtain ⟨y, hy, rfl⟩ := List.mem_map.mp hq
  exact of_decide_eq_true (List.all_eq_true.mp (List.all_eq_true.mp e.dis y hy) p h) eq
end
section
variable {X : Cx} {T : Tb} {W : WX} {ls : List (He.Defn × Str)} {params : Arguments} {body : Expr} {scope : Scope} {ps : List Str} {lpos : Pos}
/-- a lambda as the last argument, in a def of ls -/
theorem argl_el (e : EL ls X.K X.mg X.base T) {d : He.Defn} (h : (d, X.env.qual ++ "<lambda>") ∈ ls) (hcode : X.env.code = .ref (He.codeOf X.K d)) (L : LamP X.env.scope scope ps) (hdef : defaultsOf params X.env = ([], []))
    (hs : starEach [.Lambda params body scope lpos] X.env = (false, eval (.Lambda params body scope lpos) X.env) :: starEach [] X.env := by rfl) : ArgL X T W params body scope [.Lambda params body scope lpos] sNil :=
  argl_one (e.tb _ h) hcode (e.mem h) (e.one h) L hdef hs
end
section
variable {P : Program} {w : World} {K : PySem.W.Frag} {mg : Str → Option Value} {base : Heap} {T : Tb} {k : Nat} {p : He.Defn} {x qual : Str} {params : Arguments} {body : List Stmt} {scope : Scope} {dvs : List V} {kws : List (Str × V)} {fd : FuncData} {N ps : List Str} {n m : Nat} {b : SS}
theorem code_of {f : Addr} {dV kV doc pm cdv ct oc : Value} {an od : Option Addr} {osl : Array (Option Value)} (hf : f = He.fAd K p) (lk : K.lookup f = some ⟨oc, od, .func (PySem.W.fnOf x qual params body scope dV kV doc pm an cdv ct), osl⟩) (hcd : PySem.W.codeIn K cdv qual = true) : cdv = .ref (He.codeOf K p) := by
  obtain ⟨c, rfl⟩ := He.codeIn_ref hcd
  subst hf
  rw [He.codeOf_eq lk rfl]
/-- a def whose code object is at p -/
theorem dfnL (F : FunD K x qual params body scope dvs kws (He.fAd K p) fd) (S : FnScope N ps scope) (hm : N.length = n + m)
    (hbody : ∀ (R : Bs) (cdv : Value) (A : Around) (outer : List Env) (s : Shared) (H : Hp) (E : XK), cdv = .ref (He.codeOf K p) → Site (cxD P w K mg base N qual scope (He.fAd K p) cdv A outer s H E) k → L2N.Takes (cxD P w K mg base N qual scope (He.fAd K p) cdv A outer s H E) (wE E) → DB (cxD P w K mg base N qual scope (He.fAd K p) cdv A outer s H E) (T.inn R) (wE E) body b) :
    DFn P w K mg base (k + 1) (He.fAd K p) fd ps (spD ⟨K, mg, T⟩ n (runB m b)) := by
  obtain ⟨oc, od, dV, kV, doc, pm, an, cdv, ct, osl, rfl, lk, hcd, _, _⟩ := F.ex
  exact dfn_of lk hcd S hm fun R A outer s H E site => hbody R cdv A outer s H E (code_of rfl lk hcd) site (L2N.takes_of rfl rfl rfl rfl)
end
end Dy

/-! Dy41: dict comprehensions. -/
namespace Dy
open PySem
open PySem.Spec
open L2
open PyProof.Rows hiding St

section
variable {n : Nat} {J : It} {G : Hp → Prop} {Y : Nat → Hp → V → Hp → Prop}
/-- the turns of a dict comprehension over what is walked -/
theorem dc_it (w : Walk J n G Y) {g : TG} {tt : TT} {tk tv : TE} {vs : List Nat} {σ : St} {H1 : Hp} {D : Addr} {Qd : Hp → Prop} (I : Nat → Hp → Prop) (start : I 0 (upd H1 D (.dK []))) (ok : ∀ i H, i ≤ n → I i H → G H)
    (turn : ∀ i x H H', i < n → I i H → Y i H x H' → g x (wipe σ vs) H' fun σ2 H2 => wipe σ2 vs = wipe σ vs ∧ tt σ2 H2 fun b H3 =>
      if b = true then tk σ2 H3 fun y H4 => tv σ2 H4 fun z H5 => ∃ kvs k, y = kV k ∧ H5 D = some (.dK kvs) ∧ kvs.length < sizeLine ∧ I (i + 1) (upd H5 D (.dK (putK kvs k z))) else I (i + 1) H3) (fin : ∀ H, I n H → Qd H) :
    ∃ W : Nat → Nat → Hp → Prop, (∃ m, W 0 m (upd H1 D (.dK []))) ∧ ∀ i m H, W i m H →
      (J.stop i H ∧ Qd H) ∨ (J.go i H ∧ ∃ Nx : Hp → Prop, (∀ H', Nx H' → ∃ m', m' < m ∧ W (i + 1) m' H') ∧ ∀ x H', J.yld i H x H' → g x (wipe σ vs) H' fun σ2 H2 => wipe σ2 vs = wipe σ vs ∧ tt σ2 H2 fun b H3 =>
        if b = true then tk σ2 H3 fun y H4 => tv σ2 H4 fun z H5 => ∃ kvs k, y = kV k ∧ H5 D = some (.dK kvs) ∧ kvs.length < sizeLine ∧ Nx (upd H5 D (.dK (putK kvs k z))) else Nx H3) :=
  ⟨fun i m H => m + i = n ∧ I i H, ⟨n, rfl, start⟩, fun i m H ⟨e, p⟩ => by
    have q := ok i H (by omega) p
    cases m with
    | zero =>
      obtain rfl : i = n := by omega
      exact .inl ⟨w.stops H q, fin H p⟩
    | succ m => exact .inr ⟨w.goes i H (by omega) q, I (i + 1), fun H' p' => ⟨m, Nat.lt_succ_self m, by omega, p'⟩, fun x H' y => turn i x H H' (by omega) p (w.yields i H x H' (by omega) q y)⟩⟩
end
def dcGo (k : Dm → Option (List (Nat × Dm))) (t : SE Bool) (ek e : SE Dm) (r0 : Sl) : List Dm → List (Key × Dm) → Mem → R MO
  | [], acc, M => .ok (.dic acc) M
  | d :: ds, acc, M => match k d with
    | none => .bad
    | some l => match t (setsS r0 l) M with
      | .ok true M1 => match ek (setsS r0 l) M1 with
        | .ok y M2 => match e (setsS r0 l) M2 with
          | .ok x M3 => match keyOf y with
            | some ky => if acc.length < sizeLine then dcGo k t ek e r0 ds (putKD acc ky x) M3 else .bad
            | none => .bad
          | _ => .bad
        | _ => .bad
      | .ok false M1 => dcGo k t ek e r0 ds acc M1
      | _ => .bad
theorem dcGo_noex {k : Dm → Option (List (Nat × Dm))} {t : SE Bool} {ek e : SE Dm} {r0 : Sl} {C : Str} {fs : List (Str × Dm)} {M' : Mem} : ∀ (ds : List Dm) (acc : List (Key × Dm)) (M : Mem), dcGo k t ek e r0 ds acc M ≠ .ex C fs M'
  | [], acc, M, h => by cases h
  | d :: ds, acc, M, h => by
    unfold dcGo at h
    repeat' split at h
    all_goals first
      | cases h
      | exact dcGo_noex ds _ _ h
def fDc (own : List Nat) (it : SE (List Dm)) (k : Dm → Option (List (Nat × Dm))) (t : SE Bool) (ek e : SE Dm) : SE MO := fun r M => (it r M).bind fun ds M1 => if noOwn r own = true then dcGo k t ek e (wipeS r own) ds [] M1 else .bad
theorem dc_of {g : Gm} {W : WX} {own : List Nat} {it : SE (List Dm)} {k : Dm → Option (List (Nat × Dm))} {t : SE Bool} {ek e : SE Dm} {tg : TG} (hp : Pt g.K tg own k) {σ : St} {H : Hp} {Q : VK} (h : tF g W (fDc own it k t ek e) σ H Q) : tDc (tG Src g W it) tg (tB g W0F t) (tD g W0F ek) (tD g W0F e) own σ H Q := by
  obtain ⟨B, im, ow, r, M, S, P⟩ := h
  refine ⟨B, im, ow, r, M, S, PostF.bind (rl := Src) P fun ds M1 J im1 H1 _ S1 E1 p1 src P1 => ?_⟩
  intro D hD
  obtain ⟨G, Y, walk, hG, hY⟩ := src
  split at P1
  · rename_i hno
    have hn := S1.notOwned hno
    -- the block's entry
    have S2 : StRel g (B.plus D) im1 ow (wipeS r own) M1 (L2.wipe σ own) (upd H1 D (.dK [])) := (S1.newPlus hD fun ps z => by cases z).wipe hn
    have xD : Ext (wr im1 ow) H1 (wr im1 ow) (upd H1 D (.dK [])) := Ext.new hD
    generalize hB' : (⟨(B.plus D).F, H1, wr im1 ow, im1⟩ : Bs) = B'
    have S3 : StRel g B' im1 ow (wipeS r own) M1 (L2.wipe σ own) (upd H1 D (.dK [])) := by
      rw [← hB']
      exact ⟨S2.len, S2.sl, S2.out, S2.inj, S2.sep, S2.tr, S2.mlen, S2.nd, S2.mem, S2.imF, S2.fr, xD, List.prefix_refl _, S2.tab, S2.root.now S1.ext S1.pre⟩
    have hF' : B'.F = (B.plus D).F := by rw [← hB']
    have hFD : B'.F D := by rw [hF']; exact .inr rfl
    have hWD : Frh B'.W0 B'.H0 D := by
      rw [← hB']
      intro o eo
      have eo : H1 D = some o := eo
      rw [hD] at eo
      cases eo
    -- what is wanted at the end
    let PF : R MO → Prop := fun q => match q with
      | .ok m M' => ∀ im' H', StRel g B' im' ow (wipeS r own) M' (L2.wipe σ own) H' → MoOk g (ns B'.F im' ow) im' H' D m → Q (.ref D) H'
      | _ => False
    have hPF : PF (dcGo k t ek e (wipeS r own) ds [] M1) := by
      cases hq : dcGo k t ek e (wipeS r own) ds [] M1 with
      | ok m M' =>
        rw [hq] at P1
        intro im' H' S' ok
        have x' : Ext (wr im1 ow) H1 (wr im' ow) H' := by
          have z := S'.ext
          rw [← hB'] at z
          exact z
        have p' : im1 <+: im' := by
          have z := S'.pre
          rw [← hB'] at z
          exact z
        have S5 : StRel g (B.plus D) im' ow (wipeS r own) M' (L2.wipe σ own) H' := by
          have S1'root := S2.root
          have z := S'
          rw [← hB'] at z
          exact ⟨z.len, z.sl, z.out, z.inj, z.sep, z.tr, z.mlen, z.nd, z.mem, z.imF, z.fr, S1.ext.trans x', S1.pre.trans p', z.tab, S1'root⟩
        have S1' : StRel g (B.plus D) im1 ow r M1 σ (upd H1 D (.dK [])) := S1.newPlus hD fun ps z => by cases z
        have nD : ¬ wr im' ow D := by
          rintro (z | ⟨i, z⟩)
          · exact S'.imF D z hFD
          · exact (S'.sep i D z).2 hFD
        refine P1 D im' H' ⟨?_, nD, fun z => S1.fresh hD (.inl z), by rw [hF'] at ok; exact ok⟩ x' p' (S1.frh hD)
        -- the frame as it was
        have le : ∀ x, ns (B.plus D).F im' ow x → ns (B.plus D).F im' ow x := fun x h => h
        refine ⟨S1.len, fun j s ej => ?_, S1.out, S1.inj, S5.sep, S5.tr, S5.mlen, S5.nd, S5.mem, S5.imF, S5.fr, S5.ext, S5.pre, S5.tab, S5.root⟩
        by_cases hj : j ∈ own
        · have h := S1.sl j s ej
          have xx : Ext (ns B.F im1 ow) H1 (ns (B.plus D).F im' ow) H' := fun b o eb tb nb => by
            obtain ⟨e2, n2⟩ := x' b o eb tb fun z => nb (.inr z)
            refine ⟨e2, fun z => ?_⟩
            rcases z with (z | z) | z
            · exact nb (.inl z)
            · exact ne_of_none eb hD z
            · exact n2 z
          cases s with
          | un => exact h
          | pin => exact h
          | val d =>
            obtain ⟨h1, y, h2, h3⟩ := h
            exact ⟨h1, y, h2, h3.mono xx p'⟩
          | own m =>
            obtain ⟨b, h1, _⟩ := h
            rw [hn j hj] at h1
            cases h1
        · have h := S5.sl j s (by rw [wipeS_other hj]; exact ej)
          rw [wipe_other hj] at h
          exact h
      | ex C fs M' => exact absurd hq (dcGo_noex ds [] M1)
      | bad =>
        rw [hq] at P1
        exact P1.elim
    refine dc_it walk (fun i H2 => ∃ im2 M2 acc vs, StRel g B' im2 ow (wipeS r own) M2 (L2.wipe σ own) H2 ∧ H2 D = some (.dK vs) ∧ RepK g (ns B'.F im2 ow) im2 H2 vs acc ∧ PF (dcGo k t ek e (wipeS r own) (ds.drop i) acc M2))
      ⟨im1, M1, [], [], S3, upd_same, .nil, hPF⟩ (fun i H2 hi ⟨im2, M2, acc, vs, S4, _⟩ => ?_) ?_ ?_
    · refine hG (ns B.F im2 ow) H2 ?_
      have z := S4.ext
      rw [← hB'] at z
      exact z.ns
    · rintro i x H2 H3 hi ⟨im2, M2, acc, vs, S4, hDv, ra, P3⟩ hy
      have x4 : Ext (wr im1 ow) H1 (wr im2 ow) H2 := by
        have z := S4.ext
        rw [← hB'] at z
        exact z
      have p4 : im1 <+: im2 := by
        have z := S4.pre
        rw [← hB'] at z
        exact z
      have x5 : Ext (ns B.F im1 ow) H1 (ns B'.F im2 ow) H2 := fun b o eb tb nb => by
        obtain ⟨e2, n2⟩ := x4 b o eb tb fun z => nb (.inr z)
        refine ⟨e2, fun z => ?_⟩
        rw [hF'] at z
        rcases z with (z | z) | z
        · exact nb (.inl z)
        · exact ne_of_none eb hD z
        · exact n2 z
      obtain ⟨hh, d, hd, rd⟩ := hY i (ns B'.F im2 ow) im2 H2 x H3 hi x5 p4 (fun a hn e => S4.fresh e hn) hy
      have S5 : StRel g B' im2 ow (wipeS r own) M2 (L2.wipe σ own) H3 := by
        rcases hh with rfl | ⟨p, o, hp, rfl⟩
        · exact S4
        · exact S4.new hp o
      have x3 : Ext (ns B'.F im2 ow) H2 (ns B'.F im2 ow) H3 := by
        rcases hh with rfl | ⟨p, o, hp, rfl⟩
        · exact Ext.refl
        · exact Ext.new hp
      have hDv3 : H3 D = some (.dK vs) := by
        rcases hh with rfl | ⟨p, o, hp, rfl⟩
        · exact hDv
        · rw [upd_ne (ne_of_none hDv hp)]
          exact hDv
      have ra3 := RepK.mono x3 (List.prefix_refl _) ra
      have ed : ds.drop i = d :: ds.drop (i + 1) := by
        have hlt := (List.getElem?_eq_some_iff.mp hd)
        obtain ⟨h1, h2⟩ := hlt
        rw [List.drop_eq_getElem_cons h1, h2]
      rw [ed] at P3
      unfold dcGo at P3
      cases hk : k d with
      | none =>
        rw [hk] at P3
        exact P3.elim
      | some l =>
        rw [hk] at P3
        dsimp only at P3
        obtain ⟨ws, rw1, hw1⟩ := hp.run g _ _ _ x d l rfl rd hk
        have hin := hp.own d l hk
        refine hw1 _ _ ⟨?_, ?_⟩
        · rw [wipe_sets rw1 hin]
          exact wipe_idem own fun i h => h
        have S6 : StRel g B' im2 ow (setsS (wipeS r own) l) M2 (setsV (L2.wipe σ own) ws) H3 := S5.sets rw1 fun p hp => hn _ (hin p hp)
        -- back to the invariant
        have back : ∀ {im7 : List Addr} {M7 : Mem} {H7 : Hp}, StRel g B' im7 ow (setsS (wipeS r own) l) M7 (setsV (L2.wipe σ own) ws) H7 → StRel g B' im7 ow (wipeS r own) M7 (L2.wipe σ own) H7 := fun S7 => by
          have z := S7.wipe hn
          rw [wipeS_sets hin, wipe_sets rw1 hin, wipeS_idem own (fun i h => h), wipe_idem own (fun i h => h)] at z
          exact z
        have keepD : ∀ {im7 : List Addr} {H7 : Hp}, Ext (wr im2 ow) H3 (wr im7 ow) H7 → H7 D = some (.dK vs) := fun x7 => (x7 D _ hDv3 (fun ps z => by cases z) (by
          rintro (z | ⟨i, z⟩)
          · exact S5.imF D z hFD
          · exact (S5.sep i D z).2 hFD)).1
        cases ht : t (setsS (wipeS r own) l) M2 with
        | ok b M5 =>
          rw [ht] at P3
          refine ⟨B', im2, ow, _, M2, S6, ?_⟩
          rw [ht]
          intro b' im5 H5 S7 E7 p7 eb
          have eb : b' = b := eb
          subst eb
          cases b' with
          | false =>
            rw [if_neg (by simp)]
            exact ⟨im5, M5, acc, vs, back S7, keepD E7, RepK.mono E7.ns p7 ra3, P3⟩
          | true =>
            rw [if_pos rfl]
            dsimp only at P3
            cases hek : ek (setsS (wipeS r own) l) M5 with
            | ok yk M6 =>
              rw [hek] at P3
              refine ⟨B', im5, ow, _, M5, S7, ?_⟩
              rw [hek]
              intro vk im6 H6 S8 E8 p8 rk
              dsimp only at P3
              cases he : e (setsS (wipeS r own) l) M6 with
              | ok y M8 =>
                rw [he] at P3
                refine ⟨B', im6, ow, _, M6, S8, ?_⟩
                rw [he]
                intro v im8 H8 S9 E9 p9 r8
                dsimp only at P3
                cases hky : keyOf yk with
                | none =>
                  rw [hky] at P3
                  exact P3.elim
                | some ky =>
                  rw [hky] at P3
                  dsimp only at P3
                  split at P3
                  · rename_i hl
                    have E79 := (E7.trans E8).trans E9
                    have ra8 := RepK.mono E79.ns ((p7.trans p8).trans p9) ra3
                    have hD8 := keepD E79
                    refine ⟨vs, ky, key_of rk hky, hD8, by rw [ra8.length]; exact hl, im8, M8, putKD acc ky y, putK vs ky v, ?_, upd_same, RepK.mono (Ext.put (.inl hFD)) (List.prefix_refl _) (RepK.put r8 ra8), P3⟩
                    exact (back S9).pokeF hFD hWD hD8 (plain_dK _) fun ps z => by cases z
                  · exact P3.elim
              | _ =>
                rw [he] at P3
                exact P3.elim
            | _ =>
              rw [hek] at P3
              exact P3.elim
        | _ =>
          rw [ht] at P3
          exact P3.elim
    · rintro H2 ⟨im2, M2, acc, vs, S4, hDv, ra, P3⟩
      rw [List.drop_length] at P3
      exact P3 im2 H2 S4 ⟨vs, hDv, ra⟩
  · exact P1.elim
section
variable {X : Cx} {T : Tb} {W : WX}
theorem df_dc {kx vx tg iter : Expr} {ifs : List Expr} {scope : Scope} {own : List (Str × Nat)} {pos : Pos} {it : SE (List Dm)} {k : Dm → Option (List (Nat × Dm))} {t : SE Bool} {ek e : SE Dm} {g : TG} (hc : X.calm = true) (hN : X.N.Nodup) (hi : DI X T W tg iter it) (ok : BlkOk X.N X.env.scope scope own) (hp : Pt X.K g (own.map (·.2)) k)
    (hg : ∀ (s : Shared) (H : Hp) (C : Addr) (cl : List (Str × Addr)) (fp : List Addr), PG (X.blk s H scope (compEnvC scope cl C X.env) fp) tg g) (ht : ∀ (s : Shared) (H : Hp) (C : Addr) (cl : List (Str × Addr)) (fp : List Addr), DTs (X.blk s H scope (compEnvC scope cl C X.env) fp) T ifs t)
    (hk : ∀ (s : Shared) (H : Hp) (C : Addr) (cl : List (Str × Addr)) (fp : List Addr), DE (X.blk s H scope (compEnvC scope cl C X.env) fp) T W0F kx ek)
    (he : ∀ (s : Shared) (H : Hp) (C : Addr) (cl : List (Str × Addr)) (fp : List Addr), DE (X.blk s H scope (compEnvC scope cl C X.env) fp) T W0F vx e) (hs : ∀ x, foldedSetIterable iter X.env x = pure x := by intro _; rfl) :
    DF X T W (.DictComp kx vx [⟨tg, iter, ifs, 0⟩] scope pos) (fDc (own.map (·.2)) it k t ek e) :=
  pe_le (pe_dc hc hN hi ok hg ht hk he hs) fun σ H Q h => dc_of hp h
end
end Dy

/-! Dy42: static methods, the head's observation with tables and static methods; text methods; truth by __bool__. -/
namespace Dy
open PySem
open PySem.Spec
open PyProof.Rows hiding St
open L2

/-- a static method of a class: the def's name, qualified name, parameters, body, scope -/
structure StD where
  cls : Str
  name : Str
  qual : Str
  params : Arguments
  body : List Stmt
  scope : Scope
/-- where its function stands -/
def stA (K : PySem.W.Frag) (c m : Str) : Addr := He5.wf K (He.ga K c) "staticmethod" m
def stW (K : PySem.W.Frag) (d : StD) : He.FnW := match K.lookup (stA K d.cls d.name) with
  | some ⟨_, _, .func fd, _⟩ => some (fd.name, fd.qualname, fd.params, fd.body, fd.scope, fd.globals, fd.closure, fd.builtins)
  | _ => none
def StD.val (d : StD) : He.FnW := some (d.name, d.qual, d.params, .stmts d.body, d.scope, mainGlobals, [], builtinsNs)
def StD.ok (K : PySem.W.Frag) (d : StD) : Bool := PySem.W.keepIn K (.ref (stA K d.cls d.name)) && ((match K.lookup (stA K d.cls d.name) with
  | some ⟨_, _, .func fd, _⟩ => PySem.W.codeIn K fd.code d.qual && (match fd.defaults with
    | .none => true
    | _ => false)
  | _ => false) && (He5.wrapB K (He.ga K d.cls) "staticmethod" "staticmethod.__get__" d.name && (PySem.W.readsIn K (He.ga K d.cls) (.type "type") && He.eqO (PySem.W.specialIn K (.ref (He.ga K d.cls)) "__getattribute__") (some (some (.builtin "type.__getattribute__"))))))
/-- a static method as a def, and as it is read off its class -/
structure StK (K : PySem.W.Frag) (d : StD) : Prop where
  fun_ : ∃ fd, FunD K d.name d.qual d.params d.body d.scope [] [] (stA K d.cls d.name) fd
  rd : ClX.CRead K (He.ga K d.cls) (.type "type")
  at_ : PySem.W.findCls K (.ref (He.ga K d.cls)) (.type "type") d.name = some (.get (.builtin "staticmethod.__get__") (.ref (He.ma K (He.ga K d.cls) d.name)) .none (.ref (He.ga K d.cls)))
  rc : ∃ rest, PySem.W.recIn K (He.ma K (He.ga K d.cls) d.name) "staticmethod" = some (.ref (stA K d.cls d.name) :: rest)
theorem stK_of {K : PySem.W.Frag} {d : StD} (e : stW K d = d.val) (c : d.ok K = true) : StK K d := by
  unfold StD.ok at c
  simp only [Bool.and_eq_true] at c
  obtain ⟨kp, c2, c3, c4, c5⟩ := c
  obtain ⟨w1, w2⟩ := He5.wrapB_ok c3
  refine ⟨?_, ⟨c4, He.eqO_ok c5⟩, w1, w2⟩
  unfold stW StD.val at e
  cases lk : K.lookup (stA K d.cls d.name) with
  | none =>
    rw [lk] at c2
    cases c2
  | some o =>
    obtain ⟨oc, od, dt, osl⟩ := o
    rw [lk] at c2 e
    cases dt with
    | func fd =>
      obtain ⟨n1, n2, n3, n4, n5, n6, n7, n8, n9, n10, n11, n12, n13, n14, n15⟩ := fd
      simp only [Option.some.injEq, Prod.mk.injEq] at e
      obtain ⟨h1, h2, h3, h4, h5, h6, h7, h8⟩ := e
      subst h1 h2 h3 h4 h5 h6 h7 h8
      simp only [Bool.and_eq_true] at c2
      obtain ⟨k1, k2⟩ := c2
      cases n8 with
      | none => exact ⟨_, ⟨oc, od, .none, n9, n10, n11, n12, n13, n14, osl, rfl, lk, k1, .inl ⟨rfl, rfl⟩, .inl rfl⟩, kp⟩
      | _ => cases k2
    | _ => cases c2
/-- its function's record -/
noncomputable def fdSt (K : PySem.W.Frag) (d : StD) : FuncData := match K.lookup (stA K d.cls d.name) with
  | some ⟨_, _, .func fd, _⟩ => fd
  | _ => PySem.W.fnOf d.name d.qual d.params d.body d.scope .none .none .none .none none .none .none
theorem StK.fd {K : PySem.W.Frag} {d : StD} (k : StK K d) : FunD K d.name d.qual d.params d.body d.scope [] [] (stA K d.cls d.name) (fdSt K d) := by
  obtain ⟨fd, F⟩ := k.fun_
  have e : fdSt K d = fd := by
    obtain ⟨_, _, _, _, _, _, _, _, _, _, _, lk, _⟩ := F.ex
    unfold fdSt
    rw [lk]
  rw [e]
  exact F
/-! ### the head's observation -/
abbrev AlS : Type := (He.AlD × Bool) × List He.FnW
/-- the written part, with the interpreter's own statics -/
def frS (n : Nat) (g : Addr → Option Obj) : PySem.W.Frag := He.frT g (He5.asA g n)
def obsK (fa : List He.Fa) (fn : List He.DefD) (tf : List He.Defn) (st : List StD) (ex : PySem.W.Frag → Bool) (g : Addr → Option Obj) (K : PySem.W.Frag) : AlS := ((He.obsD fa fn K, (ex K && st.all fun d => d.ok K) && He.tabsB g tf K), st.map (stW K))
def obsS (n : Nat) (fa : List He.Fa) (fn : List He.DefD) (tf : List He.Defn) (st : List StD) (ex : PySem.W.Frag → Bool) (g : Addr → Option Obj) : AlS := obsK fa fn tf st ex g (frS n g)
structure SaysS (fa : List He.Fa) (fn : List He.DefD) (tf : List He.Defn) (st : List StD) (ex : PySem.W.Frag → Bool) (w : World) (h : Heap) (K : PySem.W.Frag) : Prop where
  d : He.SaysD fa fn K
  both : (ex K && st.all fun d => d.ok K) = true
  hd : ∀ p ∈ tf, PySem.W.codeHdIn K (He.cT K p).1 (He.cT K p).2 = true
  out : ∀ p ∈ tf, K.lookup (He.cT K p).2 = none
  empty : ∀ p ∈ tf, h.get? (He.cT K p).2 = some { cls := .none, data := .fields #[] }
  s : st.map (stW K) = st.map StD.val
theorem saysS_of {n : Nat} {fa : List He.Fa} {fn : List He.DefD} {tf : List He.Defn} {st : List StD} {ex : PySem.W.Frag → Bool} {w : World} {h : Heap} (e : obsS n fa fn tf st ex h.get? = ((He.valD fn, true), st.map StD.val)) : SaysS fa fn tf st ex w h (frS n h.get?) := by
  have e1 : He.obsD fa fn (frS n h.get?) = He.valD fn := congrArg (fun z : AlS => z.1.1) e
  have e2 : ((ex (frS n h.get?) && st.all fun d => d.ok (frS n h.get?)) && He.tabsB h.get? tf (frS n h.get?)) = true := congrArg (fun z : AlS => z.1.2) e
  have e3 : st.map (stW (frS n h.get?)) = st.map StD.val := congrArg (fun z : AlS => z.2) e
  obtain ⟨y1, y2⟩ := Bool.and_eq_true_iff.mp e2
  have tab : ∀ p ∈ tf, PySem.W.codeHdIn (frS n h.get?) (He.cT (frS n h.get?) p).1 (He.cT (frS n h.get?) p).2 = true ∧ ∃ o, h.get? (He.cT (frS n h.get?) p).2 = some o ∧ He.emptyTab o = true := fun p hp => by
    obtain ⟨z1, z2⟩ := Bool.and_eq_true_iff.mp (List.all_eq_true.mp y2 p hp)
    refine ⟨z1, ?_⟩
    split at z2
    · rename_i o ho
      exact ⟨o, ho, z2⟩
    · cases z2
  refine ⟨e1, y1, fun p hp => (tab p hp).1, fun p hp => ?_, fun p hp => ?_, e3⟩ <;> obtain ⟨_, o, ho, ht⟩ := tab p hp
  · exact He.frT_none ho ht
  · rw [ho, He.emptyTab_eq ht]
def hookS (n : Nat) (fa : List He.Fa) (fn : List He.DefD) (tf : List He.Defn) (st : List StD) (ex : PySem.W.Frag → Bool) : PySem.W.Hook where
  α := AlS
  obs := fun s => obsS n fa fn tf st ex s.heap.get?
  val := fun _ => ((He.valD fn, true), st.map StD.val)
  says := fun w h => ∃ K : PySem.W.Frag, K.In h ∧ SaysS fa fn tf st ex w h K
  of := fun _ _ e => ⟨_, He.frT_in, saysS_of e⟩
  keeps := fun _ _ _ ⟨K, hK, c⟩ k => ⟨K, PySem.W.Frag.In.keeps hK k, { c with empty := fun p hp => k _ _ (c.empty p hp) }⟩
theorem obsS_eq {n : Nat} {fa : List He.Fa} {fn : List He.DefD} {tf : List He.Defn} {st : List StD} {ex : PySem.W.Frag → Bool} {g : Addr → Option Obj} {s : Shared} (h : ∀ a, g a = s.heap.get? a) : obsS n fa fn tf st ex g = (hookS n fa fn tf st ex).obs s := by
  have e : g = s.heap.get? := funext h
  rw [e]
  rfl
section
variable {fa : List He.Fa} {fn : List He.DefD} {tf : List He.Defn} {st : List StD} {ex : PySem.W.Frag → Bool} {w : World} {h : Heap} {K : PySem.W.Frag}
theorem SaysS.more (c : SaysS fa fn tf st ex w h K) : ex K = true := (Bool.and_eq_true_iff.mp c.both).1
theorem SaysS.stat (c : SaysS fa fn tf st ex w h K) (i : Nat) {d : StD} (hd : st[i]? = some d := by rfl) : StK K d := by
  have e : (st.map (stW K))[i]? = (st.map StD.val)[i]? := by rw [c.s]
  rw [List.getElem?_map, List.getElem?_map, hd] at e
  exact stK_of (Option.some.inj e) (List.all_eq_true.mp (Bool.and_eq_true_iff.mp c.both).2 d (List.mem_of_getElem? hd))
end
/-! ### C.m(..) of a static method -/
section
variable {X : Cx} {T : Tb} {W : WX} {es : List Expr} {kws : List Keyword} {pos apos p : Pos} {ks : List Str} {fp fk : SE (List Dm)} {d : StD} {k n np m : Nat} {ps : List Str} {fd : FuncData} {gD : List Dm → List Dm → List Dm}
theorem de_st {pl : Sem Bool} {h : SF} (A : DArgs X T W es kws pos ks fp fk) (S : StK X.K d) (F : DFn X.prog X.w X.K X.mg X.base k (stA X.K d.cls d.name) fd ps (spD (gm X T) np h)) (b : DBind X.K fd ps n ks gD) (hnp : ps.length = np) (site : Site X k) (tk : L2N.Takes X W) (hg : Gl X d.cls) (hC : X.mg d.cls = some (.ref (He.ga X.K d.cls)))
    (kp : PySem.W.keepIn X.K (.ref (stA X.K d.cls d.name)) = true) (hdb : (d.cls == ("__debug__" : Str)) = false := by decide) (ht : eval (.Call (.Attribute (.Name d.cls p) d.name apos) es kws pos) X.env = (do
      let ov ← eval (.Name d.cls p) X.env
      standAt apos.atName
      let (f, first) ← holding [ov] (getMethod ov d.name pl)
      callWith pos f first (backTo pos (starEach es X.env)) (backToKw pos (keywordEach kws X.env))) := by rfl) (hks : ks.length = m := by rfl) : DE X T W (.Call (.Attribute (.Name d.cls p) d.name apos) es kws pos) (sCallD fp fk n m gD h) := by
  subst hks
  refine ⟨fun pins s σ H Q I ⟨B, im, ow, r, M, Sr, P⟩ => PySem.W.methodCall_KW (pl := pl) (ld_glob I hg hC ?_ hdb) ht⟩
  obtain ⟨rest, hp⟩ := S.rc
  refine PySem.W.method_cls I.kIn S.rd.ga (PySem.W.cls_bind I.kIn S.rd.rd S.at_ (wpAny_call (PySem.W.sm_get (s := { s with toks := s.toks + 1 }) I.kIn hp (PySem.W.handed_on rfl ?_))))
  have I1 := I.tok (s.toks + 1)
  refine A.run (.ref (stA X.K d.cls d.name)) [] pins _ σ H
    (fun vs zs H2 => ∀ (s2 : Shared) (us ws : List Value), X.K.In s2.heap → Vals vs us → Vals zs ws → ∃ (xs : List V) (us' : List Value), BindsTo s2 fd ⟨us, ks.zip ws⟩ (ps.zip us') ∧ Vals xs us' ∧ xs.length = ps.length ∧ spD (gm X T) np h xs H2 Q (WE W σ)) _ kp I1
    (tArgs_of (α := Unit) Sr P fun vs zs ds es im2 M2 H2 S2 E2 p2 rd re lv lz P2 s2 us ws KI rv rz => by
      obtain ⟨xs, us', b1, b2, b3, b4⟩ := b.to (gm X T) _ _ _ s2 vs zs us ws ds es rfl KI rv rz rd re lv lz
      exact ⟨xs, us', b1, b2, b3, callD_le S2 b4 (b3.trans hnp) P2⟩)
    fun us ws vs zs s2 H2 I2 rv rz q => ?_
  obtain ⟨xs, us', b1, b2, b3, b4⟩ := q s2 us ws I2.kIn rv rz
  refine wpAny_call (codeAny_mono (run_d F site tk I2 b1 b2 b3 b4) fun y s' hq => ?_)
  cases y with
  | error e => exact hq
  | ok fl =>
    cases fl with
    | ret u => exact hq
    | next => exact False.elim hq
    | brk => exact False.elim hq
    | cont => exact False.elim hq
end
/-! ### text methods -/
def oUpper : Dm → Mem → R Dm
  | .str a, M => if a.length ≤ 5592405 then .ok (.str (Txt.upper a)) M else .bad
  | _, _ => .bad
def oIndex : Dm → Dm → Mem → R Dm
  | .str a, .str b, M => match Builtin.Str.occurrences a b 0 a.length 1 with
    | i :: _ => .ok (.int (i : Nat)) M
    | [] => .bad
  | _, _, _ => .bad
def sIdx (fo fe : SE Dm) : SE Dm := fun r M => (fo r M).bind fun x M1 => match x with
  | .str a => (fe r M1).bind fun y M2 => oIndex (.str a) y M2
  | _ => .bad
section
variable {X : Cx} {T : Tb} {W : WX} {o e : Expr} {fo fe : SE Dm} {pos apos : Pos}
theorem de_upper (ho : DE X T W o fo) (hbase : attributeBase o "upper" X.env (eval o X.env) = eval o X.env := by rfl) (hline : (apos.endLine == pos.line) = true := by rfl) : DE X T W (.Call (.Attribute o "upper" apos) [] [] pos) (sUn oUpper fo) := pe_le (pe_upper ho hbase hline) fun σ H Q ⟨B, im, ow, r, M, S, P⟩ =>
  ⟨B, im, ow, r, M, S, Post.bind (k := oUpper) (rl' := rlV) P fun x M1 v im1 H1 _ S1 E1 p1 r1 P1 => by
    cases r1 with
    | str a =>
      have P2 : Post rlV (gm X T) B W im1 ow r σ H1 (if a.length ≤ 5592405 then .ok (.str (Txt.upper a)) M1 else .bad) Q := P1
      split at P2
      · rename_i hz
        exact ⟨⟨a, rfl⟩, a, rfl, rfl, hz, P2.here S1 (.str _)⟩
      · exact P2.elim
    | _ => exact P1.elim⟩
theorem de_index (ho : DE X T W o fo) (he : DE X T W e fe) (hs : starEach [e] X.env = [(false, eval e X.env)] := by rfl) (hbase : attributeBase o "index" X.env (eval o X.env) = eval o X.env := by rfl) (hline : (apos.endLine == pos.line) = true := by rfl) :
    DE X T W (.Call (.Attribute o "index" apos) [e] [] pos) (sIdx fo fe) := pe_le (pe_m1 F.slot_str_index F.type_str_index mt_sindex ho he hs hbase hline) fun σ H Q ⟨B, im, ow, r, M, S, P⟩ =>
  ⟨B, im, ow, r, M, S, Post.bind (rl' := rlV) P fun x M1 v im1 H1 _ S1 E1 p1 r1 P1 => by
    cases r1 with
    | str a =>
      refine ⟨⟨a, rfl⟩, B, im1, ow, r, M1, S1, Post.bind (rl' := rlV) P1 fun y M2 w im2 H2 _ S2 E2 p2 r2 P2 => ?_⟩
      cases r2 with
      | str b =>
        have P3 : Post rlV (gm X T) B W im2 ow r σ H2 (match Builtin.Str.occurrences a b 0 a.length 1 with
          | i :: _ => .ok (.int (i : Nat)) M2
          | [] => .bad) Q := P2
        split at P3
        · rename_i i rest hz
          exact ⟨a, b, i, rest, rfl, rfl, hz, P3.here S2 (.int _)⟩
        · exact P3.elim
      | _ => exact P2.elim
    | _ => exact P1.elim⟩
end
end Dy

/-! Dy43: own ==, against a tuple; truth by __bool__; readings as rewriting rules. -/
namespace Dy
open PySem
open PySem.Spec
open PyProof.Rows hiding St
open L2

section
open Builtin
/-- a tuple's == with an instance declines -/
theorem tup_ni {P : Program} {w : World} {A : Around} {E : Value → Shared → Prop} {s : Shared} {p : Addr} {its : Array Value} {a C dx : Addr} {K : PySem.W.Frag} {Q : PySem.Fin → Shared → Prop} (X : K.In s.heap) (hm : PySem.W.mroIn K C (.type "tuple") = some false) (ht : IsTup s.heap p its) (h : s.heap.get? a = some (PySem.W.instObj C dx)) (q : Q (.done (.ret .notImplemented)) s) : wpAny (model P w) A (Builtin.«tuple.__eq__» ⟨[.ref p, .ref a], []⟩) Q E s := by
  obtain ⟨o, ho, hc, n, hd⟩ := ht
  obtain ⟨oc, od, dt, osl⟩ := o
  dsimp only at hc hd
  subst hc hd
  wp_walk using wpAny_loadPart' ho, wpAny_load ho, wpAny_loadPart' h, wpAny_load h
  refine (PySem.W.looks_mroIn X hm).here ?_
  simp only [Bool.not_false, if_true]
  exact wpAny_pure q
end
section
variable {X : Cx} {T : Tb} {W : WX} {k n : Nat} {C : Str} {f : Addr} {fd : FuncData} {ps : List Str} {c : List Dm → Mem → R Bool}
/-- x == y, x of the class, y a tuple: False, where x's own == gives NotImplemented -/
def oEqT (C : Str) (c : List Dm → Mem → R Bool) : Dm → Dm → Mem → R Dm := fun x y M => match x, y with
  | .obj C1 fs, .tup z => if C1 = C then (match c [.obj C1 fs, .tup z] M with
    | .ok true M1 => .ok (.bl false) M1
    | _ => .bad) else .bad
  | _, _ => .bad
theorem op_eqT (O : OwnNi X T k C c) (nt : ∀ Ca, X.mg C = some (.ref Ca) → PySem.W.mroIn X.K Ca (.type "tuple") = some false) (tk : L2N.Takes X W) (st : Site X k) : OpD X T W (compareOp .Eq) (oEqT C c) := by
  intro pins s B im ow r M σ H x y v w u1 u2 Q I rv rw' S q1 q2 P
  obtain ⟨Ca, f, fd, ps, hC, hm, F, bd, hl⟩ := O.ex
  cases q1 with
  | @obj a Cb dx C1 xs fs k2 k3 nN rf =>
    cases q2 with
    | @tup p zs z zt zr =>
      replace P : Post rlV (gm X T) B W im ow r σ H (if C1 = C then (match c [.obj C1 fs, .tup z] M with
        | .ok true M1 => .ok (.bl false) M1
        | _ => .bad) else .bad) Q := P
      split at P
      · rename_i e
        subst e
        have q1 := Rep.obj (g := gm X T) (im := im) k2 k3 nN rf
        have q2 := Rep.tup (g := gm X T) zt zr
        cases hc : c [.obj C1 fs, .tup z] M with
        | ok kk M1 =>
          rw [hc] at P
          cases kk with
          | false => exact P.elim
          | true =>
            obtain rfl : Cb = Ca := by
              have y : X.mg C1 = some (.ref Cb) := k2
              rw [hC] at y
              cases y
              rfl
            obtain ⟨ox, od, J⟩ := inst_at I k3
            obtain rfl : u1 = Value.ref a := rv
            obtain rfl : u2 = Value.ref p := rw'
            have run := call_ni (Q := fun H1 => Q (.bl false) H1 ∧ H1 a = some (.ins Cb dx xs) ∧ SqT X.K H1 p zs) F bd hl tk st.room st.gu I.env0 I S (vs := [.ref a, .ref p]) (us := [.ref a, .ref p]) (.cons rfl (.cons rfl .nil)) (.cons q1 (.cons q2 .nil)) rfl hc
              fun im' H' S' e p => ⟨P _ _ _ S' e p (.bl false), (e.ns a _ k3 (fun _ z => by cases z) nN).1, (zt.mono e.ns).sq⟩
            have e1 : PySem.W.subIn X.K (.type "tuple") (.ref Cb) = some false := by
              show (fastBuiltinMro "tuple").map (·.contains (Value.ref Cb)) = some false
              rw [show fastBuiltinMro "tuple" = some [.type "tuple", .type "object"] from by decide +kernel]
              rfl
            show wpAny _ _ (richCompare .Eq (.ref a) (.ref p)) _ _ _
            obtain ⟨its, _, it0, _⟩ := I.tuple zt.sq
            unfold richCompare
            simp only [oneThing_ref]
            refine wpAny_holding (wpAny_bind (wpAny_cRoomFor st.room.units0 (wpAny_bind (J.type.here (wpAny_bind (wpAny_typeOf it0.typeIs ?_))))))
            have ne1 : (Value.ref Cb != Value.type "tuple") = true := by simp
            simp only [ne1, if_true]
            refine wpAny_bind ((PySem.W.looks_subIn I.kIn e1).here ?_)
            simp only [Bool.false_eq_true, if_false, Bool.not_false, if_true]
            have left : wpAny (model X.prog X.w) X.A (tryCompare (.ref a) (cmpInfo .Eq).2.1 (.ref p)) (fun r s1 => r = none ∧ ∃ H1, Inv X pins σ H1 s1 ∧ Q (.bl false) H1 ∧ H1 a = some (.ins Cb dx xs) ∧ SqT X.K H1 p zs) X.xe s := by
              unfold tryCompare
              refine wpAny_bind (PySem.W.ifBound_K I.kIn J hm.at_ hm.fn (wpAny_mono run (fun v s1 hv => ?_) fun _ _ z => z))
              obtain ⟨rfl, q⟩ := hv
              exact wpAny_pure ⟨rfl, q⟩
            refine wpAny_bind (wpAny_mono left (fun r1 s1 hr1 => ?_) fun _ _ z => z)
            obtain ⟨rfl, H1, I1, q, at_, tp⟩ := hr1
            obtain ⟨jts, _, it1, _⟩ := I1.tuple tp
            obtain ⟨_, O, _⟩ := ins_get I1.hok at_
            have right : wpAny (model X.prog X.w) X.A (tryCompare (.ref p) "__eq__" (.ref a)) (fun r2 s2 => r2 = none ∧ Inv X pins σ H1 s2) X.xe s1 :=
              wpAny_tryCompare_declines it1.typeIs PySem.F.slot_tuple_eq (wpAny_call (codeAny_call_builtin PySem.F.slot_tuple_eq.plain PySem.F.entry_tuple_eq (PySem.F.slot_tuple_eq.check _ _ _ _ _ _ _ _ it1.typeIs (PySem.F.args_tuple_eq_2 _ _) (tup_ni I1.kIn (nt _ hC) it1 O.obj ⟨rfl, rfl, I1⟩))))
            dsimp only
            refine wpAny_bind (wpAny_mono right (fun r2 s2 h2 => ?_) fun _ _ z => z)
            obtain ⟨rfl, I2⟩ := h2
            obtain ⟨_, O2, _⟩ := ins_get I2.hok at_
            obtain ⟨kts, _, it2, _⟩ := I2.tuple tp
            obtain ⟨ot, ht, hct, _⟩ := it2
            have hne : a ≠ p := fun z => by
              subst z
              have y := O2.obj.symm.trans ht
              cases y
              cases hct
            exact wpAny_bind (wpAny_rule (wpAny_bind (wpAny_isSame_ref_other hne O2.obj ht (fun z => by cases z) (wpAny_pure ⟨.bl false, H1, I2, rfl, q⟩))))
        | ex _ _ _ =>
          rw [hc] at P
          exact P.elim
        | bad =>
          rw [hc] at P
          exact P.elim
      · exact P.elim
    | _ => exact P.elim
  | _ => exact P.elim
end
/-! ### truth by __bool__ -/
def gBl : Dm → Mem → R Bool
  | .bl b, M => .ok b M
  | _, _ => .bad
def tOwnB (C : Str) (h : SF) (fe : SE Dm) : SE Bool := fun r M => (fe r M).bind (oOwn C h gBl)
section
variable {X : Cx} {T : Tb} {W : WX} {k : Nat} {C : Str} {h : SF} {e : Expr} {fe : SE Dm}
theorem dt_ownB (O : Own1 X T k C "__bool__" h) (tk : L2N.Takes X W) (st : Site X k) (he : DE X T W e fe) (hi : ∀ whole, isTrue e X.env whole = (do let v ← whole; standAt e.pos; holding [v] (truthy v)) := by intro _; rfl) : DT X T W e (tOwnB C h fe) := by
  refine ⟨fun pins s σ H Q I ⟨B, im, ow, r, M, S, P⟩ => isTrue_plain (thn (he.run pins s σ H (fun v H1 => ∃ im1 M1 d, StRel (gm X T) B im1 ow r M1 σ H1 ∧ Rep (gm X T) (ns B.F im1 ow) im1 H1 v d ∧ Post rlB (gm X T) B W im1 ow r σ H1 (oOwn C h gBl d M1) Q) I
    ⟨B, im, ow, r, M, S, Post.bind (k := oOwn C h gBl) (rl' := rlB) P fun d M1 v im1 H1 _ S1 E1 p1 r1 P1 => ⟨im1, M1, d, S1, r1, P1⟩⟩) fun u s1 hu => ?_) (hi _)⟩
  obtain ⟨v, H1, I1, rv, im1, M1, d, S1, q, P1⟩ := hu
  obtain ⟨c, Ca, f, ox, od, rfl, J, hm, hC, run⟩ := own_run O tk I1 S1 q P1
  obtain rfl : u = Value.ref c := rv
  obtain ⟨mf, hF⟩ := I1.fr
  refine PySem.W.truthy_K hF I1.ok.mod.kin J hm.at_ hm.fn (wpAny_mono (run _ s1 st.room st.gu I1.env0 I1) (fun w s2 hw => ?_) fun _ _ z => z)
  obtain ⟨z, H2, im2, M2, y, I2, rz, S2, r2, P2⟩ := hw
  cases r2 with
  | bl b =>
    obtain rfl : w = Value.bool b := rz
    exact ⟨H2, I2, (show Post rlB (gm X T) B W im2 ow r σ H2 (.ok b M2) Q from P2).here S2 rfl⟩
  | _ => exact P2.elim
end
/-! ### readings as rewriting rules -/
section
variable {C : Str} {h : SF} {M : Mem} {r : Sl} {fe fo : SE Dm} {c : List Dm → Mem → R Bool} {own : List Nat} {it : SE (List Dm)} {kk : Dm → Option (List (Nat × Dm))} {t : SE Bool} {ek e : SE Dm}
@[simp] theorem gBl_ap {b : Bool} : gBl (.bl b) M = .ok b M := Eq.trans rfl rfl
@[simp] theorem tOwnB_ap : tOwnB C h fe r M = (fe r M).bind (oOwn C h gBl) := Eq.trans rfl rfl
@[simp] theorem oEqT_ap {C1 : Str} {fs : List (Str × Dm)} {z : List Dm} : oEqT C c (.obj C1 fs) (.tup z) M = if C1 = C then (match c [.obj C1 fs, .tup z] M with
    | .ok true M1 => .ok (.bl false) M1
    | _ => .bad) else .bad := Eq.trans rfl rfl
@[simp] theorem sIdx_ap : sIdx fo fe r M = (fo r M).bind fun x M1 => match x with
  | .str a => (fe r M1).bind fun y M2 => oIndex (.str a) y M2
  | _ => .bad := Eq.trans rfl rfl
@[simp] theorem oUpper_ap {a : Str} : oUpper (.str a) M = if a.length ≤ 5592405 then .ok (.str (Txt.upper a)) M else .bad := Eq.trans rfl rfl
@[simp] theorem oIndex_ap {a b : Str} : oIndex (.str a) (.str b) M = match Builtin.Str.occurrences a b 0 a.length 1 with
    | i :: _ => .ok (.int (i : Nat)) M
    | [] => .bad := Eq.trans rfl rfl
@[simp] theorem fDc_ap : fDc own it kk t ek e r M = (it r M).bind fun ds M1 => if noOwn r own = true then dcGo kk t ek e (wipeS r own) ds [] M1 else .bad := Eq.trans rfl rfl
@[simp] theorem fLc_ap : fLc own it kk t e r M = (it r M).bind fun ds M1 => if noOwn r own = true then lcGo kk t e (wipeS r own) ds [] M1 else .bad := Eq.trans rfl rfl
end
end Dy

/-! Dy44: the end's tables from what the head tells. -/
namespace Dy
open PySem
open PySem.Spec
open L2

/-- the code objects of the defs ls, their tables, the names of their lambdas -/
def csOf (K : PySem.W.Frag) (ls : List (He.Defn × Str)) : List (Addr × Addr × Str) := ls.map fun p => ((He.cT K p.1).1, (He.cT K p.1).2, p.2)
section
variable {fa : List He.Fa} {fn : List He.DefD} {ls : List (He.Defn × Str)} {st : List StD} {ex : PySem.W.Frag → Bool} {w : World} {h base : Heap} {K : PySem.W.Frag} {mg : Str → Option Value}
theorem cs_of (c : SaysS fa fn (ls.map (·.1)) st ex w h K) : (∀ p ∈ csOf K ls, h.get? p.2.1 = some { cls := .none, data := .fields #[] }) ∧ (∀ p ∈ csOf K ls, K.lookup p.2.1 = none) ∧ ∀ p ∈ csOf K ls, PySem.W.codeHdIn K p.1 p.2.1 = true := by
  refine ⟨fun p hp => ?_, fun p hp => ?_, fun p hp => ?_⟩ <;> obtain ⟨q, hq, rfl⟩ := List.mem_map.mp hp
  · exact c.empty _ (List.mem_map.mpr ⟨q, hq, rfl⟩)
  · exact c.out _ (List.mem_map.mpr ⟨q, hq, rfl⟩)
  · exact c.hd _ (List.mem_map.mpr ⟨q, hq, rfl⟩)
theorem el_top (TB : ∀ p ∈ csOf K ls, LamX.TabB base mg p.1 p.2.1) (dis : (ls.all fun p => ls.all fun q => decide ((He.cT K p.1).2 = (He.cT K q.1).2 → p.2 = q.2)) = true) : EL ls K mg base ⟨(csOf K ls).map (·.2), [], none, none, none⟩ :=
  ⟨rfl, by unfold csOf; rw [List.map_map]; rfl, fun p hp => TB _ (List.mem_map.mpr ⟨p, hp, rfl⟩), dis⟩
end
end Dy

/-! Dy45: repr of small data: it fits, its signs are signs. -/
namespace Dy
open PySem
open PySem.Spec
open L2

/-- the signs of a text are printable ASCII -/
def asc (x : Str) : Bool := x.cps.toList.all fun c => decide (32 ≤ c ∧ c < 127)
/-- how long the repr of a datum may be; none: not small -/
def wt : Nat → Dm → Option Nat
  | _, .non => some 4
  | _, .bl _ => some 5
  | _, .int i => if i.natAbs < 10 ^ 60 then some 61 else none
  | _, .str x => if asc x = true then some (10 * x.length + 2) else none
  | n + 1, .tup xs => (go n xs).map (· + 3)
  | n + 1, .lst xs => (go n xs).map (· + 3)
  | _, _ => none
where go (n : Nat) : List Dm → Option Nat
  | [] => some 0
  | x :: xs => match wt n x, go n xs with
    | some a, some b => some (a + 2 + b)
    | _, _ => none
theorem sok_iff' {x : Str} : PyData.strOk x = true ↔ ∀ d ∈ x.cps.toList, d < 0x110000 := by
  unfold PyData.strOk
  rw [Array.all_eq_true']
  simp
theorem sok_app {a b : Str} (h1 : PyData.strOk a = true) (h2 : PyData.strOk b = true) : PyData.strOk (a ++ b) = true := by
  unfold PyData.strOk at *
  rw [show (a ++ b).cps = a.cps ++ b.cps from rfl, Array.all_append, h1, h2]
  rfl
theorem sok_of (s : String) : PyData.strOk (Str.ofString s) = true := by
  rw [sok_iff', PyProof.Rows.signs_ofString]
  intro d hd
  obtain ⟨c, _, rfl⟩ := List.mem_map.mp hd
  have h := c.valid
  have e : c.toNat = c.val.toNat := rfl
  rcases h with h | ⟨_, h⟩
  · rw [e]
    have : c.val.toNat < 0xD800 := h
    omega
  · rw [e]
    exact h
theorem rc_asc : ((List.range 127).all fun c => decide (c < 32) || ((Builtin.Str.reprChar 39 c).all (fun d => decide (d < 0x110000)) && (Builtin.Str.reprChar 34 c).all (fun d => decide (d < 0x110000)))) = true := by decide +kernel
theorem rc_go (q : Nat) : ∀ (l : List Nat) (acc : Array Nat), (∀ c ∈ l, ∀ d ∈ Builtin.Str.reprChar q c, d < 0x110000) → (∀ d ∈ acc, d < 0x110000) → ∀ d ∈ l.foldl (fun out c => out ++ (Builtin.Str.reprChar q c).toArray) acc, d < 0x110000
  | [], acc, _, h2 => h2
  | c :: l, acc, h1, h2 => rc_go q l _ (fun y hy => h1 y (List.mem_cons_of_mem _ hy)) fun d hd => by
    rcases Array.mem_append.mp hd with hd | hd
    · exact h2 d hd
    · exact h1 c List.mem_cons_self d (List.mem_toArray.mp hd)
theorem sok_rep {x : Str} (h : asc x = true) : PyData.strOk (PySem.reprText x) = true := by
  have hq : PySem.reprQuote x = 39 ∨ PySem.reprQuote x = 34 := by
    unfold PySem.reprQuote
    split
    · exact .inr rfl
    · exact .inl rfl
  have hq2 : PySem.reprQuote x < 0x110000 := by rcases hq with e | e <;> rw [e] <;> decide
  unfold PyData.strOk
  rw [Array.all_eq_true']
  intro d hd
  refine decide_eq_true ?_
  unfold PySem.reprText at hd
  rcases Array.mem_push.mp hd with hd | hd
  · rw [← Array.foldl_toList] at hd
    refine rc_go (PySem.reprQuote x) x.cps.toList _ (fun c hc d hd => ?_) (fun d hd => ?_) d hd
    · have z := of_decide_eq_true (List.all_eq_true.mp h c hc)
      have y := List.all_eq_true.mp rc_asc c (List.mem_range.mpr (by omega))
      rw [decide_eq_false (by omega), Bool.false_or, Bool.and_eq_true, List.all_eq_true, List.all_eq_true] at y
      rcases hq with e | e
      · rw [e] at hd
        exact of_decide_eq_true (y.1 d hd)
      · rw [e] at hd
        exact of_decide_eq_true (y.2 d hd)
    · rw [Array.mem_singleton] at hd
      rw [hd]
      exact hq2
  · rw [hd]
    exact hq2
theorem tf_ok : ∀ (ts : List Str) (k : Nat) (acc : Str), PyData.strOk acc = true → (∀ t ∈ ts, PyData.strOk t = true) → PyData.strOk (textFrom k acc ts) = true ∧ (textFrom k acc ts).length ≤ acc.length + piled ts
  | [], k, acc, h, _ => ⟨h, Nat.le_refl _⟩
  | t :: ts, k, acc, h, h2 => by
    have hs : PyData.strOk (Str.ofString (if k > 0 then ", " else "" : String)) = true ∧ (Str.ofString (if k > 0 then ", " else "" : String)).length ≤ 2 := by
      split
      · exact ⟨by decide +kernel, by decide +kernel⟩
      · exact ⟨by decide +kernel, by decide +kernel⟩
    obtain ⟨a, b⟩ := tf_ok ts (k + 1) (acc ++ (if k > 0 then ", " else "" : String) ++ t) (sok_app (sok_app h hs.1) (h2 t List.mem_cons_self)) fun y hy => h2 y (List.mem_cons_of_mem _ hy)
    refine ⟨a, Nat.le_trans b ?_⟩
    rw [strLen_append, strLen_append, piled_cons]
    have := hs.2
    omega
theorem jn_ok : ∀ (ts : List Str), (∀ t ∈ ts, PyData.strOk t = true) → PyData.strOk (Str.join ", " ts) = true ∧ (Str.join ", " ts).length ≤ piled ts
  | [], _ => ⟨by decide +kernel, by decide +kernel⟩
  | [x], h => ⟨h x List.mem_cons_self, by
    show x.length ≤ piled [x]
    rw [piled_cons]
    omega⟩
  | x :: y :: r, h => by
    obtain ⟨a, b⟩ := jn_ok (y :: r) fun z hz => h z (List.mem_cons_of_mem _ hz)
    have e : PyData.strOk (", " : Str) = true ∧ (", " : Str).length = 2 := ⟨by decide +kernel, by decide +kernel⟩
    refine ⟨sok_app (sok_app (h x List.mem_cons_self) e.1) a, ?_⟩
    show (x ++ ", " ++ Str.join ", " (y :: r)).length ≤ _
    rw [strLen_append, strLen_append, e.2, piled_cons]
    omega
structure Sm (n : Nat) (d : Dm) (a : Nat) : Prop where
  sh : (toP n d).showable = true
  ok : okN n d = true
  st : PyData.strOk (toP n d).shown = true
  ln : (toP n d).shown.length ≤ a
theorem asc_ok {x : Str} (h : asc x = true) : PyData.strOk x = true := by
  rw [sok_iff']
  intro d hd
  have := of_decide_eq_true (List.all_eq_true.mp h d hd)
  omega
theorem sm_str {n : Nat} {x : Str} (h : asc x = true) : Sm n (.str x) (10 * x.length + 2) := by
  have e : toP n (.str x) = .str x := by cases n <;> rfl
  refine ⟨by rw [e]; rfl, by cases n <;> exact asc_ok h, by rw [e]; exact sok_rep h, ?_⟩
  rw [e]
  exact StrLaws.reprText_len x fun c hc => Nat.lt_trans (of_decide_eq_true (List.all_eq_true.mp h c hc)).2 (by decide)
theorem sm_int {n : Nat} {i : Int} (h : i.natAbs < 10 ^ 60) : Sm n (.int i) 61 := by
  have e : toP n (.int i) = .int i := by cases n <;> rfl
  refine ⟨?_, by cases n <;> rfl, by rw [e]; exact sok_of _, ?_⟩
  · rw [e]
    refine decide_eq_true ?_
    by_cases z : i.natAbs = 0
    · rw [z]
      decide
    · rw [Nat.log2_lt z]
      exact Nat.lt_of_lt_of_le h (by decide +kernel)
  · rw [e]
    have z := int_text_length_le10 (a := i) (k := 60) (by decide) h
    show (Str.ofString (toString i)).length ≤ 61
    have e2 : (Str.ofString (toString i)).length = (toString i).length := by
      show (Str.ofString (toString i)).cps.size = _
      rw [← Array.length_toList, PyProof.Rows.signs_ofString, List.length_map]
      rfl
    rw [e2]
    exact z
theorem sm_all {n : Nat} (ih : ∀ d a, wt n d = some a → Sm n d a) : ∀ (ds : List Dm) (a : Nat), wt.go n ds = some a → PyData.showableAll (ds.map (toP n)) = true ∧ ds.all (okN n) = true ∧ (∀ t ∈ PyData.shownAll (ds.map (toP n)), PyData.strOk t = true) ∧ piled (PyData.shownAll (ds.map (toP n))) ≤ a
  | [], a, h => ⟨rfl, rfl, fun t ht => (nomatch ht), Nat.zero_le _⟩
  | d :: ds, a, h => by
    unfold wt.go at h
    split at h
    · rename_i x y hx hy
      cases h
      have s1 := ih d x hx
      obtain ⟨a1, a2, a3, a4⟩ := sm_all ih ds y hy
      refine ⟨?_, ?_, ?_, ?_⟩
      · show (PyData.showable (toP n d) && PyData.showableAll (ds.map (toP n))) = true
        rw [s1.sh, a1]
        rfl
      · rw [List.all_cons, s1.ok, a2]
        rfl
      · intro t ht
        rcases List.mem_cons.mp (show t ∈ (toP n d).shown :: PyData.shownAll (ds.map (toP n)) from ht) with rfl | ht
        · exact s1.st
        · exact a3 t ht
      · show piled ((toP n d).shown :: PyData.shownAll (ds.map (toP n))) ≤ _
        rw [piled_cons]
        have := s1.ln
        omega
    · cases h
theorem sm_non {n : Nat} : Sm n .non 4 := by
  have e : toP n .non = .none := by cases n <;> rfl
  exact ⟨by rw [e]; rfl, by cases n <;> rfl, by rw [e]; decide +kernel, by rw [e]; decide +kernel⟩
theorem sm_bl {n : Nat} {b : Bool} : Sm n (.bl b) 5 := by
  have e : toP n (.bl b) = .bool b := by cases n <;> rfl
  exact ⟨by rw [e]; rfl, by cases n <;> rfl, by rw [e]; cases b <;> decide +kernel, by rw [e]; cases b <;> decide +kernel⟩
theorem sm_of : ∀ (n : Nat) (d : Dm) (a : Nat), wt n d = some a → Sm n d a := by
  intro n
  induction n with
  | zero =>
    intro d a h
    cases d with
    | non => cases h; exact sm_non
    | bl b => cases h; exact sm_bl
    | int i =>
      have h' : (if i.natAbs < 10 ^ 60 then some 61 else none) = some a := h
      split at h'
      · rename_i z
        cases h'
        exact sm_int z
      · cases h'
    | str x =>
      have h' : (if asc x = true then some (10 * x.length + 2) else none) = some a := h
      split at h'
      · rename_i z
        cases h'
        exact sm_str z
      · cases h'
    | _ => cases h
  | succ n ih =>
    intro d a h
    cases d with
    | non => cases h; exact sm_non
    | bl b => cases h; exact sm_bl
    | int i =>
      have h' : (if i.natAbs < 10 ^ 60 then some 61 else none) = some a := h
      split at h'
      · rename_i z
        cases h'
        exact sm_int z
      · cases h'
    | str x =>
      have h' : (if asc x = true then some (10 * x.length + 2) else none) = some a := h
      split at h'
      · rename_i z
        cases h'
        exact sm_str z
      · cases h'
    | tup xs =>
      have h' : (wt.go n xs).map (· + 3) = some a := h
      cases hg : wt.go n xs with
      | none =>
        rw [hg] at h'
        cases h'
      | some b =>
        rw [hg] at h'
        cases h'
        obtain ⟨a1, a2, a3, a4⟩ := sm_all ih xs b hg
        obtain ⟨j1, j2⟩ := jn_ok _ a3
        have hc : PyData.strOk (Str.ofString (if (PyData.shownAll (xs.map (toP n))).length == 1 then ",)" else ")" : String)) = true ∧ (Str.ofString (if (PyData.shownAll (xs.map (toP n))).length == 1 then ",)" else ")" : String)).length ≤ 2 := by
          split
          · exact ⟨by decide +kernel, by decide +kernel⟩
          · exact ⟨by decide +kernel, by decide +kernel⟩
        refine ⟨a1, a2, ?_, ?_⟩
        · exact sok_app (sok_app (by decide +kernel) j1) hc.1
        · show (("(" : Str) ++ Str.join ", " (PyData.shownAll (xs.map (toP n))) ++ (if (PyData.shownAll (xs.map (toP n))).length == 1 then ",)" else ")" : String)).length ≤ b + 3
          rw [strLen_append, strLen_append]
          have e1 : ("(" : Str).length = 1 := by decide +kernel
          rw [e1]
          have := hc.2
          omega
    | lst xs =>
      have h' : (wt.go n xs).map (· + 3) = some a := h
      cases hg : wt.go n xs with
      | none =>
        rw [hg] at h'
        cases h'
      | some b =>
        rw [hg] at h'
        cases h'
        obtain ⟨a1, a2, a3, a4⟩ := sm_all ih xs b hg
        obtain ⟨j1, j2⟩ := tf_ok (PyData.shownAll (xs.map (toP n))) 0 "[" (by decide +kernel) a3
        refine ⟨a1, a2, ?_, ?_⟩
        · exact sok_app j1 (by decide +kernel)
        · show (textFrom 0 "[" (PyData.shownAll (xs.map (toP n))) ++ "]").length ≤ b + 3
          rw [strLen_append]
          have e1 : ("[" : Str).length = 1 := by decide +kernel
          have e2 : ("]" : Str).length = 1 := by decide +kernel
          rw [e1] at j2
          rw [e2]
          omega
    | _ => cases h
/-- repr of small data, twice: the same text -/
theorem repr_sm {d : Dm} {a : Nat} (h : wt dep d = some a) (ha : a ≤ 10000000) (M : Mem) : oRepr [d] M = .ok (.str (toP dep d).shown) M ∧ oNe (.str (toP dep d).shown) (.str (toP dep d).shown) M = .ok (.bl false) M := by
  have s := sm_of dep d a h
  have z : (10000000 : Nat) ≤ sizeLine := by decide
  refine ⟨if_pos ⟨s.ok, s.sh, Nat.le_trans s.ln (Nat.le_trans ha z)⟩, ?_⟩
  unfold oNe
  have o : okN dep (.str (toP dep d).shown) = true := s.st
  rw [if_pos ⟨o, o⟩]
  have e : eqP (.str (toP dep d).shown) (.str (toP dep d).shown) = true := beq_self_eq_true (toP dep d).shown
  rw [e]
  rfl
/-! ### readings as rewriting rules -/
section
variable {r : Sl} {M : Mem} {i j n : Nat} {fp : SE (List Dm)} {cb : SF} {f fv fo : SE Dm} {ds : List Dm} {d : Dm} {cl : List Str} {x : Str}
@[simp] theorem sPin_ap : sPin i n fp cb r M = match r[i]? with
  | some .pin => (fp r M).bind fun ds M1 => if ds.length = n then cb ds M1 else .bad
  | _ => .bad := Eq.trans rfl rfl
@[simp] theorem lamF_ap {js : List Nat} : lamF r js f ds M = f (setsS (hide r) (js.zip ds)) M := Eq.trans rfl rfl
@[simp] theorem sHof_ap {F : SF → SF} {c : Sl → SF} : sHof fp n c F r M = (fp r M).bind fun ds M1 => if ds.length = n then F (c r) ds M1 else .bad := Eq.trans rfl rfl
@[simp] theorem sEnum_ap : sEnum f r M = (f r M).bind oEnum := Eq.trans rfl rfl
@[simp] theorem oEnum_tup : oEnum (.tup ds) M = .ok (enD ds) M := Eq.trans rfl rfl
@[simp] theorem oEnum_str {z : Str} : oEnum (.str z) M = .ok (enD (z.cps.toList.map fun k => .str ⟨#[k]⟩)) M := Eq.trans rfl rfl
@[simp] theorem sPut_ap : sPut cl x fv fo r M = RS.of (fv r M) r fun y M1 => RS.of (fo r M1) r fun d M2 => match d with
  | .ref i => match M2[i]? with
    | some (.ins C fs) => if C ∈ cl ∧ fs.length < 1000 then .nx r (M2.set i (.ins C (putD x y fs))) else .bad
    | _ => .bad
  | _ => .bad := Eq.trans rfl rfl
@[simp] theorem aAttr_ap : aAttr i cl x d r M = match r[i]? with
  | some (.val (.ref j)) => match M[j]? with
    | some (.ins C fs) => if C ∈ cl ∧ fs.length < 1000 then .nx r (M.set j (.ins C (putD x d fs))) else .bad
    | _ => .bad
  | _ => .bad := Eq.trans rfl rfl
@[simp] theorem runP_ap {m : Nat} {b : SS} : runP m b ds M = endB (b (ds.map Slot.val ++ .pin :: List.replicate m .un) M) := Eq.trans rfl rfl
@[simp] theorem endB_nx : endB (.nx r M) = .ok .non M := Eq.trans rfl rfl
@[simp] theorem endB_rt : endB (.rt d M) = .ok d M := Eq.trans rfl rfl
end
end Dy

/-! Dy46: x[i] where x is the frame's own list. -/
namespace Dy
open PySem
open PySem.Spec
open PyProof.Rows hiding St
open L2

/-- x[i], x a name with a list of its own -/
def sOGet (i : Nat) (fk : SE Dm) : SE Dm := fun r M => match r[i]? with
  | some (.own (.lst ds)) => (fk r M).bind fun d M1 => match d with
    | .int j => match atI ds j with
      | some y => .ok y M1
      | none => .bad
    | _ => .bad
  | _ => .bad
section
variable {X : Cx} {T : Tb} {W : WX} {b : Expr} {fk : SE Dm} {pos p1 : Pos} {i : Nat} {x : Str}
theorem de_oget (hN : X.N[i]? = some x) (hv : Vis X.env.scope x) (hk : DE X T W b fk) (hs : PlainIx b) (hd : (x == ("__debug__" : Str)) = false := by decide) (hc : (x == ("__classdict__" : Str)) = false := by decide) : DE X T W (.Subscript (.Name x p1) b pos) (sOGet i fk) :=
  pe_le (pe_ix ix_seq (pe_var hN hv hd hc) hk hs) fun σ H Q ⟨B, im, ow, r, M, S, P⟩ => by
    unfold sOGet at P
    cases hr : r[i]? with
    | none =>
      simp only [hr] at P
      exact P.elim
    | some s =>
      cases s with
      | own m =>
        cases m with
        | lst ds =>
          simp only [hr] at P
          obtain ⟨a0, f0, f1, f2⟩ := S.sl i _ hr
          refine ⟨.ref a0, f1, B, im, ow, r, M, S, Post.bind (rl := rlV) P fun d M1 v im1 H1 _ S1 E1 p2 r1 P1 => ?_⟩
          obtain ⟨a, h1, h2, xs, h3, h4⟩ := S1.sl i _ hr
          rw [f1] at h2
          cases h2
          cases r1 with
          | int j =>
            cases e : atI ds j with
            | none =>
              simp only [e] at P1
              exact P1.elim
            | some y =>
              simp only [e] at P1
              obtain ⟨u, hu, ru⟩ := atI_reps h4 e
              exact .inl ⟨a0, xs, j, u, rfl, rfl, SqL.of h3, hu, P1.here S1 ru⟩
          | _ => exact P1.elim
        | _ =>
          simp only [hr] at P
          exact P.elim
      | _ =>
        simp only [hr] at P
        exact P.elim
end
end Dy

/-! Dy49: a comparison of two instances, or of two other data. -/
namespace Dy
open PySem
open PySem.Spec
open PyProof.Rows hiding St
open L2

def isO : Dm → Bool
  | .obj _ _ => true
  | _ => false
/-- o1 of two instances, o2 of other data -/
def oIfO (o1 o2 : Dm → Dm → Mem → R Dm) : Dm → Dm → Mem → R Dm := fun x y M => if (isO x && isO y) = true then o1 x y M else o2 x y M
theorem op_ifO {X : Cx} {T : Tb} {W : WX} {f : Value → Value → Sem Value} {o1 o2 : Dm → Dm → Mem → R Dm} (h1 : OpD X T W f o1) (h2 : OpD X T W f o2) : OpD X T W f (oIfO o1 o2) := by
  intro pins s B im ow r M σ H x y v w u1 u2 Q I rv rw' S q1 q2 P
  unfold oIfO at P
  split at P
  · exact h1 pins s B im ow r M σ H x y v w u1 u2 Q I rv rw' S q1 q2 P
  · exact h2 pins s B im ow r M σ H x y v w u1 u2 Q I rv rw' S q1 q2 P
theorem op_neG {X : Cx} {T : Tb} {W : WX} (s : Ut X) : OpD X T W (compareOp .NotEq) oNe := OpD.of (op_neD s.u64) s_ne
theorem op_eqG {X : Cx} {T : Tb} {W : WX} (s : Ut X) : OpD X T W (compareOp .Eq) oEq := OpD.of (op_eqD s.u64) s_eq
end Dy

/-! Dy50: exceptions of own classes over ValueError whose __init__ stores its one argument: made and raised. -/
namespace Dy
open PySem
open PySem.Spec
open PyProof.Rows hiding St
open L2

/-- what such an __init__ keeps -/
def spI (C : Addr) (f : Str) : Sp := fun vs H Q _ => ∃ (a : Addr) (y : V), vs = [.ref a, y] ∧ H a = some (exo a C none) ∧ ∀ dx, H dx = none → dx ≠ a → Q .non (upd (upd H dx (exd dx [(f, y)])) a (exo a C (some dx)))
section
variable {P : Program} {w : World} {K : PySem.W.Frag} {mg : Str → Option Value} {base : Heap} {x qual : Str} {params : Arguments} {body : List Stmt} {scope : Scope} {fd : FuncData} {s y f : Str} {C fI : Addr} {p1 p2 p3 pos : Pos} {CX : CXT}
theorem fn_init (F : FunD K x qual params body scope [] [] fI fd) (S : FnScope [s, y] [s, y] scope) (T : OexC K C) (hno : PySem.W.findIn K (.ref C) f = some none) (h0 : ∀ cdv A outer s1 H E, Vis (cxOf CX P w K mg base [s, y] qual scope fI cdv A outer s1 H E).env.scope s ∧ Vis (cxOf CX P w K mg base [s, y] qual scope fI cdv A outer s1 H E).env.scope y)
    (hd : (s == ("__debug__" : Str)) = false ∧ (s == ("__classdict__" : Str)) = false ∧ (y == ("__debug__" : Str)) = false ∧ (y == ("__classdict__" : Str)) = false)
    (hb : body = [.Assign [.Attribute (.Name s p1) f p2] (.Name y p3) pos]) : FnOk P w K mg base CX 1 fI fd [s, y] (spI C f) := by
  subst hb
  refine F.ok S (fun vs H Q E h => by
    obtain ⟨a, z, e, _⟩ := h
    rw [e]
    rfl) fun cdv A outer s1 H vs Q E hr ⟨a, z, e, ha, q⟩ => ?_
  subst e
  refine ⟨_, pss_one (ps_ost (pe_var (i := 0) rfl (h0 cdv A outer s1 H E).1 hd.1 hd.2.1) (pe_var (i := 1) rfl (h0 cdv A outer s1 H E).2 hd.2.2.1 hd.2.2.2)), ?_⟩
  exact ⟨z, rfl, .ref a, rfl, a, C, rfl, T, hno, .inl ⟨ha, q⟩⟩
end
section
variable {X : Cx} {T : Tb} {W : WX} {e : Expr} {te : TE} {fe : SE Dm} {x f : Str} {C fI : Addr} {k : Nat} {fd : FuncData} {ps : List Str} {p pos pos' : Pos}
theorem upd_del {H1 : Hp} {a dx : Addr} {u o1 o2 o3 : HO} (hn : H1 a = none) (hda : dx ≠ a) : upd (del (upd (upd (upd H1 a o1) dx o2) a o3) a) dx u = upd H1 dx u := by
  funext b
  by_cases h1 : b = dx
  · subst h1
    rw [upd_same, upd_same]
  · rw [upd_ne h1, upd_ne h1]
    by_cases h2 : b = a
    · subst h2
      rw [del_same, hn]
    · rw [del_ne h2, upd_ne h2, upd_ne h1, upd_ne h2]
/-- C(e) -/
theorem pmk_one (T1 : OexC X.K C) (iC : PySem.W.findIn X.K (.ref C) "__init__" = some (some (.ref fI))) (tI : PySem.W.typeIn X.K (.ref fI) = some (.type "function")) (F1 : FnOk X.prog X.w X.K X.mg X.base (L2N.CX X.prog X.w) k fI fd ps (spI C f)) (site : Site X (k + 1))
    (hb : Binds X.K fd ps []) (tk : L2N.Takes X W) (hg : Gl X x) (hm : X.mg x = some (.ref C)) (ha : PE X e te) (hdb : (x == ("__debug__" : Str)) = false := by decide) (he : starEach [e] X.env = (false, eval e X.env) :: starEach [] X.env := by rfl) :
    L2N.PMk X (.Call (.Name x p) [e] [] pos) (fun σ H Q => te σ H fun y H1 => ∀ d, H1 d = none → Q (.ref C) (some d) (upd H1 d (.xd [(f, y)]))) := by
  intro pins s σ H Q I h
  obtain ⟨c1, c2, c3, c4, bms, c5, c6, c7, c8, c9, l0, l1, l2, l3, l5, hC, hbm⟩ := T1.cls
  have h' : tCons te tNil σ H (fun vs H1 => ∃ z, vs = [z] ∧ ∀ d, H1 d = none → Q (.ref C) (some d) (upd H1 d (.xd [(f, z)]))) := by
    have e : (fun (y : V) H1 => ∀ d, H1 d = none → Q (.ref C) (some d) (upd H1 d (.xd [(f, y)]))) = fun y H1 => ∃ z, [y] = [z] ∧ ∀ d, H1 d = none → Q (.ref C) (some d) (upd H1 d (.xd [(f, z)])) := by
      funext y H1
      refine propext ⟨fun q => ⟨y, rfl, q⟩, fun ⟨z, ez, q⟩ => ?_⟩
      cases ez
      exact q
    rw [e] at h
    exact h
  refine wpAny_Call_Name_kw (ld_glob I hg hm ?_ hdb)
  refine PySem.W.callWith_K (h₀ := X.base) I.ok.mod.kin T1.kC (thn ((pa_cons ha pa_nil he).run pos pins s σ H (fun vs H1 => ∃ z, vs = [z] ∧ ∀ d, H1 d = none → Q (.ref C) (some d) (upd H1 d (.xd [(f, z)]))) I h') fun us s1 ⟨vs, H1, I1, r1, z, ez, q1⟩ => ⟨I1.kIn, ?_⟩) he rfl
  subst ez
  show wpAny _ _ (call (.ref C) us) _ _ _
  obtain ⟨hp, gs, dr, tk1, os⟩ := s1
  generalize ea : hp.objs.size + 1 = a
  have hsz : hp.objs.size ≤ a := by omega
  have hn : H1 a = none := I1.hok.fresh hsz
  have hq : spI C f (.ref a :: [z]) (upd H1 a (exo a C none)) (fun v H2 => v = .non ∧ ∃ (d : Addr) (fs : List (Str × V)), H2 a = some (exo a C (some d)) ∧ H2 d = some (exd d fs) ∧ H1 d = none ∧ Q (.ref C) (some d) (upd (del H2 a) d (.xd fs))) (fun _ _ _ => False) :=
    ⟨a, z, rfl, upd_same, fun dx e1 ne => by
      rw [upd_ne ne] at e1
      refine ⟨rfl, dx, [(f, z)], upd_same, ?_, e1, ?_⟩
      · rw [upd_ne ne, upd_same]
      · rw [upd_del hn ne]
        exact q1 dx e1⟩
  have grow : ∀ b o, hp.get? b = some o → ((hp.push (PySem.W.kdv_tup us)).push (PySem.HandSPX.excO C hp.objs.size)).get? b = some o := fun b o y => Heap.get?_push_of_some _ (Heap.get?_push_of_some _ y)
  have lay : ((hp.push (PySem.W.kdv_tup us)).push (PySem.HandSPX.excO C hp.objs.size)).get? a = some (PySem.HandSPX.excO C hp.objs.size) := by
    rw [← ea]
    heap_get
  have I2 := I1.laid (t' := tk1) (a := a) (o := exo a C none) (h' := (hp.push (PySem.W.kdv_tup us)).push (PySem.HandSPX.excO C hp.objs.size)) grow hsz (exo_ok lay)
  have r2 : Vals (V.ref a :: [z]) (Value.ref a :: us) := .cons rfl r1
  have hl : (Value.ref a :: us ++ []).length = ps.length := by
    have y1 := r2.length
    have y2 := F1.len _ _ _ _ hq
    rw [List.append_nil]
    omega
  have hus : us.length ≤ sizeLine := by
    have y1 := Paired.length r1
    rw [← y1]
    show 1 ≤ sizeLine
    decide
  have bnd := hb _ (Value.ref a :: us) I2.kIn hl
  rw [List.append_nil] at bnd
  subst ea
  refine wpAny_call (PySem.HandSPX.call_own F.excBase_ValueError (fun Y => PySem.HandSPX.refsVE_contains Y bms hbm) (I1.kIn _ _ hC) (PySem.W.looks_findIn I1.kIn iC) (fun self => PySem.W.bind_fn I1.kIn self tI) hus
    (codeAny_mono (F1.run _ X.stack _ _ ⟨Value.ref (hp.objs.size + 1) :: us, []⟩ _ _ _ (fun _ _ _ => False) (site.room.make C us []) (I2.env0.make C us []) bnd r2 hq) fun r s' back => ?_))
  cases r with
  | error er => exact L2N.passes_call tk (fun _ _ _ _ w => w.elim) pins σ _ _ er s' I2 back
  | ok fl =>
    cases fl with
    | ret u =>
      obtain ⟨v, H2, os2, bare2, un2, hok2, rv, ev, d, fs, y1, y2, hd1, q2⟩ := back
      subst ev
      obtain ⟨h2, g2, d2, t2, os'⟩ := s'
      obtain ⟨t0, G, J, kG, ge, hoe, na⟩ := mk_end0 (d2 := d2) (t2 := t2) I1 hsz grow un2 hok2 os2 bare2 y1 y2 hd1
      refine ⟨rv, hp.objs.size + 1, _, _, ⟨G, g2, d2, t2, os'⟩, _, .ref C, some d, rfl, J, kG, ge, hoe, ⟨rfl, rfl, fun ws hv => ?_⟩, rfl, rfl, na, rfl, bare2, raises_own T1.exC T1.tyC, q2⟩
      cases hv
      rfl
    | next => exact False.elim back
    | brk => exact False.elim back
    | cont => exact False.elim back
/-- raise C(e) -/
def sRaise (C f : Str) (fe : SE Dm) : SS := fun r M => RS.of (fe r M) r fun d M1 => .ex r C [(f, d)] M1
theorem ds_raise {e' : Expr} {Cn : Str} (hc : X.calm = true) (tk : L2N.Takes X W) (mk : L2N.PMk X e' (fun σ H Q => (tD (gm X T) W fe) σ H fun y H1 => ∀ d, H1 d = none → Q (.ref C) (some d) (upd H1 d (.xd [(f, y)])))) (hm : X.mg Cn = some (.ref C)) : DS X T W (.Raise (some e') none pos') (sRaise Cn f fe) :=
  ps_le (L2N.ps_raise hc tk mk) fun σ H D ⟨B, im, ow, r, M, S, P⟩ => ⟨B, im, ow, r, M, S, PostS.of (rl := rlV) P fun d M1 v im1 H1 _ S1 E1 p1 r1 P1 => fun dx hdx =>
    P1 C (some dx) [(f, v)] im1 ow σ _ (S1.new hdx _) hm upd_same (fun y ey => by
      cases ey
      exact S1.fresh hdx) (.cons (r1.mono (Ext.new hdx) (List.prefix_refl _)) .nil)⟩
end
end Dy

/-! Dy51: an exception is handled: the relation on the way in and out. -/
namespace Dy
open PySem
open PySem.Spec
open PyProof.Rows hiding St
open L2

section
variable {g : Gm} {N : Av} {im : List Addr} {H : Hp} {T : Tb} (h0 : g.T.hot = none)
include h0
mutual
theorem Rep.warm : ∀ {v : V} {d : Dm}, Rep g N im H v d → Rep (g.to T) N im H v d
  | _, _, .non => .non
  | _, _, .bl b => .bl b
  | _, _, .int i => .int i
  | _, _, .str y => .str y
  | _, _, .tup h r => .tup h (Reps.warm r)
  | _, _, .lst h n r => .lst h n (Reps.warm r)
  | _, _, .frl h r => .frl h (Reps.warm r)
  | _, _, .dic h n r => .dic h n (RepK.warm r)
  | _, _, .obj c h n r => .obj c h n (RepF.warm r)
  | _, _, .exc c h n e ne r => .exc c h n e ne (RepF.warm r)
  | _, _, .ref h => .ref h
  | _, _, .glo h r => .glo h r
  | _, _, .ty n => .ty n
  | _, _, .hot h c e ne r => by
    rw [h0] at h
    cases h
theorem Reps.warm : ∀ {v : List V} {d : List Dm}, Reps g N im H v d → Reps (g.to T) N im H v d
  | _, _, .nil => .nil
  | _, _, .cons h r => .cons (Rep.warm h) (Reps.warm r)
theorem RepK.warm : ∀ {v : List (Key × V)} {d : List (Key × Dm)}, RepK g N im H v d → RepK (g.to T) N im H v d
  | _, _, .nil => .nil
  | _, _, .cons h r => .cons (Rep.warm h) (RepK.warm r)
theorem RepF.warm : ∀ {v : List (Str × V)} {d : List (Str × Dm)}, RepF g N im H v d → RepF (g.to T) N im H v d
  | _, _, .nil => .nil
  | _, _, .cons h r => .cons (Rep.warm h) (RepF.warm r)
end
theorem MoOk.warm {a : Addr} : ∀ {m : MO}, MoOk g N im H a m → MoOk (g.to T) N im H a m
  | .lst ds, ⟨xs, h, r⟩ => ⟨xs, h, r.warm h0⟩
  | .dic ds, ⟨xs, h, r⟩ => ⟨xs, h, r.warm h0⟩
  | .ins C ds, ⟨Ca, dx, xs, c, h, r⟩ => ⟨Ca, dx, xs, c, h, r.warm h0⟩
end
/-- with an exception that is handled -/
def Tb.heat (T : Tb) (p : Addr × Addr × Option Addr) : Tb := ⟨T.tabs, T.codes, T.rt, some p, T.pin⟩
section
variable {g : Gm} {B : Bs} {im : List Addr} {ow : Ow} {r : Sl} {M : Mem} {σ : L2.St} {H : Hp} {p : Addr × Addr × Option Addr}
theorem StRel.warm (S : StRel g B im ow r M σ H) (h0 : g.T.hot = none) : StRel (g.to (g.T.heat p)) B im ow r M σ H where
  len := S.len
  sl := fun i s e => by
    have h := S.sl i s e
    cases s with
    | un => exact h
    | val d =>
      obtain ⟨h1, y, h2, h3⟩ := h
      exact ⟨h1, y, h2, h3.warm h0⟩
    | own m =>
      obtain ⟨b, h1, h2, h3⟩ := h
      exact ⟨b, h1, h2, h3.warm h0⟩
    | pin => exact h
  out := S.out
  inj := S.inj
  sep := S.sep
  tr := S.tr
  mlen := S.mlen
  nd := S.nd
  mem := fun i m e => by
    obtain ⟨a, h1, h2⟩ := S.mem i m e
    exact ⟨a, h1, h2.warm h0⟩
  imF := S.imF
  fr := S.fr
  ext := S.ext
  pre := S.pre
  tab := S.tab
  root := S.root
/-- memory objects that do not name the exception that is handled -/
def nhM (n : Nat) : MO → Bool
  | .lst ds => ds.all (nh n)
  | .dic ds => ds.all fun q => nh n q.2
  | .ins _ ds => ds.all fun q => nh n q.2
theorem MoOk.cool {N : Av} {a : Addr} (T : Tb) (n : Nat) : ∀ {m : MO}, MoOk g N im H a m → nhM n m = true → MoOk (g.to T) N im H a m
  | .lst ds, ⟨xs, h, q⟩, e => ⟨xs, h, q.nh T n e⟩
  | .dic ds, ⟨xs, h, q⟩, e => ⟨xs, h, q.nh T n e⟩
  | .ins C ds, ⟨Ca, dx, xs, c, h, q⟩, e => ⟨Ca, dx, xs, c, h, q.nh T n e⟩
/-- on the way out: nothing but the memory is looked at -/
theorem StRel.cool (S : StRel (g.to (g.T.heat p)) B im ow r M σ H) (n : Nat) (hm : M.all (nhM n) = true) : StRel g B im noOw [] M [] H ∧ ∀ a, ns B.F im noOw a → ns B.F im ow a := by
  obtain ⟨S1, hn⟩ := S.drop
  exact ⟨⟨S1.len, fun i s e => by simp at e, S1.out, S1.inj, S1.sep, S1.tr, S1.mlen, S1.nd, fun i m e => by
    obtain ⟨a, h1, h2⟩ := S1.mem i m e
    exact ⟨a, h1, h2.cool g.T n (List.all_eq_true.mp hm m (List.mem_of_getElem? e))⟩, S1.imF, S1.fr, S1.ext, S1.pre, S1.tab, S1.root⟩, hn⟩
end
end Dy

/-! Dy52: try .. except (A, B, C) as n. -/
namespace Dy
open PySem
open PySem.Spec
open PySem.W
open PyProof.Rows hiding St
open L2

theorem exm_three {M : Model} {K : Frag} {c1 c2 c3 cls : Value} {tp e : Addr} {b : Bool} {h : Heap} {o : Obj} {n : Nat} (X : K.In h) (LT : Looks M h (typeOf (.ref e)) cls) (ho : h.get? tp = some o) (hc : o.cls = .type "tuple") (hd : o.data = .seq #[c1, c2, c3] n) (hx : exmAny K cls [c1, c2, c3] = some b) : Looks M h (excMatches (.ref e) (.ref tp)) b := by
  intro A Q E s kp q
  obtain ⟨b1, r1, x1, y1, z1⟩ := exmAny_cons hx
  obtain ⟨b2, r2, x2, y2, z2⟩ := exmAny_cons y1
  obtain ⟨b3, r3, x3, y3, z3⟩ := exmAny_cons y2
  cases (show some false = some r3 from y3)
  have t1 := (exm_cls (M := M) X x1).1.keeps kp
  have t2 := (exm_cls (M := M) X x2).1.keeps kp
  have t3 := (exm_cls (M := M) X x3).1.keeps kp
  have u1 := (exm_cls (M := M) X x1).2.keeps kp
  have u2 := (exm_cls (M := M) X x2).2.keeps kp
  have u3 := (exm_cls (M := M) X x3).2.keeps kp
  have L1 := LT.keeps kp
  have ty : Looks M h (typeOf (.ref tp)) (.type "tuple") := fun A Q E s k q => wpAny_typeOf_ref (k _ _ ho) (by rw [hc]; exact q)
  have isT : Looks M h (isInstance (.ref tp) (.type "tuple")) true := ty.andThen (Looks.of_pure isSubtype_tuple_tuple)
  have isT' := isT.keeps kp
  have hp := kp _ _ ho
  subst z1 z2 z3
  unfold excMatches
  refine wpAny_bind (isT'.at ?_)
  dsimp only
  rw [if_pos (rfl : true = true)]
  first
    | refine wpAny_bind (wpAny_seqItems (o := o) hp hd ?_)
    | refine wpAny_bind (wpAny_bind (wpAny_seqItems (o := o) hp hd (wpAny_pure ?_)))
  dsimp only [Option.getD]
  cases b1 <;> cases b2 <;> cases b3 <;> (repeat (first | simp only [List.forIn_nil, List.forIn_cons, if_true, if_false, Bool.false_eq_true, Bool.not_true] | lk)) <;> exact q
theorem flying_grow {base h h' : Heap} {l : List Env} {e : Addr} {Z : Obj → Prop} (x : HandSPX.FlyingZ base l e Z h) (k : ∀ b o, h.get? b = some o → h'.get? b = some o) : HandSPX.FlyingZ base l e Z h' := by
  obtain ⟨y1, y2, y3, oe, vs, t0, oT, ts, z1, z2, z3, z4, z5, z6, z7, z8, z9⟩ := x
  exact ⟨fun b o q => k b o (y1 b o q), y2, y3.of_keeps fun b o q _ => ⟨o, k b o q, rfl⟩, oe, vs, t0, oT, ts, k _ _ z1, z2, z3, z4, z5, z6, k _ _ z7, z8, z9⟩
/-- what is bound is unbound behind the suite -/
def offE (i : Nat) (D : Ends) : Ends := { nx := fun σ H => D.nx (σ.set i none) H, rt := D.rt, bk := fun σ H => D.bk (σ.set i none) H, ct := fun σ H => D.ct (σ.set i none) H }
/-- what the clause wishes of the body's exception -/
def w3 (K : Frag) (C1 C2 C3 : Addr) (i : Nat) (ts : Addr → Value → Option Addr → TS) (Wout : WX) (D : Ends) : WX := fun cls d σ H =>
  ∃ b, exmAny K cls [.ref C1, .ref C2, .ref C3] = some b ∧ (b = true → ∀ a, H a = none → ts a cls d (offE i D) (σ.set i (some (.ref a))) H) ∧ (b = false → Wout cls d σ H)
section
variable {X : Cx} {x1 x2 x3 n : Str} {C1 C2 C3 : Addr} {i kt : Nat} {body suite : List Stmt} {b₀ : Stmt} {q1 q2 q3 pt pos pos' : Pos} {tb : WX → TS} {ts : Addr → Value → Option Addr → TS} {Wout : WX}
/-- the classes' tuple is made -/
theorem test3 {s : Shared} {pins : List (Addr × Obj)} {σ : L2.St} {H : Hp} (I : Inv X pins σ H s) (g1 : Gl X x1) (g2 : Gl X x2) (g3 : Gl X x3) (m1 : X.mg x1 = some (.ref C1)) (m2 : X.mg x2 = some (.ref C2)) (m3 : X.mg x3 = some (.ref C3))
    (hd : (x1 == ("__debug__" : Str)) = false ∧ (x2 == ("__debug__" : Str)) = false ∧ (x3 == ("__debug__" : Str)) = false) {Q : Value → Shared → Prop} {E : Value → Shared → Prop}
    (q : ∀ tk, Q (.ref s.heap.objs.size) { s with heap := s.heap.push { cls := .type "tuple", data := .seq [Value.ref C1, .ref C2, .ref C3].toArray }, toks := tk }) : wpAny (model X.prog X.w) X.A (eval (.Tuple [.Name x1 q1, .Name x2 q2, .Name x3 q3] kt pt) X.env) Q E s := by
  refine wpAny_Tuple_spliced ?_
  refine Calls.spliced_cons (ld_glob I g1 m1 ?_ hd.1)
  refine Calls.spliced_cons (ld_glob I g2 m2 ?_ hd.2.1)
  refine Calls.spliced_cons (ld_glob I g3 m3 ?_ hd.2.2)
  refine Calls.spliced_nil ⟨by show 3 ≤ sizeLine; decide, ?_⟩
  exact q s.toks
/-- try: body except (x1, x2, x3) as n: suite -/
theorem ps_try3 (hs : X.stack = X.env :: X.outer) (hf : X.env.frame = some X.env.locals) (hN : X.N.Nodup) (hi : X.N[i]? = some n) (hln : X.env.kindOf n = some .local) (g1 : Gl X x1) (g2 : Gl X x2) (g3 : Gl X x3) (m1 : X.mg x1 = some (.ref C1)) (m2 : X.mg x2 = some (.ref C2)) (m3 : X.mg x3 = some (.ref C3))
    (hd : (x1 == ("__debug__" : Str)) = false ∧ (x2 == ("__debug__" : Str)) = false ∧ (x3 == ("__debug__" : Str)) = false) (tk : L2N.Takes X Wout)
    (hb : ∀ (W : WX) (pn : List (Addr × Obj)) (xe : Value → Shared → Prop), L2N.Takes (X.tr pn xe) W → PassesOwn (model X.prog X.w) X.A X.env xe → PSs (X.tr pn xe) body (tb W))
    (hsu : ∀ (a : Addr) (oe : Obj) (cls : Value) (d : Option Addr) (pn : List (Addr × Obj)), L2N.Zn cls d oe → (∃ vs, oe.data = .fields vs) → PSs (X.suite a ((a, oe) :: pn)) (b₀ :: suite) (ts a cls d)) :
    PS X (.Try body [.ExceptHandler (some (.Tuple [.Name x1 q1, .Name x2 q2, .Name x3 q3] kt pt)) (some n) (b₀ :: suite) pos'] [] [] pos) (fun D σ H => tb (w3 X.K C1 C2 C3 i ts Wout D) D σ H) := by
  refine ⟨fun pins s σ H D I0 h0 => ?_⟩
  have ok := I0.ok
  have hfr : X.A.frames = some (X.env :: X.outer) := ok.frames.trans (congrArg some hs)
  have hloc : Loc X.env.scope n := .inl hln
  refine wpAny_Try_except (wpAny_mono ((hb (w3 X.K C1 C2 C3 i ts Wout D) (X.pn ++ pins) (fun u t1 => wpAny (model X.prog X.w) X.A (noteFrame u X.env) (fun _ t2 => wpAny (model X.prog X.w) X.A (setFlight u none) (fun _ t3 =>
    wpAny (model X.prog X.w) X.A (handleBy u X.env [.ExceptHandler (some (.Tuple [.Name x1 q1, .Name x2 q2, .Name x3 q3] kt pt)) (some n) (b₀ :: suite) pos']) (SP X pins D) X.xe t3) X.xe t2) X.xe t1) (fun u s' xx => ?_) PassesOwn.looking).run [] s σ H D (I0.toTry _) h0) (fun fl s1 back => ?_) (fun _ _ z => z))
  · obtain ⟨a, B, sI, pins', σ', H', cls, d, rfl, J0, nb, up, sky, na, os, ag, b, hb1, hyes, hno⟩ := xx
    have J : Inv X pins σ' H' sI := J0.ofTry ok
    have sky' : Sky B (X.env :: X.outer) a (L2N.Zn cls d) X.env.locals s'.heap := by
      rw [← hs]
      exact sky
    show wpAny (model X.prog X.w) X.A (noteFrame (.ref a) X.env) _ _ _
    refine L2N.Sky.land L2N.Zn.steady hfr hf sky' fun h3 fly up3 => ?_
    have J3 : Inv X pins σ' H' { s' with heap := h3 } := J.landed nb fly.1 (up.trans up3) os ag
    obtain ⟨oe, vs, ho, hz, hdt⟩ := fly.there
    have notF : a ∉ frs (X.env :: X.outer) := fun hm => by
      obtain ⟨_, o', e', hnf⟩ := fly.2.2.1.mem hm
      rw [ho] at e'
      cases e'
      exact hnf _ hdt
    have nL : a ≠ X.env.locals := fun z => notF (List.mem_filterMap.mpr ⟨X.env, List.mem_cons_self, hf.trans (congrArg some z.symm)⟩)
    have nF : a ∉ X.fs := fun hm => by
      obtain ⟨en, hen, q⟩ := List.mem_filterMap.mp hm
      exact notF (List.mem_filterMap.mpr ⟨en, List.mem_cons_of_mem _ hen, q⟩)
    have S3 := J3.suite ho hdt na nL nF
    refine wpAny_handleBy_cons (codeAny_handlers_test ?_) (fun q => by cases q)
    refine test3 (X := X.suite a ((a, oe) :: (X.pn ++ pins))) S3 g1 g2 g3 m1 m2 m3 hd fun tk4 => ?_
    generalize hl : h3.objs.size = l
    generalize hh4 : h3.push { cls := .type "tuple", data := .seq [Value.ref C1, .ref C2, .ref C3].toArray } = h4
    have k4 : ∀ b o, h3.get? b = some o → h4.get? b = some o := fun b o q => by
      rw [← hh4]
      exact Heap.get?_push_of_some _ q
    have g4 : h4.get? l = some { cls := .type "tuple", data := .seq [Value.ref C1, .ref C2, .ref C3].toArray } := by
      rw [← hh4, ← hl]
      exact Heap.get?_push_size _ rfl
    have fly4 := flying_grow fly k4
    have up4 : h3.UpToSlots h4 := fun b o q _ => ⟨_, k4 b o q⟩
    have LT : Looks (model X.prog X.w) h4 (typeOf (.ref a)) cls := fun A Q E s k q => wpAny_typeOf_ref (k _ _ (k4 _ _ ho)) (by rw [hz.1]; exact q)
    have J4 : Inv X pins σ' H' { s' with heap := h4, toks := tk4 } := J.landed nb fly4.1 ((up.trans up3).trans up4) os ag
    have LM := exm_three (M := model X.prog X.w) J4.kIn LT g4 rfl rfl hb1
    refine LM.here ?_
    cases b with
    | true =>
      refine codeAny_handlers_suite_as (HandSPX.lands_againZ fly4 fun h5 fly5 up5 => ?_)
      have J5 : Inv X pins σ' H' { s' with heap := h5, toks := tk4 } := J.landed nb fly5.1 (((up.trans up3).trans up4).trans up5) os ag
      obtain ⟨oe5, vs5, ho5, hz5, hd5⟩ := fly5.there
      have S5 := J5.suite ho5 hd5 na nL nF
      refine store_ok (X := X.suite a ((a, oe5) :: (X.pn ++ pins))) (v := .ref a) S5 hN hi hloc rfl (fun s6 S6 => ?_) (.inr hln)
      refine wpAny_mono ((hsu a oe5 cls d (X.pn ++ pins) hz5 ⟨_, hd5⟩).run [] s6 _ H' _ S6 (hyes rfl a na)) (fun fl s7 back => ?_) (fun _ _ z => z.elim)
      have off : ∀ {σ7 : L2.St} {H7 : Hp} {Q : Shared → Prop}, Inv (X.suite a ((a, oe5) :: (X.pn ++ pins))) [] σ7 H7 s7 → (∀ s8, Inv X pins (σ7.set i none) H7 s8 → Q s8) → wpAny (model X.prog X.w) X.A (do bindName X.env n .none; unbindBehindTheSuite X.env n pos') (fun _ s8 => Q s8) X.xe s7 :=
        fun S7 q => gone_ok (S7.unsuite ok) hN hi hln q
      cases fl with
      | next =>
        obtain ⟨σ7, H7, S7, q⟩ := back
        exact off S7 fun s8 J8 => ⟨_, _, J8, q⟩
      | brk =>
        obtain ⟨σ7, H7, S7, q⟩ := back
        exact off S7 fun s8 J8 => ⟨_, _, J8, q⟩
      | cont =>
        obtain ⟨σ7, H7, S7, q⟩ := back
        exact off S7 fun s8 J8 => ⟨_, _, J8, q⟩
      | ret u =>
        obtain ⟨v, σ7, H7, S7, r, q⟩ := back
        exact off S7 fun s8 J8 => ⟨_, _, _, J8, r, q⟩
    | false =>
      show wpAny _ X.A (handleBy (.ref a) X.env []) _ _ _
      refine wpAny_handleBy_nil ?_
      obtain ⟨_, _, _, oe4, vs4, T4, oT4, ts4, y1, y2, y3, y4, _⟩ := id fly4
      unfold PySem.passOn
      refine wpAny_bind (wpAny_field y1 y3 y4 ?_)
      rw [if_neg (show ¬ ((Value.ref T4 == Value.none) = true) from by simp)]
      have last : wpAny (model X.prog X.w) X.A (setFlight (.ref a) X.env.frame) (fun _ s9 => wpAny (model X.prog X.w) X.A (throw (.ref a) : Sem Flow) (SP X pins D) X.xe s9) X.xe { s' with heap := h4, toks := tk4 } := by
        rw [hf]
        refine HandSPX.setFlight_upZ fly4 fun h9 held up9 => wpAny_throw (tk _ _ ?_)
        exact ⟨a, B, sI, pins, σ', H', cls, d, rfl, J, nb, ((up.trans up3).trans up4).trans up9, .inr (.inr (by rw [hs]; exact held)), na, os, ag, hno rfl⟩
      first
        | exact wpAny_bind (wpAny_pure (wpAny_bind last))
        | exact wpAny_bind last
  · cases fl with
    | next =>
      obtain ⟨σ2, H2, J2, q⟩ := back
      exact wpAny_execs_nil ⟨σ2, H2, J2.ofTry ok, q⟩
    | brk =>
      obtain ⟨σ2, H2, J2, q⟩ := back
      exact ⟨σ2, H2, J2.ofTry ok, q⟩
    | cont =>
      obtain ⟨σ2, H2, J2, q⟩ := back
      exact ⟨σ2, H2, J2.ofTry ok, q⟩
    | ret u =>
      obtain ⟨v, σ2, H2, J2, r, q⟩ := back
      exact ⟨v, σ2, H2, J2.ofTry ok, r, q⟩
end
end Dy

/-! Dy54: try .. except (A, B, C) as n, by data. -/
namespace Dy
open PySem
open PySem.Spec
open PyProof.Rows hiding St
open L2

/-- nothing is let out -/
abbrev noW : WX := fun _ _ _ _ => False
/-- how deep a result may be -/
def nhN : Nat := 20
/-- try: fb except .. as n (slot j): fs; what the classes catch: cat -/
def sTryX (cat : Str → Bool) (j : Nat) (fb fs : SS) : SS := fun r M => match fb r M with
  | .ex r1 C xs M1 => if cat C = true then (if j < r1.length ∧ xs ≠ [] then (match fs (r1.set j (.val (.hot C xs))) M1 with
      | .rt d M2 => if (nh nhN d && M2.all (nhM nhN)) = true then .rt d M2 else .bad
      | _ => .bad) else .bad) else .ex r1 C xs M1
  | q => q
section
variable {X : Cx} {T : Tb} {W : WX} {x1 x2 x3 n : Str} {C1 C2 C3 : Addr} {i kt : Nat} {body suite : List Stmt} {b₀ : Stmt} {q1 q2 q3 pt pos pos' : Pos} {fb fs : SS} {cat : Str → Bool}
theorem ds_try3 (h0 : T.hot = none) (hs : X.stack = X.env :: X.outer) (hf : X.env.frame = some X.env.locals) (hN : X.N.Nodup) (hi : X.N[i]? = some n) (hln : X.env.kindOf n = some .local) (g1 : Gl X x1) (g2 : Gl X x2) (g3 : Gl X x3) (m1 : X.mg x1 = some (.ref C1)) (m2 : X.mg x2 = some (.ref C2)) (m3 : X.mg x3 = some (.ref C3))
    (hd : (x1 == ("__debug__" : Str)) = false ∧ (x2 == ("__debug__" : Str)) = false ∧ (x3 == ("__debug__" : Str)) = false) (tk : L2N.Takes X W) (hcat : ∀ r M r1 C xs M1, fb r M = .ex r1 C xs M1 → ∀ Ca, X.mg C = some (.ref Ca) → PySem.W.exmAny X.K (.ref Ca) [.ref C1, .ref C2, .ref C3] = some (cat C))
    (hb : ∀ (W' : WX) (pn : List (Addr × Obj)) (xe : Value → Shared → Prop), L2N.Takes (X.tr pn xe) W' → PassesOwn (model X.prog X.w) X.A X.env xe → DB (X.tr pn xe) T W' body fb)
    (hsu : ∀ (a Ca dd : Addr) (oe : Obj) (pn : List (Addr × Obj)) (C : Str), L2N.Zn (.ref Ca) (some dd) oe → (∃ vs, oe.data = .fields vs) → X.mg C = some (.ref Ca) → cat C = true → DB (X.suite a ((a, oe) :: pn)) (T.heat (a, Ca, some dd)) noW (b₀ :: suite) fs) :
    DS X T W (.Try body [.ExceptHandler (some (.Tuple [.Name x1 q1, .Name x2 q2, .Name x3 q3] kt pt)) (some n) (b₀ :: suite) pos'] [] [] pos) (sTryX cat i fb fs) := by
  refine ps_le (ps_try3 hs hf hN hi hln g1 g2 g3 m1 m2 m3 hd tk (tb := fun W' => tS (gm X T) W' fb) (ts := fun a cls d E σ H => ∃ Ca dd C, cls = .ref Ca ∧ d = some dd ∧ X.mg C = some (.ref Ca) ∧ cat C = true ∧ tS (gm X (T.heat (a, Ca, some dd))) noW fs E σ H) (fun W' pn xe tk' po => hb W' pn xe tk' po) (fun a oe cls d pn hz hfl => ⟨fun pins s σ H E I ⟨Ca, dd, C, ec, ed, hC, hc, q⟩ => ?_⟩)) fun σ H D ⟨B, im, ow, r, M, S, P⟩ => ⟨B, im, ow, r, M, S, ?_⟩
  · subst ec ed
    exact (hsu a Ca dd oe pn C hz hfl hC hc).run pins s σ H E I q
  · unfold sTryX at P
    cases hq : fb r M with
    | ex r1 C xs M1 =>
      rw [hq] at P
      dsimp only at P
      intro Ca dd ys im1 ow1 σ1 H1 S1 hC hx nx rf
      have he := hcat r M r1 C xs M1 hq Ca hC
      refine ⟨cat C, he, fun ht a ha => ?_, fun hn => ?_⟩
      · rw [if_pos ht] at P
        split at P
        · rename_i hj2
          obtain ⟨hj, hne⟩ := hj2
          cases dd with
          | none =>
            exfalso
            have e0 : ys = [] := hx
            subst e0
            cases rf
            exact hne rfl
          | some dd =>
          refine ⟨Ca, dd, C, rfl, rfl, hC, ht, ?_⟩
          have S2 : StRel (gm X (T.heat (a, Ca, some dd))) B im1 ow1 r1 M1 σ1 H1 := S1.warm (g := gm X T) h0
          have q : Rep (gm X (T.heat (a, Ca, some dd))) (ns B.F im1 ow1) im1 H1 (.ref a) (.hot C xs) := .hot rfl hC hx nx (rf.warm (g := gm X T) h0)
          refine ⟨B, im1, _, _, M1, S2.set q hj, ?_⟩
          cases hr : fs (r1.set i (.val (.hot C xs))) M1 with
          | rt d M2 =>
            rw [hr] at P
            dsimp only at P
            split at P
            · rename_i hn
              obtain ⟨n1, n2⟩ := Bool.and_eq_true_iff.mp hn
              intro v im2 ow2 r2 σ2 H2 S3 q3
              obtain ⟨S4, hle⟩ := StRel.cool (g := gm X T) (p := (a, Ca, some dd)) S3 nhN n2
              have q4 : Rep (gm X T) (ns B.F im2 ow2) im2 H2 v d := Rep.nh (g := gm X (T.heat (a, Ca, some dd))) T nhN q3 n1
              exact P v im2 noOw [] [] H2 S4 (q4.less hle)
            · exact P.elim
          | _ =>
            rw [hr] at P
            exact P.elim
        · exact P.elim
      · rw [if_neg (by rw [hn]; exact Bool.false_ne_true)] at P
        exact P Ca dd ys im1 ow1 σ1 H1 S1 hC hx nx rf
    | _ =>
      rw [hq] at P
      exact P
end
end Dy

/-! Dy55: list comprehensions while an exception is handled. -/
namespace Dy
open PySem
open PySem.Spec
open PyProof.Rows hiding St
open L2
open L2H (HotC Hot1 TurnH PIH PIEH)

/-- the block's context, the handled exception within -/
abbrev hblk (X : Cx) (s : Shared) (H : Hp) (scope : Scope) (ce : Env) (fp : List Addr) (p : Addr × Obj) : Cx := (X.blk s H scope ce fp).tr [p] fun _ _ => False
section
variable {X : Cx} {p : Addr × Obj}
/-- into the block -/
theorem hblk_in {s s0 : Shared} {H H' : Hp} {σ : L2.St} {scope : Scope} {ce : Env} {fp : List Addr} (I : Inv (X.blk s0 H scope ce fp) [] σ H' s) (hp : s.heap.get? p.1 = some p.2 ∧ H' p.1 = none ∧ p.1 ≠ ce.locals ∧ p.1 ∉ (X.blk s0 H scope ce fp).fs ∧ ∀ v, p.2.data ≠ .cell v) : Inv (hblk X s0 H scope ce fp p) [] σ H' s :=
  (I.pins_of (pins' := [p]) fun q hq => by
    rw [List.mem_singleton.mp hq]
    exact hp).toTry _
variable {elt tg iter : Expr} {ifs : List Expr} {scope : Scope} {own : List (Str × Nat)} {pos : Pos} {wi : TI} {g : TG} {tt : TT} {te : TE}
/-- the block's loop -/
theorem loopH {s3 s4 : Shared} {σ : L2.St} {H3 : Hp} {ce : Env} {fp : List Addr} {it D : Addr} {tn : Nat → Heap → Prop} {J : It} {W : Nat → Nat → Hp → Prop} {Rq : Hp → Prop} {m0 : Nat} {Fin : Result → Shared → Prop} (hot : Hot1 X.A p) (T : TurnH X.prog X.w X.K tg J fp it tn) (hpf : p.1 ∉ fp)
    (pg : PG (hblk X s3 H3 scope ce fp p) tg g) (pt : PTs (hblk X s3 H3 scope ce fp p) ifs tt) (pe : PE (hblk X s3 H3 scope ce fp p) elt te) (I4 : Inv (hblk X s3 H3 scope ce fp p) [] (wipe σ (own.map (·.2))) H3 s4) (st4 : tn 0 s4.heap) (n4 : ∀ b ∈ fp, H3 b = none) (w0 : W 0 m0 H3)
    (turn : ∀ i m H, W i m H → (J.stop i H ∧ Rq H) ∨ (J.go i H ∧ ∃ Nx : Hp → Prop, (∀ H', Nx H' → ∃ m', m' < m ∧ W (i + 1) m' H') ∧ ∀ x H', J.yld i H x H' → g x (wipe σ (own.map (·.2))) H' fun σ2 H2 => wipe σ2 (own.map (·.2)) = wipe σ (own.map (·.2)) ∧ tt σ2 H2 fun b H3 =>
      if b = true then te σ2 H3 fun y H4 => ∃ acc, H4 D = some (.lst acc) ∧ acc.length < sizeLine ∧ Nx (upd H4 D (.lst (acc ++ [y]))) else Nx H3))
    (fin : ∀ s6 H5, Inv (hblk X s3 H3 scope ce fp p) [] (wipe σ (own.map (·.2))) H5 s6 → Rq H5 → Fin (.ok .next) s6) :
    codeAny (model X.prog X.w) X.A (.compLoop (.ListComp elt [⟨tg, iter, ifs, 0⟩] scope pos) 0 (.ref it) (.ref D) ce) Fin s4 := by
  have hc : HotC (hblk X s3 H3 scope ce fp p) := ⟨p, hot, List.mem_singleton.mpr rfl⟩
  have still : ∀ {σ' : L2.St} {H' : Hp} {s' : Shared}, Inv (hblk X s3 H3 scope ce fp p) [] σ' H' s' → (∀ b ∈ fp, H' b = none) → ∀ b ∈ fp, FpOk (hblk X s3 H3 scope ce fp p) [] H' b := fun {σ' H' s'} I' hn b hb =>
    ⟨hn b hb, (I'.ok.exf b hb).1, I'.ok.exfs b hb, .inl hb, fun x c e => (I'.ok.exf b hb).2 x c e, fun q hq e => by
      rw [List.mem_singleton.mp (show q ∈ [p] from by simpa using hq)] at e
      exact hpf (by rw [e]; exact hb)⟩
  refine compLoop_any (fun n s' => ∃ i H', Inv (hblk X s3 H3 scope ce fp p) [] (wipe σ (own.map (·.2))) H' s' ∧ tn i s'.heap ∧ (∀ b ∈ fp, H' b = none) ∧ W i n H') (fun n s5 ⟨i, H5, I5, st5, n5, w5⟩ => ?_) m0 ⟨0, H3, I4, st4, n4, w0⟩
  rcases turn i n H5 w5 with ⟨stop, rq⟩ | ⟨go, Nx, hNx, step⟩
  · refine thnF (T.done (hblk X s3 H3 scope ce fp p) rfl rfl rfl hc i [] s5 _ H5 (fun _ _ => False) I5 (still I5 n5) st5 stop) fun r s6 ⟨hr, I6⟩ => ?_
    subst hr
    exact fin s6 H5 I6 rq
  · refine thnF (T.item (hblk X s3 H3 scope ce fp p) rfl rfl rfl hc i [] s5 _ H5 (fun _ _ => False) I5 (still I5 n5) st5 go) fun r s6 ⟨u, hr, h6⟩ => ?_
    subst hr
    refine thnF h6 fun _ s7 ⟨x, H7, I7, r7, y7, st7, n7⟩ => ?_
    refine thnF (pg.run _ s7 _ H7 x u _ (I7.pinned (still I7 n7) (T.obj _ _ st7)) r7 (step x H7 y7)) fun _ s8 ⟨σ8, H8, I8, hw8, q8⟩ => ?_
    refine thnF (pt.run _ s8 σ8 H8 _ I8 q8) fun b s9 ⟨H9, I9, q9⟩ => ?_
    have back : ∀ {s' : Shared} {H' : Hp}, Inv (hblk X s3 H3 scope ce fp p) ([] ++ pinsAt fp s7.heap) σ8 H' s' → Nx H' → ∃ m, m < n ∧ ∃ i H', Inv (hblk X s3 H3 scope ce fp p) [] (wipe σ (own.map (·.2))) H' s' ∧ tn i s'.heap ∧ (∀ b ∈ fp, H' b = none) ∧ W i m H' := fun {s' H'} I' nx => by
      obtain ⟨m', hm, w'⟩ := hNx H' nx
      have at_ : ∀ b ∈ fp, ∀ o, s7.heap.get? b = some o → s'.heap.get? b = some o ∧ H' b = none := fun b hb o e =>
        have z := I'.pin (b, o) (List.mem_append_right _ (List.mem_append_right _ (mem_pinsAt hb e)))
        ⟨z.1, z.2.1⟩
      refine ⟨m', hm, i + 1, H', (I'.unpinned (pins := [])).weak (by rw [← hw8, wipe_length]) (fun j v e => ?_), T.keep _ _ _ st7 fun b hb o e => (at_ b hb o e).1, fun b hb => ?_, w'⟩
      · rw [← hw8] at e
        exact (wipe_some e).1
      · obtain ⟨o, e, _⟩ := T.obj _ _ st7 b hb
        exact (at_ b hb o e).2
    cases b with
    | false =>
      rw [if_neg Bool.false_ne_true] at q9 ⊢
      exact back I9 q9
    | true =>
      rw [if_pos rfl] at q9 ⊢
      refine thnF (pe.run _ s9 σ8 H9 _ I9 q9) fun z s10 ⟨yv, H10, I10, r10, acc, hD, hz, nx⟩ => ?_
      exact app_ok (X := hblk X s3 H3 scope ce fp p) I10 hD hz r10 fun s11 I11 => back I11 nx
/-- [elt for tg in iter if ..] -/
theorem pe_lcH (hot : Hot1 X.A p) (hpn : p ∈ X.pn) (hN : X.N.Nodup) (hi : PIH X tg iter wi) (ok : BlkOk X.N X.env.scope scope own)
    (hg : ∀ (s : Shared) (H : Hp) (C : Addr) (cl : List (Str × Addr)) (fp : List Addr), PG (hblk X s H scope (compEnvC scope cl C X.env) fp p) tg g) (ht : ∀ (s : Shared) (H : Hp) (C : Addr) (cl : List (Str × Addr)) (fp : List Addr), PTs (hblk X s H scope (compEnvC scope cl C X.env) fp p) ifs tt)
    (he : ∀ (s : Shared) (H : Hp) (C : Addr) (cl : List (Str × Addr)) (fp : List Addr), PE (hblk X s H scope (compEnvC scope cl C X.env) fp p) elt te) (hs : ∀ x, foldedSetIterable iter X.env x = pure x := by intro _; rfl) :
    PE X (.ListComp elt [⟨tg, iter, ifs, 0⟩] scope pos) (tLc wi g tt te (own.map (·.2))) := by
  refine ⟨fun pins s σ H Q I h => ?_⟩
  have hfr : ∀ y ∈ scope.names, y.2 = .free → ∃ c, X.env.cells.lookup y.1 = some c := fun y hy e =>
    (ok.free y hy e).elim (fun k => I.ok.has _ (.inl k)) fun k => I.ok.has _ (.inr k)
  rw [eval_ListComp]
  refine wpAny_comprehension_free (use := none) rfl hs (closure_ok hfr) ok.kind (fun y hy e => (ok.uniq y hy).trans (congrArg some e)) (thn (hi.run pins s σ H _ I h) fun xv s1 hx => thn hx fun itv s2 h2 => ?_)
  obtain ⟨it, fp, tn, J, H2, ei, I2, Tn, st2, f2, q⟩ := h2
  subst ei
  refine wpAny_newObj_type (newEnv_comp ?_) (Nat.zero_le _)
  generalize hD : s2.heap.objs.size = D
  have hDn : H2 D = none := I2.hok.fresh (Nat.le_of_eq hD)
  obtain ⟨Wm, ⟨m0, w0⟩, turn⟩ := q D hDn
  generalize hs3 : ({ s2 with heap := s2.heap.push { cls := .type "list", data := .seq ([] : List Value).toArray } } : Shared) = s3
  have hp3 : s3.heap = s2.heap.push { cls := .type "list", data := .seq ([] : List Value).toArray } := by rw [← hs3]
  have k3 : ∀ b o, s2.heap.get? b = some o → s3.heap.get? b = some o := fun b o e => by
    rw [hp3]
    exact Heap.get?_push_of_some _ e
  have I3 : Inv X pins σ (upd H2 D (.lst [])) s3 := by
    rw [← hs3]
    refine I2.laid (t' := s2.toks) (fun b o e => Heap.get?_push_of_some _ e) (Nat.le_of_eq hD) ⟨Nat.zero_le _, [], 0, .nil, ?_⟩
    rw [← hD]
    exact Heap.get?_push_size _ rfl
  have sz : ∀ b ∈ fp, b < s2.heap.objs.size := fun b hb => (Tn.obj _ _ st2 b hb).elim fun o z => Heap.lt_size z.1
  have f3 : ∀ b ∈ fp, FpOk X pins (upd H2 D (.lst [])) b ∧ b < s3.heap.objs.size := fun b hb => by
    have lt := sz b hb
    refine ⟨⟨?_, (f2 b hb).2⟩, by rw [hp3, Heap.size_push]; exact Nat.lt_succ_of_lt lt⟩
    rw [upd_ne (by rw [← hD]; exact Nat.ne_of_lt lt)]
    exact (f2 b hb).1
  have st3 : tn 0 s3.heap := Tn.keep _ _ _ st2 fun b _ o e => k3 b o e
  generalize hH3 : upd H2 D (.lst []) = H3 at I3 f3 w0
  have I4 := block_start I3 ok hN f3
  generalize hcl : cellsFrom (s3.heap.objs.size + 1) scope.names (cloFrom X.env.cells scope.names []) = cl at I4
  generalize hs4 : ({ s3 with heap := pushCells (s3.heap.push { cls := .type "dict", data := .dict #[] }) scope.names } : Shared) = s4 at I4
  have k4 : ∀ b o, s3.heap.get? b = some o → s4.heap.get? b = some o := fun b o e => by
    rw [← hs4]
    exact pushCells_keeps _ _ _ _ (Heap.get?_push_of_some _ e)
  have st4 : tn 0 s4.heap := Tn.keep _ _ _ st3 fun b _ o e => k4 b o e
  have pin := I3.pin p (List.mem_append_left _ hpn)
  have pne : p.1 ≠ s3.heap.objs.size := Nat.ne_of_lt (Heap.lt_size pin.1)
  have pfs : p.1 ∉ (X.blk s3 H3 scope (compEnvC scope cl s3.heap.objs.size X.env) fp).fs := fun z => (List.mem_cons.mp (I3.stkSub p.1 z)).elim pin.2.2.1 pin.2.2.2.1
  have I5 := hblk_in (p := p) I4 ⟨k4 _ _ pin.1, pin.2.1, pne, pfs, pin.2.2.2.2⟩
  have pfp : p.1 ∉ fp := fun z => (f3 p.1 z).1.2.2.2.2.2 p (List.mem_append_left _ hpn) rfl
  show codeAny _ _ (.compStart (.ListComp elt [⟨tg, iter, ifs, 0⟩] scope pos) 0 (.ref it) (.ref D) (compEnvC scope cl s3.heap.objs.size X.env)) (compPost (model X.prog X.w) X.A X.xe none (EP X pins σ Q) (.ref D) s3.heap.objs.size) s4
  have loop := loopH (iter := iter) (pos := pos) (Fin := compPost (model X.prog X.w) X.A X.xe none (EP X pins σ Q) (.ref D) s3.heap.objs.size) (Rq := fun H5 => Q (.ref D) H5) hot Tn pfp (hg s3 H3 s3.heap.objs.size cl fp) (ht s3 H3 s3.heap.objs.size cl fp) (he s3 H3 s3.heap.objs.size cl fp) I5 st4 (fun b hb => (f3 b hb).1.1) w0 turn fun s6 H5 I6 rq => ?_
  · exact codeAny_compStart_list loop (Tn.self X.A 0 _ _ _ st4 loop)
  · have I7 : Inv X pins σ H5 s6 := I3.call' (ch := fp) I6.os I6.base I6.hok I6.bare fun b hb => ⟨(f3 b hb).1.2.2.2.1, (f3 b hb).1.2.1, (f3 b hb).1.2.2.2.2.1, (f3 b hb).1.2.2.2.2.2⟩
    have nC : H5 s3.heap.objs.size = none := I6.free
    obtain ⟨m, hn, _⟩ := I6.loc
    refine ⟨m, hn, fun h'' sb => ?_⟩
    obtain ⟨z0, z1, z2, z3, z4, z5⟩ := I3.fpOk (Nat.le_refl _) nC
    exact ⟨.ref D, H5, I7.turned (t' := s6.toks) (fun b o hb e => (sb.2 b hb).trans e) z0 z1 z3 z4 z5, rfl, rq⟩
end
end Dy

/-! Dy56: the exception that is handled: isinstance, its fields. -/
namespace Dy
open PySem
open PySem.Spec
open PyProof.Rows hiding St
open L2
open L2H (HotC Hot1 TurnH PIH PIEH)

/-- the context bears the exception that the tables tell -/
structure HeatX (X : Cx) (T : Tb) (a Ca dd : Addr) (oe : Obj) : Prop where
  hot : T.hot = some (a, Ca, some dd)
  pn : (a, oe) ∈ X.pn
  z : Zc (.ref Ca) (some dd) oe
  fl : ∃ vs, oe.data = .fields vs
def rIsX (K : PySem.W.Frag) (a Ca dd : Addr) : List V → Hp → VK → Prop := fun xs H Q => ∃ (c : V) (cv : Value) (b : Bool) (fs : List (Str × V)), xs = [.ref a, c] ∧ (∀ u, RelV c u → u = cv) ∧ H dd = some (.xd fs) ∧ ExcC K Ca ∧ PySem.W.kitOne K (.ref Ca) cv = some b ∧ Q (.bl b) H
/-- what isinstance answers of a caught exception's class -/
structure AnsOk (K : PySem.W.Frag) (mg : Str → Option Value) (a1 : Str → Str → Option Bool) (a2 : Str → String → Option Bool) : Prop where
  own : ∀ C x Ca b, a1 C x = some b → mg C = some (.ref Ca) → ∃ D, mg x = some (.ref D) ∧ ExcC K Ca ∧ PySem.W.kitOne K (.ref Ca) (.ref D) = some b
  ty : ∀ C n Ca b, a2 C n = some b → mg C = some (.ref Ca) → ExcC K Ca ∧ PySem.W.kitOne K (.ref Ca) (.type n) = some b
def oIsH (a1 : Str → Str → Option Bool) (a2 : Str → String → Option Bool) : List Dm → Mem → R Dm
  | [.hot C _, .glo x], M => match a1 C x with
    | some b => .ok (.bl b) M
    | none => .bad
  | [.hot C _, .ty n], M => match a2 C n with
    | some b => .ok (.bl b) M
    | none => .bad
  | _, _ => .bad
section
variable {X : Cx} {T : Tb} {W : WX} {a Ca dd : Addr} {oe : Obj}
theorem heat_inst {pins : List (Addr × Obj)} {σ : L2.St} {H : Hp} {s : Shared} {fs : List (Str × V)} (h : HeatX X T a Ca dd oe) (I : Inv X pins σ H s) (hx : H dd = some (.xd fs)) : ∃ od, PySem.W.InstAt s.heap a oe Ca (some od) := by
  have g := (I.pin (a, oe) (List.mem_append_left _ h.pn)).1
  obtain ⟨mA, hns, _⟩ := (show ObjOk X.prog X.w H s.heap dd (.xd fs) from I.hok dd _ hx)
  obtain ⟨od, ho, _⟩ := lookIn_ns hns
  obtain ⟨vs, hv⟩ := h.fl
  refine ⟨od, g, h.z.1, ?_, ?_⟩
  · unfold PySem.W.notCls
    rw [hv]
  · rw [h.z.2]
    exact ho
theorem call_isX (h : HeatX X T a Ca dd oe) : CallR X (.builtin "isinstance") (rIsX X.K a Ca dd) := by
  intro pins s σ H xs us Q I r ⟨c, cv, b, fs, ex, hc, hx, E, e, q⟩
  subst ex
  cases r with
  | @cons _ u0 _ ur r0 rr =>
    cases rr with
    | @cons _ u1 _ ur1 r1 rr =>
      cases rr
      obtain rfl : u0 = Value.ref a := r0
      obtain rfl := hc _ r1
      obtain ⟨od, J⟩ := heat_inst h I hx
      refine PySem.W.kia_one (PySem.W.kitx_exc (od := some od) ?_ E.hg E.hk E.hs E.ha E.hn E.ht E.hm) I.kIn J e (fun z => nomatch z) fun tk => ⟨.bl b, H, I.kept (t' := tk) fun _ _ z => z, rfl, q⟩
      obtain ⟨cd, hcd, _⟩ := PySem.W.any_some E.hd
      rw [hcd]
      rfl
theorem c_isX {a1 : Str → Str → Option Bool} {a2 : Str → String → Option Bool} (h : HeatX X T a Ca dd oe) (A : AnsOk X.K X.mg a1 a2) : SoundC X T W (rIsX X.K a Ca dd) (oIsH a1 a2) := fun B im ow r M σ H xs vs Q S rs P => by
  cases rs with
  | nil => exact P.elim
  | @cons v d vs ds q rs =>
    cases rs with
    | nil => cases d <;> exact P.elim
    | @cons v2 d2 vs ds q2 rs =>
      cases rs with
      | cons _ _ => cases d <;> cases d2 <;> exact P.elim
      | nil =>
        cases q with
        | @hot a' Ca' d' C xs ds h1 hC hx nx rf =>
          have e1 : T.hot = some (a', Ca', d') := h1
          rw [h.hot] at e1
          cases e1
          cases q2 with
          | @glo x v u hm rv =>
            have P' : Post rlV (gm X T) B W im ow r σ H (match a1 C x with
              | some b => .ok (.bl b) M
              | none => .bad) Q := P
            split at P'
            · rename_i b hb
              obtain ⟨D, hD, E, e⟩ := A.own C x Ca b hb hC
              have hm' : X.mg x = some u := hm
              rw [hD] at hm'
              cases hm'
              refine ⟨v2, .ref D, b, xs, rfl, fun u' r' => ?_, hx, E, e, P'.here S (.bl b)⟩
              cases v2 with
              | ref y =>
                have ey : Value.ref D = Value.ref y := rv
                rw [ey]
                exact r'
              | _ => cases rv <;> (rename_i z; cases z)
            · exact P'.elim
          | ty n =>
            have P' : Post rlV (gm X T) B W im ow r σ H (match a2 C n with
              | some b => .ok (.bl b) M
              | none => .bad) Q := P
            split at P'
            · rename_i b hb
              obtain ⟨E, e⟩ := A.ty C n Ca b hb hC
              exact ⟨.ty n, .type n, b, xs, rfl, fun u' r' => r', hx, E, e, P'.here S (.bl b)⟩
            · exact P'.elim
          | _ => exact P.elim
        | _ => cases d2 <;> exact P.elim
end
end Dy

/-! Dy57: a def that is called while an exception is handled. -/
namespace Dy
open PySem
open PySem.Spec
open PyProof.Rows hiding St
open L2
open L2H (HotC Hot1 TurnH PIH PIEH RoomH PinOk cxH inv_startH)

section
variable {P : Program} {w : World} {K : PySem.W.Frag} {mg : Str → Option Value} {base : Heap} {k : Nat} {f : Addr} {name qual : Str} {params : Arguments} {body : List Stmt} {scope : Scope} {dV kV doc pm cdv ct oc : Value} {an od : Option Addr} {osl : Array (Option Value)} {N ps : List Str}
theorem run_ofH (lk : K.lookup f = some ⟨oc, od, .func (PySem.W.fnOf name qual params body scope dV kV doc pm an cdv ct), osl⟩) (hcd : PySem.W.codeIn K cdv qual = true) (S : FnScope N ps scope) {p : Addr × Obj} {A : Around} {outer : List Env} {s : Shared} {H : Hp} {args : Args} {us : List Value} {vs : List V} {Q : VK} {E : XK}
    (hr : RoomH (k + 1) A) (pin : PinOk outer H s p) (e0 : Env0 P w K mg base A outer s H) (hb : BindsTo s (PySem.W.fnOf name qual params body scope dV kV doc pm an cdv ct) args (ps.zip us)) (rv : Vals vs us) (hl : vs.length = ps.length)
    (hbody : RoomH k (A.deeper (envOfC qual scope s.heap.objs.size f cdv)) → ∃ t, PSs (cxH (L2N.CX P w) P w K mg base N qual scope f cdv A outer s H E p) body t ∧ t { nx := fun _ H' => Q .non H', rt := Q } (L2.start N vs) H) :
    codeAny (model P w) A (.call (.ref f) args) (CR (L2N.CX P w) outer P w H s Q E) s := by
  have kb : ∀ b o, base.get? b = some o → s.heap.get? b = some o := fun b o e => (e0.bs b o e).1
  have KX := e0.mod.kin.keeps kb
  have kinds : ∀ y ∈ ps.zip us, scope.names.lookup y.1 = some .local ∨ (scope.names.lookup y.1 = some .cell ∧ ((cellsFrom (s.heap.objs.size + 1) scope.names []).lookup y.1).isSome = true) := fun y hy =>
    (S.par y.1 (List.of_mem_zip hy).1).elim .inl fun q => .inr ⟨q, PySem.W.cellsFrom_some _ _ _ (.inl q)⟩
  refine codeAny_call_function hr.depth (KX _ _ lk) rfl S.co S.gen rfl (PySem.W.codeRec_of KX hcd) (hb _ _ _ _ (wpAny_newFunctionEnv_cells S.kind kinds fun env he s1 x => ?_))
  subst he
  refine ⟨(e0.mod.nolimit.keeps kb).keeps x.toInCall.keep, codeAny_func ?_⟩
  obtain ⟨t, ht, hq⟩ := hbody (hr.deeper _)
  refine wpAny_mono (ht.run [] s1 (L2.start N vs) H _ (inv_startH S pin e0 hl rv x) hq) (fun fl s' hs => ?_) fun _ _ z => z
  cases fl with
  | ret u =>
    obtain ⟨v, σ', H', J, r', q⟩ := hs
    exact ⟨v, H', J.os, J.bare, J.base, J.hok, r', q⟩
  | next =>
    obtain ⟨σ', H', J, q⟩ := hs
    exact ⟨.non, H', J.os, J.bare, J.base, J.hok, rfl, q⟩
  | brk =>
    obtain ⟨_, _, _, q⟩ := hs
    exact q.elim
  | cont =>
    obtain ⟨_, _, _, q⟩ := hs
    exact q.elim
end
/-- what a def promises, called while p's object is handled -/
structure DFnH (P : Program) (w : World) (K : PySem.W.Frag) (mg : Str → Option Value) (base : Heap) (p : Addr × Obj) (k : Nat) (f : Addr) (fd : FuncData) (ps : List Str) (sp : Sp) : Prop where
  run : ∀ (A : Around) (outer : List Env) (s : Shared) (H : Hp) (args : Args) (us : List Value) (vs : List V) (Q : VK) (E : XK), RoomH k A → A.guards = some [] → Hot1 A p → PinOk outer H s p → Env0 P w K mg base A outer s H → BindsTo s fd args (ps.zip us) → Vals vs us → vs.length = ps.length → sp vs H Q E →
    codeAny (model P w) A (.call (.ref f) args) (CR (L2N.CX P w) outer P w H s Q E) s
abbrev cxDH (P : Program) (w : World) (K : PySem.W.Frag) (mg : Str → Option Value) (base : Heap) (N : List Str) (qual : Str) (scope : Scope) (f : Addr) (cd : Value) (A : Around) (outer : List Env) (s : Shared) (H : Hp) (E : XK) (p : Addr × Obj) : Cx := cxH (L2N.CX P w) P w K mg base N qual scope f cd A outer s H E p
section
variable {P : Program} {w : World} {K : PySem.W.Frag} {mg : Str → Option Value} {base : Heap} {T : Tb} {k : Nat} {f : Addr} {x qual : Str} {params : Arguments} {body : List Stmt} {scope : Scope} {dvs : List V} {kws : List (Str × V)} {fd : FuncData} {N ps : List Str} {n m : Nat} {b : SS} {p : Addr × Obj}
theorem dfnH (F : FunD K x qual params body scope dvs kws f fd) (S : FnScope N ps scope) (hm : N.length = n + m)
    (hbody : ∀ (R : Bs) (cdv : Value) (A : Around) (outer : List Env) (s : Shared) (H : Hp) (E : XK), Hot1 A p → RoomH k (A.deeper (envOfC qual scope s.heap.objs.size f cdv)) → A.guards = some [] → DB (cxDH P w K mg base N qual scope f cdv A outer s H E p) (T.inn R) (wE E) body b) :
    DFnH P w K mg base p (k + 1) f fd ps (spD ⟨K, mg, T⟩ n (runB m b)) := by
  obtain ⟨oc, od, dV, kV, doc, pm, an, cdv, ct, osl, rfl, lk, hcd, _, _⟩ := F.ex
  exact ⟨fun A outer s H args us vs Q E hr gu hot pin e0 hb rv hl ⟨hl2, B, im, M, ds, St, rs, Pq⟩ => run_ofH lk hcd S hr pin e0 hb rv hl fun hr2 =>
    ⟨_, hbody ⟨B.F, H, wr im Dy.noOw, im⟩ cdv A outer s H E hot hr2 gu, _, im, _, _, M, (St.enter rs hl2 hm).cg rfl rfl St.tab.2 np_val (rt_self _), body_le (T := T.inn ⟨B.F, H, wr im Dy.noOw, im⟩) rfl rfl (fun _ h => h) St Pq⟩⟩
end
end Dy

/-! Dy58: calls, comprehensions over range, fields, while an exception is handled. -/
namespace Dy
open PySem
open PySem.Spec
open PyProof.Rows hiding St
open L2
open L2H (HotC Hot1 TurnH PIH PIEH RoomH PinOk cxH)

/-- x(..) of such a def -/
def sCallH (n : Nat) (h : SF) (fas : SE (List Dm)) : SE Dm := fun r M => (fas r M).bind fun ds M1 => if ds.length = n then h ds M1 else .bad
section
variable {X : Cx} {T : Tb} {W : WX} {p : Addr × Obj}
theorem de_callH {k n : Nat} {f : Addr} {fd : FuncData} {ps : List Str} {h : SF} {x : Str} {q pos : Pos} {e : Expr} {es : List Expr} {fas : SE (List Dm)} (F : DFnH X.prog X.w X.K X.mg X.base p k f fd ps (spD (gm X T) n h)) (hnp : ps.length = n) (hot : Hot1 X.A p) (hp : p ∈ X.pn) (hr : RoomH k X.A) (gu : X.A.guards = some []) (hb : Binds X.K fd ps []) (tk : L2N.Takes X W)
    (hg : Gl X x) (hm : X.mg x = some (.ref f)) (kp : PySem.W.keepIn X.K (.ref f) = true) (ha : DA X T W (e :: es) fas) (hdb : (x == ("__debug__" : Str)) = false := by decide) (he : starEach (e :: es) X.env = (false, eval e X.env) :: starEach es X.env := by rfl) (hpl : (backTo pos (starEach es X.env)).any (·.1) = false := by rfl) :
    DE X T W (.Call (.Name x q) (e :: es) [] pos) (sCallH n h fas) := by
  refine ⟨fun pins s σ H Q I ⟨B, im, ow, r, M, S, P⟩ => ?_⟩
  refine wpAny_Call_Name_kw (ld_glob I hg hm ?_ hdb)
  refine PySem.W.callWith_K (h₀ := X.base) I.ok.mod.kin kp (thn (ha.run pos pins s σ H _ I ⟨B, im, ow, r, M, S, Post.bind (k := fun ds M1 => if ds.length = n then h ds M1 else .bad) (rl := rlVs) (Q1 := fun vs H2 => ∃ im2 M2 ds, StRel (gm X T) B im2 ow r M2 σ H2 ∧ Reps (gm X T) (ns B.F im2 ow) im2 H2 vs ds ∧ ds.length = n ∧ Post rlV (gm X T) B W im2 ow r σ H2 (h ds M2) Q) P
    fun ds M2 vs im2 H2 _ S2 E2 p2 rd P2 => by
      split at P2
      · rename_i h0
        exact ⟨im2, M2, ds, S2, rd, h0, P2⟩
      · exact P2.elim⟩) fun us s2 ⟨vs, H2, I2, rv, im2, M2, ds, S2, rd, h0, P2⟩ => ⟨I2.kIn, ?_⟩) he hpl
  show wpAny _ _ (call (.ref f) us) _ _ _
  have lv : vs.length = n := rd.length.trans h0
  have bnd := hb s2 us I2.kIn (by rw [List.append_nil, ← rv.length, lv, hnp])
  rw [List.append_nil] at bnd
  have P1 := I2.pin p (List.mem_append_left _ hp)
  have pin : PinOk X.stack H2 s2 p := ⟨P1.1, P1.2.1, fun z => (List.mem_cons.mp (I2.stkSub p.1 z)).elim P1.2.2.1 P1.2.2.2.1, P1.2.2.2.2⟩
  refine wpAny_call (codeAny_mono (F.run X.A X.stack s2 H2 ⟨us, []⟩ us vs Q (WE W σ) hr gu hot pin I2.env0 bnd rv (lv.trans hnp.symm) (callD_le S2 rd lv P2)) fun res s' back => ?_)
  cases res with
  | error er => exact L2N.passAt tk σ pins H2 s2 er s' I2 back
  | ok fl =>
    cases fl with
    | ret u => exact I2.after back
    | next => exact back.elim
    | brk => exact back.elim
    | cont => exact back.elim
/-- what is walked -/
abbrev DIH (X : Cx) (T : Tb) (W : WX) (tg iter : Expr) (f : SE (List Dm)) : Prop := PIH X tg iter (tG Src (gm X T) W f)
theorem dih_rng1 {tg a : Expr} {fa : SE Dm} {q pos : Pos} (hg : Gl X "range") (hm : X.mg "range" = none) (ha : DE X T W a fa) (hs : starEach [a] X.env = [(false, eval a X.env)] := by rfl) : DIH X T W tg (.Call (.Name "range" q) [a] [] pos) (sRng1 fa) :=
  ⟨fun pins s σ H R I ⟨B, im, ow, r, M, S, P⟩ => (L2H.pi_range1H hg hm (pa_cons ha pa_nil hs) hs).run pins s σ H R I ⟨B, im, ow, r, M, S, Post.bind (rl' := Src) P fun d M1 v im1 H1 he S1 E1 p1 r1 P1 => by
    cases r1 with
    | int j =>
      have P2 : Post Src (gm X T) B W im1 ow r σ H1 (if small62 j then .ok (rgD 0 j) M1 else .bad) R := P1
      split at P2
      · rename_i hj
        refine ⟨j, rfl, hj.1, hj.2, ?_⟩
        have z := P2.here S1 (src_rng 0 j)
        simpa using z
      · exact P2.elim
    | _ => exact P1.elim⟩⟩
theorem df_lcH {elt tg iter : Expr} {ifs : List Expr} {scope : Scope} {own : List (Str × Nat)} {pos : Pos} {it : SE (List Dm)} {k : Dm → Option (List (Nat × Dm))} {t : SE Bool} {e : SE Dm} {g : TG} (hot : Hot1 X.A p) (hpn : p ∈ X.pn) (hN : X.N.Nodup) (hi : DIH X T W tg iter it) (ok : BlkOk X.N X.env.scope scope own) (hp : Pt X.K g (own.map (·.2)) k)
    (hg : ∀ (s : Shared) (H : Hp) (C : Addr) (cl : List (Str × Addr)) (fp : List Addr), PG (hblk X s H scope (compEnvC scope cl C X.env) fp p) tg g) (ht : ∀ (s : Shared) (H : Hp) (C : Addr) (cl : List (Str × Addr)) (fp : List Addr), DTs (hblk X s H scope (compEnvC scope cl C X.env) fp p) T ifs t)
    (he : ∀ (s : Shared) (H : Hp) (C : Addr) (cl : List (Str × Addr)) (fp : List Addr), DE (hblk X s H scope (compEnvC scope cl C X.env) fp p) T W0F elt e) (hs : ∀ x, foldedSetIterable iter X.env x = pure x := by intro _; rfl) :
    DF X T W (.ListComp elt [⟨tg, iter, ifs, 0⟩] scope pos) (fLc (own.map (·.2)) it k t e) :=
  pe_le (pe_lcH hot hpn hN hi ok hg ht he hs) fun σ H Q h => lc_of hp h
/-- e.f of the exception that is handled -/
def oHotF (f : Str) : Dm → Mem → R Dm
  | .hot _ fs, M => match fs.lookup f with
    | some d => .ok d M
    | none => .bad
  | _, _ => .bad
theorem RepF.find {g : Gm} {N : Av} {im : List Addr} {H : Hp} {f : Str} {d : Dm} : ∀ {xs : List (Str × V)} {ds : List (Str × Dm)}, RepF g N im H xs ds → ds.lookup f = some d → ∃ v, xs.lookup f = some v ∧ Rep g N im H v d
  | _, _, .nil, e => nomatch e
  | _, _, .cons (k := k) q rf, e => by
    rw [List.lookup_cons] at e ⊢
    cases hk : f == k with
    | true =>
      rw [hk] at e
      cases e
      exact ⟨_, rfl, q⟩
    | false =>
      rw [hk] at e
      exact RepF.find rf e
theorem de_xf {a Ca dd : Addr} {oe : Obj} {pn : List (Addr × Obj)} {e : Expr} {fe : SE Dm} {f : Str} {pos : Pos} (hot : T.hot = some (a, Ca, some dd)) (x : XfC X.K Ca) (hno : PySem.W.findIn X.K (.ref Ca) f = some none) (hz : Zc (.ref Ca) (some dd) oe) (hf : ∃ vs, oe.data = .fields vs) (he : DE (X.suite a ((a, oe) :: pn)) T W e fe)
    (hb : attributeBase e f X.env (eval e X.env) = eval e X.env := by rfl) : DE (X.suite a ((a, oe) :: pn)) T W (.Attribute e f pos) (sUn (oHotF f) fe) :=
  pe_le (pe_xf x hno hz hf he hb) fun σ H Q ⟨B, im, ow, r, M, S, P⟩ => ⟨B, im, ow, r, M, S, Post.bind (k := oHotF f) (rl' := rlV) P fun d M1 v im1 H1 _ S1 E1 p1 r1 P1 => by
    cases r1 with
    | @hot a' Ca' d' C xs ds h1 hC hx nx rf =>
      have e1 : T.hot = some (a', Ca', d') := h1
      rw [hot] at e1
      cases e1
      have P2 : Post rlV (gm X T) B W im1 ow r σ H1 (match ds.lookup f with
        | some d => .ok d M1
        | none => .bad) Q := P1
      split at P2
      · rename_i d hd
        obtain ⟨u, hu, q⟩ := rf.find hd
        exact ⟨rfl, rfl, dd, xs, u, rfl, hx, hu, P2.here S1 q⟩
      · exact P2.elim
    | _ => exact P1.elim⟩
end
end Dy

/-! Dy59: the head in two: what open_shared lays, and one kernel run behind it. -/
noncomputable section
namespace Dy
open PySem PySem.W PySem.Calls PyProof.Rows HandSHeadRun

section
variable (st : SharedT → Thread → Option (SharedT × Thread)) (n0 : Nat) (ann : Option Value)
/-- so many steps, none of them the top's last -/
def stepsT : Nat → SharedT → Thread → Option (SharedT × Thread)
  | 0, s, t => some (s, t)
  | m + 1, s, t => match through t with
    | true => none
    | false => match stepOk n0 ann t with
      | false => none
      | true => match st s t with
        | some (s', t') => HandSHeadRun.frS s' fun s' => stepsT m s' t'
        | none => none
/-- a segment of the top, to its end -/
def segF : Nat → SharedT → Thread → Option (SharedT × Code × Pos)
  | 0, _, _ => none
  | m + 1, s, t => match endAt 1 t with
    | some f => match f with
      | .next => some (s, t.code, t.pos)
      | _ => none
    | none => match stepOk n0 ann t with
      | false => none
      | true => match st s t with
        | some (s', t') => HandSHeadRun.frS s' fun s' => segF m s' t'
        | none => none
end
theorem stepsT_ok {tb : String → Option Builtin} {p : Program} {w : World} {n0 : Nat} {ann : Option Value} : ∀ {m : Nat} {s s' : SharedT} {t t' : Thread}, stepsT (stepT (denote tb) p w) n0 ann m s t = some (s', t') → topGo tb p w n0 ann m s.abs t = some (s'.abs, t')
  | 0, _, _, _, _, h => by
    cases h
    rfl
  | m + 1, s, s', t, t', h => by
    have h1 : (match through t with
      | true => none
      | false => match stepOk n0 ann t with
        | false => none
        | true => match stepT (denote tb) p w s t with
          | some (s', t') => HandSHeadRun.frS s' fun s' => stepsT (stepT (denote tb) p w) n0 ann m s' t'
          | none => none) = some (s', t') := h
    unfold topGo
    cases ht : through t with
    | true =>
      rw [ht] at h1
      cases h1
    | false =>
      rw [ht] at h1
      cases hk : stepOk n0 ann t with
      | false =>
        rw [hk] at h1
        cases h1
      | true =>
        rw [hk] at h1
        have h2 : (match stepT (denote tb) p w s t with
          | some (s', t') => HandSHeadRun.frS s' fun s' => stepsT (stepT (denote tb) p w) n0 ann m s' t'
          | none => none) = some (s', t') := h1
        cases hs : stepT (denote tb) p w s t with
        | none =>
          rw [hs] at h2
          cases h2
        | some r =>
          obtain ⟨s2, t2⟩ := r
          rw [hs] at h2
          have h3 : (HandSHeadRun.frS s2 fun s' => stepsT (stepT (denote tb) p w) n0 ann m s' t2) = some (s', t') := h2
          rw [HandSHeadRun.frS_eq] at h3
          have q := stepsT_ok h3
          show (match step (denote tb) p w s.abs t with
            | .go s' t' => topGo tb p w n0 ann m s' t'
            | .halt _ _ => none) = some (s'.abs, t')
          rw [stepT_spec hs]
          exact q
theorem segF_ok {tb : String → Option Builtin} {p : Program} {w : World} {n0 : Nat} {ann : Option Value} : ∀ {m : Nat} {s s' : SharedT} {t : Thread} {c : Code} {q : Pos}, segF (stepT (denote tb) p w) n0 ann m s t = some (s', c, q) → segRun tb p w n0 ann 1 m s.abs t = some (.next, s'.abs, c, q)
  | 0, _, _, _, _, _, h => by cases h
  | m + 1, s, s', t, c, q, h => by
    have h1 : (match endAt 1 t with
      | some f => match f with
        | .next => some (s, t.code, t.pos)
        | _ => none
      | none => match stepOk n0 ann t with
        | false => none
        | true => match stepT (denote tb) p w s t with
          | some (s', t') => HandSHeadRun.frS s' fun s' => segF (stepT (denote tb) p w) n0 ann m s' t'
          | none => none) = some (s', c, q) := h
    unfold segRun
    cases he : endAt 1 t with
    | some f =>
      rw [he] at h1
      cases f with
      | next =>
        cases h1
        rfl
      | _ => cases h1
    | none =>
      rw [he] at h1
      cases hk : stepOk n0 ann t with
      | false =>
        rw [hk] at h1
        cases h1
      | true =>
        rw [hk] at h1
        have h2 : (match stepT (denote tb) p w s t with
          | some (s', t') => HandSHeadRun.frS s' fun s' => segF (stepT (denote tb) p w) n0 ann m s' t'
          | none => none) = some (s', c, q) := h1
        cases hs : stepT (denote tb) p w s t with
        | none =>
          rw [hs] at h2
          cases h2
        | some r =>
          obtain ⟨s2, t2⟩ := r
          rw [hs] at h2
          have h3 : (HandSHeadRun.frS s2 fun s' => segF (stepT (denote tb) p w) n0 ann m s' t2) = some (s', c, q) := h2
          rw [HandSHeadRun.frS_eq] at h3
          have z := segF_ok h3
          show (match step (denote tb) p w s.abs t with
            | .go s' t' => segRun tb p w n0 ann 1 m s' t'
            | .halt _ _ => none) = some (.next, s'.abs, c, q)
          rw [stepT_spec hs]
          exact z
/-- the boot's state, its heap as a tree -/
def bootQ (w : World) (os : OsState) : Option SharedT := match putAll (boot_heap w.params).objs.toList .nil 0 with
  | some (t, n) => frNat n fun n => some (bootT w os (t, n))
  | none => none
theorem bootQ_ok {w : World} {os : OsState} {s : SharedT} (h : bootQ w os = some s) : s.abs = ⟨boot_heap w.params, #[], boot_drawn, boot_toks, os⟩ := by
  unfold bootQ at h
  cases e : putAll (boot_heap w.params).objs.toList .nil 0 with
  | none =>
    rw [e] at h
    cases h
  | some r =>
    obtain ⟨t, n⟩ := r
    rw [e] at h
    have h1 : (frNat n fun n => some (bootT w os (t, n))) = some s := h
    rw [frNat_eq] at h1
    have eh := putAll_heap e
    cases h1
    show (⟨absHeap t n (boot_heap w.params).life, #[], boot_drawn, boot_toks, os⟩ : Shared) = _
    rw [eh]
/-! ### by the library's twins -/
def execsQ : List Stmt → Env → Sem Flow := PySem.W.Fast.tw12563942051412417395
theorem execsQ_eq : @PySem.execs = execsQ := PySem.W.Fast.te12563942051412417395
def restQ (rest : List Stmt) (env : Env) (c : Code) (p : Pos) (B : List Frame) : Thread := ⟨(execsQ rest env).wrap doneF (leaveH env) id id, c, p, B⟩
theorem restQ_eq (rest : List Stmt) (env : Env) (c : Code) (p : Pos) (B : List Frame) : restOf rest env c p B = restQ rest env c p B := by
  unfold restOf restQ
  rw [execsQ_eq]
/-- the state behind the stub's steps -/
def preQ (p : Program) (m0 : Nat) (ann : Option Value) (k0 : Nat) (w : World) (os : OsState) : Option (SharedT × Thread) := match bootQ w os with
  | some s0 => stepsT (stepQ (denQ tabQ) p w) m0 ann k0 s0 (topStub p)
  | none => none
theorem run_two {p : Program} {w : World} {os : OsState} {m0 : Nat} {ann : Option Value} {env : Env} {q pos0 posB posK : Pos} {k0 k1 M : Nat} {sb sk s : SharedT} {rest rs : List Stmt} {F : Nat → Nat}
    (em : (boot_heap w.params).objs.size = m0) (ea : bootAnn w = ann)
    (h1 : (preQ p m0 ann k0 w os).map (fun x => x.2) = some ⟨denQ tabQ (.body (behindTheImports p) env), .body (behindTheImports p) env, pos0, [topFrame q]⟩)
    (h2 : (preQ p m0 ann k0 w os).bind (fun x => segF (stepQ (denQ tabQ) p w) m0 ann k1 x.1 (blockOf (behindTheImports p) env (.body (behindTheImports p) env) pos0 [topFrame q])) = some (sb, .body (behindTheImports p) env, posB))
    (eb : behindTheImports p = rs)
    (ch : ∀ N r, topRun treeTable p w m0 ann N sk.abs (restOf rest env (.body (behindTheImports p) env) posK [topFrame q]) = some r → topRun treeTable p w m0 ann (F N) sb.abs (restOf rs env (.body (behindTheImports p) env) posB [topFrame q]) = some r)
    (h3 : goF (stepQ (denQ tabQ) p w) m0 ann M sk (restQ rest env (.body (behindTheImports p) env) posK [topFrame q]) = some s) :
    topRun treeTable p w (boot_heap w.params).objs.size (bootAnn w) (k0 + (k1 + F M)) ⟨boot_heap w.params, #[], boot_drawn, boot_toks, os⟩ (topStub p) = some s.abs := by
  rw [em, ea]
  cases e : preQ p m0 ann k0 w os with
  | none =>
    rw [e] at h1
    cases h1
  | some x =>
    obtain ⟨sa, t1⟩ := x
    rw [e] at h1 h2
    have et : t1 = ⟨denQ tabQ (.body (behindTheImports p) env), .body (behindTheImports p) env, pos0, [topFrame q]⟩ := Option.some.inj h1
    have h2' : segF (stepQ (denQ tabQ) p w) m0 ann k1 sa (blockOf (behindTheImports p) env (.body (behindTheImports p) env) pos0 [topFrame q]) = some (sb, .body (behindTheImports p) env, posB) := h2
    unfold preQ at e
    cases e0 : bootQ w os with
    | none =>
      rw [e0] at e
      cases e
    | some s0 =>
      rw [e0] at e
      have e' : stepsT (stepQ (denQ tabQ) p w) m0 ann k0 s0 (topStub p) = some (sa, t1) := e
      rw [← stepQ_eq, ← denQ_eq, ← tabQ_eq] at e' h2' h3
      rw [← denQ_eq, ← tabQ_eq] at et
      subst et
      have g1 := stepsT_ok e'
      rw [bootQ_ok e0] at g1
      have g2 := segF_ok h2'
      have g3 := goF_ok h3
      rw [← restQ_eq] at g3
      have g4 := ch _ _ g3
      rw [← eb] at g4
      exact go_top g1 (piece_block g2 g4)
theorem left_run {p q : Program} {loose : List Str} {Xt : Shared → Bool} {α : Type} {Yf : Shared → α} {Ya : World → α} {N M : Nat}
    (e : opening p = plainProg p.main.scope.names) (hN : Nat.ble 600 N = true) (f : ∀ s, fenceModules? p s = some s) (le : Nat.ble M N = true)
    (run : ∀ (w : World) (os : OsState), ∃ s : Shared, topRun treeTable p w (boot_heap w.params).objs.size (bootAnn w) M ⟨boot_heap w.params, #[], boot_drawn, boot_toks, os⟩ (topStub p) = some s ∧ (looksF p (boot_heap w.params) s, openSeen q loose (importedModules p.main.body) Xt true s, Yf s) = (true, openGood q loose, Ya w)) :
    LeftO p q loose Xt Yf Ya N true := fun w => by
  obtain ⟨⟨h, gs, d, k, os⟩, a, a'⟩ := Option.map_eq_some_iff.mp (boot_open e hN f w)
  obtain ⟨rfl, rfl, rfl, rfl⟩ : h = boot_heap w.params ∧ gs = Array.mk [] ∧ d = boot_drawn ∧ k = boot_toks := by simpa using a'
  obtain ⟨s, hs, hv⟩ := run w os
  obtain ⟨l1, l2, l3⟩ : _ ∧ _ ∧ _ := by simpa only [Prod.mk.injEq] using hv
  have r := topRun_mono (N - M) _ _ _ _ hs
  rw [show M + (N - M) = N by have := Nat.le_of_ble_eq_true le; omega] at r
  have l1' : (staticsOk (importedModules p.main.body) (boot_heap w.params) s.heap && namesBound p s.heap && gensDone s && laidKept (boot_heap w.params) s.heap) = true := l1
  have t : topFrom treeTable p w N ⟨boot_heap w.params, Array.mk [], boot_drawn, boot_toks, os⟩ = some s := by
    unfold topFrom
    dsimp only
    rw [boot_ns]
    show (topRun treeTable p w (boot_heap w.params).objs.size (bootAnn w) N ⟨boot_heap w.params, #[], boot_drawn, boot_toks, os⟩ (topStub p)).bind _ = _
    rw [r]
    show (match staticsOk (importedModules p.main.body) (boot_heap w.params) s.heap && namesBound p s.heap && gensDone s && laidKept (boot_heap w.params) s.heap with | true => some s | false => none) = _
    rw [l1']
  unfold openEnds
  rw [a]
  show (topFrom treeTable p w N _).map _ = _
  rw [t]
  exact congrArg some (Prod.ext l2 l3)
end Dy

/-! Dy60: the head in two, with the facts over a part that the run itself lays out. -/
noncomputable section
namespace Dy
open PySem
open PySem.Spec
open PyProof.Rows hiding St

/-- is this object of the part -/
def inPart (a : Addr) (o : Obj) : Bool := match He.emptyTab o with
  | true => false
  | false => match o with
    | ⟨.none, _, _, _⟩ => Nat.beq a cStatics || Nat.beq a mainNs
    | _ => true
/-- all objects below n, the lowest first -/
def partR (g : Addr → Option Obj) : Nat → PySem.W.Frag → PySem.W.Frag
  | 0, acc => acc
  | n + 1, acc => match g n with
    | some ⟨c, d, dt, sl⟩ => (match inPart n ⟨c, d, dt, sl⟩ with
      | true => partR g n ((n, ⟨c, d, dt, sl⟩) :: acc)
      | false => partR g n acc)
    | none => partR g n acc
def withPart {α : Type} (g : Addr → Option Obj) (k : PySem.W.Frag → α) : Nat → PySem.W.Frag → α
  | 0, acc => k acc
  | n + 1, acc => match g n with
    | some ⟨c, d, dt, sl⟩ => (match inPart n ⟨c, d, dt, sl⟩ with
      | true => withPart g k n ((n, ⟨c, d, dt, sl⟩) :: acc)
      | false => withPart g k n acc)
    | none => withPart g k n acc
theorem withPart_eq {α : Type} {g : Addr → Option Obj} {k : PySem.W.Frag → α} : ∀ {n : Nat} {acc : PySem.W.Frag}, withPart g k n acc = k (partR g n acc)
  | 0, _ => rfl
  | n + 1, acc => by
    unfold withPart partR
    cases e : g n with
    | none => exact withPart_eq
    | some o =>
      obtain ⟨c, d, dt, sl⟩ := o
      dsimp only
      cases e2 : inPart n ⟨c, d, dt, sl⟩ with
      | true => exact withPart_eq
      | false => exact withPart_eq
theorem partR_mem {g : Addr → Option Obj} : ∀ {n : Nat} {acc : PySem.W.Frag}, (∀ q ∈ acc, g q.1 = some q.2 ∧ He.emptyTab q.2 = false) → ∀ q ∈ partR g n acc, g q.1 = some q.2 ∧ He.emptyTab q.2 = false
  | 0, _, h => h
  | n + 1, acc, h => by
    unfold partR
    cases e : g n with
    | none => exact partR_mem h
    | some o =>
      obtain ⟨c, d, dt, sl⟩ := o
      dsimp only
      cases e2 : inPart n ⟨c, d, dt, sl⟩ with
      | true =>
        refine partR_mem fun q hq => ?_
        rcases List.mem_cons.mp hq with rfl | hq
        · refine ⟨e, ?_⟩
          cases e3 : He.emptyTab ⟨c, d, dt, sl⟩ with
          | false => rfl
          | true =>
            unfold inPart at e2
            rw [e3] at e2
            cases e2
        · exact h q hq
      | false => exact partR_mem h
theorem partR_at {g : Addr → Option Obj} {n : Nat} {a : Addr} {o : Obj} (h : (partR g n []).lookup a = some o) : g a = some o ∧ He.emptyTab o = false :=
  partR_mem (fun _ hq => absurd hq List.not_mem_nil) (a, o) (He.lookup_mem h)
theorem partR_none {g : Addr → Option Obj} {n : Nat} {a : Addr} {o : Obj} (h : g a = some o) (ht : He.emptyTab o = true) : (partR g n []).lookup a = none := by
  cases e : (partR g n []).lookup a with
  | none => rfl
  | some u =>
    obtain ⟨h1, h2⟩ := partR_at e
    rw [h] at h1
    rw [← Option.some.inj h1, ht] at h2
    cases h2
def obsR (fa : List He.Fa) (fn : List He.DefD) (tf : List He.Defn) (st : List StD) (ex : PySem.W.Frag → Bool) (n : Nat) (g : Addr → Option Obj) : AlS := withPart g (fun K => obsK fa fn tf st ex g K) n []
theorem saysR_of {fa : List He.Fa} {fn : List He.DefD} {tf : List He.Defn} {st : List StD} {ex : PySem.W.Frag → Bool} {n : Nat} {w : World} {h : Heap} (e : obsR fa fn tf st ex n h.get? = ((He.valD fn, true), st.map StD.val)) : SaysS fa fn tf st ex w h (partR h.get? n []) := by
  unfold obsR at e
  rw [withPart_eq] at e
  have e1 : He.obsD fa fn (partR h.get? n []) = He.valD fn := congrArg (fun z : AlS => z.1.1) e
  have e2 : ((ex (partR h.get? n []) && st.all fun d => d.ok (partR h.get? n [])) && He.tabsB h.get? tf (partR h.get? n [])) = true := congrArg (fun z : AlS => z.1.2) e
  have e3 : st.map (stW (partR h.get? n [])) = st.map StD.val := congrArg (fun z : AlS => z.2) e
  obtain ⟨y1, y2⟩ := Bool.and_eq_true_iff.mp e2
  have tab : ∀ p ∈ tf, PySem.W.codeHdIn (partR h.get? n []) (He.cT (partR h.get? n []) p).1 (He.cT (partR h.get? n []) p).2 = true ∧ ∃ o, h.get? (He.cT (partR h.get? n []) p).2 = some o ∧ He.emptyTab o = true := fun p hp => by
    obtain ⟨z1, z2⟩ := Bool.and_eq_true_iff.mp (List.all_eq_true.mp y2 p hp)
    refine ⟨z1, ?_⟩
    split at z2
    · rename_i o ho
      exact ⟨o, ho, z2⟩
    · cases z2
  refine ⟨e1, y1, fun p hp => (tab p hp).1, fun p hp => ?_, fun p hp => ?_, e3⟩ <;> obtain ⟨_, o, ho, ht⟩ := tab p hp
  · exact partR_none ho ht
  · rw [ho, He.emptyTab_eq ht]
def hookR (fa : List He.Fa) (fn : List He.DefD) (tf : List He.Defn) (st : List StD) (ex : PySem.W.Frag → Bool) (n : Nat) : PySem.W.Hook where
  α := AlS
  obs := fun s => obsR fa fn tf st ex n s.heap.get?
  val := fun _ => ((He.valD fn, true), st.map StD.val)
  says := fun w h => ∃ K : PySem.W.Frag, K.In h ∧ SaysS fa fn tf st ex w h K
  of := fun _ _ e => ⟨_, fun _ _ e => (partR_at e).1, saysR_of e⟩
  keeps := fun _ _ _ ⟨K, hK, c⟩ k => ⟨K, PySem.W.Frag.In.keeps hK k, { c with empty := fun p hp => k _ _ (c.empty p hp) }⟩
theorem obsR_eq {fa : List He.Fa} {fn : List He.DefD} {tf : List He.Defn} {st : List StD} {ex : PySem.W.Frag → Bool} {n : Nat} {g : Addr → Option Obj} {s : Shared} (h : ∀ a, g a = s.heap.get? a) : obsR fa fn tf st ex n g = (hookR fa fn tf st ex n).obs s := by
  have e : g = s.heap.get? := funext h
  rw [e]
  rfl
open PySem.W PySem.Calls PyProof.Rows HandSHeadRun in
/-- the run in two, to its end: what is looked at there -/
def EndsIn (r : OpenRow) (q : Program) (H : Hook) (ob : SharedT → H.α) (M : Nat) (loose : List PySem.Str) (w : World) : Prop :=
  ∀ os : OsState, ∃ s : SharedT, topRun treeTable r.prog w (boot_heap w.params).objs.size (bootAnn w) M ⟨boot_heap w.params, #[], boot_drawn, boot_toks, os⟩ (topStub r.prog) = some s.abs ∧
    (looksF r.prog (boot_heap w.params) s.abs, seenQ q loose (importedModules r.prog.main.body) (fun s => xlAt q [] s && recOk r.toRowW.records s) s.abs, ob s) = (true, openGood q loose, H.val w)
open PySem.W PySem.Calls PyProof.Rows HandSHeadRun in
theorem head_two {r : OpenRow} {q : Program} {H : Hook} {ob : SharedT → H.α} {M : Nat} {loose : List PySem.Str} {d : DefRec} {kwd : List (PySem.Str × PySem.Expr)} (ho : ∀ s : SharedT, ob s = H.obs s.abs)
    (e : opening r.prog = plainProg r.prog.main.scope.names) (f : ∀ s, fenceModules? r.prog s = some s) (run : ∀ w, EndsIn r q H ob M loose w)
    (hdef : defOf q r.name = some (d, kwd)) (hp : r.prog.theDef r.name = some (d.params, d.body, d.scope)) (hk : kwWritten? d.params.kwonlyargs d.params.kw_defaults = some kwd)
    (hwr : (!r.writes || r.records.isEmpty) = true) (k1 : r.wellSaid = true) (ok : (chainsOk q && opensWell r.prog && (frees r.toRowW && r.within.isEmpty)) = true) (hb : r.prog.bare) (hw : r.toRowW.promised)
    (call : WalkO q loose (XL q []) H.says r.toRowW d kwd fun f vs => PySem.call f vs) : r.Holds := by
  have left : LeftO r.prog q loose (fun s => xlAt q [] s && recOk r.toRowW.records s) H.obs H.val (M + 600) true :=
    left_run (M := M) e (Nat.ble_eq_true_of_le (by omega)) f (Nat.ble_eq_true_of_le (by omega)) fun w os => by
      obtain ⟨s, h1, h2⟩ := run w os
      refine ⟨s.abs, h1, ?_⟩
      rw [ho] at h2
      simp only [seenQ_eq]
      exact h2
  exact holds_open (r := r) (q := q) (loose := loose) (XP := XL q []) (YP := H.says) (d := d) (kwd := kwd) left H.of H.keeps (fun s z => xl_of s (Bool.and_eq_true_iff.mp z).1) XL.keeps hdef hp hk (fun s z => recFacts_of (Bool.and_eq_true_iff.mp z).2) hwr k1 ok hb hw call
open PySem.W PySem.Calls PyProof.Rows HandSHeadRun in
theorem ends_in {r : OpenRow} {q : Program} {H : Hook} {ob : SharedT → H.α} {loose : List PySem.Str} {w : World} {m0 : Nat} {ann : Option Value} {env : Env} {qp pos0 posB posK : Pos} {k0 k1 M : Nat} {sb sk sq : OsState → SharedT} {rest rs : List Stmt} {F : Nat → Nat}
    (em : (boot_heap w.params).objs.size = m0) (ea : bootAnn w = ann)
    (h1 : ∀ os, (preQ r.prog m0 ann k0 w os).map (fun x => x.2) = some ⟨denQ tabQ (.body (behindTheImports r.prog) env), .body (behindTheImports r.prog) env, pos0, [topFrame qp]⟩)
    (h2 : ∀ os, (preQ r.prog m0 ann k0 w os).bind (fun x => segF (stepQ (denQ tabQ) r.prog w) m0 ann k1 x.1 (blockOf (behindTheImports r.prog) env (.body (behindTheImports r.prog) env) pos0 [topFrame qp])) = some (sb os, .body (behindTheImports r.prog) env, posB))
    (eb : behindTheImports r.prog = rs)
    (ch : ∀ os N x, topRun treeTable r.prog w m0 ann N (sk os).abs (restOf rest env (.body (behindTheImports r.prog) env) posK [topFrame qp]) = some x → topRun treeTable r.prog w m0 ann (F N) (sb os).abs (restOf rs env (.body (behindTheImports r.prog) env) posB [topFrame qp]) = some x)
    (es : ∀ os, sk os = sq os)
    (h3 : ∀ os, (goF (stepQ (denQ tabQ) r.prog w) m0 ann M (sq os) (restQ rest env (.body (behindTheImports r.prog) env) posK [topFrame qp])).map (fun s => (looksF r.prog (boot_heap w.params) s.abs, seenQ q loose (importedModules r.prog.main.body) (fun s => xlAt q [] s && recOk r.toRowW.records s) s.abs, ob s)) = some (true, openGood q loose, H.val w)) :
    EndsIn r q H ob (k0 + (k1 + F M)) loose w := fun os => by
  obtain ⟨s, hs, hv⟩ := Option.map_eq_some_iff.mp (h3 os)
  rw [← es os] at hs
  exact ⟨s, run_two em ea (h1 os) (h2 os) eb (ch os) hs, hv⟩
end Dy

/-! Dy61: raising, by facts that the head tells. -/
namespace Dy
open PySem
open PySem.Spec
open PyProof.Rows hiding St
open L2

/-- an own class over ValueError, as it is written out -/
def oexB (K : PySem.W.Frag) (C : Addr) : Bool := match K.lookup C with
  | some ⟨.type "type", _, .cls cd, sl⟩ => (match cd.mro, sl.toList with
    | .ref C' :: bm, [_, _, _, _, some (.builtin n), _] => C' == C && (n == "ValueError.__new__" && (!cd.hasDel && (cd.hasDict && PySem.HandSPX.refsVE bm)))
    | _, _ => false)
  | _ => false
theorem oexB_ok {K : PySem.W.Frag} {C : Addr} (q : oexB K C = true) : ∃ nm q N bs bm sn sub ab col dd k0 k1 k2 k3 k5, K.lookup C = some (excClassObj nm q C N bs bm true sn sub ab col dd k0 k1 k2 k3 k5 "ValueError.__new__") ∧ PySem.HandSPX.refsVE bm = true := by
  unfold oexB at q
  split at q
  · rename_i dd cd sl ho
    split at q
    · rename_i C' bm k0 k1 k2 k3 n k5 hm hs
      simp only [Bool.and_eq_true, beq_iff_eq, Bool.not_eq_true'] at q
      obtain ⟨rfl, rfl, hdel, hd0, ht⟩ := q
      obtain ⟨nm, bs, mro, ns, qn, hd, sn, sub, ab, col, del⟩ := cd
      dsimp only at hm hdel hd0
      subst hm hdel hd0
      have hsl : sl = #[k0, k1, k2, k3, some (.builtin "ValueError.__new__"), k5] := by
        obtain ⟨l⟩ := sl
        simp only at hs
        rw [hs]
      subst hsl
      exact ⟨nm, qn, ns, bs, bm, sn, sub, ab, col, dd, k0, k1, k2, k3, k5, ho, ht⟩
    · cases q
  · cases q
/-- what raising C(e) asks of the written part -/
structure RaX (K : PySem.W.Frag) (C : Addr) (f : Str) (fI : Addr) : Prop where
  o : OexC K C
  ini : PySem.W.findIn K (.ref C) "__init__" = some (some (.ref fI))
  ty : PySem.W.typeIn K (.ref fI) = some (.type "function")
  no : PySem.W.findIn K (.ref C) f = some none
def raB (K : PySem.W.Frag) (x f : Str) (fI : Addr) : Bool := oexB K (He.ga K x) && (He.eqO (PySem.W.findIn K (.ref (He.ga K x)) "__setattr__") (some (some (.builtin "object.__setattr__"))) && (decide (PySem.W.subIn K (.ref (He.ga K x)) (.type "BaseException") = some true) && (decide (PySem.W.typeIn K (.ref (He.ga K x)) = some (.type "type")) &&
  (PySem.W.keepIn K (.ref (He.ga K x)) && (He.eqO (PySem.W.findIn K (.ref (He.ga K x)) "__init__") (some (some (.ref fI))) && (decide (PySem.W.typeIn K (.ref fI) = some (.type "function")) && He.eqO (PySem.W.findIn K (.ref (He.ga K x)) f) (some none)))))))
theorem raB_ok {K : PySem.W.Frag} {x f : Str} {fI : Addr} (h : raB K x f fI = true) : RaX K (He.ga K x) f fI := by
  unfold raB at h
  simp only [Bool.and_eq_true, decide_eq_true_eq] at h
  obtain ⟨h1, h2, h3, h4, h5, h6, h7, h8⟩ := h
  exact ⟨⟨oexB_ok h1, He.eqO_ok h2, h3, h4, h5⟩, He.eqO_ok h6, h7, He.eqO_ok h8⟩
section
variable {X : Cx} {T : Tb} {W : WX} {e : Expr} {fe : SE Dm} {x f : Str} {C fI : Addr} {fd : FuncData} {ps : List Str} {p pos pos' : Pos}
theorem ds_raise1 (R : RaX X.K C f fI) (F1 : FnOk X.prog X.w X.K X.mg X.base (L2N.CX X.prog X.w) 1 fI fd ps (spI C f)) (hb : BindsP X.K fd ps) (site : Site X 2) (tk : L2N.Takes X W) (hc : X.calm = true) (hg : Gl X x) (hm : X.mg x = some (.ref C)) (he : DE X T W e fe)
    (hdb : (x == ("__debug__" : Str)) = false := by decide) (hst : starEach [e] X.env = (false, eval e X.env) :: starEach [] X.env := by rfl) :
    DS X T W (.Raise (some (.Call (.Name x p) [e] [] pos)) none pos') (sRaise x f fe) :=
  ds_raise hc tk (pmk_one R.o R.ini R.ty F1 site (fun s us h1 h2 => by
    rw [List.append_nil] at h2 ⊢
    exact hb s us h1 h2) tk hg hm he hdb hst) hm
end
end Dy

/-! Dy62: what is asked of a context while an exception is handled; isinstance and fields there. -/
namespace Dy
open PySem
open PySem.Spec
open PyProof.Rows hiding St
open L2
open L2H (HotC Hot1 RoomH)

/-- what holds of a context while p's object is handled -/
structure SiteH (X : Cx) (p : Addr × Obj) (k : Nat) : Prop where
  room : RoomH k X.A
  gu : X.A.guards = some []
  hot : Hot1 X.A p
  pn : p ∈ X.pn
theorem SiteH.mono {X : Cx} {p : Addr × Obj} {j k : Nat} (s : SiteH X p k) (h : j ≤ k) : SiteH X p j := ⟨s.room.mono h, s.gu, s.hot, s.pn⟩
theorem SiteH.ut {X : Cx} {p : Addr × Obj} {k : Nat} (s : SiteH X p k) : Ut X := ⟨by have := s.room.un; omega, s.gu⟩
section
variable {P : Program} {w : World} {K : PySem.W.Frag} {mg : Str → Option Value} {base : Heap} {N : List Str} {qual : Str} {scope : Scope} {f : Addr} {cd : Value} {A : Around} {outer : List Env} {s : Shared} {H : Hp} {E : XK} {p : Addr × Obj} {k : Nat}
theorem siteH (hot : Hot1 A p) (hr : RoomH k (A.deeper (envOfC qual scope s.heap.objs.size f cd))) (gu : A.guards = some []) : SiteH (cxDH P w K mg base N qual scope f cd A outer s H E p) p k := ⟨hr, gu, hot, .head _⟩
end
section
variable {X : Cx} {T : Tb} {W : WX} {a Ca dd : Addr} {oe : Obj} {pn : List (Addr × Obj)} {k : Nat}
theorem siteS (site : Site X k) (hz : L2N.Zn (.ref Ca) (some dd) oe) (hf : ∃ vs, oe.data = .fields vs) : SiteH (X.suite a ((a, oe) :: pn)) (a, oe) k :=
  ⟨⟨site.room.dp, site.room.un⟩, site.gu, ⟨rfl, by
    obtain ⟨vs, e⟩ := hf
    exact ⟨vs, e, hz.2.2 vs e⟩⟩, .head _⟩
theorem heatS (hz : L2N.Zn (.ref Ca) (some dd) oe) (hf : ∃ vs, oe.data = .fields vs) : HeatX (X.suite a ((a, oe) :: pn)) (T.heat (a, Ca, some dd)) a Ca dd oe := ⟨rfl, .head _, hz.zc, hf⟩
theorem site_tr {xe : Value → Shared → Prop} (site : Site X k) : Site (X.tr pn xe) k := ⟨site.room, site.gu⟩
/-- isinstance of the handled exception -/
theorem de_isH {a1 : Str → Str → Option Bool} {a2 : Str → String → Option Bool} {e c : Expr} {fe fc : SE Dm} {q pos : Pos} (h : HeatX X T a Ca dd oe) (A : AnsOk X.K X.mg a1 a2) (hg : Gl X "isinstance") (hm : X.mg "isinstance" = none) (he : DE X T W e fe) (hc : DE X T W c fc)
    (hs : starEach (e :: [c]) X.env = (false, eval e X.env) :: starEach [c] X.env := by rfl) (hpl : (backTo pos (starEach [c] X.env)).any (·.1) = false := by rfl) (hs2 : starEach [c] X.env = (false, eval c X.env) :: starEach [] X.env := by rfl) :
    DE X T W (.Call (.Name "isinstance" q) [e, c] [] pos) (sCall (oIsH a1 a2) (sCons fe (sCons fc sNil))) :=
  de_callB (call_isX h) (c_isX h A) hg hm rfl (da_cons he (da_cons hc da_nil hs2) hs) (by decide) (by decide) hs hpl
end
end Dy

/-! Dy63: a list made of two, as a new object. -/
namespace Dy
open PySem
open PySem.Spec
open PyProof.Rows hiding St
open L2

def oCatF : Dm → Dm → Mem → R MO
  | .lst x, .lst y, M => if x.length + y.length ≤ sizeLine then .ok (.lst (x ++ y)) M else .bad
  | _, _, _ => .bad
def fCat (fa fb : SE Dm) : SE MO := fun r M => (fa r M).bind fun x M1 => (fb r M1).bind fun y M2 => oCatF x y M2
section
variable {X : Cx} {T : Tb} {W : WX} {a b : Expr} {fa fb : SE Dm} {pos : Pos}
theorem df_cat (ha : DE X T W a fa) (hb : DE X T W b fb) : DF X T W (.BinOp a .Add b pos) (fCat fa fb) := pe_le (pe_op op_cat ha hb) fun σ H Q ⟨B, im, ow, r, M, S, P⟩ =>
  ⟨B, im, ow, r, M, S, PostF.bind (rl := rlV) P fun x M1 v im1 H1 _ S1 E1 p1 r1 P1 => ⟨B, im1, ow, r, M1, S1, PostF.bind (rl := rlV) P1 fun y M2 u im2 H2 _ S2 E2 p2 r2 P2 => by
    have r1' := Rep.mono E2.ns p2 r1
    cases r1' with
    | lst h1 n1 q1 =>
      cases r2 with
      | lst h2 n2 q2 =>
        unfold oCatF at P2
        dsimp only at P2
        split at P2
        · rename_i hl
          exact ⟨_, _, _, _, rfl, rfl, h1, h2, by rw [q1.length, q2.length]; exact hl, fun p hp => P2 p im2 _ (New.of_new S2 hp (fun ps z => by cases z) ⟨_, upd_same, (Reps.mono (Ext.plus hp) (List.prefix_refl _) q1).append (Reps.mono (Ext.plus hp) (List.prefix_refl _) q2)⟩) (Ext.new hp) (List.prefix_refl _) (S2.frh hp)⟩
        · exact P2.elim
      | _ => exact P2.elim
    | _ =>
      exfalso
      revert P2
      first | (cases r2 <;> exact fun z => z) | exact fun z => z⟩⟩
end
end Dy

/-! Dy64: try by tables: which classes may come, what catches them, what isinstance says of them. -/
namespace Dy
open PySem
open PySem.Spec
open PyProof.Rows hiding St
open L2

/-- names of the text that stand for objects of the written part -/
def GlAll (K : PySem.W.Frag) (mg : Str → Option Value) (xs : List Str) : Prop := ∀ x ∈ xs, mg x = some (.ref (He.ga K x))
theorem gl_nil {K : PySem.W.Frag} {mg : Str → Option Value} : GlAll K mg [] := fun _ h => absurd h List.not_mem_nil
theorem gl_cons {K : PySem.W.Frag} {mg : Str → Option Value} {x : Str} {xs : List Str} (h : mg x = some (.ref (He.ga K x))) (r : GlAll K mg xs) : GlAll K mg (x :: xs) := fun y hy => by
  rcases List.mem_cons.mp hy with rfl | hy
  · exact h
  · exact r y hy
theorem lookup_memS {β : Type} {x : Str} {b : β} : ∀ {l : List (Str × β)}, l.lookup x = some b → (x, b) ∈ l
  | [], h => by cases h
  | (y, c) :: l, h => by
    rw [List.lookup_cons] at h
    cases e : x == y with
    | true =>
      rw [e] at h
      cases h
      rw [eq_of_beq e]
      exact .head _
    | false =>
      rw [e] at h
      exact .tail _ (lookup_memS h)
/-! ### what may come -/
def known (ks : List (Str × Bool)) (fb : SS) : SS := fun r M => match fb r M with
  | .ex r1 C xs M1 => (match ks.lookup C with
    | some _ => .ex r1 C xs M1
    | none => .bad)
  | q => q
def catL (ks : List (Str × Bool)) (C : Str) : Bool := match ks.lookup C with
  | some b => b
  | none => false
def sTryK (ks : List (Str × Bool)) (j : Nat) (fb fs : SS) : SS := sTryX (catL ks) j (known ks fb) fs
def exmB (K : PySem.W.Frag) (c1 c2 c3 : Str) (ks : List (Str × Bool)) : Bool := ks.all fun q => decide (PySem.W.exmAny K (.ref (He.ga K q.1)) [.ref (He.ga K c1), .ref (He.ga K c2), .ref (He.ga K c3)] = some q.2)
section
variable {X : Cx} {T : Tb} {W : WX} {x1 x2 x3 n : Str} {i kt : Nat} {body suite : List Stmt} {b₀ : Stmt} {q1 q2 q3 pt pos pos' : Pos} {fb fs : SS} {ks : List (Str × Bool)} {l : List Stmt}
theorem db_known (h : DB X T W l fb) : DB X T W l (known ks fb) := pss_le h fun σ H Q ⟨B, im, ow, r, M, S, P⟩ => ⟨B, im, ow, r, M, S, by
  unfold known at P
  cases hq : fb r M with
  | ex r1 C xs M1 =>
    rw [hq] at P
    dsimp only at P
    split at P
    · exact P
    · exact P.elim
  | nx r1 M1 =>
    rw [hq] at P
    exact P
  | bk r1 M1 =>
    rw [hq] at P
    exact P
  | ct r1 M1 =>
    rw [hq] at P
    exact P
  | rt d M1 =>
    rw [hq] at P
    exact P
  | rf m M1 =>
    rw [hq] at P
    exact P
  | bad =>
    rw [hq] at P
    exact P.elim⟩
theorem ds_tryK (h0 : T.hot = none) (hs : X.stack = X.env :: X.outer) (hf : X.env.frame = some X.env.locals) (hN : X.N.Nodup) (hi : X.N[i]? = some n) (hln : X.env.kindOf n = some .local) (g1 : Gl X x1) (g2 : Gl X x2) (g3 : Gl X x3) (m1 : X.mg x1 = some (.ref (He.ga X.K x1))) (m2 : X.mg x2 = some (.ref (He.ga X.K x2))) (m3 : X.mg x3 = some (.ref (He.ga X.K x3)))
    (hd : (x1 == ("__debug__" : Str)) = false ∧ (x2 == ("__debug__" : Str)) = false ∧ (x3 == ("__debug__" : Str)) = false) (tk : L2N.Takes X W) (hk : exmB X.K x1 x2 x3 ks = true) (hg : GlAll X.K X.mg (ks.map (·.1)))
    (hb : ∀ (W' : WX) (pn : List (Addr × Obj)) (xe : Value → Shared → Prop), L2N.Takes (X.tr pn xe) W' → PassesOwn (model X.prog X.w) X.A X.env xe → DB (X.tr pn xe) T W' body fb)
    (hsu : ∀ (a dd : Addr) (oe : Obj) (pn : List (Addr × Obj)) (C : Str), L2N.Zn (.ref (He.ga X.K C)) (some dd) oe → (∃ vs, oe.data = .fields vs) → X.mg C = some (.ref (He.ga X.K C)) → (C, true) ∈ ks → DB (X.suite a ((a, oe) :: pn)) (T.heat (a, He.ga X.K C, some dd)) noW (b₀ :: suite) fs) :
    DS X T W (.Try body [.ExceptHandler (some (.Tuple [.Name x1 q1, .Name x2 q2, .Name x3 q3] kt pt)) (some n) (b₀ :: suite) pos'] [] [] pos) (sTryK ks i fb fs) := by
  refine ds_try3 h0 hs hf hN hi hln g1 g2 g3 m1 m2 m3 hd tk (fun r M r1 C xs M1 e Ca hC => ?_) (fun W' pn xe tk' po => db_known (hb W' pn xe tk' po)) fun a Ca dd oe pn C hz hfl hC hc => ?_
  · unfold known at e
    cases hq : fb r M with
    | ex r2 C2 ys M2 =>
      rw [hq] at e
      dsimp only at e
      cases hl : ks.lookup C2 with
      | none =>
        rw [hl] at e
        cases e
      | some b =>
        rw [hl] at e
        cases e
        have hm := lookup_memS hl
        have hC2 := hg _ (List.mem_map.mpr ⟨_, hm, rfl⟩)
        rw [hC] at hC2
        cases hC2
        have z := of_decide_eq_true (List.all_eq_true.mp hk _ hm)
        unfold catL
        rw [hl]
        exact z
    | _ =>
      rw [hq] at e
      cases e
  · unfold catL at hc
    cases hl : ks.lookup C with
    | none =>
      rw [hl] at hc
      cases hc
    | some b =>
      rw [hl] at hc
      have eb : b = true := hc
      subst eb
      have hm := lookup_memS hl
      have hC2 := hg C (List.mem_map.mpr ⟨_, hm, rfl⟩)
      rw [hC] at hC2
      cases hC2
      exact hsu a dd oe pn C hz hfl hC hm
end
/-! ### what isinstance says -/
def excCB (K : PySem.W.Frag) (D : Addr) : Bool := He.eqO (PySem.W.findIn K (.ref D) "__getattribute__") (some (some (.builtin "BaseException.__getattribute__"))) && (He.eqO (PySem.W.findIn K (.ref D) "__getattr__") (some none) && (decide (PySem.W.subIn K (.ref D) (.type "BaseException") = some true) && (PySem.W.hasDictIn K D &&
  (He.eqO (PySem.W.findIn K (.ref D) "__class__") (some (some (.builtin "object.__class__"))) && (He.eqO (PySem.W.specialIn K (.builtin "object.__class__") "__get__") (some (some (.builtin "getset_descriptor.__get__"))) && (decide (PySem.W.takesIn K (.builtin "object.__class__") = some true) && decide (PySem.W.mroIn K D (.type "object") = some true)))))))
theorem excCB_ok {K : PySem.W.Frag} {D : Addr} (h : excCB K D = true) : ExcC K D := by
  unfold excCB at h
  simp only [Bool.and_eq_true, decide_eq_true_eq] at h
  obtain ⟨h1, h2, h3, h4, h5, h6, h7, h8⟩ := h
  exact ⟨He.eqO_ok h1, He.eqO_ok h2, h3, h4, He.eqO_ok h5, He.eqO_ok h6, h7, h8⟩
def tab1 {α : Type} [BEq α] (t : List (Str × List (α × Bool))) : Str → α → Option Bool := fun C x => match t.lookup C with
  | some l => l.lookup x
  | none => none
def ansB1 (K : PySem.W.Frag) (t1 : List (Str × List (Str × Bool))) : Bool := t1.all fun q => excCB K (He.ga K q.1) && q.2.all fun z => decide (PySem.W.kitOne K (.ref (He.ga K q.1)) (.ref (He.ga K z.1)) = some z.2)
def ansB2 (K : PySem.W.Frag) (t2 : List (Str × List (String × Bool))) : Bool := t2.all fun q => excCB K (He.ga K q.1) && q.2.all fun z => decide (PySem.W.kitOne K (.ref (He.ga K q.1)) (.type z.1) = some z.2)
theorem lookup_memG {α β : Type} [BEq α] [LawfulBEq α] {x : α} {b : β} : ∀ {l : List (α × β)}, l.lookup x = some b → (x, b) ∈ l
  | [], h => by cases h
  | (y, c) :: l, h => by
    rw [List.lookup_cons] at h
    cases e : x == y with
    | true =>
      rw [e] at h
      cases h
      rw [eq_of_beq e]
      exact .head _
    | false =>
      rw [e] at h
      exact .tail _ (lookup_memG h)
theorem tab1_mem {α : Type} [BEq α] [LawfulBEq α] {t : List (Str × List (α × Bool))} {C : Str} {x : α} {b : Bool} (h : tab1 t C x = some b) : ∃ l, (C, l) ∈ t ∧ (x, b) ∈ l := by
  unfold tab1 at h
  split at h
  · rename_i l hl
    exact ⟨l, lookup_memG hl, lookup_memG h⟩
  · cases h
theorem ans_ok {K : PySem.W.Frag} {mg : Str → Option Value} {t1 : List (Str × List (Str × Bool))} {t2 : List (Str × List (String × Bool))} {cs ds : List Str} (h1 : ansB1 K t1 = true) (h2 : ansB2 K t2 = true) (hc : GlAll K mg cs) (hd : GlAll K mg ds) (e1 : (t1.all fun q => cs.contains q.1 && q.2.all fun z => ds.contains z.1) = true) (e2 : (t2.all fun q => cs.contains q.1) = true) :
    AnsOk K mg (tab1 t1) (tab1 t2) where
  own C x Ca b e m := by
    obtain ⟨l, hl, hx⟩ := tab1_mem e
    obtain ⟨k1, k2⟩ := Bool.and_eq_true_iff.mp (List.all_eq_true.mp e1 _ hl)
    have mC := hc C (List.contains_iff_mem.mp k1)
    rw [m] at mC
    cases mC
    have mx := hd x (List.contains_iff_mem.mp (List.all_eq_true.mp k2 _ hx))
    obtain ⟨z1, z2⟩ := Bool.and_eq_true_iff.mp (List.all_eq_true.mp h1 _ hl)
    exact ⟨_, mx, excCB_ok z1, of_decide_eq_true (List.all_eq_true.mp z2 _ hx)⟩
  ty C n Ca b e m := by
    obtain ⟨l, hl, hx⟩ := tab1_mem e
    have mC := hc C (List.contains_iff_mem.mp (List.all_eq_true.mp e2 _ hl))
    rw [m] at mC
    cases mC
    obtain ⟨z1, z2⟩ := Bool.and_eq_true_iff.mp (List.all_eq_true.mp h2 _ hl)
    exact ⟨excCB_ok z1, of_decide_eq_true (List.all_eq_true.mp z2 _ hx)⟩
/-! ### fields of it -/
def xfAll (K : PySem.W.Frag) (ks : List (Str × Bool)) (fs : List Str) : Bool := ks.all fun q => xfB K (He.ga K q.1) && fs.all fun f => He.eqO (PySem.W.findIn K (.ref (He.ga K q.1)) f) (some none)
theorem xfAll_x {K : PySem.W.Frag} {ks : List (Str × Bool)} {fs : List Str} {C : Str} {b : Bool} (h : xfAll K ks fs = true) (hm : (C, b) ∈ ks) : XfC K (He.ga K C) := xfB_ok (Bool.and_eq_true_iff.mp (List.all_eq_true.mp h _ hm)).1
theorem xfAll_no {K : PySem.W.Frag} {ks : List (Str × Bool)} {fs : List Str} {C f : Str} {b : Bool} (h : xfAll K ks fs = true) (hm : (C, b) ∈ ks) (hf : f ∈ fs) : PySem.W.findIn K (.ref (He.ga K C)) f = some none := He.eqO_ok (List.all_eq_true.mp (Bool.and_eq_true_iff.mp (List.all_eq_true.mp h _ hm)).2 _ hf)
end Dy
namespace Dy
open PySem
open PySem.Spec
open L2
theorem BindsP.all {K : PySem.W.Frag} {fd : FuncData} {ps : List Str} (hb : BindsP K fd ps) : Binds K fd ps [] := fun s us h1 h2 => by
  rw [List.append_nil] at h2 ⊢
  exact hb s us h1 h2
end Dy

/-! Dy65: the callable parameter called within a try. -/
namespace Dy
open PySem
open PySem.Spec
open L2

theorem de_pinT {P : Program} {w : World} {K : PySem.W.Frag} {mg : Str → Option Value} {base : Heap} {T : Tb} {g : Addr} {A : Around} {outer : List Env} {s : Shared} {H : Hp} {E : XK} {kc n : Nat} {cb : SF} {N : List Str} {q : Str} {sc : Scope} {cdv : Value} {W : WX} {i : Nat} {a : Str} {es : List Expr} {fp : SE (List Dm)} {p1 p2 : Pos} {pn : List (Addr × Obj)} {xe : Value → Shared → Prop}
    (C : CbOk P w K mg base T g A outer s H E kc n cb) (hN : N[i]? = some a) (hv : Vis sc a) (site : Site (cxD P w K mg base N q sc g cdv A outer s H E) (kc + 1)) (tk : L2N.Takes ((cxD P w K mg base N q sc g cdv A outer s H E).tr pn xe) W) (hA : PlainA ((cxD P w K mg base N q sc g cdv A outer s H E).tr pn xe) T W es fp)
    (hd : (a == ("__debug__" : Str)) = false := by decide) (hcd : (a == ("__classdict__" : Str)) = false := by decide) : DE ((cxD P w K mg base N q sc g cdv A outer s H E).tr pn xe) T W (.Call (.Name a p1) es [] p2) (sPin i n fp cb) :=
  C.de N q sc cdv W pn xe i a es fp p1 p2 hN hv hd hcd tk site.room site.gu hA
end Dy

/-! Dy66: repr of an empty dict; a list times an int. -/
namespace Dy
open PySem
open PySem.Spec
open PyProof.Rows hiding St
open L2

section
variable {X : Cx} {T : Tb} {W : WX} {a b : Expr} {fa fb : SE Dm} {pos : Pos}
/-! ### repr({}) -/
def rRepE : List V → Hp → VK → Prop := fun xs H Q => ∃ p, xs = [.ref p] ∧ H p = some (.dK []) ∧ Q (.str "{}") H
theorem call_repE (hG : X.A.guards = some []) (hu : X.A.units + 64 < cLine) : CallR X (.builtin "repr") rRepE := fun pins s σ H xs us Q I r w => by
  obtain ⟨p, rfl, hk, q⟩ := w
  obtain ⟨u, rfl, ru⟩ := vals1 r
  obtain rfl : u = Value.ref p := ru
  obtain ⟨z, lo, vs, rk, o, es, ep, ho, hx, hd, _, pr, _⟩ := (show ObjOk X.prog X.w H s.heap p (.dK []) from I.hok p _ hk)
  have hl : vs = [] := List.eq_nil_of_length_eq_zero (Paired.length rk).symm
  subst hl
  have hes : es.toList = [] := List.eq_nil_of_length_eq_zero pr.length
  have rd : Reads s.heap (.ref p) (.dict []) (p :: [] ++ []) := .dict ho hx.1 hd (by rw [hes]; exact .nil) (by rw [hes]; exact .nil)
  have dp : PyData.depth (.dict []) ≤ 60 := by decide
  have hu2 : X.A.units + (PyData.depth (.dict []) + 1) < cLine := by omega
  refine repr_of_reads' (h₀ := s.heap) rd rfl (fun _ hm => ?_) hG hu2 (fun _ _ e => e) (fun h' t tk hk => ⟨.str "{}", H, I.kept (t' := tk) hk, ⟨_, rfl⟩, q⟩) (by decide)
  have e : sysModules = p := by simpa using hm
  rw [e] at lo
  simp at lo
def oReprE : List Dm → Mem → R Dm
  | [.dic []], M => .ok (.str "{}") M
  | ds, M => oRepr ds M
theorem call_reprE (ut : Ut X) : CallR X (.builtin "repr") (fun xs H Q => rRepr X.K xs H Q ∨ rRepE xs H Q) := fun pins s σ H xs us Q I r w => w.elim (call_repr ut.gu (by have := ut.un; omega) pins s σ H xs us Q I r) (call_repE ut.gu (by have := ut.un; omega) pins s σ H xs us Q I r)
theorem c_reprE : SoundC X T W (fun xs H Q => rRepr X.K xs H Q ∨ rRepE xs H Q) oReprE := fun B im ow r M σ H xs vs Q S rs P => by
  unfold oReprE at P
  split at P
  · cases rs with
    | cons q rs =>
      cases rs
      cases q with
      | dic h n k =>
        cases k
        exact .inr ⟨_, rfl, h, P.here S (.str _)⟩
  · exact .inl (c_repr B im ow r M σ H xs vs Q S rs P)
theorem f_reprE (ut : Ut X) (hg : Gl X "repr") (hm : X.mg "repr" = none) {h : SE (List Dm)} {es : List Expr} {q : Pos} (ha : DA X T W (a :: es) h) (he : starEach (a :: es) X.env = (false, eval a X.env) :: starEach es X.env := by rfl) (hpl : (backTo pos (starEach es X.env)).any (·.1) = false := by rfl) :
    DE X T W (.Call (.Name "repr" q) (a :: es) [] pos) (sCall oReprE h) := de_callB (call_reprE ut) c_reprE hg hm rfl ha (by decide) (by decide) he hpl
/-! ### a list times an int -/
def oRepL : Dm → Dm → Mem → R Dm
  | .lst x, .int k, M => if 0 ≤ k ∧ k < 1000 ∧ x.length * k.toNat ≤ sizeLine then .ok (.lst (List.replicate k.toNat x).flatten) M else .bad
  | _, _, _ => .bad
theorem reps_rep {g : Gm} {N : Av} {im : List Addr} {H : Hp} {vs : List V} {ds : List Dm} (h : Reps g N im H vs ds) : ∀ n : Nat, Reps g N im H (List.replicate n vs).flatten (List.replicate n ds).flatten
  | 0 => .nil
  | n + 1 => by
    rw [List.replicate_succ, List.flatten_cons, List.replicate_succ, List.flatten_cons]
    exact h.append (reps_rep h n)
theorem s_repL : Sound X T W rRep oRepL := fun B im ow r M σ H x y v w Q S r1 r2 P => by
  cases r1 with
  | lst h1 n1 q1 =>
    cases r2 with
    | int k =>
      unfold oRepL at P
      dsimp only at P
      split at P
      · rename_i h
        refine ⟨_, k, _, rfl, rfl, h1, by omega, by omega, by rw [q1.length]; exact h.2.2, fun p hp => ?_⟩
        exact P.new S hp (.lst upd_same (S.fresh hp) (reps_rep (q1.mono (Ext.new hp) (List.prefix_refl _)) _))
      · exact P.elim
    | _ => exact P.elim
  | _ => cases r2 <;> exact P.elim
theorem e_repL (ha : DE X T W a fa) (hb : DE X T W b fb) : DE X T W (.BinOp a .Mult b pos) (sBin oRepL fa fb) := de_op op_rep s_repL ha hb
end
end Dy

/-! Dy69: sorted(..) of ints and of texts, any number of them. -/
namespace Dy
open PySem
open PySem.Spec
open PyProof.Rows hiding St
open L2

/-- texts, in the order of their signs -/
def ndS (a b : Str) : Prop := ¬ b.cps.toList < a.cps.toList
def tv : Value → List Nat
  | .str x _ => x.cps.toList
  | _ => []
def txV : Value → Str
  | .str x _ => x
  | _ => ""
def lessT (v u : Value) : Bool := decide (tv v < tv u)
theorem swo_txt : SrtO.Swo lessT := ⟨fun x y h => decide_eq_false (List.lt_asymm (of_decide_eq_true h)), fun x y z h1 h2 => by
  have a : tv x ≤ tv y := List.not_lt.mp (of_decide_eq_false h1)
  have b : tv y ≤ tv z := List.not_lt.mp (of_decide_eq_false h2)
  exact decide_eq_false (List.not_lt.mpr (List.le_trans a b))⟩
theorem txt_mem : ∀ {vs : List Value} {xs : List Str}, StrsAre vs xs → ∀ v ∈ vs, ∃ x t, v = Value.str x t
  | _, _, .cons x t r, v, h => (List.mem_cons.mp h).elim (fun e => ⟨x, t, e⟩) fun h => txt_mem r v h
theorem txt_of : ∀ {vs : List Value}, (∀ v ∈ vs, ∃ x t, v = Value.str x t) → StrsAre vs (vs.map txV)
  | [], _ => .nil
  | v :: vs, h => by
    obtain ⟨x, t, rfl⟩ := h v List.mem_cons_self
    exact .cons x t (txt_of fun u hu => h u (List.mem_cons_of_mem _ hu))
theorem txt_map : ∀ {vs : List Value} {xs : List Str}, StrsAre vs xs → vs.map txV = xs
  | _, _, .nil => rfl
  | _, _, .cons x t r => by rw [List.map_cons, txt_map r]; rfl
theorem txt_sortable {P : Program} {w : World} {A : Around} {s : Shared} {a : Addr} {vs : List Value} {xs : List Str} (hI : StrsAre vs xs) (h2 : 2 ≤ vs.length) : SrtO.SortableO P w A s a vs lessT := fun h' _ => by
  refine ⟨oneType', fun Q E hq => ?_, fun p q hm hm' => ?_⟩
  · cases hI with
    | nil => exact absurd h2 (by decide)
    | cons x t r =>
      cases r with
      | nil => exact absurd h2 (by simp)
      | cons y u r =>
        rw [keyKind_strs (.cons x t (.cons y u r))]
        exact wpAny_pure hq
  · obtain ⟨x, t, e⟩ := txt_mem hI _ hm
    obtain ⟨y, u, e'⟩ := txt_mem hI _ hm'
    have z : SrtO.lt2 lessT p q = decide (x.cps.toList < y.cps.toList) := by
      show lessT p.1 q.1 = _
      rw [e, e']
      rfl
    rw [e, e', keyLt'_oneType]
    exact oneLt_str ⟨rfl, z.symm⟩
theorem nd_iff {v u : Value} {x y : Str} {t t' : Tok} (e : v = .str x t) (e' : u = .str y t') : lessT u v = false ↔ ndS (txV v) (txV u) := by
  subst e e'
  exact ⟨fun h => of_decide_eq_false h, fun h => decide_eq_false h⟩
def rSrtS (K : PySem.W.Frag) : List V → Hp → VK → Prop := fun vs H Q => ∃ (a : Addr) (xs : List Str), vs = [V.ref a] ∧ SqL K H a (xs.map V.str) ∧ ∀ (ys : List Str) (p : Addr), ys.Perm xs → ys.Pairwise ndS → H p = none → Q (.ref p) (upd H p (.lst (ys.map V.str)))
section
variable {X : Cx} {T : Tb} {W : WX} {a : Expr} {es : List Expr} {h : SE (List Dm)} {p pos : Pos}
theorem cr_srtS : CallR X (.builtin "sorted") (rSrtS X.K) := fun pins s σ H vs us Q I r w => by
  obtain ⟨a, xs, rfl, hs, q⟩ := w
  obtain ⟨its, rv, hl, hz⟩ := I.list hs
  rw [Vals.ref1 r]
  have hi := rv.strs
  refine SrtO.sorted_ord swo_txt hl.isList (by rw [← rv.length]; exact hz) (fun h2 _ _ _ _ => txt_sortable hi h2) fun out k1 k2 => ?_
  have hm : ∀ v ∈ out, ∃ x t, v = Value.str x t := fun v hv => txt_mem hi v (k2.perm.mem_iff.mp hv)
  have pm : (out.map txV).Perm xs := by
    have y := k2.perm.map txV
    rw [txt_map hi] at y
    exact y
  have pw : (out.map txV).Pairwise ndS := by
    rw [List.pairwise_map]
    refine List.Pairwise.imp_of_mem (fun {v u} hv hu e => ?_) k1
    obtain ⟨x, t, ev⟩ := hm v hv
    obtain ⟨y, t', eu⟩ := hm u hu
    exact (nd_iff ev eu).mp e
  obtain ⟨ep, he⟩ := sortedAll_at s.heap its out.toArray
  have hlen : ((out.map txV).map V.str).length ≤ sizeLine := by
    rw [List.length_map, pm.length_eq]
    rw [List.length_map] at hz
    exact hz
  refine ⟨.ref _, upd H (s.heap.objs.size + 1) (.lst ((out.map txV).map V.str)), ?_, rfl, q _ _ pm pw (I.hok.fresh (Nat.le_succ _))⟩
  exact I.laid (t' := s.toks) (fun _ _ => sortedAll_old) (Nat.le_succ _) ⟨hlen, out, ep, vals_of_strs (txt_of hm), he⟩
/-! ### by data -/
def intsD : List Dm → Option (List Int)
  | [] => some []
  | .int i :: ds => (intsD ds).map (i :: ·)
  | _ => none
def strsD : List Dm → Option (List Str)
  | [] => some []
  | .str x :: ds => (strsD ds).map (x :: ·)
  | _ => none
def srtI (ns : List Int) : List Int := ns.mergeSort fun a b => decide (a ≤ b)
def srtS (xs : List Str) : List Str := xs.mergeSort fun a b => decide (¬ b.cps.toList < a.cps.toList)
theorem srtI_eq {ns ys : List Int} (h1 : ys.Perm ns) (h2 : ys.Pairwise (· ≤ ·)) : ys = srtI ns := by
  have z := List.pairwise_mergeSort (le := fun a b : Int => decide (a ≤ b)) (fun a b c h1 h2 => by simp at *; omega) (fun a b => by simp; omega) ns
  refine List.Perm.eq_of_pairwise (le := (· ≤ ·)) (fun a b _ _ x y => Int.le_antisymm x y) h2 (z.imp fun {a b} h => of_decide_eq_true h) (h1.trans (List.mergeSort_perm ns _).symm)
theorem srtS_eq {xs ys : List Str} (h1 : ys.Perm xs) (h2 : ys.Pairwise ndS) : ys = srtS xs := by
  have z := List.pairwise_mergeSort (le := fun a b : Str => decide (¬ b.cps.toList < a.cps.toList)) (fun a b c h1 h2 => by
    have h1 := List.not_lt.mp (of_decide_eq_true h1)
    have h2 := List.not_lt.mp (of_decide_eq_true h2)
    exact decide_eq_true (List.not_lt.mpr (List.le_trans h1 h2))) (fun a b => by
    rcases List.le_total a.cps.toList b.cps.toList with h | h
    · rw [decide_eq_true (List.not_lt.mpr h)]
      rfl
    · rw [decide_eq_true (List.not_lt.mpr h), Bool.or_true]) xs
  refine List.Perm.eq_of_pairwise (le := ndS) (fun a b _ _ x y => ?_) h2 (z.imp fun {a b} h => of_decide_eq_true h) (h1.trans (List.mergeSort_perm xs _).symm)
  have e := List.le_antisymm (List.not_lt.mp x) (List.not_lt.mp y)
  obtain ⟨⟨a⟩⟩ := a
  obtain ⟨⟨b⟩⟩ := b
  have e : a = b := e
  rw [e]
def oSorted : List Dm → Mem → R Dm
  | [.lst ds], M => match intsD ds with
    | some ns => .ok (.lst ((srtI ns).map .int)) M
    | none => match strsD ds with
      | some xs => .ok (.lst ((srtS xs).map .str)) M
      | none => .bad
  | _, _ => .bad
theorem ints_of {g : Gm} {N : Av} {im : List Addr} {H : Hp} : ∀ {vs : List V} {ds : List Dm} {ns : List Int}, Reps g N im H vs ds → intsD ds = some ns → vs = ns.map V.int
  | _, _, _, .nil, e => by cases e; rfl
  | _, _, _, .cons q rs, e => by
    cases q with
    | int i =>
      unfold intsD at e
      obtain ⟨ns, e1, rfl⟩ := Option.map_eq_some_iff.mp e
      rw [ints_of rs e1]
      rfl
    | _ => cases e
theorem strs_of' {g : Gm} {N : Av} {im : List Addr} {H : Hp} : ∀ {vs : List V} {ds : List Dm} {ns : List Str}, Reps g N im H vs ds → strsD ds = some ns → vs = ns.map V.str
  | _, _, _, .nil, e => by cases e; rfl
  | _, _, _, .cons q rs, e => by
    cases q with
    | str i =>
      unfold strsD at e
      obtain ⟨ns, e1, rfl⟩ := Option.map_eq_some_iff.mp e
      rw [strs_of' rs e1]
      rfl
    | _ => cases e
theorem reps_ints {g : Gm} {N : Av} {im : List Addr} {H : Hp} : ∀ ns : List Int, Reps g N im H (ns.map V.int) (ns.map .int)
  | [] => .nil
  | i :: ns => .cons (.int i) (reps_ints ns)
theorem reps_strs {g : Gm} {N : Av} {im : List Addr} {H : Hp} : ∀ xs : List Str, Reps g N im H (xs.map V.str) (xs.map .str)
  | [] => .nil
  | x :: xs => .cons (.str x) (reps_strs xs)
theorem c_sorted : SoundC X T W (fun xs H Q => rSortedI X.K xs H Q ∨ rSrtS X.K xs H Q) oSorted := fun B im ow r M σ H xs vs Q S rs P => by
  match xs, vs, rs with
  | [d], [v], .cons q .nil =>
    cases q with
    | @lst a ws ds h n rs =>
      have e : oSorted [.lst ds] M = match intsD ds with
        | some ns => .ok (.lst ((srtI ns).map .int)) M
        | none => match strsD ds with
          | some xs => .ok (.lst ((srtS xs).map .str)) M
          | none => .bad := rfl
      rw [e] at P
      cases hi : intsD ds with
      | some ns =>
        rw [hi] at P
        have ew := ints_of rs hi
        subst ew
        refine .inl ⟨_, ns, rfl, SqL.of h, fun ys p h1 h2 hp => ?_⟩
        rw [srtI_eq h1 h2]
        exact P.new S hp (.lst upd_same (S.fresh hp) (reps_ints _))
      | none =>
        rw [hi] at P
        cases hs : strsD ds with
        | some xs =>
          rw [hs] at P
          have ew := strs_of' rs hs
          subst ew
          refine .inr ⟨_, xs, rfl, SqL.of h, fun ys p h1 h2 hp => ?_⟩
          rw [srtS_eq h1 h2]
          exact P.new S hp (.lst upd_same (S.fresh hp) (reps_strs _))
        | none =>
          rw [hs] at P
          exact P.elim
    | _ => exact P.elim
  | [], _, .nil => exact P.elim
  | _ :: _ :: _, _, .cons q (.cons _ _) => exact (show False by cases q <;> exact P.elim).elim
theorem f_sorted (hg : Gl X "sorted") (hm : X.mg "sorted" = none) (ha : DA X T W (a :: es) h) (he : starEach (a :: es) X.env = (false, eval a X.env) :: starEach es X.env := by rfl) (hpl : (backTo pos (starEach es X.env)).any (·.1) = false := by rfl) :
    DE X T W (.Call (.Name "sorted" p) (a :: es) [] pos) (sCall oSorted h) :=
  de_callB (rr := fun xs H Q => rSortedI X.K xs H Q ∨ rSrtS X.K xs H Q) (fun pins s σ H xs us Q I r w => w.elim (cr_sortedI pins s σ H xs us Q I r) (cr_srtS pins s σ H xs us Q I r)) c_sorted hg hm rfl ha (by decide) (by decide) he hpl
end
end Dy

/-! Dy72: sorted(a tuple, key=lambda x: x[0]), the keys ints. -/
namespace Dy
open PySem
open PySem.Calls
open PyProof.Rows hiding St
section
variable {prog : Program} {w : World} {A : Around} {E : Value → Shared → Prop} {s : Shared}
open PySem.W in
/-- sorted(a tuple, key=f): the list made of the tuple lies at the end of a heap h1 that keeps all -/
theorem tup_sorted {β : Type} {bs : List β} {R : Value → β → Prop} {l : Addr} {its : List Value} {f : Value} {kw : List (Str × Value)} {Q : Value → Shared → Prop} (k : β → PyData) (hl : IsTup s.heap l its.toArray) (hz : its.length ≤ sizeLine)
    (e : EachIs R its bs) (like : AllAlike (bs.map k)) (can : Sortable (bs.map k)) (room : ∀ x, x ∈ bs → A.units + 2 + (k x).depth < cLine)
    (a1 : argsOk "sorted" ⟨[.ref l], kw⟩) (a2 : ∀ x, argsOk "list.sort" ⟨[.ref x], kw⟩) (tr : ∀ x, Builtin.«list.sort» ⟨[.ref x], kw⟩ = ksk_tree x f false)
    (key : ∀ (v : Value) (x : β), R v x → x ∈ bs → ∀ (h : Heap) (tk : Nat), (∀ b o, s.heap.get? b = some o → h.get? b = some o) →
      wpAny (model prog w) A.in1.in1 (call f [v]) (KeyPure (k x) { s with heap := h, toks := tk }) (fun _ _ => False) { s with heap := h, toks := tk })
    (h : ∀ (h1 h' : Heap) (tk : Nat) (out : List Value) (c : Nat), (∀ b o, s.heap.get? b = some o → h1.get? b = some o) → (∀ b o, s.heap.get? b = some o → h'.get? b = some o) → h'.get? h1.objs.size = some (seqObj "list" (List.toArray out) c) →
      EachIs R out (bs.mergeSort (dataLe false k)) → Q (.ref h1.objs.size) { s with heap := h', toks := tk }) :
    wpAny (model prog w) A (call (.builtin "sorted") [.ref l] kw) Q E s := by
  obtain ⟨ob, e1, e2, n, e3⟩ := hl
  have bl : bs.length ≤ sizeLine := e.length ▸ hz
  refine call_function_entry_kw kind_sorted plain_sorted entry_sorted a1 (wpAny_bind (m := checkCount "sorted" 1 1 _) (wpAny_pure (wpAny_bind (wpAny_collect_seq l (.inr rfl) e1 e2 e3 (fun h1 kp => ?_) hz))))
  have old : ∀ {g : Heap}, KeepsBut h1.objs.size (h1.push (seqObj "list" its.toArray 0)) g → ∀ b o, s.heap.get? b = some o → g.get? b = some o := fun q b o z =>
    q b o (Nat.ne_of_lt (Heap.lt_size (kp b o z))) (Heap.get?_push_of_some _ (kp b o z))
  refine wpAny_bind (wpAny_newList (wpAny_bind (wpAny_holding (list_sort_key_data k (Heap.get?_push_size _ rfl) e like can bl room (a2 _) (tr _) (fun v x r m g tk q => key v x r m g tk (old q)) fun out c g tk q hg _ ho => ?_))) hz)
  exact wpAny_pure ⟨_, rfl, h h1 g tk out c kp (old q) hg ho⟩
/-- the call of lambda x: x[0] -/
theorem key_call {f c' : Addr} {q : Str} {params : Arguments} {scope : Scope} {cl : List (Str × Addr)} {pm ctv : Value} {y : Str} {p1 p2 pos : Pos} {j0 : Nat} {a : Addr} {items : Array Value} {n : Int} {t : Tok}
    (hroom : A.depth < recursionLimit) (ho : s.heap.get? f = some (PySem.W.kla_obj "<lambda>" q params (.Subscript (.Name y p1) (.Constant (.int 0) j0 p2) pos) scope cl pm c' ctv)) (hcd : s.heap.CodeRec (.ref c') q)
    (hk : scope.kind = .function) (hco : scope.isCoroutine = false) (hgen : scope.isGenerator = false) (hnc : ∀ x ∈ scope.names, x.2 ≠ .cell) (hy : scope.names.lookup y = some .local) (hd : (y == ("__debug__" : Str)) = false)
    (hbind : ∀ (q : Str) (cl : List (Str × Addr)) (pm cv ctv : Value) (u : Value), bindArgs (PySem.W.kla_fn "<lambda>" q params (.Subscript (.Name y p1) (.Constant (.int 0) j0 p2) pos) scope cl pm cv ctv) ⟨[u], []⟩ = pure [(y, u)])
    (hnl : s.heap.NoLimit) (ha : IsTup s.heap a items) (hi : items[0]? = some (.int n t)) :
    wpAny (model prog w) A (call (.ref f) [.ref a]) (PySem.W.KeyPure (.int n) s) (fun _ _ => False) s := by
  refine wpAny_call (codeAny_mono (R := fun r s' => ∃ v, r = .ok (.ret v) ∧ PySem.W.KeyPure (.int n) s v s') ?_ fun rr s' hq => ?_)
  · refine PySem.W.kla_callFunE hroom ho rfl hco hgen rfl hcd ?_
    rw [hbind]
    refine wpAny_pure (wpAny_newFunctionEnv hnc (fun x hx => ?_) (fun h₁ hns hsb => ⟨hnl.fresh _ hsb, ?_⟩) hk)
    · cases List.mem_singleton.mp hx
      exact hy
    · have kp : ∀ b o, s.heap.get? b = some o → h₁.get? b = some o := fun b o e => hsb.extBut b o (Nat.ne_of_lt (Heap.lt_size e)) (Heap.get?_push_of_some _ e)
      have hl0 : ([(y, Value.ref a)] : List (Str × Value)).reverse.lookup y = some (.ref a) := by simp [List.lookup]
      have ha1 : IsTup h₁ a items := by
        obtain ⟨o, e, r⟩ := ha
        exact ⟨o, kp _ _ e, r⟩
      refine PySem.W.kla_codeExpr (wpAny_mono (Q := fun v s' => PySem.W.KeyPure (.int n) s v s') (Subscript_ (wpAny_Name (wpAny_loadName_local hk hy hns hl0 (wpAny_Constant_int ?_)) hd)) (fun v s' hq => ⟨v, rfl, hq⟩) fun _ _ e => e)
      refine subscriptTail_builtinR (x := .int n t) (IsTup.typeIs ha1) PySem.F.slot_tuple_getitem.lookup (getItem_tuple (j := 0) (items := items) ha1 (by decide) (by decide) ?_ hi ⟨rfl, ?_⟩) ?_
      · have hz : 0 < items.size := by
          rcases Nat.lt_or_ge 0 items.size with h | h
          · exact h
          · rw [Array.getElem?_eq_none h] at hi
            cases hi
        exact seqIndex_of (by decide) (by omega)
      · exact ⟨_, _, rfl, kp, .int n t⟩
      · with_unfolding_all rfl
  · obtain ⟨v, rfl, hq⟩ := hq
    exact hq
end
section
open L2
/-- a tuple that begins with an int: its int -/
def key0 : Dm → Option Int
  | .tup (.int n :: _) => some n
  | _ => none
def kz0 (d : Dm) : Int := (key0 d).getD 0
def sortK (ds : List Dm) : List Dm := ds.mergeSort fun a b => decide (kz0 a ≤ kz0 b)
def oSK (d : Dm) (M : Mem) : R Dm := match d with
  | .tup ds => if (ds.all fun d => (key0 d).isSome) = true ∧ ds.length ≤ 1000 then .ok (.lst (sortK ds)) M else .bad
  | _ => .bad
def sSortK (f : SE Dm) : SE Dm := fun r M => (f r M).bind oSK
variable {g : Gm} {N : Av} {im : List Addr} {H : Hp}
theorem besideD : ∀ {xs : List V} {ds : List Dm}, Reps g N im H xs ds → ∃ l : List (V × Dm), l.map (·.1) = xs ∧ l.map (·.2) = ds ∧ ∀ p ∈ l, Rep g N im H p.1 p.2
  | [], [], _ => ⟨[], rfl, rfl, fun p hp => nomatch hp⟩
  | _ :: _, [], h => nomatch h
  | [], _ :: _, h => nomatch h
  | x :: xs, t :: ts, .cons q rs => by
    obtain ⟨l, a, b, c⟩ := besideD rs
    refine ⟨(x, t) :: l, by rw [List.map_cons, a], by rw [List.map_cons, b], fun p hp => ?_⟩
    rcases List.mem_cons.mp hp with rfl | hp
    · exact q
    · exact c p hp
theorem reps_ofD : ∀ {l : List (V × Dm)}, (∀ p ∈ l, Rep g N im H p.1 p.2) → Reps g N im H (l.map (·.1)) (l.map (·.2))
  | [], _ => .nil
  | p :: l, h => .cons (h p List.mem_cons_self) (reps_ofD fun q hq => h q (List.mem_cons_of_mem _ hq))
theorem each_ofD : ∀ {l : List (V × Dm)} {us : List Value}, Vals (l.map (·.1)) us → PySem.W.EachIs (fun u p => RelV p.1 u) us l
  | [], [], _ => .nil
  | [], _ :: _, h => nomatch h
  | _ :: _, [], h => nomatch h
  | p :: l, u :: us, .cons r rs => .cons r (each_ofD rs)
theorem vals_ofD : ∀ {l : List (V × Dm)} {us : List Value}, PySem.W.EachIs (fun u p => RelV p.1 u) us l → Vals (l.map (·.1)) us
  | _, _, .nil => .nil
  | _, _, .cons r rs => .cons r (vals_ofD rs)
end
section
open L2
variable {X : Cx} {T : Tb} {W : WX} {ls : List (He.Defn × Str)} {params : Arguments} {scope : Scope} {y : Str} {e : Expr} {f : SE Dm} {p p1 p2 pos lpos spos kpos : Pos} {j0 : Nat}
theorem lam_eval {c P : Addr} {body : Expr} {ps : List Str} {pins : List (Addr × Obj)} {s : Shared} {σ : L2.St} {H : Hp} {R : Value → Shared → Prop} {E : Value → Shared → Prop} (TB : LamX.TabB X.base X.mg c P) (hcode : X.env.code = .ref c) (hm : (P, X.env.qual ++ "<lambda>") ∈ T.tabs) (hu : ∀ p ∈ T.tabs, p.1 = P → p.2 = X.env.qual ++ "<lambda>") (L : LamP X.env.scope scope ps) (hdef : defaultsOf params X.env = ([], []))
    (I : L2.Inv X pins σ H s) (tb : LamX.Tabs T.tabs H) (k : ∀ (f c' : Addr) (H2 : Hp) (s2 : Shared), L2.Inv X pins σ H2 s2 → LamX.ExtN H H2 → LamX.Tabs T.tabs H2 → LamAt X params body scope f c' H2 s2 → R (.ref f) s2) :
    wpAny (model X.prog X.w) X.A (eval (.Lambda params body scope lpos) X.env) R E s :=
  LamX.lam_make2 I TB hcode hm hu tb hdef (fun y hy q => L.has I.ok hy q) fun f c' pm ctv H2 s2 J x t ob un fr co => k f c' H2 s2 J x t ⟨⟨pm, ctv, ob⟩, un, fr, co⟩
theorem kw_one {M : Model} {A : Around} {E : Value → Shared → Prop} {s : Shared} {env : Env} {lam : Expr} {nm : Str} {R : List Value → Shared → Prop} (h : wpAny M A (eval lam env) (fun v s1 => R [v] s1) E s) :
    wpAny M A (evalAll ((backToKw pos (keywordEach [⟨some nm, lam, kpos⟩] env)).map (·.2))) R E s := by
  show wpAny _ _ (evalAll ((do let v ← eval lam env; standAt pos; pure v) :: [])) _ _ s
  exact wpAny_evalAll_cons (wpAny_bind (wpAny_mono h (fun v s1 h1 => wpAny_bind (wpAny_standAt (wpAny_pure (wpAny_evalAll_nil h1)))) fun _ _ e => e))
theorem vals_one {v : V} : ∀ {us : List Value}, Vals [v] us → ∃ u, us = [u] ∧ RelV v u
  | _, .cons r .nil => ⟨_, rfl, r⟩
theorem kw_zip {env : Env} {lam : Expr} {nm : Str} : (backToKw pos (keywordEach [⟨some nm, lam, kpos⟩] env)).filterMap (·.1) = [nm] := rfl
theorem kw_all {env : Env} {lam : Expr} {nm : Str} : (backToKw pos (keywordEach [⟨some nm, lam, kpos⟩] env)).all (·.1.isSome) = true := rfl
theorem kw_no {env : Env} {lam : Expr} {nm : Str} : (backToKw pos (keywordEach [⟨some nm, lam, kpos⟩] env)).any (·.1.isNone) = false := rfl
theorem call_sortK {pins : List (Addr × Obj)} {σ : L2.St} {H2 : Hp} {s2 : Shared} {Q : VK} {B : Bs} {im1 : List Addr} {ow : Ow} {r : Sl} {M1 : Mem} {d : Dm} {v : V} {u : Value} {f' c' : Addr} (I2 : L2.Inv X pins σ H2 s2) (S2 : StRel (gm X T) B im1 ow r M1 σ H2) (r0 : RelV v u) (q2 : Rep (gm X T) (ns B.F im1 ow) im1 H2 v d) (P2 : Post rlV (gm X T) B W im1 ow r σ H2 (oSK d M1) Q)
    (la : LamAt X params (.Subscript (.Name y p1) (.Constant (.int 0) j0 p2) spos) scope f' c' H2 s2) (L : LamP X.env.scope scope [y]) (site : Site X 1)
    (hbind : ∀ (q : Str) (cl : List (Str × Addr)) (pm cv ctv : Value) (u : Value), bindArgs (PySem.W.kla_fn "<lambda>" q params (.Subscript (.Name y p1) (.Constant (.int 0) j0 p2) spos) scope cl pm cv ctv) ⟨[u], []⟩ = pure [(y, u)])
    (hd : (y == ("__debug__" : Str)) = false) :
    wpAny (model X.prog X.w) X.A (call (.builtin "sorted") [u] [(Str.ofString "key", .ref f')]) (EP X pins σ Q) X.xe s2 := by
  obtain ⟨⟨pm, ctv, ob⟩, un, fr, co⟩ := la
  cases d with
  | tup ds =>
    unfold oSK at P2
    dsimp only at P2
    split at P2
    · rename_i hc
      obtain ⟨hall, hl⟩ := hc
      cases q2 with
      | @tup a xs _ h1 rs =>
        obtain rfl : u = Value.ref a := r0
        obtain ⟨its, rvi, hT, hz⟩ := I2.tuple h1.sq
        obtain ⟨l, l1, l2, l3⟩ := besideD rs
        rw [← l1] at rvi
        have ea := each_ofD rvi
        have ll : l.length = ds.length := by rw [← l2, List.length_map]
        have hun := site.ut.un
        have lz : ds.length ≤ sizeLine := Nat.le_trans hl (by decide)
        refine tup_sorted (R := fun u (p : V × Dm) => RelV p.1 u) (fun p => .int (kz0 p.2)) hT (by rw [ea.length, ll]; exact lz) ea (fun d hd d' hd' => ?_) ?_ (fun x _ => ?_) (ksk_s1 _ _) (fun _ => ksk_l1 _ _) (fun x => ksk_t1 f' x) (fun u p hu hp h tk kp => ?_) fun h1 h' tk out c k1 kp hD hE => ?_
        · obtain ⟨p, _, rfl⟩ := List.mem_map.mp hd
          obtain ⟨p', _, rfl⟩ := List.mem_map.mp hd'
          rfl
        · refine .inr fun d hd => ?_
          obtain ⟨p, _, rfl⟩ := List.mem_map.mp hd
          exact ⟨fun e => (nomatch e), fun xs e => (nomatch e)⟩
        · have z : (PyData.int (kz0 x.2)).depth ≤ 10 := by simp [PyData.depth]
          show X.A.units + 2 + _ < cLine
          omega
        · have hk := l3 p hp
          have hsm := List.all_eq_true.mp hall p.2 (by rw [← l2]; exact List.mem_map.mpr ⟨p, hp, rfl⟩)
          obtain ⟨v3, d3⟩ := p
          dsimp only at hk hsm hu ⊢
          obtain ⟨n, ds', rfl⟩ : ∃ n ds', d3 = .tup (.int n :: ds') := by
            unfold key0 at hsm
            split at hsm
            · exact ⟨_, _, rfl⟩
            · cases hsm
          cases hk with
          | @tup a3 xs3 _ h3 rs3 =>
            cases rs3 with
            | cons qi _ =>
              cases qi
              obtain ⟨its3, rv3, hT3, _⟩ := I2.tuple h3.sq
              obtain rfl : u = Value.ref a3 := hu
              cases rv3 with
              | @cons _ u0 _ us0 ri _ =>
                obtain ⟨t, rfl⟩ := ri
                have hT4 : IsTup h a3 (Value.int n t :: us0).toArray := by
                  obtain ⟨o, e, r⟩ := hT3
                  exact ⟨o, kp _ _ e, r⟩
                obtain ⟨⟨oc, vs0, t0, hoc, hdc, hvc⟩, _, _⟩ := I2.hok c' _ co
                exact key_call (s := { s2 with heap := h, toks := tk }) site.room.depth (kp _ _ ob) ⟨c', oc, vs0, t0, rfl, kp _ _ hoc, hdc, hvc⟩ L.kind L.co L.gen (fun x hx => (L.own x hx).1) (L.par y List.mem_cons_self) hd hbind (I2.nolimit.keeps kp) hT4 rfl
        · have e2 : (l.mergeSort (PySem.W.dataLe false fun p : V × Dm => PyData.int (kz0 p.2))).map (·.2) = sortK ds := by
            rw [PySem.W.dataLe_int]
            rw [List.map_mergeSort (s := fun a b => decide (kz0 a ≤ kz0 b)) fun _ _ _ _ => rfl, l2]
            rfl
          have hp : ∀ p ∈ l.mergeSort (PySem.W.dataLe false fun p : V × Dm => PyData.int (kz0 p.2)), Rep (gm X T) (ns B.F im1 ow) im1 H2 p.1 p.2 := fun p hp => l3 p ((List.mergeSort_perm _ _).mem_iff.mp hp)
          have hlm : (l.mergeSort (PySem.W.dataLe false fun p : V × Dm => PyData.int (kz0 p.2))).length = ds.length := by rw [List.length_mergeSort, ll]
          generalize l.mergeSort (PySem.W.dataLe false fun p : V × Dm => PyData.int (kz0 p.2)) = lm at hE e2 hp hlm
          have rr := reps_ofD hp
          rw [e2] at rr
          have hv := vals_ofD hE
          have hln : (lm.map (·.1)).length ≤ sizeLine := by
            rw [List.length_map, hlm]
            exact Nat.le_trans hl (by decide)
          have hf2 : H2 h1.objs.size = none := (I2.hok.kept k1).fresh (Nat.le_refl _)
          refine ⟨.ref h1.objs.size, upd H2 h1.objs.size (.lst (lm.map (·.1))), ?_, rfl, ?_⟩
          · refine I2.laidN (t' := tk) kp ?_ hf2 ⟨hln, out, c, hv, hD⟩
            cases z : s2.heap.get? h1.objs.size with
            | none => rfl
            | some o => exact absurd (Heap.lt_size (k1 _ _ z)) (Nat.lt_irrefl _)
          · exact P2.new S2 hf2 (.lst upd_same (S2.fresh hf2) (rr.mono (Ext.new hf2) (List.prefix_refl _)))
    · exact P2.elim
  | _ => exact P2.elim
theorem de_sortK (el : EL ls X.K X.mg X.base T) {d : He.Defn} (hmem : (d, X.env.qual ++ "<lambda>") ∈ ls) (hcode : X.env.code = .ref (He.codeOf X.K d)) (L : LamP X.env.scope scope [y]) (hdef : defaultsOf params X.env = ([], []))
    (site : Site X 1) (he : DE X T W e f) (hg : Gl X "sorted") (hm : X.mg "sorted" = none)
    (hbind : ∀ (q : Str) (cl : List (Str × Addr)) (pm cv ctv : Value) (u : Value), bindArgs (PySem.W.kla_fn "<lambda>" q params (.Subscript (.Name y p1) (.Constant (.int 0) j0 p2) spos) scope cl pm cv ctv) ⟨[u], []⟩ = pure [(y, u)])
    (hd : (y == ("__debug__" : Str)) = false := by decide)
    (hs : starEach [e] X.env = (false, eval e X.env) :: starEach [] X.env := by rfl)
    (he' : backTo pos (starEach [e] X.env) = (false, eval e X.env) :: backTo pos (starEach [] X.env) := by rfl) (hpl : (backTo pos (starEach [e] X.env)).any (·.1) = false := by rfl) :
    DE X T W (.Call (.Name "sorted" p) [e] [⟨some "key", .Lambda params (.Subscript (.Name y p1) (.Constant (.int 0) j0 p2) spos) scope lpos, kpos⟩] pos) (sSortK f) :=
  ⟨fun pins s σ H Q I ⟨B, im, ow, r, M, S, P⟩ => by
    refine wpAny_Call_Name_kw (ld_blt I hg hm rfl ?_ (by decide) (by decide))
    refine PyProof.Rows.callWith_kw (thn ((da_cons he da_nil hs).run pos pins s σ H (fun vs H1 => ∃ v im1 M1 d, vs = [v] ∧ StRel (gm X T) B im1 ow r M1 σ H1 ∧ Rep (gm X T) (ns B.F im1 ow) im1 H1 v d ∧ Post rlV (gm X T) B W im1 ow r σ H1 (oSK d M1) Q) I ⟨B, im, ow, r, M, S, ?_⟩) fun us s1 ⟨vs, H1, I1, r1, v, im1, M1, d, ev, S1, q1, P1⟩ => ?_) he' hpl kw_all kw_no
    · unfold sSortK at P
      unfold sCons sNil
      cases hq : f r M with
      | ok d M1 =>
        rw [hq] at P
        exact fun vs im' H' S' e p' rr => by
          cases rr with
          | cons q rs =>
            cases rs
            exact ⟨_, im', M1, d, rfl, S', q, Post.rebase P e p'⟩
      | ex C fs M' =>
        rw [hq] at P
        exact P
      | bad =>
        rw [hq] at P
        exact P.elim
    · subst ev
      obtain ⟨u, rfl, r0⟩ := vals_one r1
      rw [kw_zip]
      refine kw_one ?_
      refine lam_eval (el.tb _ hmem) hcode (el.mem hmem) (el.one hmem) L hdef I1 S1.tab.1 fun f' c' H2 s2 I2 eN tN la => ?_
      show wpAny _ _ (call (.builtin "sorted") [u] [(Str.ofString "key", .ref f')]) _ _ s2
      have x1 : Ext (wr im1 ow) H1 (wr im1 ow) H2 := fun a o ea ta na => ⟨eN a o ea ta, na⟩
      have S2 : StRel (gm X T) B im1 ow r M1 σ H2 := S1.grow x1 (fun b o hb eb => by
        rcases hb with hb | ⟨i, hb⟩
        · obtain ⟨_, _, _, _, ok⟩ := S1.in_im hb
          obtain ⟨u, eu, tu⟩ := ok.there
          rw [eb] at eu
          cases eu
          exact eN b _ eb tu
        · obtain ⟨u, eu, tu⟩ := S1.tr i b hb
          rw [eb] at eu
          cases eu
          exact eN b _ eb tu) ⟨tN, fun q hq => eN _ _ (S1.tab.2 q hq) LamX.codeO_ne⟩
      exact call_sortK I2 S2 r0 (q1.mono x1.ns (List.prefix_refl _)) (Post.rebase P1 x1 (List.prefix_refl _)) la L site hbind hd⟩
end
end Dy

/-! Dy73: a, b = [], e. -/
namespace Dy
open PySem
open PySem.Spec
open PyProof.Rows hiding St
open L2
section
variable {X : Cx} {T : Tb} {W : WX} {a b : Expr} {pos : Pos}
def sParO (i j : Nat) (fa : SE MO) (fb : SE Dm) : SS := fun r M => match fa r M with
  | .ok m M1 => match fb r M1 with
    | .ok y M2 => if i < r.length ∧ j < r.length then .nx ((r.set i (.own m)).set j (.val y)) M2 else .bad
    | _ => .bad
  | _ => .bad
theorem ds_parO {i j : Nat} {x y : Str} {px py pt : Pos} {kt k2 pt2} {fa : SE MO} {fb : SE Dm} (hc : X.calm = true) (hN : X.N.Nodup) (hi : X.N[i]? = some x) (hj : X.N[j]? = some y) (hij : i ≠ j)
    (hx : X.env.scope.names.lookup x = some .local) (hy : X.env.scope.names.lookup y = some .local) (ha : DF X T W a fa) (hb : DE X T W b fb)
    (hw : swappedStores [.Tuple [.Name x px, .Name y py] kt pt] (.Tuple [a, b] k2 pt2) X.env = pure (some [x, y]))
    (h1 : starEach [a, b] X.env = (false, eval a X.env) :: starEach [b] X.env := by rfl) (h2 : starEach [b] X.env = (false, eval b X.env) :: starEach [] X.env := by rfl)
    (hs : swapsWithSole [.Tuple [.Name x px, .Name y py] kt pt] (.Tuple [a, b] k2 pt2) pos.line X.env = pure false := by rfl) :
    DS X T W (.Assign [.Tuple [.Name x px, .Name y py] kt pt] (.Tuple [a, b] k2 pt2) pos) (sParO i j fa fb) :=
  ps_le (ps_par hc hN hi hj hij hx hy (pa_cons ha (pa_cons hb pa_nil h2) h1) hw hs) fun σ H D ⟨B, im, ow, r, M, S, P⟩ => by
    refine ⟨B, im, ow, r, M, S, ?_⟩
    unfold sParO at P
    cases hq : fa r M with
    | ok m M1 =>
      rw [hq] at P
      dsimp only at P
      refine fun p im1 H1 N E1 p1 fr => ?_
      refine ⟨B.plus p, im1, ow, r, M1, N.st, ?_⟩
      cases hq2 : fb r M1 with
      | ok y M2 =>
        rw [hq2] at P
        dsimp only at P
        split at P
        · rename_i hl
          refine fun v2 im2 H2 S2 E2 p2 r2 => ⟨.ref p, v2, rfl, ?_⟩
          obtain ⟨o, ho, ht⟩ := N.ok.there
          obtain ⟨ho2, np2⟩ := E2 p o ho ht N.nw
          have q := N.ok.mono E2.ns p2 fun o e t => (E2 p o e t N.nw).1
          have S3 := S2.setOwn q np2 N.nF hl.1 (fun b o hb t n => by
            obtain ⟨h1, n1⟩ := S.ext b o hb t n
            obtain ⟨h2, n2⟩ := E1 b o h1 t n1
            obtain ⟨h3, n3⟩ := E2 b o h2 t n2
            refine ⟨h3, fun z => ?_⟩
            rcases z with z | ⟨j, z⟩
            · exact n3 (.inl z)
            · unfold owOn at z
              split at z
              · cases z
                exact n1 (fr o h1 t)
              · exact n3 (.inr ⟨j, z⟩))
          have le : ∀ x, ns B.F im2 (owOn ow i p) x → ns (B.plus p).F im2 ow x := fun x h => by
            rcases h with h | h | ⟨j, h⟩
            · exact .inl (.inl h)
            · exact .inr (.inl h)
            · unfold owOn at h
              split at h
              · cases h
                exact .inl (.inr rfl)
              · exact .inr (.inr ⟨j, h⟩)
          exact P im2 _ _ H2 (S3.set (r2.less le) (by rw [List.length_set]; exact hl.2))
        · exact P.elim
      | ex C fs M2 =>
        rw [hq2] at P
        exact P.elim
      | bad =>
        rw [hq2] at P
        exact P.elim
    | ex C fs M1 =>
      rw [hq] at P
      exact P.elim
    | bad =>
      rw [hq] at P
      exact P.elim
end
end Dy

/-! Dy74: exceptions of own classes over ArithmeticError whose __init__ stores its one argument: made and raised. -/
namespace Dy
open PySem
open PySem.Spec
open PyProof.Rows hiding St
open L2

/-- ArithmeticError and what is above it -/
abbrev aeT : List Value := [.type "ArithmeticError", .type "Exception", .type "BaseException", .type "object"]
/-- such a class, told by Bool tests over the written part -/
structure OexA (K : PySem.W.Frag) (C : Addr) : Prop where
  made : PySem.W.excInitIn K C aeT "ArithmeticError.__new__" = true
  over : PySem.W.excOver K C aeT = true
  dct : PySem.W.hasDictIn K C = true
  sto : PySem.W.findIn K (.ref C) "__setattr__" = some (some (.builtin "object.__setattr__"))
  exc : PySem.W.subIn K (.ref C) (.type "BaseException") = some true
  typ : PySem.W.typeIn K (.ref C) = some (.type "type")
  kept : PySem.W.keepIn K (.ref C) = true
section
variable {X : Cx} {pins : List (Addr × Obj)} {σ : St} {H : Hp} {s : Shared} {a C : Addr} {f : Str} {y : V} {u : Value} {Q : Unit → Shared → Prop} {E : Value → Shared → Prop} {A : Around}
/-- a heap in which an exception of ours has got its dict: as if the one was written, then the other laid -/
theorem inv_dict {h' : Heap} {t' : Nat} {dx t1 : Addr} {mA : Str → Option Value} (I : Inv X pins σ H s) (e : H a = some (exo a C none)) (k : ∀ b o, b ≠ a → s.heap.get? b = some o → h'.get? b = some o) (hf : s.heap.get? dx = none) (hd : H dx = none) (ne : dx ≠ a)
    (hx : h'.get? a = some { cls := .ref C, dict := some dx, data := .fields #[.ref t1, .none, .none, .none, .bool false, .none] }) (hn : h'.Ns1 dx mA) (r : ∀ g, RelO ([(f, y)].lookup g) (mA g)) :
    Inv X pins σ (upd (upd H dx (exd dx [(f, y)])) a (exo a C (some dx))) { s with heap := h', toks := t' } := by
  obtain ⟨G, g1, g2⟩ := restrict h' fun b => decide (b ≠ dx)
  have gd : G.get? dx = none := g2 dx (by simp)
  have gk : ∀ b, b ≠ dx → G.get? b = h'.get? b := fun b hb => g1 b (decide_eq_true hb)
  have ga : G.get? a = some { cls := .ref C, dict := some dx, data := .fields #[.ref t1, .none, .none, .none, .bool false, .none] } := (gk a ne.symm).trans hx
  have J := I.write (h' := G) (t' := t') (x := a) (e := a) (o := exo a C (some dx)) (by rw [e]; exact True.intro) (.inl rfl) (fun b o hb q => (gk b fun z => by
    rw [z, hf] at q
    cases q).trans (k b o hb q)) ⟨_, ga⟩ (exo_ok ga)
  have J2 := J.laidN (h' := h') (t' := t') (a := dx) (o := exd dx [(f, y)]) (fun b o q => by
    by_cases hb : b = dx
    · have z : G.get? b = some o := q
      rw [hb, gd] at z
      cases z
    · exact (gk b hb).symm.trans q) gd (by rw [upd_ne ne]; exact hd) (exd_ok hn r)
  have eu : upd (upd H dx (exd dx [(f, y)])) a (exo a C (some dx)) = upd (upd H a (exo a C (some dx))) dx (exd dx [(f, y)]) := by
    funext b
    by_cases h1 : b = a
    · subst h1
      rw [upd_same, upd_ne ne.symm, upd_same]
    · by_cases h2 : b = dx
      · subst h2
        rw [upd_ne h1, upd_same, upd_same]
      · rw [upd_ne h1, upd_ne h2, upd_ne h2, upd_ne h1]
  rw [eu]
  exact J2
/-- self.f = y on an exception without a dict -/
theorem first_store (T : OexA X.K C) (I : Inv X pins σ H s) (e : H a = some (exo a C none)) (hno : PySem.W.findIn X.K (.ref C) f = some none) (ry : RelV y u)
    (h : ∀ dx s', H dx = none → dx ≠ a → Inv X pins σ (upd (upd H dx (exd dx [(f, y)])) a (exo a C (some dx))) s' → Q () s') : wpAny (model X.prog X.w) A (setAttr (.ref a) f u) Q E s := by
  obtain ⟨t1, ho⟩ := exo_at I.hok e
  obtain ⟨cd, hcd, hd⟩ := PySem.W.any_some T.dct
  have ht : PySem.W.takerIn X.K C f = some none := by
    unfold PySem.W.takerIn
    rw [hno]
    rfl
  have lt : a < s.heap.objs.size := Heap.lt_size ho
  have nn : s.heap.objs.size ≠ a := Nat.ne_of_gt lt
  have hdn : H s.heap.objs.size = none := I.hok.fresh (Nat.le_refl _)
  refine PySem.W.set_plain I.kIn (od := none) ⟨ho, rfl, rfl, trivial⟩ T.sto (PySem.W.osa_openX (od := none) PySem.F.store_ArithmeticError I.kIn ⟨ho, rfl, rfl, trivial⟩ T.over ht fun b => ?_)
  show wpAny _ _ (Builtin.ObjectAttr.storeInOwnDict (.ref a) (.ref C) _ f u b) _ _ _
  refine wpAny_bind (wpAny_pure (wpAny_bind (PySem.W.instanceDict_exc ho (PySem.W.looks_clsIn I.kIn hcd) hd (PySem.HandSPX.store_in_new ?_ fun h' tk' hn hs => ?_))))
  · refine ⟨PySem.W.dictOf [] 0, #[], 0, ?_, rfl, fun _ z => absurd z (by simp), fun _ => rfl⟩
    rw [Heap.get?_update_ne _ _ _ _ nn]
    exact Heap.get?_push_size _ rfl
  · have old : ∀ b o, b ≠ a → s.heap.get? b = some o → h'.get? b = some o := fun b o hb q => by
      rw [hs.2 b (Nat.ne_of_lt (Heap.lt_size q)), Heap.get?_update_ne _ _ _ _ hb]
      exact Heap.get?_push_of_some _ q
    have hx : h'.get? a = some { cls := .ref C, dict := some s.heap.objs.size, data := .fields #[.ref t1, .none, .none, .none, .bool false, .none] } := by
      rw [hs.2 a nn.symm, Heap.get?_update_self _ (Heap.get?_push_of_some _ ho) rfl]
    exact h _ _ hdn nn (inv_dict (s := s) I e old (Heap.get?_none_of_le (Nat.le_refl _)) hdn nn hx hn (relO_put (fs := []) ry fun g => True.intro))
end
section
variable {P : Program} {w : World} {K : PySem.W.Frag} {mg : Str → Option Value} {base : Heap} {x qual : Str} {params : Arguments} {body : List Stmt} {scope : Scope} {fd : FuncData} {s y f : Str} {C fI : Addr} {p1 p2 p3 pos : Pos} {CX : CXT}
/-- the one row of such an __init__ -/
theorem ini_row {X : Cx} (T : OexA X.K C) (hno : PySem.W.findIn X.K (.ref C) f = some none) {to te : TE} {o e : Expr} (ho : PE X o to) (he : PE X e te) (hs : swapsWith e (some (.Attribute o f p2)) pos.line X.env = pure false := by rfl) :
    PS X (.Assign [.Attribute o f p2] e pos) (fun D σ H => te σ H fun z H1 => to σ H1 fun v H2 => ∃ a, v = .ref a ∧ H2 a = some (exo a C none) ∧ ∀ dx, H2 dx = none → dx ≠ a → D.nx σ (upd (upd H2 dx (exd dx [(f, z)])) a (exo a C (some dx)))) :=
  ⟨fun pins s σ H D I h => plainObj_wpAny_Assign_Attribute (wpAny_mono (he.run pins s σ H _ I h) (fun u s1 ⟨z, H1, I1, r1, q1⟩ => wpAny_mono (ho.run pins s1 σ H1 _ I1 q1) (fun v s2 ⟨w, H2, I2, r2, a, ew, ea, q⟩ => by
    subst ew
    obtain rfl : v = Value.ref a := r2
    exact first_store T I2 ea hno r1 fun dx s' n ne J => ⟨σ, _, J, q dx n ne⟩) fun _ _ z => z) fun _ _ z => z) hs⟩
theorem fn_initA (F : FunD K x qual params body scope [] [] fI fd) (S : FnScope [s, y] [s, y] scope) (T : OexA K C) (hno : PySem.W.findIn K (.ref C) f = some none) (h0 : ∀ cdv A outer s1 H E, Vis (cxOf CX P w K mg base [s, y] qual scope fI cdv A outer s1 H E).env.scope s ∧ Vis (cxOf CX P w K mg base [s, y] qual scope fI cdv A outer s1 H E).env.scope y)
    (hd : (s == ("__debug__" : Str)) = false ∧ (s == ("__classdict__" : Str)) = false ∧ (y == ("__debug__" : Str)) = false ∧ (y == ("__classdict__" : Str)) = false)
    (hb : body = [.Assign [.Attribute (.Name s p1) f p2] (.Name y p3) pos]) : FnOk P w K mg base CX 1 fI fd [s, y] (spI C f) := by
  subst hb
  refine F.ok S (fun vs H Q E h => ?_) fun cdv A outer s1 H vs Q E hr h => ?_
  · obtain ⟨a, z, e, _⟩ := h
    rw [e]
    rfl
  · obtain ⟨a, z, e, ha, q⟩ := h
    subst e
    exact ⟨_, pss_one (ini_row T hno (pe_var (i := 0) rfl (h0 cdv A outer s1 H E).1 hd.1 hd.2.1) (pe_var (i := 1) rfl (h0 cdv A outer s1 H E).2 hd.2.2.1 hd.2.2.2)), z, rfl, .ref a, rfl, a, rfl, ha, q⟩
end
section
variable {X : Cx} {T : Tb} {W : WX} {e : Expr} {te : TE} {fe : SE Dm} {x f : Str} {C fI : Addr} {k : Nat} {fd : FuncData} {ps : List Str} {p pos pos' : Pos}
/-- C(e) -/
theorem pmk_oneA (T1 : OexA X.K C) (iC : PySem.W.findIn X.K (.ref C) "__init__" = some (some (.ref fI))) (tI : PySem.W.typeIn X.K (.ref fI) = some (.type "function")) (F1 : FnOk X.prog X.w X.K X.mg X.base (L2N.CX X.prog X.w) k fI fd ps (spI C f)) (site : Site X (k + 1))
    (hb : Binds X.K fd ps []) (tk : L2N.Takes X W) (hg : Gl X x) (hm : X.mg x = some (.ref C)) (ha : PE X e te) (hdb : (x == ("__debug__" : Str)) = false := by decide) (he : starEach [e] X.env = (false, eval e X.env) :: starEach [] X.env := by rfl) :
    L2N.PMk X (.Call (.Name x p) [e] [] pos) (fun σ H Q => te σ H fun y H1 => ∀ d, H1 d = none → Q (.ref C) (some d) (upd H1 d (.xd [(f, y)]))) := by
  intro pins s σ H Q I h
  have h' : tCons te tNil σ H (fun vs H1 => ∃ z, vs = [z] ∧ ∀ d, H1 d = none → Q (.ref C) (some d) (upd H1 d (.xd [(f, z)]))) := by
    have e : (fun (y : V) H1 => ∀ d, H1 d = none → Q (.ref C) (some d) (upd H1 d (.xd [(f, y)]))) = fun y H1 => ∃ z, [y] = [z] ∧ ∀ d, H1 d = none → Q (.ref C) (some d) (upd H1 d (.xd [(f, z)])) := by
      funext y H1
      refine propext ⟨fun q => ⟨y, rfl, q⟩, fun ⟨z, ez, q⟩ => ?_⟩
      cases ez
      exact q
    rw [e] at h
    exact h
  refine wpAny_Call_Name_kw (ld_glob I hg hm ?_ hdb)
  refine PySem.W.callWith_K (h₀ := X.base) I.ok.mod.kin T1.kept (thn ((pa_cons ha pa_nil he).run pos pins s σ H (fun vs H1 => ∃ z, vs = [z] ∧ ∀ d, H1 d = none → Q (.ref C) (some d) (upd H1 d (.xd [(f, z)]))) I h') fun us s1 ⟨vs, H1, I1, r1, z, ez, q1⟩ => ⟨I1.kIn, ?_⟩) he rfl
  subst ez
  show wpAny _ _ (call (.ref C) us) _ _ _
  obtain ⟨hp, gs, dr, tk1, os⟩ := s1
  obtain ⟨c1, c2, c3, c4, bms, c5, c6, c7, c8, c9, l0, l1, l2, l3, l5, l6, hC, hbm⟩ := PySem.W.excInit_of I1.kIn T1.made
  generalize ea : hp.objs.size + 1 = a
  have hsz : hp.objs.size ≤ a := by omega
  have hn : H1 a = none := I1.hok.fresh hsz
  have hq : spI C f (.ref a :: [z]) (upd H1 a (exo a C none)) (fun v H2 => v = .non ∧ ∃ (d : Addr) (fs : List (Str × V)), H2 a = some (exo a C (some d)) ∧ H2 d = some (exd d fs) ∧ H1 d = none ∧ Q (.ref C) (some d) (upd (del H2 a) d (.xd fs))) (fun _ _ _ => False) :=
    ⟨a, z, rfl, upd_same, fun dx e1 ne => by
      rw [upd_ne ne] at e1
      refine ⟨rfl, dx, [(f, z)], upd_same, ?_, e1, ?_⟩
      · rw [upd_ne ne, upd_same]
      · rw [upd_del hn ne]
        exact q1 dx e1⟩
  have grow : ∀ b o, hp.get? b = some o → ((hp.push (PySem.W.kdv_tup us)).push (PySem.HandSPX.excO C hp.objs.size)).get? b = some o := fun b o y => Heap.get?_push_of_some _ (Heap.get?_push_of_some _ y)
  have lay : ((hp.push (PySem.W.kdv_tup us)).push (PySem.HandSPX.excO C hp.objs.size)).get? a = some (PySem.HandSPX.excO C hp.objs.size) := by
    rw [← ea]
    heap_get
  have I2 := I1.laid (t' := tk1) (a := a) (o := exo a C none) (h' := (hp.push (PySem.W.kdv_tup us)).push (PySem.HandSPX.excO C hp.objs.size)) grow hsz (exo_ok lay)
  have r2 : Vals (V.ref a :: [z]) (Value.ref a :: us) := .cons rfl r1
  have hl : (Value.ref a :: us ++ []).length = ps.length := by
    have y1 := r2.length
    have y2 := F1.len _ _ _ _ hq
    rw [List.append_nil]
    omega
  have hus : us.length ≤ sizeLine := by
    have y1 := Paired.length r1
    rw [← y1]
    show 1 ≤ sizeLine
    decide
  have bnd := hb _ (Value.ref a :: us) I2.kIn hl
  rw [List.append_nil] at bnd
  subst ea
  refine wpAny_call (PySem.HandSPX.call_own F.excBase_ArithmeticError hbm hC (PySem.W.looks_findIn I1.kIn iC) (fun self => PySem.W.bind_fn I1.kIn self tI) hus
    (codeAny_mono (F1.run _ X.stack _ _ ⟨Value.ref (hp.objs.size + 1) :: us, []⟩ _ _ _ (fun _ _ _ => False) (site.room.make C us []) (I2.env0.make C us []) bnd r2 hq) fun r s' back => ?_))
  cases r with
  | error er => exact L2N.passes_call tk (fun _ _ _ _ w => w.elim) pins σ _ _ er s' I2 back
  | ok fl =>
    cases fl with
    | ret u =>
      obtain ⟨v, H2, os2, bare2, un2, hok2, rv, ev, d, fs, y1, y2, hd1, q2⟩ := back
      subst ev
      obtain ⟨h2, g2, d2, t2, os'⟩ := s'
      obtain ⟨t0, G, J, kG, ge, hoe, na⟩ := mk_end0 (d2 := d2) (t2 := t2) I1 hsz grow un2 hok2 os2 bare2 y1 y2 hd1
      refine ⟨rv, hp.objs.size + 1, _, _, ⟨G, g2, d2, t2, os'⟩, _, .ref C, some d, rfl, J, kG, ge, hoe, ⟨rfl, rfl, fun ws hv => ?_⟩, rfl, rfl, na, rfl, bare2, raises_own T1.exc T1.typ, q2⟩
      cases hv
      rfl
    | next => exact False.elim back
    | brk => exact False.elim back
    | cont => exact False.elim back
/-- what raising C(e) asks of the written part -/
structure RaA (K : PySem.W.Frag) (C : Addr) (f : Str) (fI : Addr) : Prop where
  o : OexA K C
  ini : PySem.W.findIn K (.ref C) "__init__" = some (some (.ref fI))
  ty : PySem.W.typeIn K (.ref fI) = some (.type "function")
  no : PySem.W.findIn K (.ref C) f = some none
def raAB (K : PySem.W.Frag) (x f : Str) (fI : Addr) : Bool := PySem.W.excInitIn K (He.ga K x) aeT "ArithmeticError.__new__" && (PySem.W.excOver K (He.ga K x) aeT && (PySem.W.hasDictIn K (He.ga K x) && (He.eqO (PySem.W.findIn K (.ref (He.ga K x)) "__setattr__") (some (some (.builtin "object.__setattr__"))) && (decide (PySem.W.subIn K (.ref (He.ga K x)) (.type "BaseException") = some true) && (decide (PySem.W.typeIn K (.ref (He.ga K x)) = some (.type "type")) &&
  (PySem.W.keepIn K (.ref (He.ga K x)) && (He.eqO (PySem.W.findIn K (.ref (He.ga K x)) "__init__") (some (some (.ref fI))) && (decide (PySem.W.typeIn K (.ref fI) = some (.type "function")) && He.eqO (PySem.W.findIn K (.ref (He.ga K x)) f) (some none)))))))))
theorem raAB_ok {K : PySem.W.Frag} {x f : Str} {fI : Addr} (h : raAB K x f fI = true) : RaA K (He.ga K x) f fI := by
  unfold raAB at h
  simp only [Bool.and_eq_true, decide_eq_true_eq] at h
  obtain ⟨h1, h2, h3, h4, h5, h6, h7, h8, h9, h10⟩ := h
  exact ⟨⟨h1, h2, h3, He.eqO_ok h4, h5, h6, h7⟩, He.eqO_ok h8, h9, He.eqO_ok h10⟩
theorem ds_raiseA (R : RaA X.K C f fI) (F1 : FnOk X.prog X.w X.K X.mg X.base (L2N.CX X.prog X.w) 1 fI fd ps (spI C f)) (hb : BindsP X.K fd ps) (site : Site X 2) (tk : L2N.Takes X W) (hc : X.calm = true) (hg : Gl X x) (hm : X.mg x = some (.ref C)) (he : DE X T W e fe)
    (hdb : (x == ("__debug__" : Str)) = false := by decide) (hst : starEach [e] X.env = (false, eval e X.env) :: starEach [] X.env := by rfl) :
    DS X T W (.Raise (some (.Call (.Name x p) [e] [] pos)) none pos') (sRaise x f fe) :=
  ds_raise hc tk (pmk_oneA R.o R.ini R.ty F1 site (fun s us h1 h2 => by
    rw [List.append_nil] at h2 ⊢
    exact hb s us h1 h2) tk hg hm he hdb hst) hm
end
end Dy

/-! Dy76: e.get(k, x) of a dict by value; list(range(n)); sorted of a list that holds () alone, key=lambda x: (len(x), x). -/
namespace Dy
open PySem
open PySem.Spec
open PySem.Calls
open PyProof.Rows hiding St
section
open L2
variable {X : Cx} {T : Tb} {W : WX} {o a e : Expr} {fo fk fe fa : SE Dm} {p q pos pos' apos cpos : Pos}
/-! ### e.get(k, x) -/
def sDGetE (fo fk fe : SE Dm) : SE Dm := fun r M => (fo r M).bind fun o M0 => match o with
  | .dic kvs => (fk r M0).bind fun k M1 => (fe r M1).bind fun e M2 => match keyOf k with
    | some kk => .ok ((valD kvs kk).getD e) M2
    | none => .bad
  | _ => .bad
theorem de_dgetE (s : Ut X) (ho : DE X T W o fo) (hk : DE X T W a fk) (he : DE X T W e fe) (m : M2 X o "get" apos a e cpos) : DE X T W (.Call (.Attribute o "get" apos) [a, e] [] cpos) (sDGetE fo fk fe) :=
  pe_le (pe_dget2 s.u1 ho hk he m) fun σ H Q ⟨B, im, ow, r, M, S, P⟩ => ⟨B, im, ow, r, M, S, Post.bind (rl := rlV) P fun d0 M0 v0 im0 H0 _ S0 E0 p0 r0 P0 => by
    cases d0 with
    | dic kvs =>
      obtain ⟨a0, rfl⟩ : ∃ a0, v0 = .ref a0 := by
        cases r0
        exact ⟨_, rfl⟩
      have hd : ∃ xs, H0 a0 = some (.dK xs) := by
        cases r0 with
        | dic h n k => exact ⟨_, h⟩
      obtain ⟨xs0, h0⟩ := hd
      refine ⟨a0, rfl, .inl ⟨xs0, .inl h0⟩, B, im0, ow, r, M0, S0, Post.bind (rl := rlV) P0 fun d M1 v im1 H1 _ S1 E1 p1 r1 P1 => ⟨B, im1, ow, r, M1, S1, Post.bind (rl := rlV) P1 fun d2 M2 v2 im2 H2 _ S2 E2 p2 r2 P2 => ?_⟩⟩
      cases h2 : keyOf d with
      | none =>
        simp only [h2] at P2
        exact P2.elim
      | some kk =>
        simp only [h2] at P2
        have ek := key_of r1 h2
        subst ek
        have rz := (r0.mono E1.ns p1).mono E2.ns p2
        cases rz with
        | @dic _ xs _ e2 n2 e3 =>
          refine ⟨valV xs kk, .inl ⟨xs, kk, .inl e2, rfl, rfl⟩, ?_⟩
          cases h3 : valD kvs kk with
          | none =>
            rw [h3] at P2
            rw [e3.val.2 h3]
            exact P2.here S2 r2
          | some d' =>
            rw [h3] at P2
            obtain ⟨w, q1, q2⟩ := e3.val.1 d' h3
            rw [q1]
            exact P2.here S2 q2
    | _ => exact P0.elim⟩
/-! ### list(range(n)) -/
def sLRng (fa : SE Dm) : SE Dm := fun r M => (fa r M).bind fun d M1 => match d with
  | .int n => if 0 ≤ n ∧ n ≤ 1000 then .ok (.lst ((List.range n.toNat).map fun i => .int (i : Nat))) M1 else .bad
  | _ => .bad
theorem reps_rg {g : Gm} {N : Av} {im : List Addr} {H : Hp} : ∀ l : List Nat, Reps g N im H (l.map fun i => V.int (0 + ((i : Nat) : Int))) (l.map fun i => Dm.int ((i : Nat) : Int))
  | [] => .nil
  | i :: l => by
    rw [List.map_cons, List.map_cons, Int.zero_add]
    exact .cons (.int _) (reps_rg l)
theorem de_lrange (hc : X.calm = true) (hg : Gl X "list") (hm : X.mg "list" = none) (hg2 : Gl X "range") (hm2 : X.mg "range" = none) (ha : DE X T W a fa) (na : starEach [a] X.env = (false, eval a X.env) :: starEach [] X.env := by rfl)
    (nb : starEach [.Call (.Name "range" q) [a] [] pos'] X.env = (false, eval (.Call (.Name "range" q) [a] [] pos') X.env) :: starEach [] X.env := by rfl) : DE X T W (.Call (.Name "list" p) [.Call (.Name "range" q) [a] [] pos'] [] pos) (sLRng fa) :=
  pe_le (pe_listRg hc hg hm (prg_1 hg2 hm2 ha na) nb) fun σ H Q ⟨B, im, ow, r, M, S, P⟩ => ⟨B, im, ow, r, M, S, Post.bind (rl := rlV) P fun d M1 v im1 H1 _ S1 E1 p1 r1 P1 => by
    cases r1 with
    | int n =>
      dsimp only at P1
      split at P1
      · rename_i h
        refine ⟨n, rfl, RgOk.of_le (by omega) (by omega) (by omega) h.1, fun l hl => P1.new S1 hl (.lst upd_same (S1.fresh hl) ?_)⟩
        unfold rgV
        rw [Int.sub_zero]
        exact (reps_rg _)
      · exact P1.elim
    | _ => exact P1.elim⟩
end
/-! ### the key (len(x), x) of () -/
section
variable {prog : Program} {w : World} {A : Around} {E : Value → Shared → Prop} {s : Shared}
abbrev k0D : PyData := .tuple [.int 0, .tuple []]
theorem key_len {f c' : Addr} {q : Str} {params : Arguments} {scope : Scope} {cl : List (Str × Addr)} {pm ctv : Value} {y : Str} {p1 p2 p3 p4 pos : Pos} {j0 : Nat} {a : Addr} {mg mb : Str → Option Value}
    (hroom : A.depth < recursionLimit) (ho : s.heap.get? f = some (PySem.W.kla_obj "<lambda>" q params (.Tuple [.Call (.Name "len" p1) [.Name y p2] [] p3, .Name y p4] j0 pos) scope cl pm c' ctv)) (hcd : s.heap.CodeRec (.ref c') q)
    (hk : scope.kind = .function) (hco : scope.isCoroutine = false) (hgen : scope.isGenerator = false) (hnc : ∀ x ∈ scope.names, x.2 ≠ .cell) (hy : scope.names.lookup y = some .local) (hl : scope.names.lookup (Str.ofString "len") = some NameKind.globalImplicit) (hd : (y == ("__debug__" : Str)) = false)
    (hbind : ∀ (q : Str) (cl : List (Str × Addr)) (pm cv ctv : Value) (u : Value), bindArgs (PySem.W.kla_fn "<lambda>" q params (.Tuple [.Call (.Name "len" p1) [.Name y p2] [] p3, .Name y p4] j0 pos) scope cl pm cv ctv) ⟨[u], []⟩ = pure [(y, u)])
    (hnl : s.heap.NoLimit) (ha : IsTup s.heap a #[]) (hg : s.heap.Ns mainGlobals mg) (hm : mg (Str.ofString "len") = none) (hb : s.heap.Ns builtinsNs mb) (hv : mb (Str.ofString "len") = some (.builtin "len")) :
    wpAny (model prog w) A (call (.ref f) [.ref a]) (PySem.W.KeyPure k0D s) (fun _ _ => False) s := by
  refine wpAny_call (codeAny_mono (R := fun r s' => ∃ v, r = .ok (.ret v) ∧ PySem.W.KeyPure k0D s v s') ?_ fun rr s' hq => ?_)
  · refine PySem.W.kla_callFunE hroom ho rfl hco hgen rfl hcd ?_
    rw [hbind]
    refine wpAny_pure (wpAny_newFunctionEnv hnc (fun x hx => ?_) (fun h₁ hns hsb => ⟨hnl.fresh _ hsb, ?_⟩) hk)
    · cases List.mem_singleton.mp hx
      exact hy
    · have kp : ∀ b o, s.heap.get? b = some o → h₁.get? b = some o := fun b o e => hsb.extBut b o (Nat.ne_of_lt (Heap.lt_size e)) (Heap.get?_push_of_some _ e)
      have hl0 : ([(y, Value.ref a)] : List (Str × Value)).reverse.lookup y = some (.ref a) := by simp [List.lookup]
      have ha1 : IsTup h₁ a #[] := by
        obtain ⟨o, e, r⟩ := ha
        exact ⟨o, kp _ _ e, r⟩
      have hns2 : ∀ {t : Nat} {g : Array GenState} {d : Drawn} {os : OsState}, (Shared.mk h₁ g d t os).heap.Ns s.heap.objs.size (fun x => ([(y, Value.ref a)] : List (Str × Value)).reverse.lookup x) := hns
      refine PySem.W.kla_codeExpr (wpAny_mono (Q := fun v s' => PySem.W.KeyPure k0D s v s') ?_ (fun v s' hq => ⟨v, rfl, hq⟩) fun _ _ e => e)
      refine wpAny_Tuple ?_
      refine wpAny_items_cons ?_
      refine Call_ ?_
      refine Name_function_global hk hl (loadGlobal_builtin (?_ : Heap.Ns _ mainGlobals mg) hm (?_ : Heap.Ns _ builtinsNs mb) hv ?_) (by decide)
      · exact hg.keeps kp
      · exact hb.keeps kp
      refine callWith_builtin1 (wpAny_items_cons (wpAny_Name (wpAny_loadName_local hk (show Env.kindOf _ _ = _ from hy) hns hl0 (wpAny_items_nil (PyProof.Rows.len_tuple ha1 (by decide) ?_))) hd))
      refine wpAny_items_cons (wpAny_Name (wpAny_loadName_local hk (show Env.kindOf _ _ = _ from hy) hns2 hl0 (wpAny_items_nil ⟨by simp only [List.length_cons, List.length_nil]; decide, ?_⟩)) hd)
      obtain ⟨oa, ea, ec, na, ed⟩ := ha1
      refine ⟨_, _, rfl, fun b o e => Heap.get?_push_of_some _ (kp b o e), ?_⟩
      exact .tuple (as := []) (Heap.get?_push_size _ rfl) rfl rfl (.cons (as := []) (bs := []) (.int _ _) (.cons (as := []) (bs := []) (.tuple (Heap.get?_push_of_some _ ea) ec ed .nil) .nil))
  · obtain ⟨v, rfl, hq⟩ := hq
    exact hq
end
end Dy

/-! Dy77: sorted(a list of tuples of ints, key=lambda x: (len(x), x)). -/
namespace Dy
open PySem
open PySem.Spec
open PySem.Calls
open PyProof.Rows hiding St
/-- values that are the ints -/
inductive IntsV : List Int → List Value → Prop
  | nil : IntsV [] []
  | cons {n : Int} {t : Tok} {ns : List Int} {us : List Value} : IntsV ns us → IntsV (n :: ns) (.int n t :: us)
theorem IntsV.length : ∀ {ns : List Int} {us : List Value}, IntsV ns us → us.length = ns.length
  | _, _, .nil => rfl
  | _, _, .cons r => congrArg (· + 1) r.length
theorem IntsV.reads {h : Heap} : ∀ {ns : List Int} {us : List Value}, IntsV ns us → ReadsAll h us (ns.map PyData.int) []
  | _, _, .nil => .nil
  | _, _, .cons r => .cons (as := []) (bs := []) (.int _ _) r.reads
/-- how many, then themselves -/
def kLD (ns : List Int) : PyData := .tuple [.int (ns.length : Int), .tuple (ns.map PyData.int)]
def leLK (a b : List Int) : Bool := decide (a.length < b.length ∨ (a.length = b.length ∧ a ≤ b))
theorem dataLe_LK {β : Type} (k : β → List Int) : PySem.W.dataLe false (fun b => kLD (k b)) = fun p q => leLK (k p) (k q) := by
  funext p q
  show (!PySem.W.dataLt (kLD (k q)) (kLD (k p))) = _
  unfold kLD
  rw [PySem.W.dataLt_pair (by simp [PySem.W.alike]) (by rw [PySem.W.alike, PySem.W.alike_ints]), PySem.W.dataLt_int, PySem.W.dataLt_tuple]
  have e : PyProof.Rows.lexLt itemOrd (PySem.W.keyToksAll ((k q).map PyData.int)) (PySem.W.keyToksAll ((k p).map PyData.int)) = decide (k q < k p) := PySem.W.dataLt_ints _ _
  rw [e]
  unfold leLK
  have ei : ∀ x y : Int, PyData.eqv (.int x) (.int y) = decide (x = y) := fun x y => by
    simp only [PyData.eqv]
    by_cases h : x = y <;> simp [h]
  have et : ∀ x y : List Int, PyData.eqv (.tuple (x.map PyData.int)) (.tuple (y.map PyData.int)) = decide (x = y) := fun x y => by
    rw [PyData.eqv]
    induction x generalizing y with
    | nil => cases y <;> simp [PyData.eqvAll]
    | cons a x ih =>
      cases y with
      | nil => simp [PyData.eqvAll]
      | cons b y =>
        rw [List.map_cons, List.map_cons, PyData.eqvAll, ei, ih y]
        by_cases h : a = b <;> by_cases h2 : x = y <;> simp [h, h2]
  rw [ei, et]
  by_cases h1 : (k q).length = (k p).length
  · have h1' : ((k q).length : Int) = ((k p).length : Int) := by rw [h1]
    rw [if_pos (decide_eq_true h1')]
    by_cases h2 : k q = k p
    · rw [if_pos (decide_eq_true h2), h2]
      simp
    · rw [if_neg (by simpa using h2)]
      by_cases h3 : k q < k p
      · have h4 : ¬ k p ≤ k q := fun r => List.not_lt.mpr r h3
        simp [h3, h4, h1]
      · have h4 : k p ≤ k q := List.not_lt.mp h3
        simp [h3, h4, h1]
  · have h1' : ¬ ((k q).length : Int) = ((k p).length : Int) := fun e => h1 (by exact_mod_cast e)
    rw [if_neg (by simpa using h1')]
    by_cases h3 : ((k q).length : Int) < ((k p).length : Int)
    · have h4 : ¬ ((k p).length < (k q).length ∨ (k p).length = (k q).length ∧ k p ≤ k q) := by omega
      rw [decide_eq_true h3, decide_eq_false h4]
      rfl
    · have h4 : (k p).length < (k q).length ∨ (k p).length = (k q).length ∧ k p ≤ k q := .inl (by omega)
      rw [decide_eq_false h3, decide_eq_true h4]
      rfl
section
variable {prog : Program} {w : World} {A : Around} {E : Value → Shared → Prop} {s : Shared}
theorem key_lenT {f c' : Addr} {q : Str} {params : Arguments} {scope : Scope} {cl : List (Str × Addr)} {pm ctv : Value} {y : Str} {p1 p2 p3 p4 pos : Pos} {j0 : Nat} {a : Addr} {us : List Value} {ns : List Int} {mg mb : Str → Option Value}
    (hroom : A.depth < recursionLimit) (ho : s.heap.get? f = some (PySem.W.kla_obj "<lambda>" q params (.Tuple [.Call (.Name "len" p1) [.Name y p2] [] p3, .Name y p4] j0 pos) scope cl pm c' ctv)) (hcd : s.heap.CodeRec (.ref c') q)
    (hk : scope.kind = .function) (hco : scope.isCoroutine = false) (hgen : scope.isGenerator = false) (hnc : ∀ x ∈ scope.names, x.2 ≠ .cell) (hy : scope.names.lookup y = some .local) (hl : scope.names.lookup (Str.ofString "len") = some NameKind.globalImplicit) (hd : (y == ("__debug__" : Str)) = false)
    (hbind : ∀ (q : Str) (cl : List (Str × Addr)) (pm cv ctv : Value) (u : Value), bindArgs (PySem.W.kla_fn "<lambda>" q params (.Tuple [.Call (.Name "len" p1) [.Name y p2] [] p3, .Name y p4] j0 pos) scope cl pm cv ctv) ⟨[u], []⟩ = pure [(y, u)])
    (hnl : s.heap.NoLimit) (ha : IsTup s.heap a us.toArray) (hz : us.length ≤ 1000) (hr : IntsV ns us) (hg : s.heap.Ns mainGlobals mg) (hm : mg (Str.ofString "len") = none) (hb : s.heap.Ns builtinsNs mb) (hv : mb (Str.ofString "len") = some (.builtin "len")) :
    wpAny (model prog w) A (call (.ref f) [.ref a]) (PySem.W.KeyPure (kLD ns) s) (fun _ _ => False) s := by
  refine wpAny_call (codeAny_mono (R := fun r s' => ∃ v, r = .ok (.ret v) ∧ PySem.W.KeyPure (kLD ns) s v s') ?_ fun rr s' hq => ?_)
  · refine PySem.W.kla_callFunE hroom ho rfl hco hgen rfl hcd ?_
    rw [hbind]
    refine wpAny_pure (wpAny_newFunctionEnv hnc (fun x hx => ?_) (fun h₁ hns hsb => ⟨hnl.fresh _ hsb, ?_⟩) hk)
    · cases List.mem_singleton.mp hx
      exact hy
    · have kp : ∀ b o, s.heap.get? b = some o → h₁.get? b = some o := fun b o e => hsb.extBut b o (Nat.ne_of_lt (Heap.lt_size e)) (Heap.get?_push_of_some _ e)
      have hl0 : ([(y, Value.ref a)] : List (Str × Value)).reverse.lookup y = some (.ref a) := by simp [List.lookup]
      have ha1 : IsTup h₁ a us.toArray := by
        obtain ⟨o, e, r⟩ := ha
        exact ⟨o, kp _ _ e, r⟩
      have hns2 : ∀ {t : Nat} {g : Array GenState} {d : Drawn} {os : OsState}, (Shared.mk h₁ g d t os).heap.Ns s.heap.objs.size (fun x => ([(y, Value.ref a)] : List (Str × Value)).reverse.lookup x) := hns
      refine PySem.W.kla_codeExpr (wpAny_mono (Q := fun v s' => PySem.W.KeyPure (kLD ns) s v s') ?_ (fun v s' hq => ⟨v, rfl, hq⟩) fun _ _ e => e)
      refine wpAny_Tuple ?_
      refine wpAny_items_cons ?_
      refine Call_ ?_
      refine Name_function_global hk hl (loadGlobal_builtin (?_ : Heap.Ns _ mainGlobals mg) hm (?_ : Heap.Ns _ builtinsNs mb) hv ?_) (by decide)
      · exact hg.keeps kp
      · exact hb.keeps kp
      refine callWith_builtin1 (wpAny_items_cons (wpAny_Name (wpAny_loadName_local hk (show Env.kindOf _ _ = _ from hy) hns hl0 (wpAny_items_nil (PyProof.Rows.len_tuple ha1 (by rw [List.size_toArray]; omega) ?_))) hd))
      refine wpAny_items_cons (wpAny_Name (wpAny_loadName_local hk (show Env.kindOf _ _ = _ from hy) hns2 hl0 (wpAny_items_nil ⟨by simp only [List.length_cons, List.length_nil]; decide, ?_⟩)) hd)
      obtain ⟨oa, ea, ec, na, ed⟩ := ha1
      refine ⟨_, _, rfl, fun b o e => Heap.get?_push_of_some _ (kp b o e), ?_⟩
      have hl2 : ((us.toArray.size : Nat) : Int) = (ns.length : Int) := by rw [List.size_toArray, hr.length]
      rw [hl2]
      exact .tuple (as := []) (Heap.get?_push_size _ rfl) rfl rfl (.cons (as := []) (bs := []) (.int _ _) (.cons (as := []) (bs := []) (.tuple (Heap.get?_push_of_some _ ea) ec ed hr.reads) .nil))
  · obtain ⟨v, rfl, hq⟩ := hq
    exact hq

end
section
open L2
def kLK : Dm → Option (List Int)
  | .tup ds => intsD ds
  | _ => none
def kzL (d : Dm) : List Int := (kLK d).getD []
def okLK (d : Dm) : Bool := match kLK d with
  | some ns => decide (ns.length ≤ 1000)
  | none => false
def sortLK (ds : List Dm) : List Dm := ds.mergeSort fun a b => leLK (kzL a) (kzL b)
def oSLK (d : Dm) (M : Mem) : R Dm := match d with
  | .lst ds => if ds.all okLK = true ∧ ds.length ≤ 1000 then .ok (.lst (sortLK ds)) M else .bad
  | _ => .bad
def sSortLK (f : SE Dm) : SE Dm := fun r M => (f r M).bind oSLK
theorem okLK_of {d : Dm} (h : okLK d = true) : ∃ ds ns, d = .tup ds ∧ intsD ds = some ns ∧ ns.length ≤ 1000 := by
  unfold okLK kLK at h
  cases d with
  | tup ds =>
    dsimp only at h
    cases e : intsD ds with
    | some ns =>
      rw [e] at h
      exact ⟨ds, ns, rfl, e, of_decide_eq_true h⟩
    | none =>
      rw [e] at h
      cases h
  | _ => cases h
theorem intsV_of : ∀ {ns : List Int} {us : List Value}, Vals (ns.map V.int) us → IntsV ns us
  | [], [], _ => .nil
  | [], _ :: _, h => nomatch h
  | _ :: _, [], h => nomatch h
  | n :: ns, u :: us, .cons r rs => by
    obtain ⟨t, rfl⟩ := r
    exact .cons (intsV_of rs)
theorem alike_LK (a b : List Int) : PySem.W.alike (kLD a) (kLD b) = true := by
  unfold kLD
  rw [PySem.W.alike, PySem.W.alikeAll, PySem.W.alikeAll, PySem.W.alikeAll, PySem.W.alike, PySem.W.alike, PySem.W.alike_ints]
  rfl
theorem depth_LK (a : List Int) : (kLD a).depth ≤ 10 := by
  unfold kLD
  simp [PyData.depth, PyData.depthAll, PySem.W.depth_ints]
variable {X : Cx} {T : Tb} {W : WX} {ls : List (He.Defn × Str)} {params : Arguments} {scope : Scope} {y : Str} {e : Expr} {f : SE Dm} {p p1 p2 p3 p4 pos lpos spos kpos : Pos} {j0 : Nat}
theorem call_sortLK {pins : List (Addr × Obj)} {σ : L2.St} {H2 : Hp} {s2 : Shared} {Q : VK} {B : Bs} {im1 : List Addr} {ow : Ow} {r : Sl} {M1 : Mem} {d : Dm} {v : V} {u : Value} {f' c' : Addr} (I2 : L2.Inv X pins σ H2 s2) (S2 : StRel (gm X T) B im1 ow r M1 σ H2) (r0 : RelV v u) (q2 : Rep (gm X T) (ns B.F im1 ow) im1 H2 v d) (P2 : Post rlV (gm X T) B W im1 ow r σ H2 (oSLK d M1) Q)
    (la : LamAt X params (.Tuple [.Call (.Name "len" p1) [.Name y p2] [] p3, .Name y p4] j0 spos) scope f' c' H2 s2) (L : LamP X.env.scope scope [y]) (site : Site X 1)
    (hbind : ∀ (q : Str) (cl : List (Str × Addr)) (pm cv ctv : Value) (u : Value), bindArgs (PySem.W.kla_fn "<lambda>" q params (.Tuple [.Call (.Name "len" p1) [.Name y p2] [] p3, .Name y p4] j0 spos) scope cl pm cv ctv) ⟨[u], []⟩ = pure [(y, u)])
    (hn : X.mg "len" = none) (hl : scope.names.lookup (Str.ofString "len") = some NameKind.globalImplicit) (hd : (y == ("__debug__" : Str)) = false) :
    wpAny (model X.prog X.w) X.A (call (.builtin "sorted") [u] [(Str.ofString "key", .ref f')]) (EP X pins σ Q) X.xe s2 := by
  obtain ⟨⟨pm, ctv, ob⟩, un, fr, co⟩ := la
  obtain ⟨mb, hb1, hb2⟩ := I2.mod.blt
  cases d with
  | lst ds =>
    unfold oSLK at P2
    dsimp only at P2
    split at P2
    · rename_i hc
      obtain ⟨hall, hlen⟩ := hc
      cases q2 with
      | @lst a xs _ h1 n1 rs =>
        obtain rfl : u = Value.ref a := r0
        obtain ⟨its, rvi, hT, hz⟩ := I2.list (SqL.of h1)
        obtain ⟨l, l1, l2, l3⟩ := besideD rs
        rw [← l1] at rvi
        have ea := each_ofD rvi
        have ll : l.length = ds.length := by rw [← l2, List.length_map]
        have hun := site.ut.un
        refine PySem.W.sorted_key_data (R := fun u (p : V × Dm) => RelV p.1 u) (fun p => kLD (kzL p.2)) hT.isList ea (fun d hd d' hd' => ?_) ?_ (by rw [ll]; exact Nat.le_trans hlen (by decide)) (fun x _ => ?_) (ksk_s1 _ _) (fun _ => ksk_l1 _ _) (fun x => ksk_t1 f' x) (fun u p hu hp h tk kp => ?_) fun out c h' tk kp _ hD _ hE => ?_
        · obtain ⟨p, _, rfl⟩ := List.mem_map.mp hd
          obtain ⟨p', _, rfl⟩ := List.mem_map.mp hd'
          exact alike_LK _ _
        · exact PySem.W.Sortable.tuples (enc := fun p : V × Dm => kLD (kzL p.2)) fun b => ⟨_, _, rfl⟩
        · have z := depth_LK (kzL x.2)
          show X.A.units + 2 + _ < cLine
          omega
        · have hk := l3 p hp
          have hsm := List.all_eq_true.mp hall p.2 (by rw [← l2]; exact List.mem_map.mpr ⟨p, hp, rfl⟩)
          obtain ⟨v3, d3⟩ := p
          dsimp only at hk hsm hu ⊢
          obtain ⟨ds3, ns3, rfl, e3, z3⟩ := okLK_of hsm
          have ek : kzL (.tup ds3) = ns3 := by
            show (intsD ds3).getD [] = ns3
            rw [e3]
            rfl
          rw [ek]
          cases hk with
          | @tup a3 xs3 _ h3 rs3 =>
            obtain ⟨its3, rv3, hT3, _⟩ := I2.tuple h3.sq
            obtain rfl : u = Value.ref a3 := hu
            have hi := ints_of rs3 e3
            subst hi
            have hv3 := intsV_of rv3
            have hT4 : IsTup h a3 its3.toArray := by
              obtain ⟨o, e, r⟩ := hT3
              exact ⟨o, kp _ _ e, r⟩
            obtain ⟨⟨oc, vs0, t0, hoc, hdc, hvc⟩, _, _⟩ := I2.hok c' _ co
            exact key_lenT (s := { s2 with heap := h, toks := tk }) (mg := X.mg) (mb := mb) site.room.depth (kp _ _ ob) ⟨c', oc, vs0, t0, rfl, kp _ _ hoc, hdc, hvc⟩ L.kind L.co L.gen (fun x hx => (L.own x hx).1) (L.par y List.mem_cons_self) hl hd hbind (I2.nolimit.keeps kp) hT4 (by rw [hv3.length]; exact z3) hv3
              ((I2.mod.glob.keeps I2.bk).keeps kp) hn ((hb1.keeps I2.bk).keeps kp) ((hb2 _ (by decide)).trans rfl)
        · have e2 : (l.mergeSort (PySem.W.dataLe false fun p : V × Dm => kLD (kzL p.2))).map (·.2) = sortLK ds := by
            rw [dataLe_LK fun p : V × Dm => kzL p.2]
            rw [List.map_mergeSort (s := fun a b => leLK (kzL a) (kzL b)) fun _ _ _ _ => rfl, l2]
            rfl
          have hp : ∀ p ∈ l.mergeSort (PySem.W.dataLe false fun p : V × Dm => kLD (kzL p.2)), Rep (gm X T) (ns B.F im1 ow) im1 H2 p.1 p.2 := fun p hp => l3 p ((List.mergeSort_perm _ _).mem_iff.mp hp)
          have hlm : (l.mergeSort (PySem.W.dataLe false fun p : V × Dm => kLD (kzL p.2))).length = ds.length := by rw [List.length_mergeSort, ll]
          generalize l.mergeSort (PySem.W.dataLe false fun p : V × Dm => kLD (kzL p.2)) = lm at hE e2 hp hlm
          have rr := reps_ofD hp
          rw [e2] at rr
          have hv := vals_ofD hE
          have hln : (lm.map (·.1)).length ≤ sizeLine := by
            rw [List.length_map, hlm]
            exact Nat.le_trans hlen (by decide)
          have hf2 : H2 (s2.heap.objs.size + 1) = none := I2.hok.fresh (Nat.le_succ _)
          refine ⟨.ref (s2.heap.objs.size + 1), upd H2 (s2.heap.objs.size + 1) (.lst (lm.map (·.1))), ?_, rfl, ?_⟩
          · exact I2.laid (t' := tk) kp (Nat.le_succ _) ⟨hln, out, c, hv, hD⟩
          · exact P2.new S2 hf2 (.lst upd_same (S2.fresh hf2) (rr.mono (Ext.new hf2) (List.prefix_refl _)))
    · exact P2.elim
  | _ => exact P2.elim
theorem de_sortLK (el : EL ls X.K X.mg X.base T) {d : He.Defn} (hmem : (d, X.env.qual ++ "<lambda>") ∈ ls) (hcode : X.env.code = .ref (He.codeOf X.K d)) (L : LamP X.env.scope scope [y]) (hdef : defaultsOf params X.env = ([], []))
    (site : Site X 1) (he : DE X T W e f) (hg : Gl X "sorted") (hm : X.mg "sorted" = none) (hn : X.mg "len" = none) (hl : scope.names.lookup (Str.ofString "len") = some NameKind.globalImplicit)
    (hbind : ∀ (q : Str) (cl : List (Str × Addr)) (pm cv ctv : Value) (u : Value), bindArgs (PySem.W.kla_fn "<lambda>" q params (.Tuple [.Call (.Name "len" p1) [.Name y p2] [] p3, .Name y p4] j0 spos) scope cl pm cv ctv) ⟨[u], []⟩ = pure [(y, u)])
    (hd : (y == ("__debug__" : Str)) = false := by decide)
    (hs : starEach [e] X.env = (false, eval e X.env) :: starEach [] X.env := by rfl)
    (he' : backTo pos (starEach [e] X.env) = (false, eval e X.env) :: backTo pos (starEach [] X.env) := by rfl) (hpl : (backTo pos (starEach [e] X.env)).any (·.1) = false := by rfl) :
    DE X T W (.Call (.Name "sorted" p) [e] [⟨some "key", .Lambda params (.Tuple [.Call (.Name "len" p1) [.Name y p2] [] p3, .Name y p4] j0 spos) scope lpos, kpos⟩] pos) (sSortLK f) :=
  ⟨fun pins s σ H Q I ⟨B, im, ow, r, M, S, P⟩ => by
    refine wpAny_Call_Name_kw (ld_blt I hg hm rfl ?_ (by decide) (by decide))
    refine PyProof.Rows.callWith_kw (thn ((da_cons he da_nil hs).run pos pins s σ H (fun vs H1 => ∃ v im1 M1 d, vs = [v] ∧ StRel (gm X T) B im1 ow r M1 σ H1 ∧ Rep (gm X T) (ns B.F im1 ow) im1 H1 v d ∧ Post rlV (gm X T) B W im1 ow r σ H1 (oSLK d M1) Q) I ⟨B, im, ow, r, M, S, ?_⟩) fun us s1 ⟨vs, H1, I1, r1, v, im1, M1, d, ev, S1, q1, P1⟩ => ?_) he' hpl kw_all kw_no
    · unfold sSortLK at P
      unfold sCons sNil
      cases hq : f r M with
      | ok d M1 =>
        rw [hq] at P
        exact fun vs im' H' S' e p' rr => by
          cases rr with
          | cons q rs =>
            cases rs
            exact ⟨_, im', M1, d, rfl, S', q, Post.rebase P e p'⟩
      | ex C fs M' =>
        rw [hq] at P
        exact P
      | bad =>
        rw [hq] at P
        exact P.elim
    · subst ev
      obtain ⟨u, rfl, r0⟩ := vals_one r1
      rw [kw_zip]
      refine kw_one ?_
      refine lam_eval (el.tb _ hmem) hcode (el.mem hmem) (el.one hmem) L hdef I1 S1.tab.1 fun f' c' H2 s2 I2 eN tN la => ?_
      show wpAny _ _ (call (.builtin "sorted") [u] [(Str.ofString "key", .ref f')]) _ _ s2
      have x1 : Ext (wr im1 ow) H1 (wr im1 ow) H2 := fun a o ea ta na => ⟨eN a o ea ta, na⟩
      have S2 : StRel (gm X T) B im1 ow r M1 σ H2 := S1.grow x1 (fun b o hb eb => by
        rcases hb with hb | ⟨i, hb⟩
        · obtain ⟨_, _, _, _, ok⟩ := S1.in_im hb
          obtain ⟨u, eu, tu⟩ := ok.there
          rw [eb] at eu
          cases eu
          exact eN b _ eb tu
        · obtain ⟨u, eu, tu⟩ := S1.tr i b hb
          rw [eb] at eu
          cases eu
          exact eN b _ eb tu) ⟨tN, fun q hq => eN _ _ (S1.tab.2 q hq) LamX.codeO_ne⟩
      exact call_sortLK I2 S2 r0 (q1.mono x1.ns (List.prefix_refl _)) (Post.rebase P1 x1 (List.prefix_refl _)) la L site hbind hn hl hd⟩
end
end Dy

/-! Dy78: an own list is read as a datum within an expression, and is its slot's own again behind it, if nothing that is left may name a list. -/
namespace Dy
open PySem
open PySem.Spec
open PyProof.Rows hiding St
open L2
/-- data without lists -/
def nl : Nat → Dm → Bool
  | 0, _ => false
  | n + 1, .tup ds => ds.all (nl n)
  | _ + 1, .lst _ => false
  | n + 1, .frl ds => ds.all (nl n)
  | n + 1, .dic ds => ds.all fun p => nl n p.2
  | n + 1, .obj _ ds => ds.all fun p => nl n p.2
  | n + 1, .exc _ ds => ds.all fun p => nl n p.2
  | n + 1, .hot _ ds => ds.all fun p => nl n p.2
  | _ + 1, _ => true
section
variable {g : Gm} {N : Av} {im : List Addr} {H : Hp} {a : Addr} {xs0 : List V} (ha : H a = some (.lst xs0))
include ha
mutual
theorem Rep.nl : ∀ (n : Nat) {v : V} {d : Dm}, Rep g N im H v d → Dy.nl n d = true → Rep g (fun b => N b ∨ b = a) im H v d
  | 0, _, _, _, h => by cases h
  | n + 1, _, _, .non, _ => .non
  | n + 1, _, _, .bl b, _ => .bl b
  | n + 1, _, _, .int i, _ => .int i
  | n + 1, _, _, .str y, _ => .str y
  | n + 1, _, _, .tup h r, q => .tup (by
      rcases h with ⟨h, nn⟩ | h
      · refine .inl ⟨h, fun z => z.elim nn fun z => ?_⟩
        subst z
        rcases h with h | ⟨o, h⟩
        · rw [ha] at h
          cases h
        · rw [ha] at h
          cases h
      · exact .inr h) (Reps.nl n r q)
  | n + 1, _, _, .lst h k r, q => by cases q
  | n + 1, _, _, .frl h r, q => .frl (by
      rcases h with ⟨o, h, nn⟩ | h
      · refine .inl ⟨o, h, fun z => z.elim nn fun z => ?_⟩
        subst z
        rw [ha] at h
        cases h
      · exact .inr h) (Reps.nl n r q)
  | n + 1, _, _, .dic h k r, q => .dic h (fun z => z.elim k fun z => by
      subst z
      rw [ha] at h
      cases h) (RepK.nl n r q)
  | n + 1, _, _, .obj c h k r, q => .obj c h (fun z => z.elim k fun z => by
      subst z
      rw [ha] at h
      cases h) (RepF.nl n r q)
  | n + 1, _, _, .exc c h k e ne r, q => .exc c h (fun z => z.elim k fun z => by
      subst z
      rw [ha] at h
      unfold EXO at h
      cases h) e (fun x hx z => z.elim (ne x hx) fun z => by
      subst hx z
      rw [show H x = _ from e] at ha
      cases ha) (RepF.nl n r q)
  | n + 1, _, _, .ref h, _ => .ref h
  | n + 1, _, _, .glo h r, _ => .glo h r
  | n + 1, _, _, .ty y, _ => .ty y
  | n + 1, _, _, .hot h c e ne r, q => .hot h c e (fun x hx z => z.elim (ne x hx) fun z => by
      subst hx z
      rw [show H x = _ from e] at ha
      cases ha) (RepF.nl n r q)
theorem Reps.nl : ∀ (n : Nat) {v : List V} {d : List Dm}, Reps g N im H v d → d.all (Dy.nl n) = true → Reps g (fun b => N b ∨ b = a) im H v d
  | _, _, _, .nil, _ => .nil
  | n, _, _, .cons h r, q => .cons (Rep.nl n h (Bool.and_eq_true_iff.mp q).1) (Reps.nl n r (Bool.and_eq_true_iff.mp q).2)
theorem RepK.nl : ∀ (n : Nat) {v : List (Key × V)} {d : List (Key × Dm)}, RepK g N im H v d → (d.all fun p => Dy.nl n p.2) = true → RepK g (fun b => N b ∨ b = a) im H v d
  | _, _, _, .nil, _ => .nil
  | n, _, _, .cons h r, q => .cons (Rep.nl n h (Bool.and_eq_true_iff.mp q).1) (RepK.nl n r (Bool.and_eq_true_iff.mp q).2)
theorem RepF.nl : ∀ (n : Nat) {v : List (Str × V)} {d : List (Str × Dm)}, RepF g N im H v d → (d.all fun p => Dy.nl n p.2) = true → RepF g (fun b => N b ∨ b = a) im H v d
  | _, _, _, .nil, _ => .nil
  | n, _, _, .cons h r, q => .cons (Rep.nl n h (Bool.and_eq_true_iff.mp q).1) (RepF.nl n r (Bool.and_eq_true_iff.mp q).2)
end
end
def nlF : Nat := 40
def nlO : MO → Bool
  | .lst ds => ds.all (nl nlF)
  | .dic ds => ds.all fun p => nl nlF p.2
  | .ins _ ds => ds.all fun p => nl nlF p.2
def nlS : Slot → Bool
  | .own m => nlO m
  | _ => true
section
variable {g : Gm} {B : Bs} {im im' : List Addr} {ow : Ow} {r : Sl} {M M' : Mem} {σ : St} {H H' : Hp} {a : Addr}
theorem MoOk.nl {N N' : Av} {xs0 : List V} (ha : H a = some (.lst xs0)) (le : ∀ b, N' b → N b ∨ b = a) {b : Addr} : ∀ {m : MO}, MoOk g N im H b m → nlO m = true → MoOk g N' im H b m
  | .lst ds, ⟨xs, h, e⟩, q => ⟨xs, h, (Reps.nl ha nlF e q).mono (Ext.refl.less le) (List.prefix_refl _)⟩
  | .dic ds, ⟨xs, h, e⟩, q => ⟨xs, h, (RepK.nl ha nlF e q).mono (Ext.refl.less le) (List.prefix_refl _)⟩
  | .ins C ds, ⟨Ca, dx, xs, c, h, e⟩, q => ⟨Ca, dx, xs, c, h, (RepF.nl ha nlF e q).mono (Ext.refl.less le) (List.prefix_refl _)⟩
/-- the slot's own list as a datum -/
theorem StRel.frzO (S : StRel g B im ow r M σ H) {i : Nat} {m : MO} (h : r[i]? = some (.own m)) : StRel g B im (owOff ow i) (Dy.frz i r) M σ H := by
  obtain ⟨ow', S', _⟩ := S.frz i
  have e : owOff ow i = ow' := by
    funext j
    by_cases hj : j < r.length
    · have es : (Dy.frz i r)[j]? = if j = i then some (.val (moV m)) else r[j]? := by
        unfold Dy.frz
        rw [h]
        dsimp only
        by_cases e : j = i
        · subst e
          rw [List.getElem?_set_self hj, if_pos rfl]
        · rw [List.getElem?_set_ne (Ne.symm e), if_neg e]
      unfold owOff
      by_cases e : j = i
      · rw [if_pos e] at es ⊢
        exact (S'.sl j _ es).1.symm
      · rw [if_neg e] at es ⊢
        have e1 := List.getElem?_eq_getElem hj
        rw [e1] at es
        have k1 := S.sl j _ e1
        have k2 := S'.sl j _ es
        cases hs : r[j] with
        | un =>
          rw [hs] at k1 k2
          exact k1.trans k2.symm
        | val d =>
          rw [hs] at k1 k2
          exact k1.1.trans k2.1.symm
        | pin =>
          rw [hs] at k1 k2
          exact k1.1.trans k2.1.symm
        | own m2 =>
          rw [hs] at k1 k2
          obtain ⟨b, z1, z2, _⟩ := k1
          obtain ⟨c, y1, y2, _⟩ := k2
          rw [z2] at y2
          cases y2
          exact z1.trans y1.symm
    · have hl : (Dy.frz i r).length = r.length := by
        unfold Dy.frz
        rw [h]
        exact List.length_set
      unfold owOff
      rw [S'.out j (by rw [hl]; exact Nat.le_of_not_lt hj), S.out j (Nat.le_of_not_lt hj)]
      split <;> rfl
  rw [e]
  exact S'
/-- .. and own again -/
theorem StRel.thaw (S : StRel g B im ow r M σ H) {i : Nat} {ds : List Dm} (h : r[i]? = some (.own (.lst ds))) (ha : ow i = some a) (S' : StRel g B im' (owOff ow i) (Dy.frz i r) M' σ H') (x : Ext (wr im (owOff ow i)) H (wr im' (owOff ow i)) H') (p : im <+: im')
    (nM : M'.all nlO = true) (nR : r.all nlS = true) : ∃ xs, H' a = some (.lst xs) ∧ (∀ b, ns B.F im' ow b → ns B.F im' (owOff ow i) b ∨ b = a) ∧ StRel g B im' ow r M' σ H' ∧ Ext (wr im ow) H (wr im' ow) H' := by
  obtain ⟨a', e1, e2, xs, e3, e4⟩ := S.sl i _ h
  have ea : a' = a := by
    rw [ha] at e1
    exact (Option.some.inj e1).symm
  subst ea
  have hil : i < r.length := (List.getElem?_eq_some_iff.mp h).1
  have nwa : ¬ wr im (owOff ow i) a' := fun z => by
    rcases z with z | ⟨j, z⟩
    · exact (S.sep i a' ha).1 z
    · unfold owOff at z
      split at z
      · cases z
      · rename_i hj
        exact hj (S.inj j i a' z ha)
  obtain ⟨ha', nwa'⟩ := x a' _ e3 (fun ps z => by cases z) nwa
  have wle : ∀ {jm : List Addr} (b : Addr), wr jm ow b → wr jm (owOff ow i) b ∨ b = a' := fun b z => by
    rcases z with z | ⟨j, z⟩
    · exact .inl (.inl z)
    · by_cases hj : j = i
      · subst hj
        rw [ha] at z
        exact .inr (Option.some.inj z).symm
      · exact .inl (.inr ⟨j, by unfold owOff; rw [if_neg hj]; exact z⟩)
  have wge : ∀ {jm : List Addr} (b : Addr), wr jm (owOff ow i) b → wr jm ow b := fun b z => wr_off z
  have x2 : Ext (wr im ow) H (wr im' ow) H' := fun b o eb tb nb => by
    obtain ⟨h1, n1⟩ := x b o eb tb fun z => nb (wge b z)
    refine ⟨h1, fun z => (wle b z).elim n1 fun z => nb ?_⟩
    subst z
    exact .inr ⟨i, ha⟩
  have nle : ∀ b, ns B.F im' ow b → ns B.F im' (owOff ow i) b ∨ b = a' := fun b z => z.elim (fun z => .inl (.inl z)) fun z => (wle b z).imp .inr id
  refine ⟨xs, ha', nle, ?_, x2⟩
  have nRj : ∀ (j : Nat) (m : MO), r[j]? = some (.own m) → nlO m = true := fun j m e => List.all_eq_true.mp nR _ (List.mem_of_getElem? e)
  refine ⟨S.len, fun j s e => ?_, S.out, S.inj, fun j b hj => ⟨?_, (S.sep j b hj).2⟩, fun j b hj => ?_, S'.mlen, S'.nd, fun j m e => ?_, S'.imF, S'.fr, S.ext.trans x2, S'.pre, S'.tab, S'.root⟩
  · have k := S.sl j s e
    cases s with
    | un => exact k
    | pin => exact k
    | val d =>
      obtain ⟨k1, y, k2, k3⟩ := k
      exact ⟨k1, y, k2, k3.mono x2.ns p⟩
    | own m =>
      by_cases hj : j = i
      · subst hj
        rw [h] at e
        cases e
        exact ⟨a', ha, e2, xs, ha', e4.mono x2.ns p⟩
      · have es : (Dy.frz i r)[j]? = some (.own m) := by
          unfold Dy.frz
          rw [h]
          dsimp only
          rw [List.getElem?_set_ne (Ne.symm hj)]
          exact e
        obtain ⟨b, z1, z2, z3⟩ := S'.sl j _ es
        refine ⟨b, ?_, z2, z3.nl ha' nle (nRj j m e)⟩
        unfold owOff at z1
        rw [if_neg hj] at z1
        exact z1
  · by_cases hj2 : j = i
    · subst hj2
      rw [ha] at hj
      cases hj
      exact fun z => nwa' (.inl z)
    · exact (S'.sep j b (by unfold owOff; rw [if_neg hj2]; exact hj)).1
  · by_cases hj2 : j = i
    · subst hj2
      rw [ha] at hj
      cases hj
      exact ⟨_, ha', fun ps z => by cases z⟩
    · exact S'.tr j b (by unfold owOff; rw [if_neg hj2]; exact hj)
  · obtain ⟨b, z1, z2⟩ := S'.mem j m e
    exact ⟨b, z1, z2.nl ha' nle (List.all_eq_true.mp nM _ (List.mem_of_getElem? e))⟩
end
/-- the expression reads the slot's own list as a datum -/
def sThaw (i : Nat) (f : SE Dm) : SE Dm := fun r M => match r[i]? with
  | some (.own (.lst _)) => if r.all nlS then match f (Dy.frz i r) M with
      | .ok d M' => if M'.all nlO && nl nlF d then .ok d M' else .bad
      | _ => .bad
    else .bad
  | _ => .bad
section
variable {X : Cx} {T : Tb} {W : WX} {e : Expr} {f : SE Dm}
theorem de_thaw (i : Nat) (h : DE X T W e f) : DE X T W e (sThaw i f) := pe_le h fun σ H Q ⟨B, im, ow, r, M, S, P⟩ => by
  unfold sThaw at P
  cases hr : r[i]? with
  | none =>
    rw [hr] at P
    exact P.elim
  | some s =>
    rw [hr] at P
    cases s with
    | own m =>
      cases m with
      | lst ds =>
        dsimp only at P
        split at P
        · rename_i nR
          refine ⟨B, im, owOff ow i, frz i r, M, S.frzO hr, ?_⟩
          cases hf : f (Dy.frz i r) M with
          | ok d M' =>
            rw [hf] at P
            dsimp only at P
            split at P
            · rename_i hn
              obtain ⟨nM, nD⟩ := Bool.and_eq_true_iff.mp hn
              intro v im' H' S' x p k
              obtain ⟨a, ha, _⟩ := S.sl i _ hr
              obtain ⟨xs, ha', nle, S2, x2⟩ := S.thaw hr ha S' x p nM nR
              exact P v im' H' S2 x2 p ((Rep.nl ha' nlF k nD).less nle)
            · exact P.elim
          | ex C fs M' =>
            rw [hf] at P
            exact P.elim
          | bad =>
            rw [hf] at P
            exact P.elim
        · exact P.elim
      | _ => exact P.elim
    | _ => exact P.elim
end
end Dy

/-! Dy79: e[i] = x where e gives a list of the memory; objects that were made within an expression are let go behind it. -/
namespace Dy
open PySem
open PySem.Spec
open PyProof.Rows hiding St
open L2
/-! ### e[i] = x -/
def aIxE (fo fi : SE Dm) : Dm → Sl → Mem → RS := fun d r M => match fo r M with
  | .ok (.ref k) M1 => match fi r M1 with
    | .ok (.int j) M2 => setMem k j d r M2
    | _ => .bad
  | _ => .bad
theorem nx_ixE (fo fi : SE Dm) : OnlyNx (aIxE fo fi) := fun d r M => by
  unfold aIxE setMem
  repeat' split
  all_goals first
    | exact .inl ⟨_, _, rfl⟩
    | exact .inr rfl
section
variable {X : Cx} {T : Tb} {o b : Expr} {fo fi : SE Dm} {pos : Pos}
theorem dg_ixE (ho : DE X T (fun _ _ _ _ => False) o fo) (hi : DE X T (fun _ _ _ _ => False) b fi)
    (ha : ∀ v, assign (.Subscript o b pos) X.env v = (do
      let ov ← holding [v] (eval o X.env)
      let iv ← holding [v, ov] (eval b X.env)
      standAt pos
      holding [v, ov, iv] (setItem ov iv v)
      release [v, ov, iv] []) := by intro _; rfl) : DG X T (.Subscript o b pos) (aIxE fo fi) :=
  pg_le (pg_sub ho hi set_list ha) fun v σ H Q ⟨B, im, ow, r, M, d, S, q, P⟩ => by
    unfold aIxE at P
    cases hf : fo r M with
    | ok d0 M1 =>
      rw [hf] at P
      cases d0 with
      | ref k =>
        dsimp only at P
        cases hf2 : fi r M1 with
        | ok d1 M2 =>
          rw [hf2] at P
          cases d1 with
          | int j =>
            dsimp only at P
            refine ⟨B, im, ow, r, M, S, noex (fun e0 N0 z0 w0 im1 H1 S1 E1 p1 r1 => ?_) ⟨_, _, hf⟩⟩
            rw [hf] at z0
            cases z0
            refine ⟨B, im1, ow, r, M1, S1, noex (fun e1 N1 z1 w1 im2 H2 S2 E2 p2 r2 => ?_) ⟨_, _, hf2⟩⟩
            rw [hf2] at z1
            cases z1
            cases r2 with
            | int =>
              cases r1 with
              | @ref _ a hk =>
                unfold setMem at P
                cases hm : M2[k]? with
                | none =>
                  simp only [hm] at P
                  exact P.elim
                | some m =>
                  simp only [hm] at P
                  cases m with
                  | lst ds =>
                    dsimp only at P
                    cases hn : ixN ds.length j with
                    | none =>
                      simp only [hn] at P
                      exact P.elim
                    | some n =>
                      simp only [hn] at P
                      obtain ⟨a', k1, xs, k2, k3⟩ := S2.mem k _ hm
                      have ea : a' = a := by
                        rw [pre_get p2 hk] at k1
                        exact (Option.some.inj k1).symm
                      subst ea
                      refine ⟨a', xs, j, n, rfl, rfl, k2, by rw [k3.length]; exact hn, ?_⟩
                      refine P im2 ow σ _ (S2.memAt (m' := .lst (ds.set n d)) hm k1 (fun ps z => by cases z) ⟨xs.set n v, upd_same, ?_⟩)
                      exact (k3.set n ((q.mono E1.ns p1).mono E2.ns p2)).mono (Ext.put (.inr (.inl (List.mem_of_getElem? k1)))) (List.prefix_refl _)
                  | _ => exact P.elim
          | _ => exact P.elim
        | _ =>
          rw [hf2] at P
          exact P.elim
      | _ => exact P.elim
    | _ =>
      rw [hf] at P
      exact P.elim
end
/-! ### what was made within is let go -/
/-- data that name none but the first b objects -/
def rb (b : Nat) : Nat → Dm → Bool
  | 0, _ => false
  | n + 1, .tup ds => ds.all (rb b n)
  | n + 1, .lst ds => ds.all (rb b n)
  | n + 1, .frl ds => ds.all (rb b n)
  | n + 1, .dic ds => ds.all fun p => rb b n p.2
  | n + 1, .obj _ ds => ds.all fun p => rb b n p.2
  | n + 1, .exc _ ds => ds.all fun p => rb b n p.2
  | n + 1, .hot _ ds => ds.all fun p => rb b n p.2
  | _ + 1, .ref i => decide (i < b)
  | _ + 1, _ => true
section
variable {g : Gm} {N : Av} {im im' : List Addr} {H : Hp} (p : im <+: im')
include p
mutual
theorem Rep.rb : ∀ (n : Nat) {v : V} {d : Dm}, Rep g N im' H v d → Dy.rb im.length n d = true → Rep g N im H v d
  | 0, _, _, _, h => by cases h
  | n + 1, _, _, .non, _ => .non
  | n + 1, _, _, .bl b, _ => .bl b
  | n + 1, _, _, .int i, _ => .int i
  | n + 1, _, _, .str y, _ => .str y
  | n + 1, _, _, .tup h r, q => .tup h (Reps.rb n r q)
  | n + 1, _, _, .lst h k r, q => .lst h k (Reps.rb n r q)
  | n + 1, _, _, .frl h r, q => .frl h (Reps.rb n r q)
  | n + 1, _, _, .dic h k r, q => .dic h k (RepK.rb n r q)
  | n + 1, _, _, .obj c h k r, q => .obj c h k (RepF.rb n r q)
  | n + 1, _, _, .exc c h k e ne r, q => .exc c h k e ne (RepF.rb n r q)
  | n + 1, _, _, .ref h, q => .ref (by
      have hi := of_decide_eq_true q
      obtain ⟨t, rfl⟩ := p
      rw [List.getElem?_append_left hi] at h
      exact h)
  | n + 1, _, _, .glo h r, _ => .glo h r
  | n + 1, _, _, .ty y, _ => .ty y
  | n + 1, _, _, .hot h c e ne r, q => .hot h c e ne (RepF.rb n r q)
theorem Reps.rb : ∀ (n : Nat) {v : List V} {d : List Dm}, Reps g N im' H v d → d.all (Dy.rb im.length n) = true → Reps g N im H v d
  | _, _, _, .nil, _ => .nil
  | n, _, _, .cons h r, q => .cons (Rep.rb n h (Bool.and_eq_true_iff.mp q).1) (Reps.rb n r (Bool.and_eq_true_iff.mp q).2)
theorem RepK.rb : ∀ (n : Nat) {v : List (Key × V)} {d : List (Key × Dm)}, RepK g N im' H v d → (d.all fun p => Dy.rb im.length n p.2) = true → RepK g N im H v d
  | _, _, _, .nil, _ => .nil
  | n, _, _, .cons h r, q => .cons (Rep.rb n h (Bool.and_eq_true_iff.mp q).1) (RepK.rb n r (Bool.and_eq_true_iff.mp q).2)
theorem RepF.rb : ∀ (n : Nat) {v : List (Str × V)} {d : List (Str × Dm)}, RepF g N im' H v d → (d.all fun p => Dy.rb im.length n p.2) = true → RepF g N im H v d
  | _, _, _, .nil, _ => .nil
  | n, _, _, .cons h r, q => .cons (Rep.rb n h (Bool.and_eq_true_iff.mp q).1) (RepF.rb n r (Bool.and_eq_true_iff.mp q).2)
end
end
def rbO (b : Nat) : MO → Bool
  | .lst ds => ds.all (rb b nlF)
  | .dic ds => ds.all fun p => rb b nlF p.2
  | .ins _ ds => ds.all fun p => rb b nlF p.2
def rbS (b : Nat) : Slot → Bool
  | .own m => rbO b m
  | _ => true
section
variable {g : Gm} {B : Bs} {im im' : List Addr} {ow : Ow} {r : Sl} {M M' : Mem} {σ : St} {H H' : Hp} {a : Addr}
theorem MoOk.rb {N N' : Av} (p : im <+: im') (le : ∀ b, N' b → N b) {b : Addr} : ∀ {m : MO}, MoOk g N im' H b m → rbO im.length m = true → MoOk g N' im H b m
  | .lst ds, ⟨xs, h, e⟩, q => ⟨xs, h, (Reps.rb p nlF e q).mono (Ext.refl.less le) (List.prefix_refl _)⟩
  | .dic ds, ⟨xs, h, e⟩, q => ⟨xs, h, (RepK.rb p nlF e q).mono (Ext.refl.less le) (List.prefix_refl _)⟩
  | .ins C ds, ⟨Ca, dx, xs, c, h, e⟩, q => ⟨Ca, dx, xs, c, h, (RepF.rb p nlF e q).mono (Ext.refl.less le) (List.prefix_refl _)⟩
theorem StRel.scope (S : StRel g B im ow r M σ H) (S' : StRel g B im' ow r M' σ H') (x : Ext (wr im ow) H (wr im' ow) H') (p : im <+: im') (nM : (M'.take M.length).all (rbO M.length) = true) (nR : r.all (rbS M.length) = true) :
    StRel g B im ow r (M'.take M.length) σ H' ∧ Ext (wr im ow) H (wr im ow) H' ∧ ∀ b, ns B.F im ow b → ns B.F im' ow b := by
  have wle : ∀ b, wr im ow b → wr im' ow b := fun b z => z.imp (fun z => p.mem z) id
  have nle : ∀ b, ns B.F im ow b → ns B.F im' ow b := fun b z => z.imp id (wle b)
  have x2 : Ext (wr im ow) H (wr im ow) H' := x.less wle
  have hl : M.length ≤ M'.length := by
    rw [← S.mlen, ← S'.mlen]
    exact p.length_le
  have ml := S.mlen
  refine ⟨⟨S.len, fun j s e => ?_, S.out, S.inj, S.sep, S'.tr, ?_, S.nd, fun j m e => ?_, S.imF, S'.fr, S.ext.trans x2, S.pre, S'.tab, S'.root⟩, x2, nle⟩
  · have k := S.sl j s e
    cases s with
    | un => exact k
    | pin => exact k
    | val d =>
      obtain ⟨k1, y, k2, k3⟩ := k
      exact ⟨k1, y, k2, k3.mono x2.ns (List.prefix_refl _)⟩
    | own m =>
      obtain ⟨c, z1, z2, z3⟩ := S'.sl j _ e
      exact ⟨c, z1, z2, z3.rb p nle (by rw [ml]; exact List.all_eq_true.mp nR _ (List.mem_of_getElem? e))⟩
  · rw [List.length_take, Nat.min_eq_left hl]
    exact ml
  · have hj : j < M.length := by
      have := (List.getElem?_eq_some_iff.mp e).1
      rw [List.length_take] at this
      omega
    have e2 : M'[j]? = some m := by
      rw [List.getElem?_take, if_pos hj] at e
      exact e
    obtain ⟨c, z1, z2⟩ := S'.mem j m e2
    refine ⟨c, ?_, z2.rb p nle (by rw [ml]; exact List.all_eq_true.mp nM _ (List.mem_of_getElem? e))⟩
    obtain ⟨t, rfl⟩ := p
    rw [List.getElem?_append_left (by rw [ml]; exact hj)] at z1
    exact z1
end
/-- what the expression makes in the memory is let go behind it -/
def sScope (f : SE Dm) : SE Dm := fun r M => match f r M with
  | .ok d M' => if r.all (rbS M.length) && (M'.take M.length).all (rbO M.length) && rb M.length nlF d then .ok d (M'.take M.length) else .bad
  | _ => .bad
section
variable {X : Cx} {T : Tb} {W : WX} {e : Expr} {f : SE Dm}
theorem de_scope (h : DE X T W e f) : DE X T W e (sScope f) := pe_le h fun σ H Q ⟨B, im, ow, r, M, S, P⟩ => by
  unfold sScope at P
  refine ⟨B, im, ow, r, M, S, ?_⟩
  cases hf : f r M with
  | ok d M' =>
    rw [hf] at P
    dsimp only at P
    split at P
    · rename_i hn
      obtain ⟨h1, nD⟩ := Bool.and_eq_true_iff.mp hn
      obtain ⟨nR, nM⟩ := Bool.and_eq_true_iff.mp h1
      intro v im' H' S' x p k
      obtain ⟨S2, x2, nle⟩ := S.scope S' x p nM nR
      rw [← S.mlen] at nD
      exact P v im H' S2 x2 (List.prefix_refl _) ((Rep.rb p nlF k nD).less nle)
    · exact P.elim
  | ex C fs M' =>
    rw [hf] at P
    exact P.elim
  | bad =>
    rw [hf] at P
    exact P.elim
@[simp] theorem sScope_ap {r : Sl} {M : Mem} : sScope f r M = match f r M with
  | .ok d M' => if r.all (rbS M.length) && (M'.take M.length).all (rbO M.length) && rb M.length nlF d then .ok d (M'.take M.length) else .bad
  | _ => .bad := Eq.trans rfl rfl
end
end Dy

/-! Dy80: an own list is read within an expression that gives a new object. -/
namespace Dy
open PySem
open PySem.Spec
open PyProof.Rows hiding St
open L2
section
variable {g : Gm} {B : Bs} {im im' : List Addr} {ow : Ow} {r : Sl} {M M' : Mem} {σ : St} {H H' : Hp} {a : Addr}
/-- .. and own again -/
theorem StRel.thawG {F : Av} (S : StRel g B im ow r M σ H) {i : Nat} {ds : List Dm} (h : r[i]? = some (.own (.lst ds))) (ha : ow i = some a) (S' : StRel g ⟨F, B.H0, B.W0, B.im0⟩ im' (owOff ow i) (Dy.frz i r) M' σ H') (hF : ∀ b, F b → B.F b ∨ Frh (wr im (owOff ow i)) H b) (x : Ext (wr im (owOff ow i)) H (wr im' (owOff ow i)) H') (p : im <+: im')
    (nM : M'.all nlO = true) (nR : r.all nlS = true) : ∃ xs, H' a = some (.lst xs) ∧ (∀ b, ns F im' ow b → ns F im' (owOff ow i) b ∨ b = a) ∧ ¬ F a ∧ StRel g ⟨F, B.H0, B.W0, B.im0⟩ im' ow r M' σ H' ∧ Ext (wr im ow) H (wr im' ow) H' := by
  obtain ⟨a', e1, e2, xs, e3, e4⟩ := S.sl i _ h
  have ea : a' = a := by
    rw [ha] at e1
    exact (Option.some.inj e1).symm
  subst ea
  have hil : i < r.length := (List.getElem?_eq_some_iff.mp h).1
  have nwa : ¬ wr im (owOff ow i) a' := fun z => by
    rcases z with z | ⟨j, z⟩
    · exact (S.sep i a' ha).1 z
    · unfold owOff at z
      split at z
      · cases z
      · rename_i hj
        exact hj (S.inj j i a' z ha)
  obtain ⟨ha', nwa'⟩ := x a' _ e3 (fun ps z => by cases z) nwa
  have wle : ∀ {jm : List Addr} (b : Addr), wr jm ow b → wr jm (owOff ow i) b ∨ b = a' := fun b z => by
    rcases z with z | ⟨j, z⟩
    · exact .inl (.inl z)
    · by_cases hj : j = i
      · subst hj
        rw [ha] at z
        exact .inr (Option.some.inj z).symm
      · exact .inl (.inr ⟨j, by unfold owOff; rw [if_neg hj]; exact z⟩)
  have wge : ∀ {jm : List Addr} (b : Addr), wr jm (owOff ow i) b → wr jm ow b := fun b z => wr_off z
  have x2 : Ext (wr im ow) H (wr im' ow) H' := fun b o eb tb nb => by
    obtain ⟨h1, n1⟩ := x b o eb tb fun z => nb (wge b z)
    refine ⟨h1, fun z => (wle b z).elim n1 fun z => nb ?_⟩
    subst z
    exact .inr ⟨i, ha⟩
  have nle : ∀ b, ns F im' ow b → ns F im' (owOff ow i) b ∨ b = a' := fun b z => z.elim (fun z => .inl (.inl z)) fun z => (wle b z).imp .inr id
  have nFa : ¬ F a' := fun z => (hF a' z).elim (S.sep i a' ha).2 fun fr => nwa (fr _ e3 fun ps z => by cases z)
  have x3 : Ext (ns B.F im ow) H (ns F im' ow) H' := fun b o eb tb nb => by
    obtain ⟨h1, h2⟩ := x2 b o eb tb fun z => nb (.inr z)
    refine ⟨h1, fun z => z.elim (fun z => ?_) h2⟩
    rcases hF b z with z | z
    · exact nb (.inl z)
    · exact nb (.inr (wge b (z o eb tb)))
  refine ⟨xs, ha', nle, nFa, ?_, x2⟩
  have nRj : ∀ (j : Nat) (m : MO), r[j]? = some (.own m) → nlO m = true := fun j m e => List.all_eq_true.mp nR _ (List.mem_of_getElem? e)
  refine ⟨S.len, fun j s e => ?_, S.out, S.inj, fun j b hj => ?_, fun j b hj => ?_, S'.mlen, S'.nd, fun j m e => ?_, S'.imF, S'.fr, S.ext.trans x2, S'.pre, S'.tab, S'.root⟩
  · have k := S.sl j s e
    cases s with
    | un => exact k
    | pin => exact k
    | val d =>
      obtain ⟨k1, y, k2, k3⟩ := k
      exact ⟨k1, y, k2, k3.mono x3 p⟩
    | own m =>
      by_cases hj : j = i
      · subst hj
        rw [h] at e
        cases e
        exact ⟨a', ha, e2, xs, ha', e4.mono x3 p⟩
      · have es : (Dy.frz i r)[j]? = some (.own m) := by
          unfold Dy.frz
          rw [h]
          dsimp only
          rw [List.getElem?_set_ne (Ne.symm hj)]
          exact e
        obtain ⟨b, z1, z2, z3⟩ := S'.sl j _ es
        refine ⟨b, ?_, z2, z3.nl ha' nle (nRj j m e)⟩
        unfold owOff at z1
        rw [if_neg hj] at z1
        exact z1
  · by_cases hj2 : j = i
    · subst hj2
      rw [ha] at hj
      cases hj
      exact ⟨fun z => nwa' (.inl z), nFa⟩
    · exact S'.sep j b (by unfold owOff; rw [if_neg hj2]; exact hj)
  · by_cases hj2 : j = i
    · subst hj2
      rw [ha] at hj
      cases hj
      exact ⟨_, ha', fun ps z => by cases z⟩
    · exact S'.tr j b (by unfold owOff; rw [if_neg hj2]; exact hj)
  · obtain ⟨b, z1, z2⟩ := S'.mem j m e
    exact ⟨b, z1, z2.nl ha' nle (List.all_eq_true.mp nM _ (List.mem_of_getElem? e))⟩
end
def sThawF (i : Nat) (f : SE MO) : SE MO := fun r M => match r[i]? with
  | some (.own (.lst _)) => if r.all nlS then match f (frz i r) M with
      | .ok m M' => if M'.all nlO && nlO m then .ok m M' else .bad
      | _ => .bad
    else .bad
  | _ => .bad
section
variable {X : Cx} {T : Tb} {W : WX} {e : Expr} {f : SE MO}
theorem thawF_le (i : Nat) {σ : St} {H : Hp} {Q : VK} (h : tF (gm X T) W (sThawF i f) σ H Q) : tF (gm X T) W f σ H Q := by
  obtain ⟨B, im, ow, r, M, S, P⟩ := h
  unfold sThawF at P
  cases hr : r[i]? with
  | none =>
    rw [hr] at P
    exact P.elim
  | some s =>
    rw [hr] at P
    cases s with
    | own m =>
      cases m with
      | lst ds =>
        dsimp only at P
        split at P
        · rename_i nR
          refine ⟨B, im, owOff ow i, frz i r, M, S.frzO hr, ?_⟩
          cases hf : f (frz i r) M with
          | ok d M' =>
            rw [hf] at P
            dsimp only at P
            split at P
            · rename_i hn
              obtain ⟨nM, nD⟩ := Bool.and_eq_true_iff.mp hn
              intro p im' H' N x pf fr
              obtain ⟨a, ha, _, xs0, e3, _⟩ := S.sl i _ hr
              have wge : ∀ {jm : List Addr} (b : Addr), wr jm (owOff ow i) b → wr jm ow b := fun b z => wr_off z
              obtain ⟨xs, ha', nle, nFa, S2, x2⟩ := S.thawG (F := (B.plus p).F) hr ha N.st (fun b z => z.imp id fun z => by rw [z]; exact fr) x pf nM nR
              have hpa : p ≠ a := fun z => nFa (.inr z.symm)
              refine P p im' H' ⟨S2, fun z => ?_, N.nF, N.ok.nl ha' nle nD⟩ x2 pf fun o eo t => wge p (fr o eo t)
              rcases z with z | ⟨j, z⟩
              · exact N.nw (.inl z)
              · by_cases hj : j = i
                · subst hj
                  rw [ha] at z
                  exact hpa (Option.some.inj z).symm
                · exact N.nw (.inr ⟨j, by unfold owOff; rw [if_neg hj]; exact z⟩)
            · exact P.elim
          | ex C fs M' =>
            rw [hf] at P
            exact P.elim
          | bad =>
            rw [hf] at P
            exact P.elim
        · exact P.elim
      | _ => exact P.elim
    | _ => exact P.elim
theorem df_thaw (i : Nat) (h : DF X T W e f) : DF X T W e (sThawF i f) := pe_le h fun _ _ _ => thawF_le i
/-- name = [.. of an own list ..] -/
theorem ds_ownLcT (n : Nat) {i : Nat} {y : Str} {py : Pos} {elt tg iter : Expr} {ifs : List Expr} {scope : Scope} {own : List (Str × Nat)} {pos spos : Pos} {it : SE (List Dm)} {k : Dm → Option (List (Nat × Dm))} {t : SE Bool} {e : SE Dm} {g : TG} (hc : X.calm = true) (hN : X.N.Nodup) (hy : X.N[i]? = some y) (hyl : X.env.scope.names.lookup y = some .local)
    (hsw : swapsWith (.ListComp elt [⟨tg, iter, ifs, 0⟩] scope pos) (some (.Name y py)) spos.line X.env = pure true) (hi : DI X T W tg iter it) (ok : BlkOk X.N X.env.scope scope own) (hp : Pt X.K g (own.map (·.2)) k)
    (hg : ∀ (s : Shared) (H : Hp) (C : Addr) (cl : List (Str × Addr)) (fp : List Addr), PG (X.blk s H scope (compEnvC scope cl C X.env) fp) tg g) (ht : ∀ (s : Shared) (H : Hp) (C : Addr) (cl : List (Str × Addr)) (fp : List Addr), DTs (X.blk s H scope (compEnvC scope cl C X.env) fp) T ifs t)
    (he : ∀ (s : Shared) (H : Hp) (C : Addr) (cl : List (Str × Addr)) (fp : List Addr), DE (X.blk s H scope (compEnvC scope cl C X.env) fp) T W0F elt e) (hs : ∀ x, foldedSetIterable iter X.env x = pure x := by intro _; rfl) :
    DS X T W (.Assign [.Name y py] (.ListComp elt [⟨tg, iter, ifs, 0⟩] scope pos) spos) (sOwn i (sThawF n (fLc (own.map (·.2)) it k t e))) :=
  ps_le (ps_setLc hc hN hy hyl hsw hi ok hg ht he hs) fun σ H D h => lc_of (Q := fun x H1 => gName i x σ H1 D.nx) hp (thawF_le n (own_le h))
end
end Dy

/-! Dy81: k in x as a test, x an own dict. -/
namespace Dy
open PySem
open PySem.Spec
open PyProof.Rows hiding St
open L2
section
variable {X : Cx} {T : Tb} {W : WX} {a : Expr} {fk : SE Dm} {pos p1 : Pos} {x : Str} {i : Nat}
theorem dt_din (s : Ut X) (hN : X.N[i]? = some x) (hv : Vis X.env.scope x) (hk : DE X T W a fk) (hd : (x == ("__debug__" : Str)) = false := by decide) (hc : (x == ("__classdict__" : Str)) = false := by decide) : DT X T W (.Compare a [.In] [.Name x p1] pos) (fun r M => (sDIn false i fk r M).bind toB) :=
  pt_le (pt_cmp (pc_din s.u1 hk (pe_var hN hv hd hc))) fun σ H Q ⟨B, im, ow, r, M, S, P⟩ => by
    have P' : Post rlB (gm X T) B W im ow r σ H ((fk r M).bind fun k M1 => (if nmOk r i = true then oDIn false r i k M1 else .bad).bind toB) Q := by
      rw [← R.bind_bind]
      exact P
    exact ⟨B, im, ow, r, M, S, Post.bind (rl := rlV) P' fun d M1 v im1 H1 _ S1 E1 p1 r1 P1 => by
      split at P1
      · rename_i hn
        obtain ⟨y, hy⟩ := nm_of S1 hn
        refine ⟨y, hy, ?_⟩
        unfold oDIn at P1
        cases h1 : dicS r i M1 with
        | none =>
          simp only [h1] at P1
          exact P1.elim
        | some kvs =>
          cases h2 : keyOf d with
          | none =>
            simp only [h1, h2] at P1
            exact P1.elim
          | some kk =>
            simp only [h1, h2] at P1
            obtain ⟨a', xs, e1, e2, e3⟩ := dicS_of S1 h1
            rw [hy] at e1
            cases e1
            have ek := key_of r1 h2
            subst ek
            refine ⟨a', valV xs kk, rfl, .inl ⟨xs, kk, .inl e2, rfl, rfl⟩, ?_⟩
            rw [valO e3 kk]
            refine ⟨_, rfl, ?_⟩
            have z := Post.here (rl := rlB) P1 S1 rfl
            simpa using z
      · exact P1.elim⟩
end
end Dy

/-! Dy82: sorted(..) of tuples of ints, of any length. -/
namespace Dy
open PySem
open PySem.Spec
open PyProof.Rows hiding St
open L2
def leLI (a b : List Int) : Bool := decide (a ≤ b)
def kLI (ns : List Int) : PyData := .tuple (ns.map PyData.int)
theorem dataLe_LI {β : Type} (k : β → List Int) : PySem.W.dataLe false (fun b => kLI (k b)) = fun p q => leLI (k p) (k q) := by
  funext p q
  show (!PySem.W.dataLt (kLI (k q)) (kLI (k p))) = _
  unfold kLI
  rw [PySem.W.dataLt_tuple]
  have e : PyProof.Rows.lexLt itemOrd (PySem.W.keyToksAll ((k q).map PyData.int)) (PySem.W.keyToksAll ((k p).map PyData.int)) = decide (k q < k p) := PySem.W.dataLt_ints _ _
  rw [e]
  unfold leLI
  by_cases h : k q < k p
  · have h4 : ¬ k p ≤ k q := fun r => List.not_lt.mpr r h
    simp [h, h4]
  · have h4 : k p ≤ k q := List.not_lt.mp h
    simp [h, h4]
def sortLI (ds : List Dm) : List Dm := ds.mergeSort fun a b => leLI (kzL a) (kzL b)
/-- sorted: tuples of ints, ints, texts -/
def oSortedL : List Dm → Mem → R Dm
  | [.lst ds], M => if ds.all okLK = true then if ds.length ≤ 1000 ∧ ((ds.all fun d => decide (kzL d ≠ [])) = true ∨ ds.length = 1) then .ok (.lst (sortLI ds)) M else .bad else oSorted [.lst ds] M
  | ds, M => oSorted ds M
theorem intsD_map : ∀ {ds : List Dm} {ns : List Int}, intsD ds = some ns → ds = ns.map .int
  | [], _, e => by cases e; rfl
  | d :: ds, ns, e => by
    unfold intsD at e
    split at e
    · rename_i h
      cases h
    · rename_i i ds' h
      cases h
      obtain ⟨ns', e1, rfl⟩ := Option.map_eq_some_iff.mp e
      rw [List.map_cons, ← intsD_map e1]
    · cases e
theorem okLK_kz {d : Dm} (h : okLK d = true) : d = .tup ((kzL d).map .int) := by
  obtain ⟨ds, ns, rfl, e, _⟩ := okLK_of h
  have : kzL (.tup ds) = ns := by
    show (intsD ds).getD [] = ns
    rw [e]
    rfl
  rw [this, ← intsD_map e]
theorem alike_LI (a b : List Int) : PySem.W.alike (kLI a) (kLI b) = true := by
  unfold kLI
  rw [PySem.W.alike, PySem.W.alike_ints]
theorem depth_LI (a : List Int) : (kLI a).depth ≤ 10 := by
  unfold kLI
  simp [PyData.depth, PySem.W.depth_ints]
theorem okN_ints (ns : List Int) : okN dep (.tup (ns.map .int)) = true := by
  show (ns.map Dm.int).all (okN 11) = true
  rw [List.all_eq_true]
  intro d hd
  obtain ⟨i, _, rfl⟩ := List.mem_map.mp hd
  rfl
theorem toP_ints (ns : List Int) : toP dep (.tup (ns.map .int)) = kLI ns := by
  show PyData.tuple ((ns.map Dm.int).map (toP 11)) = _
  rw [List.map_map]
  rfl
section
variable {prog : Program} {w : World} {A : Around} {E : Value → Shared → Prop} {s : Shared}
/-- one tuple of ints alone -/
theorem sorts_one {v : Value} (ns : List Int) (e : PySem.W.EachIs (fun v d => ∃ as, Reads s.heap v d as) [v] [kLI ns]) (hu : A.units < cLine) : PySem.W.SortsAt prog w A s (PySem.W.dataKind s.heap [kLI ns]) [v] := by
  have hal : PySem.W.AllAlike [kLI ns] := fun d hd d' hd' => by
    rw [List.mem_singleton] at hd hd'
    subst hd hd'
    exact alike_LI _ _
  refine ⟨fun v hv => ?_, tuples' false, ?_, fun h2 => absurd h2 (by simp)⟩
  · obtain ⟨d, hd, as, r⟩ := e.left v hv
    exact ⟨_, PySem.W.dataKind_some hal hd r⟩
  · intro E x y a b Q ha hb hq
    obtain ⟨d, as, hd, ra, rfl⟩ := PySem.W.dataKind_inv ha
    obtain ⟨d', as', hd', rb, rfl⟩ := PySem.W.dataKind_inv hb
    rw [List.mem_singleton] at hd hd'
    subst hd hd'
    have hq' : Q (PySem.W.dataLt (kLI ns) (kLI ns)) s := hq
    unfold kLI at ra rb hq'
    rw [PySem.W.dataLt_tuple] at hq'
    cases ra with
    | @tuple l o xs n _ _ h1 h2 h3 h4 =>
      cases rb with
      | @tuple l' o' xs' n' _ _ k1 k2 k3 k4 =>
        have n1 : xs.size = ns.length := by simpa using SeqAt.ReadsAll.length _ _ _ h4
        have n2 : xs'.size = ns.length := by simpa using SeqAt.ReadsAll.length _ _ _ k4
        exact PySem.W.kat_lt h1 h3 k1 k3 (PySem.W.katLex_alike (ns.map .int) (ns.map .int) 0 _ _ _ _ h4 k4 (PySem.W.alike_ints _ _) (by rw [PySem.W.depth_ints]; simpa using hu) (fun hb => absurd hb (by decide)) (by rw [n1, n2, List.length_map]) hq')
theorem sorted_one {l : Addr} {v : Value} {Q : Value → Shared → Prop} (ns : List Int) (hl : s.heap.IsList l [v].toArray) (er : ∃ as, Reads s.heap v (kLI ns) as) (hu : A.units + 2 < cLine) (h : Q (.ref (s.heap.objs.size + 1)) { s with heap := sortedAll s.heap [v] [v].toArray }) : wpAny (model prog w) A (call (.builtin "sorted") [.ref l]) Q E s := by
  obtain ⟨as, r⟩ := er
  have r' := PyProof.Rows.Reads.keeps (h' := PySem.W.sortingHeap (PySem.W.copyHeap s.heap [v]) (s.heap.objs.size + 1) [v]) (fun _ _ => PySem.W.sorting_copy_old) r
  refine PySem.W.sorted_vals hl (sorts_one (s := { s with heap := PySem.W.sortingHeap (PySem.W.copyHeap s.heap [v]) (s.heap.objs.size + 1) [v] }) ns (.cons ⟨_, r'⟩ .nil) hu) (show 1 ≤ sizeLine by decide) ?_
  have e : PySem.W.sortVals (PySem.W.dataKind (PySem.W.sortingHeap (PySem.W.copyHeap s.heap [v]) (s.heap.objs.size + 1) [v]) [kLI ns]) false [v] [v] = [v] := by
    unfold PySem.W.sortVals
    simp
  rw [e]
  exact h
end
section
variable {X : Cx} {T : Tb} {W : WX} {a : Expr} {es : List Expr} {h : SE (List Dm)} {p pos : Pos}
theorem cd_sortedL (ut : Ut X) : CallD X T W (.builtin "sorted") oSortedL := by
  intro pins s B im ow r M σ H xs vs us Q I rv S q P
  have plain : Post rlV (gm X T) B W im ow r σ H (oSorted xs M) Q → wpAny (model X.prog X.w) X.A (call (.builtin "sorted") us) (EP X pins σ Q) X.xe s := fun P =>
    (c_sorted B im ow r M σ H xs vs Q S q P).elim (cr_sortedI pins s σ H vs us Q I rv) (cr_srtS pins s σ H vs us Q I rv)
  match xs, vs, us, rv, q with
  | [d], [v], [u], .cons rv1 .nil, .cons q1 .nil =>
    cases q1 with
    | @lst ad ws ds hw n rs =>
      have e : oSortedL [.lst ds] M = if ds.all okLK = true then if ds.length ≤ 1000 ∧ ((ds.all fun d => decide (kzL d ≠ [])) = true ∨ ds.length = 1) then .ok (.lst (sortLI ds)) M else .bad else oSorted [.lst ds] M := rfl
      rw [e] at P
      by_cases hall : ds.all okLK = true
      · rw [if_pos hall] at P
        split at P
        · rename_i hlen
          obtain ⟨l, l1, l2, l3⟩ := besideD rs
          obtain rfl : u = Value.ref ad := rv1
          obtain ⟨its, rvi, hl, hz⟩ := I.list (SqL.of hw)
          rw [← l1] at rvi
          have ea := each_ofD rvi
          have ll : l.length = ds.length := by rw [← l2, List.length_map]
          have l4 : ∀ p ∈ l, okLK p.2 = true := fun p hp => List.all_eq_true.mp hall p.2 (by rw [← l2]; exact List.mem_map.mpr ⟨p, hp, rfl⟩)
          have er : PySem.W.EachIs (fun u (p : V × Dm) => ∃ as, Reads s.heap u (kLI (kzL p.2)) as) its l := by
            have key : ∀ {l : List (V × Dm)} {us : List Value}, (∀ p ∈ l, Rep (gm X T) (ns B.F im ow) im H p.1 p.2) → (∀ p ∈ l, okLK p.2 = true) → PySem.W.EachIs (fun u p => RelV p.1 u) us l → PySem.W.EachIs (fun u (p : V × Dm) => ∃ as, Reads s.heap u (kLI (kzL p.2)) as) us l := by
              intro l us hr ho e
              induction e with
              | nil => exact .nil
              | @cons u p us l r _ ih =>
                refine .cons ?_ (ih (fun q hq => hr q (List.mem_cons_of_mem _ hq)) fun q hq => ho q (List.mem_cons_of_mem _ hq))
                have h1 := hr p List.mem_cons_self
                have h2 := okLK_kz (ho p List.mem_cons_self)
                rw [h2] at h1
                have h3 := dp_of dep _ _ (okN_ints (kzL p.2)) h1
                rw [toP_ints] at h3
                exact Dp.reads I _ p.1 u h3 r
            exact key l3 l4 ea
          have fin : ∀ out : List Value, PySem.W.EachIs (fun u (p : V × Dm) => RelV p.1 u) out (l.mergeSort (PySem.W.dataLe false fun p : V × Dm => kLI (kzL p.2))) → EP X pins σ Q (.ref (s.heap.objs.size + 1)) { s with heap := sortedAll s.heap its out.toArray } := fun out he => by
            have e2 : (l.mergeSort (PySem.W.dataLe false fun p : V × Dm => kLI (kzL p.2))).map (·.2) = sortLI ds := by
              rw [dataLe_LI fun p : V × Dm => kzL p.2]
              rw [List.map_mergeSort (s := fun a b => leLI (kzL a) (kzL b)) fun _ _ _ _ => rfl, l2]
              rfl
            have hp : ∀ p ∈ l.mergeSort (PySem.W.dataLe false fun p : V × Dm => kLI (kzL p.2)), Rep (gm X T) (ns B.F im ow) im H p.1 p.2 := fun p hp => l3 p ((List.mergeSort_perm _ _).mem_iff.mp hp)
            have hlm : (l.mergeSort (PySem.W.dataLe false fun p : V × Dm => kLI (kzL p.2))).length = ds.length := by rw [List.length_mergeSort, ll]
            generalize l.mergeSort (PySem.W.dataLe false fun p : V × Dm => kLI (kzL p.2)) = lm at he e2 hp hlm
            have rr := reps_ofD hp
            rw [e2] at rr
            have hv := vals_ofD he
            obtain ⟨ep, hep⟩ := sortedAll_at s.heap its out.toArray
            have hln : (lm.map (·.1)).length ≤ sizeLine := by
              rw [List.length_map, hlm]
              exact Nat.le_trans hlen.1 (by decide)
            have hf : H (s.heap.objs.size + 1) = none := I.hok.fresh (Nat.le_succ _)
            refine ⟨.ref (s.heap.objs.size + 1), upd H (s.heap.objs.size + 1) (.lst (lm.map (·.1))), ?_, rfl, ?_⟩
            · exact I.laid (t' := s.toks) (fun _ _ => sortedAll_old) (Nat.le_succ _) ⟨hln, out, ep, hv, hep⟩
            · exact P.new S hf (.lst upd_same (S.fresh hf) (rr.mono (Ext.new hf) (List.prefix_refl _)))
          have hun := ut.un
          rcases hlen.2 with hne | h1
          · refine PySem.W.sorted_data (enc := fun p : V × Dm => kLI (kzL p.2)) hl.isList ea er (fun d hd d' hd' => ?_) (.inl fun d hd => ?_) (by rw [ll]; exact Nat.le_trans hlen.1 (by decide)) (fun b _ => ?_) fun out ho he => fin out he
            · obtain ⟨p, _, rfl⟩ := List.mem_map.mp hd
              obtain ⟨p', _, rfl⟩ := List.mem_map.mp hd'
              exact alike_LI _ _
            · obtain ⟨p, hp, rfl⟩ := List.mem_map.mp hd
              have h2 := of_decide_eq_true (List.all_eq_true.mp hne p.2 (by rw [← l2]; exact List.mem_map.mpr ⟨p, hp, rfl⟩))
              unfold kLI
              cases hk : kzL p.2 with
              | nil => exact absurd hk h2
              | cons i r => exact ⟨_, _, rfl⟩
            · show X.A.units + 2 + _ < cLine
              have z := depth_LI (kzL b.2)
              omega
          · rw [← ll] at h1
            obtain ⟨p, rfl⟩ := List.length_eq_one_iff.mp h1
            cases er with
            | @cons v _ vt _ hr t =>
              cases t
              have e1 : [p].mergeSort (PySem.W.dataLe false fun p : V × Dm => kLI (kzL p.2)) = [p] := List.mergeSort_singleton p
              have fin' := fin [v]
              rw [e1] at fin'
              exact sorted_one (kzL p.2) hl.isList hr (by omega) (fin' ea)
        · exact P.elim
      · rw [if_neg hall] at P
        exact plain P
    | _ => exact plain P
  | [], _, _, _, _ => exact plain P
  | x :: y :: r, _, _, _, _ =>
    have e : oSortedL (x :: y :: r) M = oSorted (x :: y :: r) M := by cases x <;> rfl
    rw [e] at P
    exact plain P
theorem f_sortedL (ut : Ut X) (hg : Gl X "sorted") (hm : X.mg "sorted" = none) (ha : DA X T W (a :: es) h) (he : starEach (a :: es) X.env = (false, eval a X.env) :: starEach es X.env := by rfl) (hpl : (backTo pos (starEach es X.env)).any (·.1) = false := by rfl) :
    DE X T W (.Call (.Name "sorted" p) (a :: es) [] pos) (sCall oSortedL h) := de_cdB (cd_sortedL ut) hg hm rfl ha (by decide) (by decide) he hpl
end
end Dy

/-! Dy83: exceptions that are data: made, their fields, isinstance. -/
namespace Dy
open PySem
open PySem.Spec
open PyProof.Rows hiding St
open L2
section
variable {X : Cx} {T : Tb} {W : WX} {e : Expr} {fe : SE Dm} {C : Addr} {f : Str} {pos : Pos}
/-- C(e), as a datum -/
def oMkE (Cn f : Str) (d : Dm) (M : Mem) : R Dm := .ok (.exc Cn [(f, d)]) M
def sMkE (Cn f : Str) (fe : SE Dm) : SE Dm := sUn (oMkE Cn f) fe
def oMkE0 (Cn : Str) (M : Mem) : R Dm := .ok (.exc Cn []) M
def sMkE0 (Cn : Str) : SE Dm := fun _ M => oMkE0 Cn M
theorem exo_ok2 {P : Program} {w : World} {H : Hp} {h : Heap} {a : Addr} {Ca : Addr} {d : Option Addr} {oe : Obj} {vs : Array Value} (e : h.get? a = some oe) (z : Zc (.ref Ca) d oe) (dd : oe.data = .fields vs) (h1 : vs[1]? = some .none) : ObjOk P w H h a (EXO Ca d a) :=
  ⟨⟨oe, vs, e, z, dd, h1⟩, ⟨oe, e⟩, fun _ _ ⟨o, v, q, r⟩ k => ⟨o, v, k o q, r⟩⟩
theorem Inv.made {pins : List (Addr × Obj)} {σ : L2.St} {H : Hp} {sI s' : Shared} {a Ca : Addr} {d : Option Addr} {oe : Obj} {vs : Array Value} (I : L2.Inv X pins σ H sI) (k : ∀ b o, sI.heap.get? b = some o → s'.heap.get? b = some o) (hne : sI.heap.get? a = none) (ha : s'.heap.get? a = some oe) (hz : Zc (.ref Ca) d oe) (hd : oe.data = .fields vs) (h1 : vs[1]? = some .none) (na : H a = none) (os : s'.os = sI.os) (ag : AllBare s'.gens) :
    L2.Inv X pins σ (upd H a (EXO Ca d a)) s' := by
  have J := L2.Inv.laidN (t' := s'.toks) I k hne na (exo_ok2 ha hz hd h1)
  exact ⟨J.ok, os.trans I.os, ag, J.base, J.loc, J.cell, J.free, J.freeC, J.pin, J.hok, J.len⟩
theorem de_mkE {Cn : Str} (mk : L2N.PMk X e (fun σ H Q => (tD (gm X T) W fe) σ H fun y H1 => ∀ d, H1 d = none → Q (.ref C) (some d) (upd H1 d (.xd [(f, y)])))) (hm : X.mg Cn = some (.ref C)) : DE X T W e (sMkE Cn f fe) :=
  ⟨fun pins s σ H Q I ⟨B, im, ow, r, M, S, P⟩ => by
    refine wpAny_mono (mk pins s σ H (fun cls d H' => ∃ y H1 dx, cls = .ref C ∧ d = some dx ∧ H1 dx = none ∧ H' = upd H1 dx (.xd [(f, y)]) ∧ ∃ im1 M1 z, StRel (gm X T) B im1 ow r M1 σ H1 ∧ Rep (gm X T) (ns B.F im1 ow) im1 H1 y z ∧ Post rlV (gm X T) B W im1 ow r σ H1 (oMkE Cn f z M1) Q) I ⟨B, im, ow, r, M, S, ?_⟩) (fun u s1 hu => ?_) fun _ _ x => x
    · unfold sMkE sUn at P
      exact Post.bind (k := oMkE Cn f) (rl' := rlV) P fun z M1 y im1 H1 _ S1 E1 p1 r1 P1 => fun dx hdx => ⟨y, H1, dx, rfl, rfl, hdx, rfl, im1, M1, z, S1, r1, P1⟩
    · obtain ⟨a, oe, vs, sI, H', cls, d, rfl, J, k, hne, ha, hz, hd, h1, na, os, ag, _, y, H1, dx, rfl, rfl, hdx, rfl, im1, M1, z, S1, r1, P1⟩ := hu
      have I2 := Inv.made J k hne ha hz.zc hd h1 na os ag
      have S2 := S1.new hdx (.xd [(f, y)])
      have hda : dx ≠ a := fun e => by
        rw [← e, upd_same] at na
        cases na
      refine ⟨.ref a, _, I2, rfl, ?_⟩
      have P2 := Post.rebase P1 (Ext.new (o := .xd [(f, y)]) hdx) (List.prefix_refl _)
      refine Post.new P2 S2 na ?_
      refine .exc (d := some dx) hm upd_same (S2.fresh na) ?_ (fun x hx => ?_) (.cons ((r1.mono (Ext.new hdx) (List.prefix_refl _)).mono (Ext.new na) (List.prefix_refl _)) .nil)
      · show upd _ a _ dx = _
        rw [upd_ne hda, upd_same]
      · cases hx
        exact S1.fresh hdx⟩
end
/-! isinstance -/
section
variable {X : Cx} {T : Tb} {W : WX}
theorem exc_inst {pins : List (Addr × Obj)} {σ : L2.St} {H : Hp} {s : Shared} {a Ca : Addr} {d : Option Addr} {xs : List (Str × V)} (I : L2.Inv X pins σ H s) (ha : H a = some (EXO Ca d a)) (hx : ExAt H d xs) : ∃ oe od, PySem.W.InstAt s.heap a oe Ca od ∧ od.isSome = d.isSome := by
  obtain ⟨⟨oe, vs, g, hz, hv, _⟩, _⟩ := (show ObjOk X.prog X.w H s.heap a (EXO Ca d a) from I.hok a _ ha)
  have no : PySem.W.notCls oe = true := by
    unfold PySem.W.notCls
    rw [hv]
  cases d with
  | none =>
    refine ⟨oe, none, ⟨g, hz.1, no, ?_⟩, rfl⟩
    rw [hz.2]
    trivial
  | some dd =>
    obtain ⟨mA, hns, _⟩ := (show ObjOk X.prog X.w H s.heap dd (.xd xs) from I.hok dd _ hx)
    obtain ⟨od, ho, _⟩ := lookIn_ns hns
    refine ⟨oe, some od, ⟨g, hz.1, no, ?_⟩, rfl⟩
    rw [hz.2]
    exact ho
def rIsE (X : Cx) : List V → Hp → VK → Prop := fun xs H Q => ∃ (a Ca : Addr) (d : Option Addr) (c : V) (cv : Value) (b : Bool) (fs : List (Str × V)), xs = [.ref a, c] ∧ (∀ u, RelV c u → u = cv) ∧ H a = some (EXO Ca d a) ∧ ExAt H d fs ∧ ExcC X.K Ca ∧ PySem.W.kitOne X.K (.ref Ca) cv = some b ∧ Q (.bl b) H
def oIsE (a1 : Str → Str → Option Bool) (a2 : Str → String → Option Bool) : List Dm → Mem → R Dm
  | [.exc C _, .glo x], M => match a1 C x with
    | some b => .ok (.bl b) M
    | none => .bad
  | [.exc C _, .ty n], M => match a2 C n with
    | some b => .ok (.bl b) M
    | none => .bad
  | _, _ => .bad
theorem call_isE : CallR X (.builtin "isinstance") (rIsE X) := by
  intro pins s σ H xs us Q I r ⟨a, Ca, d, c, cv, b, fs, ex, hc, ha, hx, E, e, q⟩
  subst ex
  cases r with
  | @cons _ u0 _ ur r0 rr =>
    cases rr with
    | @cons _ u1 _ ur1 r1 rr =>
      cases rr
      obtain rfl : u0 = Value.ref a := r0
      obtain rfl := hc _ r1
      obtain ⟨oe, od, J, _⟩ := exc_inst I ha hx
      refine PySem.W.kia_one (PySem.W.kitx_exc (od := od) ?_ E.hg E.hk E.hs E.ha E.hn E.ht E.hm) I.kIn J e (fun z => nomatch z) fun tk => ⟨.bl b, H, I.kept (t' := tk) fun _ _ z => z, rfl, q⟩
      obtain ⟨cd, hcd, _⟩ := PySem.W.any_some E.hd
      rw [hcd]
      cases od <;> rfl
theorem c_isE {a1 : Str → Str → Option Bool} {a2 : Str → String → Option Bool} (A : AnsOk X.K X.mg a1 a2) : SoundC X T W (rIsE X) (oIsE a1 a2) := fun B im ow r M σ H xs vs Q S rs P => by
  cases rs with
  | nil => exact P.elim
  | @cons v d vs ds q rs =>
    cases rs with
    | nil => cases d <;> exact P.elim
    | @cons v2 d2 vs ds q2 rs =>
      cases rs with
      | cons _ _ => cases d <;> cases d2 <;> exact P.elim
      | nil =>
        cases q with
        | @exc a Ca d' C xs ds hC ha nN hx nx rf =>
          cases q2 with
          | @glo x v u hm rv =>
            have P' : Post rlV (gm X T) B W im ow r σ H (match a1 C x with
              | some b => .ok (.bl b) M
              | none => .bad) Q := P
            split at P'
            · rename_i b hb
              obtain ⟨D, hD, E, e⟩ := A.own C x Ca b hb hC
              have hm' : X.mg x = some u := hm
              rw [hD] at hm'
              cases hm'
              refine ⟨a, Ca, d', v2, .ref D, b, xs, rfl, fun u' r' => ?_, ha, hx, E, e, P'.here S (.bl b)⟩
              cases v2 with
              | ref y =>
                have ey : Value.ref D = Value.ref y := rv
                rw [ey]
                exact r'
              | _ => cases rv <;> (rename_i z; cases z)
            · exact P'.elim
          | ty n =>
            have P' : Post rlV (gm X T) B W im ow r σ H (match a2 C n with
              | some b => .ok (.bl b) M
              | none => .bad) Q := P
            split at P'
            · rename_i b hb
              obtain ⟨E, e⟩ := A.ty C n Ca b hb hC
              exact ⟨a, Ca, d', .ty n, .type n, b, xs, rfl, fun u' r' => r', ha, hx, E, e, P'.here S (.bl b)⟩
            · exact P'.elim
          | _ => exact P.elim
        | _ => cases d2 <;> exact P.elim
theorem de_isE {a1 : Str → Str → Option Bool} {a2 : Str → String → Option Bool} {e c : Expr} {fe fc : SE Dm} {q pos : Pos} (A : AnsOk X.K X.mg a1 a2) (hg : Gl X "isinstance") (hm : X.mg "isinstance" = none) (he : DE X T W e fe) (hc : DE X T W c fc)
    (hs : starEach [e, c] X.env = (false, eval e X.env) :: starEach [c] X.env := by rfl) (hs2 : starEach [c] X.env = (false, eval c X.env) :: starEach [] X.env := by rfl) (hpl : (backTo pos (starEach [c] X.env)).any (·.1) = false := by rfl) :
    DE X T W (.Call (.Name "isinstance" q) [e, c] [] pos) (sCall (oIsE a1 a2) (sCons fe (sCons fc sNil))) :=
  de_callB call_isE (c_isE A) hg hm rfl (da_cons he (da_cons hc da_nil hs2) hs) (by decide) (by decide) hs hpl
end
/-! fields -/
section
variable {X : Cx} {T : Tb} {W : WX} {e : Expr} {fe : SE Dm} {f : Str} {pos : Pos}
/-- e.f of an exception that is a datum: which classes may be asked for f -/
def oExF (cs : List Str) (f : Str) : Dm → Mem → R Dm
  | .exc C fs, M => if cs.contains C = true then match fs.lookup f with
    | some d => .ok d M
    | none => .bad else .bad
  | _, _ => .bad
def tXe (X : Cx) (f : Str) (te : TE) : TE := fun σ H Q => te σ H fun x H1 => ∃ (a C dd : Addr) (fs : List (Str × V)) (v : V), x = .ref a ∧ XfC X.K C ∧ PySem.W.findIn X.K (.ref C) f = some none ∧ H1 a = some (EXO C (some dd) a) ∧ H1 dd = some (.xd fs) ∧ fs.lookup f = some v ∧ Q v H1
theorem pe_xe {te : TE} (he : PE X e te) (hb : attributeBase e f X.env (eval e X.env) = eval e X.env := by rfl) : PE X (.Attribute e f pos) (tXe X f te) := by
  refine ⟨fun pins s σ H Q I h => ?_⟩
  refine attr_of hb (thn (he.run pins s σ H _ I h) fun u s1 hh => ?_)
  obtain ⟨x, H1, I1, rx, a, C, dd, fs, v, ex, Tx, hno, ha, ea, l, q⟩ := hh
  subst ex
  obtain rfl : u = Value.ref a := rx
  obtain ⟨oe, od', J, hod⟩ := exc_inst I1 ha (show ExAt H1 (some dd) fs from ea)
  obtain ⟨⟨oe2, vs, g2, hz2, _, _⟩, _⟩ := (show ObjOk X.prog X.w H1 s1.heap a (EXO C (some dd) a) from I1.hok a _ ha)
  have hx : ObjOk X.prog X.w H1 s1.heap dd (.xd fs) := I1.hok dd _ ea
  obtain ⟨mA, hns, hr⟩ := hx
  obtain ⟨od, ho, hl⟩ := lookIn_ns hns
  obtain ⟨u, hu, ru⟩ := RelO.some_of (v := v) (o := mA f) (by rw [← l]; exact hr f)
  have hoe : oe = oe2 := by
    have := J.at_
    rw [g2] at this
    exact (Option.some.inj this).symm
  subst hoe
  have J' : PySem.W.InstAt s1.heap a oe C (some od) := ⟨J.at_, J.cls, J.no, by rw [hz2.2]; exact ho⟩
  exact HandSPX.exc_get I1.kIn J' Tx.ga Tx.gg Tx.exC (PySem.W.findObj_own Tx.hdC hno rfl (by rw [hl, hu])) (handed_of ru) ⟨v, H1, I1.tok _, ru, q⟩
theorem de_xe {cs : List Str} (hcs : ∀ C ∈ cs, ∀ Ca, X.mg C = some (.ref Ca) → XfC X.K Ca ∧ PySem.W.findIn X.K (.ref Ca) f = some none) (he : DE X T W e fe) (hb : attributeBase e f X.env (eval e X.env) = eval e X.env := by rfl) : DE X T W (.Attribute e f pos) (sUn (oExF cs f) fe) :=
  pe_le (pe_xe he hb) fun σ H Q ⟨B, im, ow, r, M, S, P⟩ => ⟨B, im, ow, r, M, S, Post.bind (k := oExF cs f) (rl' := rlV) P fun d M1 v im1 H1 _ S1 E1 p1 r1 P1 => by
    cases r1 with
    | @exc a Ca d' C xs ds hC ha nN hx nx rf =>
      have P2 : Post rlV (gm X T) B W im1 ow r σ H1 (if cs.contains C = true then match ds.lookup f with
        | some d => .ok d M1
        | none => .bad else .bad) Q := P1
      split at P2
      · rename_i hc
        split at P2
        · rename_i d hd
          obtain ⟨u, hu, q⟩ := rf.find hd
          obtain ⟨x1, x2⟩ := hcs C (List.contains_iff_mem.mp hc) Ca hC
          cases d' with
          | none =>
            have : xs = [] := hx
            subst this
            cases hu
          | some dd => exact ⟨a, Ca, dd, xs, u, rfl, x1, x2, ha, hx, hu, P2.here S1 q⟩
        · exact P2.elim
      · exact P2.elim
    | _ => exact P1.elim⟩
end
end Dy

/-! Dy84: exceptions of own classes, made by keyword. -/
namespace PySem
namespace HandSPX
open Builtin Builtin.ObjectAttr
section
variable {M : Model} {A : Around} {E : Value → Shared → Prop} {h : Heap} {g : Array GenState} {d : Drawn} {t : Nat} {os : OsState}
variable {nm q : Str} {C N : Addr} {bs bm bmB : List Value} {hdct : Bool} {sn : List Str} {sub : List Value} {ab : Bool} {col : Option Bool} {dd : Option Addr} {k0 k1 k2 k3 k5 : Option Value} {B newId initId : String}
theorem check_new_kw (F : ExcBaseFacts B newId initId bmB) (hT : ∀ X : String, bm.contains (.type X) = bmB.contains (.type X)) {y : Str} {u : Value} {Q : Unit → Shared → Prop}
    (hC : h.get? C = some (excClassObj nm q C N bs bm hdct sn sub ab col dd k0 k1 k2 k3 k5 newId)) (hq : Q () ⟨h, g, d, t, os⟩) : wpAny M A (checkBuiltinCall newId ⟨[.ref C], [(y, u)]⟩) Q E ⟨h, g, d, t, os⟩ := by
  have hcont : (Value.ref C :: bm).contains (.type B) = true := by rw [List.contains_cons, hT, F.hasB, Bool.or_true]
  have hstar := F.noStar
  simp only [checkBuiltinCall, F.newKind, F.newSplit, F.newRow]
  repeat (first | refine wpAny_loadPart_at hC ?_ | (refine wpAny_isSubtype_exc hC ?_; rw [hcont]) | refine wpAny_staticBase_exc hC ?_ | refine wpAny_madeBy_exc hC ?_ | simp only [bne_self_eq_false, Bool.false_eq_true, if_false] | wp_step)
  exact hq
end
section
variable {prog : Program} {w : World} {A : Around} {E : Value → Shared → Prop} {R : Result → Shared → Prop} {h : Heap} {g : Array GenState} {d : Drawn} {t : Nat} {os : OsState}
variable {nm q : Str} {C N : Addr} {bs bm bmB : List Value} {hdct : Bool} {sn : List Str} {sub : List Value} {ab : Bool} {col : Option Bool} {dd : Option Addr} {k0 k1 k2 k3 k5 : Option Value} {B newId initId : String}
theorem new_kw (F : ExcBaseFacts B newId initId bmB) (hT : ∀ X : String, bm.contains (.type X) = bmB.contains (.type X)) {y : Str} {u : Value}
    (hC : h.get? C = some (excClassObj nm q C N bs bm hdct sn sub ab col dd k0 k1 k2 k3 k5 newId))
    (hq : R (.ok (.ret (.ref (h.objs.size + 1)))) ⟨(h.push { cls := .type "tuple", data := .seq #[] }).push
      { cls := .ref C, data := .fields #[.ref h.objs.size, .none, .none, .none, .bool false, .none] }, g, d, t, os⟩) :
    codeAny (model prog w) A (.builtin newId ⟨[.ref C], [(y, u)]⟩) R ⟨h, g, d, t, os⟩ := by
  have hends := F.ends
  have hcB : (Value.ref C :: bm).contains (.type B) = true := by rw [List.contains_cons, hT, F.hasB, Bool.or_true]
  have hcA : (Value.ref C :: bm).contains (.type "AttributeError") = false := by rw [List.contains_cons, hT, F.noAttr]; rfl
  have hcN : (Value.ref C :: bm).contains (.type "NameError") = false := by rw [List.contains_cons, hT, F.noName]; rfl
  have hrest : ([] : List Value).length ≤ sizeLine := by decide
  refine codeAny_builtinAt F.entry ?_
  unfold Builtin.«BaseException.__new__»
  refine wpAt_bind ?_
  show wpAt _ _ _ (stack >>= _) _ _ _
  refine wpAt_bind (wpAt_stack fun p below => wpAt_of_wpAny ?_)
  wp_walk
  refine wpAt_of_wpAny ?_
  rw [F.owner]
  repeat (first | with_reducible refine wpAny_madeHere_exc F.canon hC ?_ | with_reducible refine wpAny_loadPart_at hC ?_ | (with_reducible refine wpAny_isSubtype_exc hC ?_; first | rw [hcB] | rw [hcA] | rw [hcN]) | wp_step)
  show R _ _
  rw [Heap.size_push]
  exact hq
theorem type_call_kw (F : ExcBaseFacts B newId initId bmB) (hT : ∀ X : String, bm.contains (.type X) = bmB.contains (.type X)) {y : Str} {u : Value} {fI : Addr} {Q : Fin → Shared → Prop}
    (hC : h.get? C = some (excClassObj nm q C N bs bm hdct sn sub ab col dd k0 k1 k2 k3 k5 newId))
    (hi : W.Looks (model prog w) h (typeLookup (.ref C) "__init__") (some (.ref fI))) (hb : ∀ self, W.Looks (model prog w) h (bindSpecial (.ref fI) self) (.ref fI, [self]))
    (hq : codeAny (model prog w) A (.call (.ref fI) ⟨[.ref (h.objs.size + 1)], [(y, u)]⟩)
      (fun r s' => match r with | .ok (.ret v) => v = .none ∧ Q (.done (.ret (.ref (h.objs.size + 1)))) s' | .ok _ => False | .error e => E e s')
      ⟨(h.push (W.kdv_tup [])).push (excO C h.objs.size), g, d, t, os⟩) :
    wpAny (model prog w) A (Builtin.«type.__call__» ⟨[.ref C], [(y, u)]⟩) Q E ⟨h, g, d, t, os⟩ := by
  repeat (first | with_reducible refine wpAny_loadPart_at hC ?_ | with_reducible refine wpAny_madeBy_exc hC ?_ | wp_step)
  refine codeAny_call_builtin_code (Code.quiet_builtin _ F.quiet) (check_new_kw F hT hC ?_)
  refine new_kw F hT hC ?_
  show wpAny _ _ _ _ _ _
  have k : ∀ b o, h.get? b = some o → ((h.push (W.kdv_tup [])).push (excO C h.objs.size)).get? b = some o := fun b o e => Heap.get?_push_of_some _ (Heap.get?_push_of_some _ e)
  have hC₁ := k _ _ hC
  have hget : ((h.push (W.kdv_tup [])).push (excO C h.objs.size)).get? (h.objs.size + 1) = some (excO C h.objs.size) := by heap_get
  have hcC : (Value.ref C :: bm).contains (.ref C) = true := by simp
  have i1 := hi.keeps k
  have b1 := (hb (.ref (h.objs.size + 1))).keeps k
  unfold isInstance
  repeat (first | with_reducible refine wpAny_loadPart_at hget ?_ | (with_reducible refine wpAny_isSubtype_exc hC₁ ?_; rw [hcC]) | wp_step)
  show wpAny _ _ (typeLookup (.ref C) _) _ _ _
  refine i1.at ?_
  refine wpAny_holding (wpAny_bind (b1.at ?_))
  refine wpAny_bind (wpAny_call (codeAny_mono hq fun r s' z => ?_))
  rcases r with e | (v | _ | _ | _) <;> first | exact z | exact z.elim | skip
  obtain ⟨rfl, z⟩ := z
  first
    | exact wpAny_pure (wpAny_pure z)
    | (wp_walk; exact z)
theorem call_kw (F : ExcBaseFacts B newId initId bmB) (hT : ∀ X : String, bm.contains (.type X) = bmB.contains (.type X)) {y : Str} {u : Value} {fI : Addr}
    (hC : h.get? C = some (excClassObj nm q C N bs bm hdct sn sub ab col dd k0 k1 k2 k3 k5 newId))
    (hi : W.Looks (model prog w) h (typeLookup (.ref C) "__init__") (some (.ref fI))) (hb : ∀ self, W.Looks (model prog w) h (bindSpecial (.ref fI) self) (.ref fI, [self]))
    (hq : codeAny (model prog w) (A.under (.builtin "type.__call__" ⟨[.ref C], [(y, u)]⟩)) (.call (.ref fI) ⟨[.ref (h.objs.size + 1)], [(y, u)]⟩) (W.InitBack (h.objs.size + 1) R)
      ⟨(h.push (W.kdv_tup [])).push (excO C h.objs.size), g, d, t, os⟩) :
    codeAny (model prog w) A (.call (.ref C) ⟨[], [(y, u)]⟩) R ⟨h, g, d, t, os⟩ := by
  have f1 := tc_lookup
  have f2 := tc_bind (.ref C)
  have hTy : (⟨h, g, d, t, os⟩ : Shared).TypeIs (.ref C) "type" := ⟨_, hC, rfl⟩
  refine codeAny_of_tree ?_
  show wpAny _ _ (callAny (.ref C) _) _ _ _
  repeat (any_goals (first | assumption | with_reducible refine wpAny_loadPart_at hC ?_ | wp_step))
  refine ⟨rfl, ?_⟩
  refine codeAny_call_builtin_at (Code.quiet_builtin _ (by decide +kernel)) entry_typeCall (wpAny_check_type_call_sub hC (type_call_kw F hT hC hi hb ?_))
  refine codeAny_mono hq fun r s' z => ?_
  rcases r with e | (v | _ | _ | _) <;> exact z
end
end HandSPX
end PySem

/-! Dy85: exceptions of own classes over any base of Python's whose __init__ stores its one argument: made by position and by keyword. -/
namespace Dy
open PySem
open PySem.Spec
open PyProof.Rows hiding St
open L2
/-- such a class, told by Bool tests over the written part -/
structure OexG (K : PySem.W.Frag) (bmT : List Value) (newId : String) (C : Addr) : Prop where
  made : PySem.W.excInitIn K C bmT newId = true
  over : PySem.W.excOver K C bmT = true
  dct : PySem.W.hasDictIn K C = true
  sto : PySem.W.findIn K (.ref C) "__setattr__" = some (some (.builtin "object.__setattr__"))
  exc : PySem.W.subIn K (.ref C) (.type "BaseException") = some true
  typ : PySem.W.typeIn K (.ref C) = some (.type "type")
  kept : PySem.W.keepIn K (.ref C) = true
section
variable {bmT : List Value} {newId Bn : String}
variable {X : Cx} {pins : List (Addr × Obj)} {σ : St} {H : Hp} {s : Shared} {a C : Addr} {f : Str} {y : V} {u : Value} {Q : Unit → Shared → Prop} {E : Value → Shared → Prop} {A : Around}
/-- self.f = y on an exception without a dict -/
theorem first_storeG (SB : StoreFacts Bn bmT "object.__setattr__" "object") (T : OexG X.K bmT newId C) (I : Inv X pins σ H s) (e : H a = some (exo a C none)) (hno : PySem.W.findIn X.K (.ref C) f = some none) (ry : RelV y u)
    (h : ∀ dx s', H dx = none → dx ≠ a → Inv X pins σ (upd (upd H dx (exd dx [(f, y)])) a (exo a C (some dx))) s' → Q () s') : wpAny (model X.prog X.w) A (setAttr (.ref a) f u) Q E s := by
  obtain ⟨t1, ho⟩ := exo_at I.hok e
  obtain ⟨cd, hcd, hd⟩ := PySem.W.any_some T.dct
  have ht : PySem.W.takerIn X.K C f = some none := by
    unfold PySem.W.takerIn
    rw [hno]
    rfl
  have lt : a < s.heap.objs.size := Heap.lt_size ho
  have nn : s.heap.objs.size ≠ a := Nat.ne_of_gt lt
  have hdn : H s.heap.objs.size = none := I.hok.fresh (Nat.le_refl _)
  refine PySem.W.set_plain I.kIn (od := none) ⟨ho, rfl, rfl, trivial⟩ T.sto (PySem.W.osa_openX (od := none) SB I.kIn ⟨ho, rfl, rfl, trivial⟩ T.over ht fun b => ?_)
  show wpAny _ _ (Builtin.ObjectAttr.storeInOwnDict (.ref a) (.ref C) _ f u b) _ _ _
  refine wpAny_bind (wpAny_pure (wpAny_bind (PySem.W.instanceDict_exc ho (PySem.W.looks_clsIn I.kIn hcd) hd (PySem.HandSPX.store_in_new ?_ fun h' tk' hn hs => ?_))))
  · refine ⟨PySem.W.dictOf [] 0, #[], 0, ?_, rfl, fun _ z => absurd z (by simp), fun _ => rfl⟩
    rw [Heap.get?_update_ne _ _ _ _ nn]
    exact Heap.get?_push_size _ rfl
  · have old : ∀ b o, b ≠ a → s.heap.get? b = some o → h'.get? b = some o := fun b o hb q => by
      rw [hs.2 b (Nat.ne_of_lt (Heap.lt_size q)), Heap.get?_update_ne _ _ _ _ hb]
      exact Heap.get?_push_of_some _ q
    have hx : h'.get? a = some { cls := .ref C, dict := some s.heap.objs.size, data := .fields #[.ref t1, .none, .none, .none, .bool false, .none] } := by
      rw [hs.2 a nn.symm, Heap.get?_update_self _ (Heap.get?_push_of_some _ ho) rfl]
    exact h _ _ hdn nn (inv_dict (s := s) I e old (Heap.get?_none_of_le (Nat.le_refl _)) hdn nn hx hn (relO_put (fs := []) ry fun g => True.intro))
end
section
variable {bmT : List Value} {newId Bn : String}
variable {P : Program} {w : World} {K : PySem.W.Frag} {mg : Str → Option Value} {base : Heap} {x qual : Str} {params : Arguments} {body : List Stmt} {scope : Scope} {fd : FuncData} {s y f : Str} {C fI : Addr} {p1 p2 p3 pos : Pos} {CX : CXT}
/-- the one row of such an __init__ -/
theorem ini_rowG {X : Cx} (SB : StoreFacts Bn bmT "object.__setattr__" "object") (T : OexG X.K bmT newId C) (hno : PySem.W.findIn X.K (.ref C) f = some none) {to te : TE} {o e : Expr} (ho : PE X o to) (he : PE X e te) (hs : swapsWith e (some (.Attribute o f p2)) pos.line X.env = pure false := by rfl) :
    PS X (.Assign [.Attribute o f p2] e pos) (fun D σ H => te σ H fun z H1 => to σ H1 fun v H2 => ∃ a, v = .ref a ∧ H2 a = some (exo a C none) ∧ ∀ dx, H2 dx = none → dx ≠ a → D.nx σ (upd (upd H2 dx (exd dx [(f, z)])) a (exo a C (some dx)))) :=
  ⟨fun pins s σ H D I h => plainObj_wpAny_Assign_Attribute (wpAny_mono (he.run pins s σ H _ I h) (fun u s1 ⟨z, H1, I1, r1, q1⟩ => wpAny_mono (ho.run pins s1 σ H1 _ I1 q1) (fun v s2 ⟨w, H2, I2, r2, a, ew, ea, q⟩ => by
    subst ew
    obtain rfl : v = Value.ref a := r2
    exact first_storeG SB T I2 ea hno r1 fun dx s' n ne J => ⟨σ, _, J, q dx n ne⟩) fun _ _ z => z) fun _ _ z => z) hs⟩
theorem fn_initG (SB : StoreFacts Bn bmT "object.__setattr__" "object") (F : FunD K x qual params body scope [] [] fI fd) (S : FnScope [s, y] [s, y] scope) (T : OexG K bmT newId C) (hno : PySem.W.findIn K (.ref C) f = some none) (h0 : ∀ cdv A outer s1 H E, Vis (cxOf CX P w K mg base [s, y] qual scope fI cdv A outer s1 H E).env.scope s ∧ Vis (cxOf CX P w K mg base [s, y] qual scope fI cdv A outer s1 H E).env.scope y)
    (hd : (s == ("__debug__" : Str)) = false ∧ (s == ("__classdict__" : Str)) = false ∧ (y == ("__debug__" : Str)) = false ∧ (y == ("__classdict__" : Str)) = false)
    (hb : body = [.Assign [.Attribute (.Name s p1) f p2] (.Name y p3) pos]) : FnOk P w K mg base CX 1 fI fd [s, y] (spI C f) := by
  subst hb
  refine F.ok S (fun vs H Q E h => ?_) fun cdv A outer s1 H vs Q E hr h => ?_
  · obtain ⟨a, z, e, _⟩ := h
    rw [e]
    rfl
  · obtain ⟨a, z, e, ha, q⟩ := h
    subst e
    exact ⟨_, pss_one (ini_rowG SB T hno (pe_var (i := 0) rfl (h0 cdv A outer s1 H E).1 hd.1 hd.2.1) (pe_var (i := 1) rfl (h0 cdv A outer s1 H E).2 hd.2.2.1 hd.2.2.2)), z, rfl, .ref a, rfl, a, rfl, ha, q⟩
end
section
variable {bmT : List Value} {Bn newId initId : String} {yk : Str} {kp : Pos}
variable {X : Cx} {T : Tb} {W : WX} {e : Expr} {te : TE} {fe : SE Dm} {x f : Str} {C fI : Addr} {k : Nat} {fd : FuncData} {ps : List Str} {p pos pos' : Pos}
/-- C(e) -/
theorem pmk_oneG (FB : ExcBaseFacts Bn newId initId bmT) (T1 : OexG X.K bmT newId C) (iC : PySem.W.findIn X.K (.ref C) "__init__" = some (some (.ref fI))) (tI : PySem.W.typeIn X.K (.ref fI) = some (.type "function")) (F1 : FnOk X.prog X.w X.K X.mg X.base (L2N.CX X.prog X.w) k fI fd ps (spI C f)) (site : Site X (k + 1))
    (hb : Binds X.K fd ps []) (tk : L2N.Takes X W) (hg : Gl X x) (hm : X.mg x = some (.ref C)) (ha : PE X e te) (hdb : (x == ("__debug__" : Str)) = false := by decide) (he : starEach [e] X.env = (false, eval e X.env) :: starEach [] X.env := by rfl) :
    L2N.PMk X (.Call (.Name x p) [e] [] pos) (fun σ H Q => te σ H fun y H1 => ∀ d, H1 d = none → Q (.ref C) (some d) (upd H1 d (.xd [(f, y)]))) := by
  intro pins s σ H Q I h
  have h' : tCons te tNil σ H (fun vs H1 => ∃ z, vs = [z] ∧ ∀ d, H1 d = none → Q (.ref C) (some d) (upd H1 d (.xd [(f, z)]))) := by
    have e : (fun (y : V) H1 => ∀ d, H1 d = none → Q (.ref C) (some d) (upd H1 d (.xd [(f, y)]))) = fun y H1 => ∃ z, [y] = [z] ∧ ∀ d, H1 d = none → Q (.ref C) (some d) (upd H1 d (.xd [(f, z)])) := by
      funext y H1
      refine propext ⟨fun q => ⟨y, rfl, q⟩, fun ⟨z, ez, q⟩ => ?_⟩
      cases ez
      exact q
    rw [e] at h
    exact h
  refine wpAny_Call_Name_kw (ld_glob I hg hm ?_ hdb)
  refine PySem.W.callWith_K (h₀ := X.base) I.ok.mod.kin T1.kept (thn ((pa_cons ha pa_nil he).run pos pins s σ H (fun vs H1 => ∃ z, vs = [z] ∧ ∀ d, H1 d = none → Q (.ref C) (some d) (upd H1 d (.xd [(f, z)]))) I h') fun us s1 ⟨vs, H1, I1, r1, z, ez, q1⟩ => ⟨I1.kIn, ?_⟩) he rfl
  subst ez
  show wpAny _ _ (call (.ref C) us) _ _ _
  obtain ⟨hp, gs, dr, tk1, os⟩ := s1
  obtain ⟨c1, c2, c3, c4, bms, c5, c6, c7, c8, c9, l0, l1, l2, l3, l5, l6, hC, hbm⟩ := PySem.W.excInit_of I1.kIn T1.made
  generalize ea : hp.objs.size + 1 = a
  have hsz : hp.objs.size ≤ a := by omega
  have hn : H1 a = none := I1.hok.fresh hsz
  have hq : spI C f (.ref a :: [z]) (upd H1 a (exo a C none)) (fun v H2 => v = .non ∧ ∃ (d : Addr) (fs : List (Str × V)), H2 a = some (exo a C (some d)) ∧ H2 d = some (exd d fs) ∧ H1 d = none ∧ Q (.ref C) (some d) (upd (del H2 a) d (.xd fs))) (fun _ _ _ => False) :=
    ⟨a, z, rfl, upd_same, fun dx e1 ne => by
      rw [upd_ne ne] at e1
      refine ⟨rfl, dx, [(f, z)], upd_same, ?_, e1, ?_⟩
      · rw [upd_ne ne, upd_same]
      · rw [upd_del hn ne]
        exact q1 dx e1⟩
  have grow : ∀ b o, hp.get? b = some o → ((hp.push (PySem.W.kdv_tup us)).push (PySem.HandSPX.excO C hp.objs.size)).get? b = some o := fun b o y => Heap.get?_push_of_some _ (Heap.get?_push_of_some _ y)
  have lay : ((hp.push (PySem.W.kdv_tup us)).push (PySem.HandSPX.excO C hp.objs.size)).get? a = some (PySem.HandSPX.excO C hp.objs.size) := by
    rw [← ea]
    heap_get
  have I2 := I1.laid (t' := tk1) (a := a) (o := exo a C none) (h' := (hp.push (PySem.W.kdv_tup us)).push (PySem.HandSPX.excO C hp.objs.size)) grow hsz (exo_ok lay)
  have r2 : Vals (V.ref a :: [z]) (Value.ref a :: us) := .cons rfl r1
  have hl : (Value.ref a :: us ++ []).length = ps.length := by
    have y1 := r2.length
    have y2 := F1.len _ _ _ _ hq
    rw [List.append_nil]
    omega
  have hus : us.length ≤ sizeLine := by
    have y1 := Paired.length r1
    rw [← y1]
    show 1 ≤ sizeLine
    decide
  have bnd := hb _ (Value.ref a :: us) I2.kIn hl
  rw [List.append_nil] at bnd
  subst ea
  refine wpAny_call (PySem.HandSPX.call_own FB hbm hC (PySem.W.looks_findIn I1.kIn iC) (fun self => PySem.W.bind_fn I1.kIn self tI) hus
    (codeAny_mono (F1.run _ X.stack _ _ ⟨Value.ref (hp.objs.size + 1) :: us, []⟩ _ _ _ (fun _ _ _ => False) (site.room.make C us []) (I2.env0.make C us []) bnd r2 hq) fun r s' back => ?_))
  cases r with
  | error er => exact L2N.passes_call tk (fun _ _ _ _ w => w.elim) pins σ _ _ er s' I2 back
  | ok fl =>
    cases fl with
    | ret u =>
      obtain ⟨v, H2, os2, bare2, un2, hok2, rv, ev, d, fs, y1, y2, hd1, q2⟩ := back
      subst ev
      obtain ⟨h2, g2, d2, t2, os'⟩ := s'
      obtain ⟨t0, G, J, kG, ge, hoe, na⟩ := mk_end0 (d2 := d2) (t2 := t2) I1 hsz grow un2 hok2 os2 bare2 y1 y2 hd1
      refine ⟨rv, hp.objs.size + 1, _, _, ⟨G, g2, d2, t2, os'⟩, _, .ref C, some d, rfl, J, kG, ge, hoe, ⟨rfl, rfl, fun ws hv => ?_⟩, rfl, rfl, na, rfl, bare2, raises_own T1.exc T1.typ, q2⟩
      cases hv
      rfl
    | next => exact False.elim back
    | brk => exact False.elim back
    | cont => exact False.elim back
/-- C(y=e) -/
theorem pmk_kwG (FB : ExcBaseFacts Bn newId initId bmT) (T1 : OexG X.K bmT newId C) (iC : PySem.W.findIn X.K (.ref C) "__init__" = some (some (.ref fI))) (tI : PySem.W.typeIn X.K (.ref fI) = some (.type "function")) (F1 : FnOk X.prog X.w X.K X.mg X.base (L2N.CX X.prog X.w) k fI fd ps (spI C f)) (site : Site X (k + 1))
    (hb : ∀ (s : Shared) (v u : Value), X.K.In s.heap → BindsTo s fd ⟨[v], [(yk, u)]⟩ (ps.zip [v, u])) (tk : L2N.Takes X W) (hg : Gl X x) (hm : X.mg x = some (.ref C)) (ha : PE X e te) (hdb : (x == ("__debug__" : Str)) = false := by decide) :
    L2N.PMk X (.Call (.Name x p) [] [⟨some yk, e, kp⟩] pos) (fun σ H Q => te σ H fun y H1 => ∀ d, H1 d = none → Q (.ref C) (some d) (upd H1 d (.xd [(f, y)]))) := by
  intro pins s σ H Q I h
  refine wpAny_Call_Name_kw (ld_glob I hg hm ?_ hdb)
  refine PySem.W.callWith_KW0 (h₀ := X.base) I.ok.mod.kin T1.kept kw_all (kw_one (thn (ha.run pins s σ H (fun z H1 => ∀ d, H1 d = none → Q (.ref C) (some d) (upd H1 d (.xd [(f, z)]))) I h) fun u s1 hh => ?_)) rfl
  obtain ⟨z, H1, I1, r1, q1⟩ := hh
  refine ⟨I1.kIn, ?_⟩
  show wpAny _ _ (call (.ref C) [] [(yk, u)]) _ _ _
  obtain ⟨hp, gs, dr, tk1, os⟩ := s1
  obtain ⟨c1, c2, c3, c4, bms, c5, c6, c7, c8, c9, l0, l1, l2, l3, l5, l6, hC, hbm⟩ := PySem.W.excInit_of I1.kIn T1.made
  generalize ea : hp.objs.size + 1 = a
  have hsz : hp.objs.size ≤ a := by omega
  have hn : H1 a = none := I1.hok.fresh hsz
  have hq : spI C f (.ref a :: [z]) (upd H1 a (exo a C none)) (fun v H2 => v = .non ∧ ∃ (d : Addr) (fs : List (Str × V)), H2 a = some (exo a C (some d)) ∧ H2 d = some (exd d fs) ∧ H1 d = none ∧ Q (.ref C) (some d) (upd (del H2 a) d (.xd fs))) (fun _ _ _ => False) :=
    ⟨a, z, rfl, upd_same, fun dx e1 ne => by
      rw [upd_ne ne] at e1
      refine ⟨rfl, dx, [(f, z)], upd_same, ?_, e1, ?_⟩
      · rw [upd_ne ne, upd_same]
      · rw [upd_del hn ne]
        exact q1 dx e1⟩
  have grow : ∀ b o, hp.get? b = some o → ((hp.push (PySem.W.kdv_tup [])).push (PySem.HandSPX.excO C hp.objs.size)).get? b = some o := fun b o y => Heap.get?_push_of_some _ (Heap.get?_push_of_some _ y)
  have lay : ((hp.push (PySem.W.kdv_tup [])).push (PySem.HandSPX.excO C hp.objs.size)).get? a = some (PySem.HandSPX.excO C hp.objs.size) := by
    rw [← ea]
    heap_get
  have I2 := I1.laid (t' := tk1) (a := a) (o := exo a C none) (h' := (hp.push (PySem.W.kdv_tup [])).push (PySem.HandSPX.excO C hp.objs.size)) grow hsz (exo_ok lay)
  have r2 : Vals [V.ref a, z] [Value.ref a, u] := .cons rfl (.cons r1 .nil)
  have bnd := hb _ (Value.ref a) u I2.kIn
  subst ea
  refine wpAny_call (PySem.HandSPX.call_kw FB hbm hC (PySem.W.looks_findIn I1.kIn iC) (fun self => PySem.W.bind_fn I1.kIn self tI)
    (codeAny_mono (F1.run _ X.stack _ _ ⟨[Value.ref (hp.objs.size + 1)], [(yk, u)]⟩ _ _ _ (fun _ _ _ => False) (site.room.make C [] [(yk, u)]) (I2.env0.make C [] [(yk, u)]) bnd r2 hq) fun r s' back => ?_))
  cases r with
  | error er => exact L2N.passes_call tk (fun _ _ _ _ w => w.elim) pins σ _ _ er s' I2 back
  | ok fl =>
    cases fl with
    | ret u9 =>
      obtain ⟨v, H2, os2, bare2, un2, hok2, rv, ev, d, fs, y1, y2, hd1, q2⟩ := back
      subst ev
      obtain ⟨h2, g2, d2, t2, os'⟩ := s'
      obtain ⟨t0, G, J, kG, ge, hoe, na⟩ := mk_end0 (d2 := d2) (t2 := t2) I1 hsz grow un2 hok2 os2 bare2 y1 y2 hd1
      refine ⟨rv, hp.objs.size + 1, _, _, ⟨G, g2, d2, t2, os'⟩, _, .ref C, some d, rfl, J, kG, ge, hoe, ⟨rfl, rfl, fun ws hv => ?_⟩, rfl, rfl, na, rfl, bare2, raises_own T1.exc T1.typ, q2⟩
      cases hv
      rfl
    | next => exact False.elim back
    | brk => exact False.elim back
    | cont => exact False.elim back
end
end Dy

/-! Dy86: exceptions without attributes as data; the rules for making exceptions. -/
namespace L2N
open PySem PySem.Spec PyProof.Rows L2
section
variable {X : Cx} {C : Addr} {bmB : List Value} {B newId initId : String}
/-- X() -/
theorem pmk_own0 {x : Str} {p pos : Pos} (F : ExcBaseFacts B newId initId bmB) (q : PySem.W.excIn X.K C bmB newId = true) (gC : X.mg x = some (.ref C)) (kC : PySem.W.keepIn X.K (.ref C) = true) (r : Raises X (.ref C)) (hg : Gl X x)
    (hdb : (x == ("__debug__" : Str)) = false := by decide) : PMk X (.Call (.Name x p) [] [] pos) (fun _ H Q => Q (.ref C) none H) := by
  intro pins s σ H Q I h
  refine wpAny_Call_Name_kw (ld_glob I hg gC ?_ hdb)
  refine PySem.W.callWith_K0 I.kIn kC ?_
  show wpAny _ _ (call (.ref C) []) _ _ _
  obtain ⟨bm, N, nm, qn, bs, hdct, sn, sub, ab, col, dd, k0, k1, k2, k3, k5, mN, hC, hN, hni, T⟩ := exc_obj I.kIn q
  refine wpAny_call_exc_subT F T hC hN hni (fun h' e hm => ?_) (by show 0 ≤ sizeLine; exact Nat.zero_le _)
  exact mk_of I hm r h (I.hok.gone hm.new)
end
end L2N
namespace Dy
open PySem
open PySem.Spec
open PyProof.Rows hiding St
open L2
section
variable {X : Cx} {T : Tb} {W : WX} {e : Expr} {fe : SE Dm} {C : Addr} {f : Str} {pos : Pos}
theorem de_mkE0 {Cn : Str} (mk : L2N.PMk X e (fun _ H Q => Q (.ref C) none H)) (hm : X.mg Cn = some (.ref C)) : DE X T W e (sMkE0 Cn) :=
  ⟨fun pins s σ H Q I ⟨B, im, ow, r, M, S, P⟩ => by
    refine wpAny_mono (mk pins s σ H (fun cls d H' => cls = .ref C ∧ d = none ∧ H' = H) I ⟨rfl, rfl, rfl⟩) (fun u s1 hu => ?_) fun _ _ x => x
    obtain ⟨a, oe, vs, sI, H', cls, d, rfl, J, k, hne, ha, hz, hd, h1, na, os, ag, _, rfl, rfl, rfl⟩ := hu
    have I2 := Inv.made J k hne ha hz.zc hd h1 na os ag
    refine ⟨.ref a, _, I2, rfl, ?_⟩
    exact Post.new P S na (.exc (d := none) (xs := []) hm upd_same (S.fresh na) rfl (fun x hx => nomatch hx) .nil)⟩
/-- what making C(..) asks of the written part -/
structure MkX (K : PySem.W.Frag) (bmT : List Value) (newId : String) (C : Addr) (f : Str) (fI : Addr) : Prop where
  o : OexG K bmT newId C
  ini : PySem.W.findIn K (.ref C) "__init__" = some (some (.ref fI))
  ty : PySem.W.typeIn K (.ref fI) = some (.type "function")
  no : PySem.W.findIn K (.ref C) f = some none
def mkXB (K : PySem.W.Frag) (bmT : List Value) (newId : String) (x f : Str) (fI : Addr) : Bool := PySem.W.excInitIn K (He.ga K x) bmT newId && (PySem.W.excOver K (He.ga K x) bmT && (PySem.W.hasDictIn K (He.ga K x) && (He.eqO (PySem.W.findIn K (.ref (He.ga K x)) "__setattr__") (some (some (.builtin "object.__setattr__"))) && (decide (PySem.W.subIn K (.ref (He.ga K x)) (.type "BaseException") = some true) && (decide (PySem.W.typeIn K (.ref (He.ga K x)) = some (.type "type")) &&
  (PySem.W.keepIn K (.ref (He.ga K x)) && (He.eqO (PySem.W.findIn K (.ref (He.ga K x)) "__init__") (some (some (.ref fI))) && (decide (PySem.W.typeIn K (.ref fI) = some (.type "function")) && He.eqO (PySem.W.findIn K (.ref (He.ga K x)) f) (some none)))))))))
theorem mkXB_ok {K : PySem.W.Frag} {bmT : List Value} {newId : String} {x f : Str} {fI : Addr} (h : mkXB K bmT newId x f fI = true) : MkX K bmT newId (He.ga K x) f fI := by
  unfold mkXB at h
  simp only [Bool.and_eq_true, decide_eq_true_eq] at h
  obtain ⟨h1, h2, h3, h4, h5, h6, h7, h8, h9, h10⟩ := h
  exact ⟨⟨h1, h2, h3, He.eqO_ok h4, h5, h6, h7⟩, He.eqO_ok h8, h9, He.eqO_ok h10⟩
variable {bmT : List Value} {Bn newId initId : String} {yk x : Str} {kp p : Pos} {fI : Addr} {fd : FuncData} {ps : List Str}
theorem de_mkP (FB : ExcBaseFacts Bn newId initId bmT) (R : MkX X.K bmT newId C f fI) (F1 : FnOk X.prog X.w X.K X.mg X.base (L2N.CX X.prog X.w) 1 fI fd ps (spI C f)) (hb : BindsP X.K fd ps) (site : Site X 2) (tk : L2N.Takes X W) (hg : Gl X x) (hm : X.mg x = some (.ref C)) (he : DE X T W e fe)
    (hdb : (x == ("__debug__" : Str)) = false := by decide) (hst : starEach [e] X.env = (false, eval e X.env) :: starEach [] X.env := by rfl) :
    DE X T W (.Call (.Name x p) [e] [] pos) (sMkE x f fe) :=
  de_mkE (pmk_oneG FB R.o R.ini R.ty F1 site (fun s us h1 h2 => by
    rw [List.append_nil] at h2 ⊢
    exact hb s us h1 h2) tk hg hm he hdb hst) hm
theorem de_mkK (FB : ExcBaseFacts Bn newId initId bmT) (R : MkX X.K bmT newId C f fI) (F1 : FnOk X.prog X.w X.K X.mg X.base (L2N.CX X.prog X.w) 1 fI fd ps (spI C f)) (hb : ∀ (s : Shared) (v u : Value), X.K.In s.heap → BindsTo s fd ⟨[v], [(yk, u)]⟩ (ps.zip [v, u])) (site : Site X 2) (tk : L2N.Takes X W) (hg : Gl X x) (hm : X.mg x = some (.ref C)) (he : DE X T W e fe)
    (hdb : (x == ("__debug__" : Str)) = false := by decide) :
    DE X T W (.Call (.Name x p) [] [⟨some yk, e, kp⟩] pos) (sMkE x f fe) :=
  de_mkE (pmk_kwG FB R.o R.ini R.ty F1 site hb tk hg hm he hdb) hm
end
end Dy

/-! Dy87: displays of dicts with constant keys and values; repr of a dict with one entry. -/
namespace Dy
open PySem
open PySem.Spec
open PyProof.Rows hiding St
open L2
section
variable {X : Cx} {T : Tb} {W : WX} {pos : Pos}
/-- what a display of constants is -/
def fDicC (ds : List (Key × Dm)) : SE MO := fun _ M => .ok (.dic ds) M
theorem pairs_const : ∀ (kvs : List (Key × V)) (σ : L2.St) (H : Hp) (Q : List (V × V) → Hp → Prop), Q (kvs.map fun kv => (kV kv.1, kv.2)) H → tPairs (kvs.map fun kv => (tC (kV kv.1), tC kv.2)) σ H Q
  | [], _, _, _, h => h
  | kv :: kvs, σ, H, Q, h => pairs_const kvs σ H (fun ps H3 => Q ((kV kv.1, kv.2) :: ps) H3) h
theorem df_dicC {keys : List (Option Expr)} {values : List Expr} {ds : List (Key × Dm)} (kvs : List (Key × V)) (h : PPs X pos keys values (kvs.map fun kv => (tC (kV kv.1), tC kv.2))) (hr : ∀ N im H, RepK (gm X T) N im H kvs ds) (hm : mergeK [] kvs = kvs) (h15 : kvs.length ≤ 15)
    (hall : keys.all (·.isSome) = true) (hl : keys.length = values.length) (h0 : keys ≠ []) (hk : keys.length ≤ 15) : DF X T W (.Dict keys values pos) (fDicC ds) :=
  pe_le (pe_disp h hall hl h0 hk) fun σ H Q ⟨B, im, ow, r, M, S, P⟩ p hp => pairs_const kvs σ _ _ ⟨upd_same, kvs, rfl, h15, by
    have e : upd (upd H p (.dK [])) p (.dK (mergeK [] kvs)) = upd H p (.dK kvs) := by
      rw [hm]
      funext b
      by_cases hb : b = p
      · rw [hb, upd_same, upd_same]
      · rw [upd_ne hb, upd_ne hb, upd_ne hb]
    rw [e]
    exact P p im _ (New.of_new S hp (fun ps z => by cases z) ⟨kvs, upd_same, hr _ _ _⟩) (Ext.new hp) (List.prefix_refl _) (S.frh hp)⟩
/-! repr -/
def d1P (k : Str) (i : Int) : PyData := .dict [(.str k, .int i)]
def rRepD1 : List V → Hp → VK → Prop := fun xs H Q => ∃ p k i, xs = [.ref p] ∧ H p = some (.dK [(.inr k, .int i)]) ∧ (d1P k i).showable = true ∧ (d1P k i).shown.length ≤ sizeLine ∧ Q (.str (d1P k i).shown) H
theorem call_repD1 (hG : X.A.guards = some []) (hu : X.A.units + 64 < cLine) : CallR X (.builtin "repr") rRepD1 := fun pins s σ H xs us Q I r w => by
  obtain ⟨p, k, i, rfl, hk, hs, hz, q⟩ := w
  obtain ⟨u, rfl, ru⟩ := vals1 r
  obtain rfl : u = Value.ref p := ru
  obtain ⟨z, lo, vs, rk, o, es, ep, ho, hx, hd, _, pr, _⟩ := (show ObjOk X.prog X.w H s.heap p (.dK [(.inr k, .int i)]) from I.hok p _ hk)
  cases rk with
  | @cons _ kv1 _ _ hkv rkt =>
    cases rkt
    obtain ⟨kq, vq⟩ := kv1
    obtain ⟨e1, e2⟩ := hkv
    dsimp only at e1 e2
    subst e1
    obtain ⟨tv, rfl⟩ := (show ∃ t, vq = Value.int i t from e2)
    have hes : ∃ en : DictEntry, es.toList = [en] ∧ (∃ t, en.key = .str k t) ∧ en.val = .int i tv := by
      generalize es.toList = l at pr
      cases pr with
      | @cons en _ es' _ hk0 h1 ht =>
        cases ht
        have hk1 : keyIs (.inr k) en.key = true := hk0
        rcases keyIs_shape hk1 with ⟨j, t, hj, _⟩ | ⟨x, t, hx2, hy⟩
        · cases hj
        · cases hx2
          exact ⟨en, rfl, ⟨t, hy⟩, h1⟩
    obtain ⟨en, he, ⟨tk0, ek⟩, ev⟩ := hes
    have rd : Reads s.heap (.ref p) (d1P k i) (p :: ([] ++ []) ++ ([] ++ [])) := .dict ho hx.1 hd (by
      rw [he]
      show ReadsAll s.heap [en.key] [.str k] _
      rw [ek]
      exact .cons (.str _ _) .nil) (by
      rw [he]
      show ReadsAll s.heap [en.val] [.int i] _
      rw [ev]
      exact .cons (.int _ _) .nil)
    have dp : (d1P k i).depth ≤ 60 := by
      unfold d1P
      simp [PyData.depth, PyData.depthKv]
    have hu2 : X.A.units + ((d1P k i).depth + 1) < cLine := by omega
    refine repr_of_reads' (h₀ := s.heap) rd hs (fun _ hm => ?_) hG hu2 (fun _ _ e => e) (fun h' t tk hk => ⟨.str _, H, I.kept (t' := tk) hk, ⟨_, rfl⟩, q⟩) hz
    have e : sysModules = p := by simpa using hm
    rw [e] at lo
    simp at lo
/-- repr: dicts with one entry too -/
def oReprG : List Dm → Mem → R Dm
  | [.dic [(.inr k, .int i)]], M => if (d1P k i).showable = true ∧ (d1P k i).shown.length ≤ sizeLine then .ok (.str (d1P k i).shown) M else .bad
  | ds, M => oReprE ds M
theorem call_reprG (ut : Ut X) : CallR X (.builtin "repr") (fun xs H Q => (rRepr X.K xs H Q ∨ rRepE xs H Q) ∨ rRepD1 xs H Q) := fun pins s σ H xs us Q I r w => w.elim (call_reprE ut pins s σ H xs us Q I r) (call_repD1 ut.gu (by have := ut.un; omega) pins s σ H xs us Q I r)
theorem c_reprG : SoundC X T W (fun xs H Q => (rRepr X.K xs H Q ∨ rRepE xs H Q) ∨ rRepD1 xs H Q) oReprG := fun B im ow r M σ H xs vs Q S rs P => by
  unfold oReprG at P
  split at P
  · split at P
    · rename_i hc
      cases rs with
      | cons q rs =>
        cases rs
        cases q with
        | dic h n k =>
          cases k with
          | cons q2 k =>
            cases k
            cases q2
            exact .inr ⟨_, _, _, rfl, h, hc.1, hc.2, P.here S (.str _)⟩
    · exact P.elim
  · exact .inl (c_reprE B im ow r M σ H xs vs Q S rs P)
theorem f_reprG (ut : Ut X) (hg : Gl X "repr") (hm : X.mg "repr" = none) {h : SE (List Dm)} {a : Expr} {es : List Expr} {q : Pos} (ha : DA X T W (a :: es) h) (he : starEach (a :: es) X.env = (false, eval a X.env) :: starEach es X.env := by rfl) (hpl : (backTo pos (starEach es X.env)).any (·.1) = false := by rfl) :
    DE X T W (.Call (.Name "repr" q) (a :: es) [] pos) (sCall oReprG h) := de_callB (call_reprG ut) c_reprG hg hm rfl ha (by decide) (by decide) he hpl
theorem bindsK {K : PySem.W.Frag} {x qual yk : Str} {params : Arguments} {body : List Stmt} {scope : Scope} {kws : List (Str × V)} {f : Addr} {fd : FuncData} {ps : List Str} (F : FunD K x qual params body scope [] kws f fd)
    (h : ∀ (kV doc pm : Value) (an : Option Addr) (cdv ct v u : Value), bindArgs (PySem.W.fnOf x qual params body scope .none kV doc pm an cdv ct) ⟨[v], [(yk, u)]⟩ = pure (ps.zip [v, u])) : ∀ (s : Shared) (v u : Value), K.In s.heap → BindsTo s fd ⟨[v], [(yk, u)]⟩ (ps.zip [v, u]) := by
  obtain ⟨oc, od, dV, kV, doc, pm, an, cdv, ct, osl, rfl, lk, hcd, hD, hK⟩ := F.ex
  rcases hD with ⟨_, rfl⟩ | ⟨e, _⟩
  · exact fun s v u _ => .of_eq (h kV doc pm an cdv ct v u)
  · exact absurd rfl e
/-- what stands above such a class -/
abbrev exT (b : String) : List Value := [.type b, .type "Exception", .type "BaseException", .type "object"]
/-! what is asked of classes -/
def ex0B (K : PySem.W.Frag) (bmT : List Value) (newId : String) (x : Str) : Bool := PySem.W.excIn K (He.ga K x) bmT newId && (PySem.W.keepIn K (.ref (He.ga K x)) && (decide (PySem.W.subIn K (.ref (He.ga K x)) (.type "BaseException") = some true) && decide (PySem.W.typeIn K (.ref (He.ga K x)) = some (.type "type"))))
variable {bmT : List Value} {Bn newId initId : String} {x : Str} {p : Pos}
theorem de_mk0 (FB : ExcBaseFacts Bn newId initId bmT) (h : ex0B X.K bmT newId x = true) (hg : Gl X x) (hm : X.mg x = some (.ref (He.ga X.K x))) (hdb : (x == ("__debug__" : Str)) = false := by decide) : DE X T W (.Call (.Name x p) [] [] pos) (sMkE0 x) := by
  unfold ex0B at h
  simp only [Bool.and_eq_true, decide_eq_true_eq] at h
  obtain ⟨h1, h2, h3, h4⟩ := h
  exact de_mkE0 (L2N.pmk_own0 FB h1 hm h2 (raises_own h3 h4) hg hdb) hm
theorem xe_ok {K : PySem.W.Frag} {mg : Str → Option Value} {ks : List (Str × Bool)} {fs cs : List Str} {f : Str} (h : xfAll K ks fs = true) (hg : GlAll K mg cs) (hs : (cs.all fun c => ks.any fun q => decide (q.1 = c)) = true) (hf : f ∈ fs) : ∀ C ∈ cs, ∀ Ca, mg C = some (.ref Ca) → XfC K Ca ∧ PySem.W.findIn K (.ref Ca) f = some none := fun C hC Ca hm => by
  obtain ⟨q, hq, e⟩ := List.any_eq_true.mp (List.all_eq_true.mp hs C hC)
  have e := of_decide_eq_true e
  obtain ⟨c, b⟩ := q
  dsimp only at e
  subst e
  have := hg c hC
  rw [this] at hm
  cases hm
  exact ⟨xfAll_x h hq, xfAll_no h hq hf⟩
end
end Dy


namespace W01
open PySem
open PySem.Spec
open L2
open Dy
def top (i : Nat) : Stmt := PySem.Challenge.pw_glimpserounds_k01_constants_and_errors.main.body.getD i (.Pass ⟨0, 0, 0, 0⟩)
def kx : List (Str × Bool) := [("UnknownName", true), ("OtherKind", true), ("InUse", true), ("TooMany", true), ("Broken", true), ("NothingToUndo", true), ("WrongValue", true), ("WrongName", true), ("NoAnswer", true), ("NotASign", true), ("NotARecord", true), ("InvalidWidth", true), ("InvalidPlace", true), ("InvalidLength", true), ("InvalidDead", true), ("InvalidPaces", true), ("InvalidGroups", true), ("InvalidText", true), ("InvalidPace", true), ("InvalidTime", true), ("InvalidWindow", true), ("InvalidName", true), ("InvalidClaim", true), ("InvalidIndex", true), ("InvalidLine", true), ("InvalidTimes", true), ("InvalidDeeds", true)]
def an1 : List (Str × List (Str × Bool)) := [("UnknownName", [("NotASign", false), ("NotARecord", false), ("InvalidText", false), ("InvalidPace", false), ("NothingToUndo", false), ("WrongValue", false), ("WrongName", true), ("NoAnswer", false), ("InvalidWidth", false), ("InvalidPlace", false), ("InvalidLength", false), ("InvalidTime", false), ("InvalidWindow", false), ("InvalidName", false), ("InvalidClaim", false), ("InvalidIndex", false), ("InvalidLine", false), ("InvalidDead", false), ("InvalidPaces", false), ("InvalidGroups", false), ("InvalidTimes", false), ("InvalidDeeds", false), ("UnknownName", true), ("InUse", false), ("TooMany", false), ("OtherKind", false), ("Broken", false)]), ("OtherKind", [("NotASign", false), ("NotARecord", false), ("InvalidText", false), ("InvalidPace", false), ("NothingToUndo", false), ("WrongValue", false), ("WrongName", false), ("NoAnswer", true), ("InvalidWidth", false), ("InvalidPlace", false), ("InvalidLength", false), ("InvalidTime", false), ("InvalidWindow", false), ("InvalidName", false), ("InvalidClaim", false), ("InvalidIndex", false), ("InvalidLine", false), ("InvalidDead", false), ("InvalidPaces", false), ("InvalidGroups", false), ("InvalidTimes", false), ("InvalidDeeds", false), ("UnknownName", false), ("InUse", false), ("TooMany", false), ("OtherKind", true), ("Broken", false)]), ("InUse", [("NotASign", false), ("NotARecord", false), ("InvalidText", false), ("InvalidPace", false), ("NothingToUndo", false), ("WrongValue", false), ("WrongName", true), ("NoAnswer", false), ("InvalidWidth", false), ("InvalidPlace", false), ("InvalidLength", false), ("InvalidTime", false), ("InvalidWindow", false), ("InvalidName", false), ("InvalidClaim", false), ("InvalidIndex", false), ("InvalidLine", false), ("InvalidDead", false), ("InvalidPaces", false), ("InvalidGroups", false), ("InvalidTimes", false), ("InvalidDeeds", false), ("UnknownName", false), ("InUse", true), ("TooMany", false), ("OtherKind", false), ("Broken", false)]), ("TooMany", [("NotASign", false), ("NotARecord", false), ("InvalidText", false), ("InvalidPace", false), ("NothingToUndo", false), ("WrongValue", false), ("WrongName", false), ("NoAnswer", true), ("InvalidWidth", false), ("InvalidPlace", false), ("InvalidLength", false), ("InvalidTime", false), ("InvalidWindow", false), ("InvalidName", false), ("InvalidClaim", false), ("InvalidIndex", false), ("InvalidLine", false), ("InvalidDead", false), ("InvalidPaces", false), ("InvalidGroups", false), ("InvalidTimes", false), ("InvalidDeeds", false), ("UnknownName", false), ("InUse", false), ("TooMany", true), ("OtherKind", false), ("Broken", false)]), ("Broken", [("NotASign", false), ("NotARecord", false), ("InvalidText", false), ("InvalidPace", false), ("NothingToUndo", false), ("WrongValue", false), ("WrongName", false), ("NoAnswer", true), ("InvalidWidth", false), ("InvalidPlace", false), ("InvalidLength", false), ("InvalidTime", false), ("InvalidWindow", false), ("InvalidName", false), ("InvalidClaim", false), ("InvalidIndex", false), ("InvalidLine", false), ("InvalidDead", false), ("InvalidPaces", false), ("InvalidGroups", false), ("InvalidTimes", false), ("InvalidDeeds", false), ("UnknownName", false), ("InUse", false), ("TooMany", false), ("OtherKind", false), ("Broken", true)]), ("NothingToUndo", [("NotASign", false), ("NotARecord", false), ("InvalidText", false), ("InvalidPace", false), ("NothingToUndo", true), ("WrongValue", false), ("WrongName", false), ("NoAnswer", true), ("InvalidWidth", false), ("InvalidPlace", false), ("InvalidLength", false), ("InvalidTime", false), ("InvalidWindow", false), ("InvalidName", false), ("InvalidClaim", false), ("InvalidIndex", false), ("InvalidLine", false), ("InvalidDead", false), ("InvalidPaces", false), ("InvalidGroups", false), ("InvalidTimes", false), ("InvalidDeeds", false), ("UnknownName", false), ("InUse", false), ("TooMany", false), ("OtherKind", false), ("Broken", false)]), ("WrongValue", [("NotASign", false), ("NotARecord", false), ("InvalidText", false), ("InvalidPace", false), ("NothingToUndo", false), ("WrongValue", true), ("WrongName", false), ("NoAnswer", false), ("InvalidWidth", false), ("InvalidPlace", false), ("InvalidLength", false), ("InvalidTime", false), ("InvalidWindow", false), ("InvalidName", false), ("InvalidClaim", false), ("InvalidIndex", false), ("InvalidLine", false), ("InvalidDead", false), ("InvalidPaces", false), ("InvalidGroups", false), ("InvalidTimes", false), ("InvalidDeeds", false), ("UnknownName", false), ("InUse", false), ("TooMany", false), ("OtherKind", false), ("Broken", false)]), ("WrongName", [("NotASign", false), ("NotARecord", false), ("InvalidText", false), ("InvalidPace", false), ("NothingToUndo", false), ("WrongValue", false), ("WrongName", true), ("NoAnswer", false), ("InvalidWidth", false), ("InvalidPlace", false), ("InvalidLength", false), ("InvalidTime", false), ("InvalidWindow", false), ("InvalidName", false), ("InvalidClaim", false), ("InvalidIndex", false), ("InvalidLine", false), ("InvalidDead", false), ("InvalidPaces", false), ("InvalidGroups", false), ("InvalidTimes", false), ("InvalidDeeds", false), ("UnknownName", false), ("InUse", false), ("TooMany", false), ("OtherKind", false), ("Broken", false)]), ("NoAnswer", [("NotASign", false), ("NotARecord", false), ("InvalidText", false), ("InvalidPace", false), ("NothingToUndo", false), ("WrongValue", false), ("WrongName", false), ("NoAnswer", true), ("InvalidWidth", false), ("InvalidPlace", false), ("InvalidLength", false), ("InvalidTime", false), ("InvalidWindow", false), ("InvalidName", false), ("InvalidClaim", false), ("InvalidIndex", false), ("InvalidLine", false), ("InvalidDead", false), ("InvalidPaces", false), ("InvalidGroups", false), ("InvalidTimes", false), ("InvalidDeeds", false), ("UnknownName", false), ("InUse", false), ("TooMany", false), ("OtherKind", false), ("Broken", false)]), ("NotASign", [("NotASign", true), ("NotARecord", false), ("InvalidText", false), ("InvalidPace", false), ("NothingToUndo", false), ("WrongValue", true), ("WrongName", false), ("NoAnswer", false), ("InvalidWidth", false), ("InvalidPlace", false), ("InvalidLength", false), ("InvalidTime", false), ("InvalidWindow", false), ("InvalidName", false), ("InvalidClaim", false), ("InvalidIndex", false), ("InvalidLine", false), ("InvalidDead", false), ("InvalidPaces", false), ("InvalidGroups", false), ("InvalidTimes", false), ("InvalidDeeds", false), ("UnknownName", false), ("InUse", false), ("TooMany", false), ("OtherKind", false), ("Broken", false)]), ("NotARecord", [("NotASign", false), ("NotARecord", true), ("InvalidText", false), ("InvalidPace", false), ("NothingToUndo", false), ("WrongValue", true), ("WrongName", false), ("NoAnswer", false), ("InvalidWidth", false), ("InvalidPlace", false), ("InvalidLength", false), ("InvalidTime", false), ("InvalidWindow", false), ("InvalidName", false), ("InvalidClaim", false), ("InvalidIndex", false), ("InvalidLine", false), ("InvalidDead", false), ("InvalidPaces", false), ("InvalidGroups", false), ("InvalidTimes", false), ("InvalidDeeds", false), ("UnknownName", false), ("InUse", false), ("TooMany", false), ("OtherKind", false), ("Broken", false)]), ("InvalidWidth", [("NotASign", false), ("NotARecord", false), ("InvalidText", false), ("InvalidPace", false), ("NothingToUndo", false), ("WrongValue", true), ("WrongName", false), ("NoAnswer", false), ("InvalidWidth", true), ("InvalidPlace", false), ("InvalidLength", false), ("InvalidTime", false), ("InvalidWindow", false), ("InvalidName", false), ("InvalidClaim", false), ("InvalidIndex", false), ("InvalidLine", false), ("InvalidDead", false), ("InvalidPaces", false), ("InvalidGroups", false), ("InvalidTimes", false), ("InvalidDeeds", false), ("UnknownName", false), ("InUse", false), ("TooMany", false), ("OtherKind", false), ("Broken", false)]), ("InvalidPlace", [("NotASign", false), ("NotARecord", false), ("InvalidText", false), ("InvalidPace", false), ("NothingToUndo", false), ("WrongValue", true), ("WrongName", false), ("NoAnswer", false), ("InvalidWidth", false), ("InvalidPlace", true), ("InvalidLength", false), ("InvalidTime", false), ("InvalidWindow", false), ("InvalidName", false), ("InvalidClaim", false), ("InvalidIndex", false), ("InvalidLine", false), ("InvalidDead", false), ("InvalidPaces", false), ("InvalidGroups", false), ("InvalidTimes", false), ("InvalidDeeds", false), ("UnknownName", false), ("InUse", false), ("TooMany", false), ("OtherKind", false), ("Broken", false)]), ("InvalidLength", [("NotASign", false), ("NotARecord", false), ("InvalidText", false), ("InvalidPace", false), ("NothingToUndo", false), ("WrongValue", true), ("WrongName", false), ("NoAnswer", false), ("InvalidWidth", false), ("InvalidPlace", false), ("InvalidLength", true), ("InvalidTime", false), ("InvalidWindow", false), ("InvalidName", false), ("InvalidClaim", false), ("InvalidIndex", false), ("InvalidLine", false), ("InvalidDead", false), ("InvalidPaces", false), ("InvalidGroups", false), ("InvalidTimes", false), ("InvalidDeeds", false), ("UnknownName", false), ("InUse", false), ("TooMany", false), ("OtherKind", false), ("Broken", false)]), ("InvalidDead", [("NotASign", false), ("NotARecord", false), ("InvalidText", false), ("InvalidPace", false), ("NothingToUndo", false), ("WrongValue", true), ("WrongName", false), ("NoAnswer", false), ("InvalidWidth", false), ("InvalidPlace", false), ("InvalidLength", false), ("InvalidTime", false), ("InvalidWindow", false), ("InvalidName", false), ("InvalidClaim", false), ("InvalidIndex", false), ("InvalidLine", false), ("InvalidDead", true), ("InvalidPaces", false), ("InvalidGroups", false), ("InvalidTimes", false), ("InvalidDeeds", false), ("UnknownName", false), ("InUse", false), ("TooMany", false), ("OtherKind", false), ("Broken", false)]), ("InvalidPaces", [("NotASign", false), ("NotARecord", false), ("InvalidText", false), ("InvalidPace", false), ("NothingToUndo", false), ("WrongValue", true), ("WrongName", false), ("NoAnswer", false), ("InvalidWidth", false), ("InvalidPlace", false), ("InvalidLength", false), ("InvalidTime", false), ("InvalidWindow", false), ("InvalidName", false), ("InvalidClaim", false), ("InvalidIndex", false), ("InvalidLine", false), ("InvalidDead", false), ("InvalidPaces", true), ("InvalidGroups", false), ("InvalidTimes", false), ("InvalidDeeds", false), ("UnknownName", false), ("InUse", false), ("TooMany", false), ("OtherKind", false), ("Broken", false)]), ("InvalidGroups", [("NotASign", false), ("NotARecord", false), ("InvalidText", false), ("InvalidPace", false), ("NothingToUndo", false), ("WrongValue", true), ("WrongName", false), ("NoAnswer", false), ("InvalidWidth", false), ("InvalidPlace", false), ("InvalidLength", false), ("InvalidTime", false), ("InvalidWindow", false), ("InvalidName", false), ("InvalidClaim", false), ("InvalidIndex", false), ("InvalidLine", false), ("InvalidDead", false), ("InvalidPaces", false), ("InvalidGroups", true), ("InvalidTimes", false), ("InvalidDeeds", false), ("UnknownName", false), ("InUse", false), ("TooMany", false), ("OtherKind", false), ("Broken", false)]), ("InvalidText", [("NotASign", false), ("NotARecord", false), ("InvalidText", true), ("InvalidPace", false), ("NothingToUndo", false), ("WrongValue", true), ("WrongName", false), ("NoAnswer", false), ("InvalidWidth", false), ("InvalidPlace", false), ("InvalidLength", false), ("InvalidTime", false), ("InvalidWindow", false), ("InvalidName", false), ("InvalidClaim", false), ("InvalidIndex", false), ("InvalidLine", false), ("InvalidDead", false), ("InvalidPaces", false), ("InvalidGroups", false), ("InvalidTimes", false), ("InvalidDeeds", false), ("UnknownName", false), ("InUse", false), ("TooMany", false), ("OtherKind", false), ("Broken", false)]), ("InvalidPace", [("NotASign", false), ("NotARecord", false), ("InvalidText", false), ("InvalidPace", true), ("NothingToUndo", false), ("WrongValue", true), ("WrongName", false), ("NoAnswer", false), ("InvalidWidth", false), ("InvalidPlace", false), ("InvalidLength", false), ("InvalidTime", false), ("InvalidWindow", false), ("InvalidName", false), ("InvalidClaim", false), ("InvalidIndex", false), ("InvalidLine", false), ("InvalidDead", false), ("InvalidPaces", false), ("InvalidGroups", false), ("InvalidTimes", false), ("InvalidDeeds", false), ("UnknownName", false), ("InUse", false), ("TooMany", false), ("OtherKind", false), ("Broken", false)]), ("InvalidTime", [("NotASign", false), ("NotARecord", false), ("InvalidText", false), ("InvalidPace", false), ("NothingToUndo", false), ("WrongValue", true), ("WrongName", false), ("NoAnswer", false), ("InvalidWidth", false), ("InvalidPlace", false), ("InvalidLength", false), ("InvalidTime", true), ("InvalidWindow", false), ("InvalidName", false), ("InvalidClaim", false), ("InvalidIndex", false), ("InvalidLine", false), ("InvalidDead", false), ("InvalidPaces", false), ("InvalidGroups", false), ("InvalidTimes", false), ("InvalidDeeds", false), ("UnknownName", false), ("InUse", false), ("TooMany", false), ("OtherKind", false), ("Broken", false)]), ("InvalidWindow", [("NotASign", false), ("NotARecord", false), ("InvalidText", false), ("InvalidPace", false), ("NothingToUndo", false), ("WrongValue", true), ("WrongName", false), ("NoAnswer", false), ("InvalidWidth", false), ("InvalidPlace", false), ("InvalidLength", false), ("InvalidTime", false), ("InvalidWindow", true), ("InvalidName", false), ("InvalidClaim", false), ("InvalidIndex", false), ("InvalidLine", false), ("InvalidDead", false), ("InvalidPaces", false), ("InvalidGroups", false), ("InvalidTimes", false), ("InvalidDeeds", false), ("UnknownName", false), ("InUse", false), ("TooMany", false), ("OtherKind", false), ("Broken", false)]), ("InvalidName", [("NotASign", false), ("NotARecord", false), ("InvalidText", false), ("InvalidPace", false), ("NothingToUndo", false), ("WrongValue", true), ("WrongName", false), ("NoAnswer", false), ("InvalidWidth", false), ("InvalidPlace", false), ("InvalidLength", false), ("InvalidTime", false), ("InvalidWindow", false), ("InvalidName", true), ("InvalidClaim", false), ("InvalidIndex", false), ("InvalidLine", false), ("InvalidDead", false), ("InvalidPaces", false), ("InvalidGroups", false), ("InvalidTimes", false), ("InvalidDeeds", false), ("UnknownName", false), ("InUse", false), ("TooMany", false), ("OtherKind", false), ("Broken", false)]), ("InvalidClaim", [("NotASign", false), ("NotARecord", false), ("InvalidText", false), ("InvalidPace", false), ("NothingToUndo", false), ("WrongValue", true), ("WrongName", false), ("NoAnswer", false), ("InvalidWidth", false), ("InvalidPlace", false), ("InvalidLength", false), ("InvalidTime", false), ("InvalidWindow", false), ("InvalidName", false), ("InvalidClaim", true), ("InvalidIndex", false), ("InvalidLine", false), ("InvalidDead", false), ("InvalidPaces", false), ("InvalidGroups", false), ("InvalidTimes", false), ("InvalidDeeds", false), ("UnknownName", false), ("InUse", false), ("TooMany", false), ("OtherKind", false), ("Broken", false)]), ("InvalidIndex", [("NotASign", false), ("NotARecord", false), ("InvalidText", false), ("InvalidPace", false), ("NothingToUndo", false), ("WrongValue", true), ("WrongName", false), ("NoAnswer", false), ("InvalidWidth", false), ("InvalidPlace", false), ("InvalidLength", false), ("InvalidTime", false), ("InvalidWindow", false), ("InvalidName", false), ("InvalidClaim", false), ("InvalidIndex", true), ("InvalidLine", false), ("InvalidDead", false), ("InvalidPaces", false), ("InvalidGroups", false), ("InvalidTimes", false), ("InvalidDeeds", false), ("UnknownName", false), ("InUse", false), ("TooMany", false), ("OtherKind", false), ("Broken", false)]), ("InvalidLine", [("NotASign", false), ("NotARecord", false), ("InvalidText", false), ("InvalidPace", false), ("NothingToUndo", false), ("WrongValue", true), ("WrongName", false), ("NoAnswer", false), ("InvalidWidth", false), ("InvalidPlace", false), ("InvalidLength", false), ("InvalidTime", false), ("InvalidWindow", false), ("InvalidName", false), ("InvalidClaim", false), ("InvalidIndex", false), ("InvalidLine", true), ("InvalidDead", false), ("InvalidPaces", false), ("InvalidGroups", false), ("InvalidTimes", false), ("InvalidDeeds", false), ("UnknownName", false), ("InUse", false), ("TooMany", false), ("OtherKind", false), ("Broken", false)]), ("InvalidTimes", [("NotASign", false), ("NotARecord", false), ("InvalidText", false), ("InvalidPace", false), ("NothingToUndo", false), ("WrongValue", true), ("WrongName", false), ("NoAnswer", false), ("InvalidWidth", false), ("InvalidPlace", false), ("InvalidLength", false), ("InvalidTime", false), ("InvalidWindow", false), ("InvalidName", false), ("InvalidClaim", false), ("InvalidIndex", false), ("InvalidLine", false), ("InvalidDead", false), ("InvalidPaces", false), ("InvalidGroups", false), ("InvalidTimes", true), ("InvalidDeeds", false), ("UnknownName", false), ("InUse", false), ("TooMany", false), ("OtherKind", false), ("Broken", false)]), ("InvalidDeeds", [("NotASign", false), ("NotARecord", false), ("InvalidText", false), ("InvalidPace", false), ("NothingToUndo", false), ("WrongValue", true), ("WrongName", false), ("NoAnswer", false), ("InvalidWidth", false), ("InvalidPlace", false), ("InvalidLength", false), ("InvalidTime", false), ("InvalidWindow", false), ("InvalidName", false), ("InvalidClaim", false), ("InvalidIndex", false), ("InvalidLine", false), ("InvalidDead", false), ("InvalidPaces", false), ("InvalidGroups", false), ("InvalidTimes", false), ("InvalidDeeds", true), ("UnknownName", false), ("InUse", false), ("TooMany", false), ("OtherKind", false), ("Broken", false)])]
def an2 : List (Str × List (String × Bool)) := [("UnknownName", [("ValueError", false), ("LookupError", true), ("ArithmeticError", false)]), ("OtherKind", [("ValueError", false), ("LookupError", false), ("ArithmeticError", true)]), ("InUse", [("ValueError", false), ("LookupError", true), ("ArithmeticError", false)]), ("TooMany", [("ValueError", false), ("LookupError", false), ("ArithmeticError", true)]), ("Broken", [("ValueError", false), ("LookupError", false), ("ArithmeticError", true)]), ("NothingToUndo", [("ValueError", false), ("LookupError", false), ("ArithmeticError", true)]), ("WrongValue", [("ValueError", true), ("LookupError", false), ("ArithmeticError", false)]), ("WrongName", [("ValueError", false), ("LookupError", true), ("ArithmeticError", false)]), ("NoAnswer", [("ValueError", false), ("LookupError", false), ("ArithmeticError", true)]), ("NotASign", [("ValueError", true), ("LookupError", false), ("ArithmeticError", false)]), ("NotARecord", [("ValueError", true), ("LookupError", false), ("ArithmeticError", false)]), ("InvalidWidth", [("ValueError", true), ("LookupError", false), ("ArithmeticError", false)]), ("InvalidPlace", [("ValueError", true), ("LookupError", false), ("ArithmeticError", false)]), ("InvalidLength", [("ValueError", true), ("LookupError", false), ("ArithmeticError", false)]), ("InvalidDead", [("ValueError", true), ("LookupError", false), ("ArithmeticError", false)]), ("InvalidPaces", [("ValueError", true), ("LookupError", false), ("ArithmeticError", false)]), ("InvalidGroups", [("ValueError", true), ("LookupError", false), ("ArithmeticError", false)]), ("InvalidText", [("ValueError", true), ("LookupError", false), ("ArithmeticError", false)]), ("InvalidPace", [("ValueError", true), ("LookupError", false), ("ArithmeticError", false)]), ("InvalidTime", [("ValueError", true), ("LookupError", false), ("ArithmeticError", false)]), ("InvalidWindow", [("ValueError", true), ("LookupError", false), ("ArithmeticError", false)]), ("InvalidName", [("ValueError", true), ("LookupError", false), ("ArithmeticError", false)]), ("InvalidClaim", [("ValueError", true), ("LookupError", false), ("ArithmeticError", false)]), ("InvalidIndex", [("ValueError", true), ("LookupError", false), ("ArithmeticError", false)]), ("InvalidLine", [("ValueError", true), ("LookupError", false), ("ArithmeticError", false)]), ("InvalidTimes", [("ValueError", true), ("LookupError", false), ("ArithmeticError", false)]), ("InvalidDeeds", [("ValueError", true), ("LookupError", false), ("ArithmeticError", false)])]
abbrev kxn : List Str := ["UnknownName", "OtherKind", "InUse", "TooMany", "Broken", "NothingToUndo", "WrongValue", "WrongName", "NoAnswer", "NotASign", "NotARecord", "InvalidWidth", "InvalidPlace", "InvalidLength", "InvalidDead", "InvalidPaces", "InvalidGroups", "InvalidText", "InvalidPace", "InvalidTime", "InvalidWindow", "InvalidName", "InvalidClaim", "InvalidIndex", "InvalidLine", "InvalidTimes", "InvalidDeeds"]
abbrev kxo : List Str := ["NotASign", "NotARecord", "InvalidText", "InvalidPace", "NothingToUndo", "WrongValue", "WrongName", "NoAnswer", "InvalidWidth", "InvalidPlace", "InvalidLength", "InvalidTime", "InvalidWindow", "InvalidName", "InvalidClaim", "InvalidIndex", "InvalidLine", "InvalidDead", "InvalidPaces", "InvalidGroups", "InvalidTimes", "InvalidDeeds", "UnknownName", "InUse", "TooMany", "OtherKind", "Broken"]
abbrev S_law_classes : Stmt := (top 39)
abbrev D_law_classes : He.DefD := ⟨("_law_classes", none), "_law_classes", "_law_classes", defArgs S_law_classes, defBody S_law_classes, defScope S_law_classes, [], []⟩
abbrev S_law_sip : Stmt := (top 37)
abbrev D_law_sip : He.DefD := ⟨("_law_sip", none), "_law_sip", "_law_sip", defArgs S_law_sip, defBody S_law_sip, defScope S_law_sip, [], []⟩
abbrev S_law_pick : Stmt := (top 38)
abbrev D_law_pick : He.DefD := ⟨("_law_pick", none), "_law_pick", "_law_pick", defArgs S_law_pick, defBody S_law_pick, defScope S_law_pick, [], []⟩
abbrev S_NotASign__init_ : Stmt := (inCls (top 2) 0)
abbrev D_NotASign__init_ : He.DefD := ⟨("NotASign", some "__init__"), "__init__", "NotASign.__init__", defArgs S_NotASign__init_, defBody S_NotASign__init_, defScope S_NotASign__init_, [], []⟩
abbrev S_NotARecord__init_ : Stmt := (inCls (top 3) 0)
abbrev D_NotARecord__init_ : He.DefD := ⟨("NotARecord", some "__init__"), "__init__", "NotARecord.__init__", defArgs S_NotARecord__init_, defBody S_NotARecord__init_, defScope S_NotARecord__init_, [], []⟩
abbrev S_InvalidText__init_ : Stmt := (inCls (top 4) 0)
abbrev D_InvalidText__init_ : He.DefD := ⟨("InvalidText", some "__init__"), "__init__", "InvalidText.__init__", defArgs S_InvalidText__init_, defBody S_InvalidText__init_, defScope S_InvalidText__init_, [], []⟩
abbrev S_InvalidPace__init_ : Stmt := (inCls (top 5) 0)
abbrev D_InvalidPace__init_ : He.DefD := ⟨("InvalidPace", some "__init__"), "__init__", "InvalidPace.__init__", defArgs S_InvalidPace__init_, defBody S_InvalidPace__init_, defScope S_InvalidPace__init_, [], []⟩
abbrev S_InvalidWidth__init_ : Stmt := (inCls (top 6) 0)
abbrev D_InvalidWidth__init_ : He.DefD := ⟨("InvalidWidth", some "__init__"), "__init__", "InvalidWidth.__init__", defArgs S_InvalidWidth__init_, defBody S_InvalidWidth__init_, defScope S_InvalidWidth__init_, [], []⟩
abbrev S_InvalidPlace__init_ : Stmt := (inCls (top 7) 0)
abbrev D_InvalidPlace__init_ : He.DefD := ⟨("InvalidPlace", some "__init__"), "__init__", "InvalidPlace.__init__", defArgs S_InvalidPlace__init_, defBody S_InvalidPlace__init_, defScope S_InvalidPlace__init_, [], []⟩
abbrev S_InvalidLength__init_ : Stmt := (inCls (top 8) 0)
abbrev D_InvalidLength__init_ : He.DefD := ⟨("InvalidLength", some "__init__"), "__init__", "InvalidLength.__init__", defArgs S_InvalidLength__init_, defBody S_InvalidLength__init_, defScope S_InvalidLength__init_, [], []⟩
abbrev S_InvalidTime__init_ : Stmt := (inCls (top 9) 0)
abbrev D_InvalidTime__init_ : He.DefD := ⟨("InvalidTime", some "__init__"), "__init__", "InvalidTime.__init__", defArgs S_InvalidTime__init_, defBody S_InvalidTime__init_, defScope S_InvalidTime__init_, [], []⟩
abbrev S_InvalidWindow__init_ : Stmt := (inCls (top 10) 0)
abbrev D_InvalidWindow__init_ : He.DefD := ⟨("InvalidWindow", some "__init__"), "__init__", "InvalidWindow.__init__", defArgs S_InvalidWindow__init_, defBody S_InvalidWindow__init_, defScope S_InvalidWindow__init_, [], []⟩
abbrev S_InvalidName__init_ : Stmt := (inCls (top 11) 0)
abbrev D_InvalidName__init_ : He.DefD := ⟨("InvalidName", some "__init__"), "__init__", "InvalidName.__init__", defArgs S_InvalidName__init_, defBody S_InvalidName__init_, defScope S_InvalidName__init_, [], []⟩
abbrev S_InvalidClaim__init_ : Stmt := (inCls (top 12) 0)
abbrev D_InvalidClaim__init_ : He.DefD := ⟨("InvalidClaim", some "__init__"), "__init__", "InvalidClaim.__init__", defArgs S_InvalidClaim__init_, defBody S_InvalidClaim__init_, defScope S_InvalidClaim__init_, [], []⟩
abbrev S_InvalidIndex__init_ : Stmt := (inCls (top 13) 0)
abbrev D_InvalidIndex__init_ : He.DefD := ⟨("InvalidIndex", some "__init__"), "__init__", "InvalidIndex.__init__", defArgs S_InvalidIndex__init_, defBody S_InvalidIndex__init_, defScope S_InvalidIndex__init_, [], []⟩
abbrev S_InvalidLine__init_ : Stmt := (inCls (top 14) 0)
abbrev D_InvalidLine__init_ : He.DefD := ⟨("InvalidLine", some "__init__"), "__init__", "InvalidLine.__init__", defArgs S_InvalidLine__init_, defBody S_InvalidLine__init_, defScope S_InvalidLine__init_, [], []⟩
abbrev S_law_given : Stmt := (top 40)
abbrev D_law_given : He.DefD := ⟨("_law_given", none), "_law_given", "_law_given", defArgs S_law_given, defBody S_law_given, defScope S_law_given, [], []⟩
abbrev S_InvalidDead__init_ : Stmt := (inCls (top 15) 0)
abbrev D_InvalidDead__init_ : He.DefD := ⟨("InvalidDead", some "__init__"), "__init__", "InvalidDead.__init__", defArgs S_InvalidDead__init_, defBody S_InvalidDead__init_, defScope S_InvalidDead__init_, [], []⟩
abbrev S_InvalidPaces__init_ : Stmt := (inCls (top 16) 0)
abbrev D_InvalidPaces__init_ : He.DefD := ⟨("InvalidPaces", some "__init__"), "__init__", "InvalidPaces.__init__", defArgs S_InvalidPaces__init_, defBody S_InvalidPaces__init_, defScope S_InvalidPaces__init_, [], []⟩
abbrev S_InvalidGroups__init_ : Stmt := (inCls (top 17) 0)
abbrev D_InvalidGroups__init_ : He.DefD := ⟨("InvalidGroups", some "__init__"), "__init__", "InvalidGroups.__init__", defArgs S_InvalidGroups__init_, defBody S_InvalidGroups__init_, defScope S_InvalidGroups__init_, [], []⟩
abbrev S_InvalidTimes__init_ : Stmt := (inCls (top 18) 0)
abbrev D_InvalidTimes__init_ : He.DefD := ⟨("InvalidTimes", some "__init__"), "__init__", "InvalidTimes.__init__", defArgs S_InvalidTimes__init_, defBody S_InvalidTimes__init_, defScope S_InvalidTimes__init_, [], []⟩
abbrev S_InvalidDeeds__init_ : Stmt := (inCls (top 19) 0)
abbrev D_InvalidDeeds__init_ : He.DefD := ⟨("InvalidDeeds", some "__init__"), "__init__", "InvalidDeeds.__init__", defArgs S_InvalidDeeds__init_, defBody S_InvalidDeeds__init_, defScope S_InvalidDeeds__init_, [], []⟩
abbrev S_law_indexed : Stmt := (top 41)
abbrev D_law_indexed : He.DefD := ⟨("_law_indexed", none), "_law_indexed", "_law_indexed", defArgs S_law_indexed, defBody S_law_indexed, defScope S_law_indexed, [], []⟩
abbrev S_UnknownName__init_ : Stmt := (inCls (top 21) 0)
abbrev D_UnknownName__init_ : He.DefD := ⟨("UnknownName", some "__init__"), "__init__", "UnknownName.__init__", defArgs S_UnknownName__init_, defBody S_UnknownName__init_, defScope S_UnknownName__init_, [], []⟩
abbrev S_OtherKind__init_ : Stmt := (inCls (top 25) 0)
abbrev D_OtherKind__init_ : He.DefD := ⟨("OtherKind", some "__init__"), "__init__", "OtherKind.__init__", defArgs S_OtherKind__init_, defBody S_OtherKind__init_, defScope S_OtherKind__init_, [], []⟩
abbrev S_InUse__init_ : Stmt := (inCls (top 22) 0)
abbrev D_InUse__init_ : He.DefD := ⟨("InUse", some "__init__"), "__init__", "InUse.__init__", defArgs S_InUse__init_, defBody S_InUse__init_, defScope S_InUse__init_, [], []⟩
abbrev S_TooMany__init_ : Stmt := (inCls (top 24) 0)
abbrev D_TooMany__init_ : He.DefD := ⟨("TooMany", some "__init__"), "__init__", "TooMany.__init__", defArgs S_TooMany__init_, defBody S_TooMany__init_, defScope S_TooMany__init_, [], []⟩
abbrev S_Broken__init_ : Stmt := (inCls (top 26) 0)
abbrev D_Broken__init_ : He.DefD := ⟨("Broken", some "__init__"), "__init__", "Broken.__init__", defArgs S_Broken__init_, defBody S_Broken__init_, defScope S_Broken__init_, [], []⟩
abbrev S_law_right : Stmt := (top 42)
abbrev D_law_right : He.DefD := ⟨("_law_right", none), "_law_right", "_law_right", defArgs S_law_right, defBody S_law_right, defScope S_law_right, [], []⟩
abbrev S_law_cup : Stmt := (top 36)
abbrev D_law_cup : He.DefD := ⟨("_law_cup", none), "_law_cup", "_law_cup", defArgs S_law_cup, defBody S_law_cup, defScope S_law_cup, [], []⟩
abbrev S_law : Stmt := (top 43)
abbrev D_law : He.DefD := ⟨("law", none), "law", "law", defArgs S_law, defBody S_law, defScope S_law, [], []⟩
/-- the defs that make lambdas -/
def lams : List (He.Defn × Str) := []
/-- what the head tells -/
structure Facts (K : PySem.W.Frag) (mg : Str → Option Value) : Prop where
  i_MOST_WIDTH : ∃ t, mg "MOST_WIDTH" = some (.int 8 t)
  i_MOST_LENGTH : ∃ t, mg "MOST_LENGTH" = some (.int 40 t)
  i_MOST_PACE : ∃ t, mg "MOST_PACE" = some (.int 9 t)
  i_MOST_GLANCES : ∃ t, mg "MOST_GLANCES" = some (.int 12 t)
  i_MOST_TIMES : ∃ t, mg "MOST_TIMES" = some (.int 6 t)
  i_MOST_PAIRS : ∃ t, mg "MOST_PAIRS" = some (.int 30 t)
  i_GREATEST : ∃ t, mg "GREATEST" = some (.int 1000000000000000000000000000000 t)
  n_repr : mg "repr" = none
  e0_NothingToUndo : ex0B K (exT "ArithmeticError") "ArithmeticError.__new__" "NothingToUndo" = true
  g_NothingToUndo : mg "NothingToUndo" = some (.ref (He.ga K "NothingToUndo"))
  e0_WrongValue : ex0B K (exT "ValueError") "ValueError.__new__" "WrongValue" = true
  g_WrongValue : mg "WrongValue" = some (.ref (He.ga K "WrongValue"))
  e0_WrongName : ex0B K (exT "LookupError") "LookupError.__new__" "WrongName" = true
  g_WrongName : mg "WrongName" = some (.ref (He.ga K "WrongName"))
  e0_NoAnswer : ex0B K (exT "ArithmeticError") "ArithmeticError.__new__" "NoAnswer" = true
  g_NoAnswer : mg "NoAnswer" = some (.ref (He.ga K "NoAnswer"))
  g_UnknownName : mg "UnknownName" = some (.ref (He.ga K "UnknownName"))
  g_OtherKind : mg "OtherKind" = some (.ref (He.ga K "OtherKind"))
  g_InUse : mg "InUse" = some (.ref (He.ga K "InUse"))
  g_TooMany : mg "TooMany" = some (.ref (He.ga K "TooMany"))
  g_Broken : mg "Broken" = some (.ref (He.ga K "Broken"))
  g_NotASign : mg "NotASign" = some (.ref (He.ga K "NotASign"))
  g_NotARecord : mg "NotARecord" = some (.ref (He.ga K "NotARecord"))
  g_InvalidWidth : mg "InvalidWidth" = some (.ref (He.ga K "InvalidWidth"))
  g_InvalidPlace : mg "InvalidPlace" = some (.ref (He.ga K "InvalidPlace"))
  g_InvalidLength : mg "InvalidLength" = some (.ref (He.ga K "InvalidLength"))
  g_InvalidDead : mg "InvalidDead" = some (.ref (He.ga K "InvalidDead"))
  g_InvalidPaces : mg "InvalidPaces" = some (.ref (He.ga K "InvalidPaces"))
  g_InvalidGroups : mg "InvalidGroups" = some (.ref (He.ga K "InvalidGroups"))
  g_InvalidText : mg "InvalidText" = some (.ref (He.ga K "InvalidText"))
  g_InvalidPace : mg "InvalidPace" = some (.ref (He.ga K "InvalidPace"))
  g_InvalidTime : mg "InvalidTime" = some (.ref (He.ga K "InvalidTime"))
  g_InvalidWindow : mg "InvalidWindow" = some (.ref (He.ga K "InvalidWindow"))
  g_InvalidName : mg "InvalidName" = some (.ref (He.ga K "InvalidName"))
  g_InvalidClaim : mg "InvalidClaim" = some (.ref (He.ga K "InvalidClaim"))
  g_InvalidIndex : mg "InvalidIndex" = some (.ref (He.ga K "InvalidIndex"))
  g_InvalidLine : mg "InvalidLine" = some (.ref (He.ga K "InvalidLine"))
  g_InvalidTimes : mg "InvalidTimes" = some (.ref (He.ga K "InvalidTimes"))
  g_InvalidDeeds : mg "InvalidDeeds" = some (.ref (He.ga K "InvalidDeeds"))
  ans1 : ansB1 K an1 = true
  ans2 : ansB2 K an2 = true
  xf : xfAll K kx ["given", "most", "index"] = true
  n_isinstance : mg "isinstance" = none
  n_ValueError : mg "ValueError" = none
  n_LookupError : mg "LookupError" = none
  n_ArithmeticError : mg "ArithmeticError" = none
  n_range : mg "range" = none
  d_law_classes : FD K D_law_classes
  g_law_classes : mg "_law_classes" = some (.ref (He.ga K "_law_classes"))
  n_len : mg "len" = none
  n_min : mg "min" = none
  n_max : mg "max" = none
  n_int : mg "int" = none
  n_divmod : mg "divmod" = none
  d_law_sip : FD K D_law_sip
  g_law_sip : mg "_law_sip" = some (.ref (He.ga K "_law_sip"))
  d_law_pick : FD K D_law_pick
  g_law_pick : mg "_law_pick" = some (.ref (He.ga K "_law_pick"))
  d_NotASign__init_ : FD K D_NotASign__init_
  x_NotASign : mkXB K (exT "ValueError") "ValueError.__new__" "NotASign" "given" (He.fAd K D_NotASign__init_.at_) = true
  d_NotARecord__init_ : FD K D_NotARecord__init_
  x_NotARecord : mkXB K (exT "ValueError") "ValueError.__new__" "NotARecord" "given" (He.fAd K D_NotARecord__init_.at_) = true
  d_InvalidText__init_ : FD K D_InvalidText__init_
  x_InvalidText : mkXB K (exT "ValueError") "ValueError.__new__" "InvalidText" "given" (He.fAd K D_InvalidText__init_.at_) = true
  d_InvalidPace__init_ : FD K D_InvalidPace__init_
  x_InvalidPace : mkXB K (exT "ValueError") "ValueError.__new__" "InvalidPace" "given" (He.fAd K D_InvalidPace__init_.at_) = true
  d_InvalidWidth__init_ : FD K D_InvalidWidth__init_
  x_InvalidWidth : mkXB K (exT "ValueError") "ValueError.__new__" "InvalidWidth" "given" (He.fAd K D_InvalidWidth__init_.at_) = true
  d_InvalidPlace__init_ : FD K D_InvalidPlace__init_
  x_InvalidPlace : mkXB K (exT "ValueError") "ValueError.__new__" "InvalidPlace" "given" (He.fAd K D_InvalidPlace__init_.at_) = true
  d_InvalidLength__init_ : FD K D_InvalidLength__init_
  x_InvalidLength : mkXB K (exT "ValueError") "ValueError.__new__" "InvalidLength" "given" (He.fAd K D_InvalidLength__init_.at_) = true
  d_InvalidTime__init_ : FD K D_InvalidTime__init_
  x_InvalidTime : mkXB K (exT "ValueError") "ValueError.__new__" "InvalidTime" "given" (He.fAd K D_InvalidTime__init_.at_) = true
  d_InvalidWindow__init_ : FD K D_InvalidWindow__init_
  x_InvalidWindow : mkXB K (exT "ValueError") "ValueError.__new__" "InvalidWindow" "given" (He.fAd K D_InvalidWindow__init_.at_) = true
  d_InvalidName__init_ : FD K D_InvalidName__init_
  x_InvalidName : mkXB K (exT "ValueError") "ValueError.__new__" "InvalidName" "given" (He.fAd K D_InvalidName__init_.at_) = true
  d_InvalidClaim__init_ : FD K D_InvalidClaim__init_
  x_InvalidClaim : mkXB K (exT "ValueError") "ValueError.__new__" "InvalidClaim" "given" (He.fAd K D_InvalidClaim__init_.at_) = true
  d_InvalidIndex__init_ : FD K D_InvalidIndex__init_
  x_InvalidIndex : mkXB K (exT "ValueError") "ValueError.__new__" "InvalidIndex" "given" (He.fAd K D_InvalidIndex__init_.at_) = true
  d_InvalidLine__init_ : FD K D_InvalidLine__init_
  x_InvalidLine : mkXB K (exT "ValueError") "ValueError.__new__" "InvalidLine" "given" (He.fAd K D_InvalidLine__init_.at_) = true
  d_law_given : FD K D_law_given
  g_law_given : mg "_law_given" = some (.ref (He.ga K "_law_given"))
  n_enumerate : mg "enumerate" = none
  d_InvalidDead__init_ : FD K D_InvalidDead__init_
  x_InvalidDead : mkXB K (exT "ValueError") "ValueError.__new__" "InvalidDead" "index" (He.fAd K D_InvalidDead__init_.at_) = true
  d_InvalidPaces__init_ : FD K D_InvalidPaces__init_
  x_InvalidPaces : mkXB K (exT "ValueError") "ValueError.__new__" "InvalidPaces" "index" (He.fAd K D_InvalidPaces__init_.at_) = true
  d_InvalidGroups__init_ : FD K D_InvalidGroups__init_
  x_InvalidGroups : mkXB K (exT "ValueError") "ValueError.__new__" "InvalidGroups" "index" (He.fAd K D_InvalidGroups__init_.at_) = true
  d_InvalidTimes__init_ : FD K D_InvalidTimes__init_
  x_InvalidTimes : mkXB K (exT "ValueError") "ValueError.__new__" "InvalidTimes" "index" (He.fAd K D_InvalidTimes__init_.at_) = true
  d_InvalidDeeds__init_ : FD K D_InvalidDeeds__init_
  x_InvalidDeeds : mkXB K (exT "ValueError") "ValueError.__new__" "InvalidDeeds" "index" (He.fAd K D_InvalidDeeds__init_.at_) = true
  d_law_indexed : FD K D_law_indexed
  g_law_indexed : mg "_law_indexed" = some (.ref (He.ga K "_law_indexed"))
  d_UnknownName__init_ : FD K D_UnknownName__init_
  x_UnknownName : mkXB K (exT "LookupError") "LookupError.__new__" "UnknownName" "given" (He.fAd K D_UnknownName__init_.at_) = true
  d_OtherKind__init_ : FD K D_OtherKind__init_
  x_OtherKind : mkXB K (exT "ArithmeticError") "ArithmeticError.__new__" "OtherKind" "given" (He.fAd K D_OtherKind__init_.at_) = true
  d_InUse__init_ : FD K D_InUse__init_
  x_InUse : mkXB K (exT "LookupError") "LookupError.__new__" "InUse" "index" (He.fAd K D_InUse__init_.at_) = true
  d_TooMany__init_ : FD K D_TooMany__init_
  x_TooMany : mkXB K (exT "ArithmeticError") "ArithmeticError.__new__" "TooMany" "most" (He.fAd K D_TooMany__init_.at_) = true
  d_Broken__init_ : FD K D_Broken__init_
  x_Broken : mkXB K (exT "ArithmeticError") "ArithmeticError.__new__" "Broken" "index" (He.fAd K D_Broken__init_.at_) = true
  d_law_right : FD K D_law_right
  n_abs : mg "abs" = none
  d_law_cup : FD K D_law_cup
  g_law_cup : mg "_law_cup" = some (.ref (He.ga K "_law_cup"))
  g_law_right : mg "_law_right" = some (.ref (He.ga K "_law_right"))
  n_all : mg "all" = none
  d_law : FD K D_law
  g_law : mg "law" = some (.ref (He.ga K "law"))
theorem gl_kx {K : PySem.W.Frag} {mg : Str → Option Value} (G : Facts K mg) : GlAll K mg kxn := (gl_cons G.g_UnknownName (gl_cons G.g_OtherKind (gl_cons G.g_InUse (gl_cons G.g_TooMany (gl_cons G.g_Broken (gl_cons G.g_NothingToUndo (gl_cons G.g_WrongValue (gl_cons G.g_WrongName (gl_cons G.g_NoAnswer (gl_cons G.g_NotASign (gl_cons G.g_NotARecord (gl_cons G.g_InvalidWidth (gl_cons G.g_InvalidPlace (gl_cons G.g_InvalidLength (gl_cons G.g_InvalidDead (gl_cons G.g_InvalidPaces (gl_cons G.g_InvalidGroups (gl_cons G.g_InvalidText (gl_cons G.g_InvalidPace (gl_cons G.g_InvalidTime (gl_cons G.g_InvalidWindow (gl_cons G.g_InvalidName (gl_cons G.g_InvalidClaim (gl_cons G.g_InvalidIndex (gl_cons G.g_InvalidLine (gl_cons G.g_InvalidTimes (gl_cons G.g_InvalidDeeds gl_nil)))))))))))))))))))))))))))
theorem gl_ko {K : PySem.W.Frag} {mg : Str → Option Value} (G : Facts K mg) : GlAll K mg kxo := (gl_cons G.g_NotASign (gl_cons G.g_NotARecord (gl_cons G.g_InvalidText (gl_cons G.g_InvalidPace (gl_cons G.g_NothingToUndo (gl_cons G.g_WrongValue (gl_cons G.g_WrongName (gl_cons G.g_NoAnswer (gl_cons G.g_InvalidWidth (gl_cons G.g_InvalidPlace (gl_cons G.g_InvalidLength (gl_cons G.g_InvalidTime (gl_cons G.g_InvalidWindow (gl_cons G.g_InvalidName (gl_cons G.g_InvalidClaim (gl_cons G.g_InvalidIndex (gl_cons G.g_InvalidLine (gl_cons G.g_InvalidDead (gl_cons G.g_InvalidPaces (gl_cons G.g_InvalidGroups (gl_cons G.g_InvalidTimes (gl_cons G.g_InvalidDeeds (gl_cons G.g_UnknownName (gl_cons G.g_InUse (gl_cons G.g_TooMany (gl_cons G.g_OtherKind (gl_cons G.g_Broken gl_nil)))))))))))))))))))))))))))
theorem ans {K : PySem.W.Frag} {mg : Str → Option Value} (G : Facts K mg) : AnsOk K mg (tab1 an1) (tab1 an2) := ans_ok G.ans1 G.ans2 (gl_kx G) (gl_ko G) (by decide +kernel) (by decide +kernel)
theorem sc_law_classes : FnScope ["_law_e", "_law_found", "_law_above", "_law_at"] ["_law_e"] (defScope S_law_classes) := ⟨rfl, rfl, rfl, by decide +kernel, rfl, by decide +kernel, by decide +kernel⟩
def b_law_classes : SS := (sSeq (sOwn 1 (fLst (sCons (sCall (oIsE (tab1 an1) (tab1 an2)) (sCons (sVar 0) (sCons (sC (.glo "NotASign")) sNil))) (sCons (sCall (oIsE (tab1 an1) (tab1 an2)) (sCons (sVar 0) (sCons (sC (.glo "NotARecord")) sNil))) (sCons (sCall (oIsE (tab1 an1) (tab1 an2)) (sCons (sVar 0) (sCons (sC (.glo "InvalidText")) sNil))) (sCons (sCall (oIsE (tab1 an1) (tab1 an2)) (sCons (sVar 0) (sCons (sC (.glo "InvalidPace")) sNil))) sNil)))))) (fun r M => (sSeq (sOwn 1 (fCat (sVar 1) (sVal (fLst (sCons (sCall (oIsE (tab1 an1) (tab1 an2)) (sCons (sVar 0) (sCons (sC (.glo "InvalidWidth")) sNil))) (sCons (sCall (oIsE (tab1 an1) (tab1 an2)) (sCons (sVar 0) (sCons (sC (.glo "InvalidPlace")) sNil))) (sCons (sCall (oIsE (tab1 an1) (tab1 an2)) (sCons (sVar 0) (sCons (sC (.glo "InvalidLength")) sNil))) sNil))))))) (fun r M => (sSeq (sOwn 1 (fCat (sVar 1) (sVal (fLst (sCons (sCall (oIsE (tab1 an1) (tab1 an2)) (sCons (sVar 0) (sCons (sC (.glo "InvalidTime")) sNil))) (sCons (sCall (oIsE (tab1 an1) (tab1 an2)) (sCons (sVar 0) (sCons (sC (.glo "InvalidWindow")) sNil))) (sCons (sCall (oIsE (tab1 an1) (tab1 an2)) (sCons (sVar 0) (sCons (sC (.glo "InvalidName")) sNil))) sNil))))))) (fun r M => (sSeq (sOwn 1 (fCat (sVar 1) (sVal (fLst (sCons (sCall (oIsE (tab1 an1) (tab1 an2)) (sCons (sVar 0) (sCons (sC (.glo "InvalidClaim")) sNil))) (sCons (sCall (oIsE (tab1 an1) (tab1 an2)) (sCons (sVar 0) (sCons (sC (.glo "InvalidIndex")) sNil))) (sCons (sCall (oIsE (tab1 an1) (tab1 an2)) (sCons (sVar 0) (sCons (sC (.glo "InvalidLine")) sNil))) sNil))))))) (fun r M => (sSeq (sOwn 1 (fCat (sVar 1) (sVal (fLst (sCons (sCall (oIsE (tab1 an1) (tab1 an2)) (sCons (sVar 0) (sCons (sC (.glo "InvalidDead")) sNil))) (sCons (sCall (oIsE (tab1 an1) (tab1 an2)) (sCons (sVar 0) (sCons (sC (.glo "InvalidPaces")) sNil))) (sCons (sCall (oIsE (tab1 an1) (tab1 an2)) (sCons (sVar 0) (sCons (sC (.glo "InvalidGroups")) sNil))) sNil))))))) (fun r M => (sSeq (sOwn 1 (fCat (sVar 1) (sVal (fLst (sCons (sCall (oIsE (tab1 an1) (tab1 an2)) (sCons (sVar 0) (sCons (sC (.glo "InvalidTimes")) sNil))) (sCons (sCall (oIsE (tab1 an1) (tab1 an2)) (sCons (sVar 0) (sCons (sC (.glo "InvalidDeeds")) sNil))) (sCons (sCall (oIsE (tab1 an1) (tab1 an2)) (sCons (sVar 0) (sCons (sC (.glo "UnknownName")) sNil))) sNil))))))) (fun r M => (sSeq (sOwn 1 (fCat (sVar 1) (sVal (fLst (sCons (sCall (oIsE (tab1 an1) (tab1 an2)) (sCons (sVar 0) (sCons (sC (.glo "InUse")) sNil))) (sCons (sCall (oIsE (tab1 an1) (tab1 an2)) (sCons (sVar 0) (sCons (sC (.glo "TooMany")) sNil))) (sCons (sCall (oIsE (tab1 an1) (tab1 an2)) (sCons (sVar 0) (sCons (sC (.glo "OtherKind")) sNil))) (sCons (sCall (oIsE (tab1 an1) (tab1 an2)) (sCons (sVar 0) (sCons (sC (.glo "Broken")) sNil))) sNil)))))))) (sSeq (sApp 1 (sCall (oIsE (tab1 an1) (tab1 an2)) (sCons (sVar 0) (sCons (sC (.glo "NothingToUndo")) sNil)))) (sSeq (sAsg (sVal (fLst (sCons (sCall (oIsE (tab1 an1) (tab1 an2)) (sCons (sVar 0) (sCons (sC (.glo "WrongValue")) sNil))) (sCons (sCall (oIsE (tab1 an1) (tab1 an2)) (sCons (sVar 0) (sCons (sC (.glo "WrongName")) sNil))) (sCons (sCall (oIsE (tab1 an1) (tab1 an2)) (sCons (sVar 0) (sCons (sC (.glo "NoAnswer")) sNil))) sNil))))) (aName 2)) (sSeq (sAsg (sBin oAdd (sVar 2) (sVal (fLst (sCons (sCall (oIsE (tab1 an1) (tab1 an2)) (sCons (sVar 0) (sCons (sC (.ty "ValueError")) sNil))) (sCons (sCall (oIsE (tab1 an1) (tab1 an2)) (sCons (sVar 0) (sCons (sC (.ty "LookupError")) sNil))) (sCons (sCall (oIsE (tab1 an1) (tab1 an2)) (sCons (sVar 0) (sCons (sC (.ty "ArithmeticError")) sNil))) sNil)))))) (aName 2)) (fun r M => (sRet (sBin oAdd (sVal (fLc [3] (sRng1 (sC (.int 24))) (kName 3) (tVal (sBin oIx (sVar 1) (sVar 3))) (sVar 3))) (sVal (fLc [3] (sRng1 (sC (.int 6))) (kName 3) (tVal (sBin oIx (sVar 2) (sVar 3))) (sBin oAdd (sC (.int 30)) (sVar 3)))))) (frz 1 r) M))))) (frz 1 r) M)) (frz 1 r) M)) (frz 1 r) M)) (frz 1 r) M)) (frz 1 r) M)) (frz 1 r) M))
def f_law_classes : SF := runB 3 b_law_classes
theorem ok_law_classes {P : Program} {w : World} {K : PySem.W.Frag} {mg : Str → Option Value} {base : Heap} {T : Tb} (G : Facts K mg) (Y : EL lams K mg base T) : DFn P w K mg base 1 (He.fAd K D_law_classes.at_) (fdOf K D_law_classes) ["_law_e"] (spD ⟨K, mg, T⟩ 1 f_law_classes) :=
  dfn G.d_law_classes sc_law_classes rfl fun R cdv A outer s H E site tk => (db_cons (ds_own (i := 1) sc_law_classes.nd rfl (.inr rfl) (df_lst (da_cons (de_isE (ans G) rfl G.n_isinstance (de_var (i := 0) rfl (.inl rfl)) (de_glo (v := .ref (He.ga K "NotASign")) rfl G.g_NotASign rfl)) (da_cons (de_isE (ans G) rfl G.n_isinstance (de_var (i := 0) rfl (.inl rfl)) (de_glo (v := .ref (He.ga K "NotARecord")) rfl G.g_NotARecord rfl)) (da_cons (de_isE (ans G) rfl G.n_isinstance (de_var (i := 0) rfl (.inl rfl)) (de_glo (v := .ref (He.ga K "InvalidText")) rfl G.g_InvalidText rfl)) (da_cons (de_isE (ans G) rfl G.n_isinstance (de_var (i := 0) rfl (.inl rfl)) (de_glo (v := .ref (He.ga K "InvalidPace")) rfl G.g_InvalidPace rfl)) da_nil))))))
    (db_frz 1 (db_cons (ds_own (i := 1) sc_law_classes.nd rfl (.inr rfl) (df_cat (de_var (i := 1) rfl (.inr (.inl rfl))) (de_new (df_lst (da_cons (de_isE (ans G) rfl G.n_isinstance (de_var (i := 0) rfl (.inl rfl)) (de_glo (v := .ref (He.ga K "InvalidWidth")) rfl G.g_InvalidWidth rfl)) (da_cons (de_isE (ans G) rfl G.n_isinstance (de_var (i := 0) rfl (.inl rfl)) (de_glo (v := .ref (He.ga K "InvalidPlace")) rfl G.g_InvalidPlace rfl)) (da_cons (de_isE (ans G) rfl G.n_isinstance (de_var (i := 0) rfl (.inl rfl)) (de_glo (v := .ref (He.ga K "InvalidLength")) rfl G.g_InvalidLength rfl)) da_nil)))))))
    (db_frz 1 (db_cons (ds_own (i := 1) sc_law_classes.nd rfl (.inr rfl) (df_cat (de_var (i := 1) rfl (.inr (.inl rfl))) (de_new (df_lst (da_cons (de_isE (ans G) rfl G.n_isinstance (de_var (i := 0) rfl (.inl rfl)) (de_glo (v := .ref (He.ga K "InvalidTime")) rfl G.g_InvalidTime rfl)) (da_cons (de_isE (ans G) rfl G.n_isinstance (de_var (i := 0) rfl (.inl rfl)) (de_glo (v := .ref (He.ga K "InvalidWindow")) rfl G.g_InvalidWindow rfl)) (da_cons (de_isE (ans G) rfl G.n_isinstance (de_var (i := 0) rfl (.inl rfl)) (de_glo (v := .ref (He.ga K "InvalidName")) rfl G.g_InvalidName rfl)) da_nil)))))))
    (db_frz 1 (db_cons (ds_own (i := 1) sc_law_classes.nd rfl (.inr rfl) (df_cat (de_var (i := 1) rfl (.inr (.inl rfl))) (de_new (df_lst (da_cons (de_isE (ans G) rfl G.n_isinstance (de_var (i := 0) rfl (.inl rfl)) (de_glo (v := .ref (He.ga K "InvalidClaim")) rfl G.g_InvalidClaim rfl)) (da_cons (de_isE (ans G) rfl G.n_isinstance (de_var (i := 0) rfl (.inl rfl)) (de_glo (v := .ref (He.ga K "InvalidIndex")) rfl G.g_InvalidIndex rfl)) (da_cons (de_isE (ans G) rfl G.n_isinstance (de_var (i := 0) rfl (.inl rfl)) (de_glo (v := .ref (He.ga K "InvalidLine")) rfl G.g_InvalidLine rfl)) da_nil)))))))
    (db_frz 1 (db_cons (ds_own (i := 1) sc_law_classes.nd rfl (.inr rfl) (df_cat (de_var (i := 1) rfl (.inr (.inl rfl))) (de_new (df_lst (da_cons (de_isE (ans G) rfl G.n_isinstance (de_var (i := 0) rfl (.inl rfl)) (de_glo (v := .ref (He.ga K "InvalidDead")) rfl G.g_InvalidDead rfl)) (da_cons (de_isE (ans G) rfl G.n_isinstance (de_var (i := 0) rfl (.inl rfl)) (de_glo (v := .ref (He.ga K "InvalidPaces")) rfl G.g_InvalidPaces rfl)) (da_cons (de_isE (ans G) rfl G.n_isinstance (de_var (i := 0) rfl (.inl rfl)) (de_glo (v := .ref (He.ga K "InvalidGroups")) rfl G.g_InvalidGroups rfl)) da_nil)))))))
    (db_frz 1 (db_cons (ds_own (i := 1) sc_law_classes.nd rfl (.inr rfl) (df_cat (de_var (i := 1) rfl (.inr (.inl rfl))) (de_new (df_lst (da_cons (de_isE (ans G) rfl G.n_isinstance (de_var (i := 0) rfl (.inl rfl)) (de_glo (v := .ref (He.ga K "InvalidTimes")) rfl G.g_InvalidTimes rfl)) (da_cons (de_isE (ans G) rfl G.n_isinstance (de_var (i := 0) rfl (.inl rfl)) (de_glo (v := .ref (He.ga K "InvalidDeeds")) rfl G.g_InvalidDeeds rfl)) (da_cons (de_isE (ans G) rfl G.n_isinstance (de_var (i := 0) rfl (.inl rfl)) (de_glo (v := .ref (He.ga K "UnknownName")) rfl G.g_UnknownName rfl)) da_nil)))))))
    (db_frz 1 (db_cons (ds_own (i := 1) sc_law_classes.nd rfl (.inr rfl) (df_cat (de_var (i := 1) rfl (.inr (.inl rfl))) (de_new (df_lst (da_cons (de_isE (ans G) rfl G.n_isinstance (de_var (i := 0) rfl (.inl rfl)) (de_glo (v := .ref (He.ga K "InUse")) rfl G.g_InUse rfl)) (da_cons (de_isE (ans G) rfl G.n_isinstance (de_var (i := 0) rfl (.inl rfl)) (de_glo (v := .ref (He.ga K "TooMany")) rfl G.g_TooMany rfl)) (da_cons (de_isE (ans G) rfl G.n_isinstance (de_var (i := 0) rfl (.inl rfl)) (de_glo (v := .ref (He.ga K "OtherKind")) rfl G.g_OtherKind rfl)) (da_cons (de_isE (ans G) rfl G.n_isinstance (de_var (i := 0) rfl (.inl rfl)) (de_glo (v := .ref (He.ga K "Broken")) rfl G.g_Broken rfl)) da_nil))))))))
    (db_cons (ds_app (i := 1) rfl (.inr (.inl rfl)) (de_isE (ans G) rfl G.n_isinstance (de_var (i := 0) rfl (.inl rfl)) (de_glo (v := .ref (He.ga K "NothingToUndo")) rfl G.g_NothingToUndo rfl)))
    (db_cons (ds_set (i := 2) sc_law_classes.nd rfl (.inr rfl) (de_new (df_lst (da_cons (de_isE (ans G) rfl G.n_isinstance (de_var (i := 0) rfl (.inl rfl)) (de_glo (v := .ref (He.ga K "WrongValue")) rfl G.g_WrongValue rfl)) (da_cons (de_isE (ans G) rfl G.n_isinstance (de_var (i := 0) rfl (.inl rfl)) (de_glo (v := .ref (He.ga K "WrongName")) rfl G.g_WrongName rfl)) (da_cons (de_isE (ans G) rfl G.n_isinstance (de_var (i := 0) rfl (.inl rfl)) (de_glo (v := .ref (He.ga K "NoAnswer")) rfl G.g_NoAnswer rfl)) da_nil))))))
    (db_cons (ds_set (i := 2) sc_law_classes.nd rfl (.inr rfl) (e_add (de_var (i := 2) rfl (.inr (.inl rfl))) (de_new (df_lst (da_cons (de_isE (ans G) rfl G.n_isinstance (de_var (i := 0) rfl (.inl rfl)) (de_bty rfl G.n_ValueError rfl)) (da_cons (de_isE (ans G) rfl G.n_isinstance (de_var (i := 0) rfl (.inl rfl)) (de_bty rfl G.n_LookupError rfl)) (da_cons (de_isE (ans G) rfl G.n_isinstance (de_var (i := 0) rfl (.inl rfl)) (de_bty rfl G.n_ArithmeticError rfl)) da_nil)))))))
    (db_frz 1 (db_one (ds_ret (e_add (de_new (df_lc (own := [("_law_at", 3)]) rfl sc_law_classes.nd (di_rng1 rfl G.n_range de_int) (blkOk_by rfl) (pt_name (i := 3)) (fun s H C cl fp => (pg_name (i := 3) sc_law_classes.nd rfl (.inl rfl))) (fun s H C cl fp => (dts_one (t_val (de_ix (de_var (i := 1) rfl (.inr (.inl rfl))) (de_var (i := 3) rfl (.inl rfl)) (fun _ _ => rfl))))) (fun s H C cl fp => (de_var (i := 3) rfl (.inl rfl))))) (de_new (df_lc (own := [("_law_at", 3)]) rfl sc_law_classes.nd (di_rng1 rfl G.n_range de_int) (blkOk_by rfl) (pt_name (i := 3)) (fun s H C cl fp => (pg_name (i := 3) sc_law_classes.nd rfl (.inl rfl))) (fun s H C cl fp => (dts_one (t_val (de_ix (de_var (i := 2) rfl (.inr (.inl rfl))) (de_var (i := 3) rfl (.inl rfl)) (fun _ _ => rfl))))) (fun s H C cl fp => (e_add de_int (de_var (i := 3) rfl (.inl rfl))))))))))))))))))))))))))
theorem b_law_classes_1 {K : PySem.W.Frag} {mg : Str → Option Value} (G : Facts K mg) : DBind K (fdOf K D_law_classes) ["_law_e"] 1 [] (fun ds _ => ds) := bind_pos G.d_law_classes rfl fun _ _ _ _ _ _ us hl => match us, hl with | [_], _ => rfl
theorem sc_law_sip : FnScope ["_law_cup_here", "_law_many", "_law_part"] ["_law_cup_here", "_law_many"] (defScope S_law_sip) := ⟨rfl, rfl, rfl, by decide +kernel, rfl, by decide +kernel, by decide +kernel⟩
def b_law_sip : SS := (sSeq (sAsg (sBin (oI gMod) (sCall oInt (sCons (sBin oAdd (sBin oMul (sBin oIx (sVar 0) (sC (.int 0))) (sC (.int 48271))) (sC (.int 11))) sNil)) (sC (.int 2147483629))) (aIx 0 (sC (.int 0)))) (sSeq (sIte (tBin (oI gGt) (sBin oIx (sVar 0) (sC (.int 1))) (sC (.int 0))) (sSeq (sAsg (sCall oDivmod (sCons (sBin oIx (sVar 0) (sC (.int 1))) (sCons (sVar 1) sNil))) (aTup 2 (aCons (aIx 0 (sC (.int 1))) (aCons (aName 2) aNil)))) (sRet (sVar 2))) sSkip) (sRet (sBin (oI gMod) (sCall oInt (sCons (sBin (oI gDiv) (sBin oIx (sVar 0) (sC (.int 0))) (sC (.int 1021))) sNil)) (sVar 1)))))
def f_law_sip : SF := runB 1 b_law_sip
theorem ok_law_sip {P : Program} {w : World} {K : PySem.W.Frag} {mg : Str → Option Value} {base : Heap} {T : Tb} (G : Facts K mg) (Y : EL lams K mg base T) : DFn P w K mg base 1 (He.fAd K D_law_sip.at_) (fdOf K D_law_sip) ["_law_cup_here", "_law_many"] (spD ⟨K, mg, T⟩ 2 f_law_sip) :=
  dfn G.d_law_sip sc_law_sip rfl fun R cdv A outer s H E site tk => (db_cons (ds_asg (nx_ix 0 (sC (.int 0))) (e_mod (f_int rfl G.n_int (da_cons (e_add (e_mul (de_ix (de_var (i := 0) rfl (.inl rfl)) de_int (fun _ _ => rfl)) de_int) de_int) da_nil)) de_int) (dg_ix (i := 0) rfl (.inl rfl) de_int))
    (db_cons (ds_if (t_gt (de_ix (de_var (i := 0) rfl (.inl rfl)) de_int (fun _ _ => rfl)) de_int) (db_cons (ds_asg (nx_tup (nxs_cons (nx_ix 0 (sC (.int 1))) (nxs_cons (nx_name 2) nxs_nil))) (f_divmod rfl G.n_divmod (da_cons (de_ix (de_var (i := 0) rfl (.inl rfl)) de_int (fun _ _ => rfl)) (da_cons (de_var (i := 1) rfl (.inl rfl)) da_nil))) (dg_tup rfl (dgs_ixC (i := 0) rfl (.inl rfl) (dgs_cons (i := 2) sc_law_sip.nd rfl (.inl rfl) dgs_nil))))
    (db_one (ds_ret (de_var (i := 2) rfl (.inl rfl))))) db_nil)
    (db_one (ds_ret (e_mod (f_int rfl G.n_int (da_cons (e_div (de_ix (de_var (i := 0) rfl (.inl rfl)) de_int (fun _ _ => rfl)) de_int) da_nil)) (de_var (i := 1) rfl (.inl rfl)))))))
theorem b_law_sip_2 {K : PySem.W.Frag} {mg : Str → Option Value} (G : Facts K mg) : DBind K (fdOf K D_law_sip) ["_law_cup_here", "_law_many"] 2 [] (fun ds _ => ds) := bind_pos G.d_law_sip rfl fun _ _ _ _ _ _ us hl => match us, hl with | [_, _], _ => rfl
theorem sc_law_pick : FnScope ["_law_cup_here", "_law_things"] ["_law_cup_here", "_law_things"] (defScope S_law_pick) := ⟨rfl, rfl, rfl, by decide +kernel, rfl, by decide +kernel, by decide +kernel⟩
def b_law_pick : SS := (sRet (sBin oIx (sVar 1) (sCallD (sCons (sVar 0) (sCons (sCall oLen (sCons (sVar 1) sNil)) sNil)) sNo 2 0 (fun ds _ => ds) f_law_sip)))
def f_law_pick : SF := runB 0 b_law_pick
theorem ok_law_pick {P : Program} {w : World} {K : PySem.W.Frag} {mg : Str → Option Value} {base : Heap} {T : Tb} (G : Facts K mg) (Y : EL lams K mg base T) : DFn P w K mg base 2 (He.fAd K D_law_pick.at_) (fdOf K D_law_pick) ["_law_cup_here", "_law_things"] (spD ⟨K, mg, T⟩ 2 f_law_pick) :=
  dfn G.d_law_pick sc_law_pick rfl fun R cdv A outer s H E site tk => (db_one (ds_ret (de_ix (de_var (i := 1) rfl (.inl rfl)) (de_call (args_pos (da_cons (de_var (i := 0) rfl (.inl rfl)) (da_cons (f_len rfl G.n_len (da_cons (de_var (i := 1) rfl (.inl rfl)) da_nil)) da_nil))) ((ok_law_sip (T := T.inn R) G Y.inn).mono (by decide)) (b_law_sip_2 G) rfl site tk rfl G.g_law_sip G.d_law_sip.kp) (fun _ _ => rfl))))
theorem b_law_pick_2 {K : PySem.W.Frag} {mg : Str → Option Value} (G : Facts K mg) : DBind K (fdOf K D_law_pick) ["_law_cup_here", "_law_things"] 2 [] (fun ds _ => ds) := bind_pos G.d_law_pick rfl fun _ _ _ _ _ _ us hl => match us, hl with | [_, _], _ => rfl
theorem sc_NotASign__init_ : FnScope ["self", "given"] ["self", "given"] (defScope S_NotASign__init_) := ⟨rfl, rfl, rfl, by decide +kernel, rfl, by decide +kernel, by decide +kernel⟩
theorem fi_NotASign__init_ {P : Program} {w : World} {K : PySem.W.Frag} {mg : Str → Option Value} {base : Heap} (G : Facts K mg) : FnOk P w K mg base (L2N.CX P w) 1 (He.fAd K D_NotASign__init_.at_) (fdOf K D_NotASign__init_) ["self", "given"] (spI (He.ga K "NotASign") "given") := fn_initG PySem.F.store_ValueError G.d_NotASign__init_ sc_NotASign__init_ (mkXB_ok G.x_NotASign).o (mkXB_ok G.x_NotASign).no (fun _ _ _ _ _ _ => ⟨.inl rfl, .inl rfl⟩) (by decide) rfl
theorem bi_NotASign__init_ {K : PySem.W.Frag} {mg : Str → Option Value} (G : Facts K mg) : BindsP K (fdOf K D_NotASign__init_) ["self", "given"] := binds_p G.d_NotASign__init_ fun _ _ _ _ _ _ us hl => match us, hl with | [_, _], _ => rfl
theorem bk_NotASign__init_ {K : PySem.W.Frag} {mg : Str → Option Value} (G : Facts K mg) : ∀ (s : Shared) (v u : Value), K.In s.heap → BindsTo s (fdOf K D_NotASign__init_) ⟨[v], [("given", u)]⟩ ((["self", "given"] : List Str).zip [v, u]) := bindsK G.d_NotASign__init_ fun _ _ _ _ _ _ _ _ => rfl
theorem sc_NotARecord__init_ : FnScope ["self", "given"] ["self", "given"] (defScope S_NotARecord__init_) := ⟨rfl, rfl, rfl, by decide +kernel, rfl, by decide +kernel, by decide +kernel⟩
theorem fi_NotARecord__init_ {P : Program} {w : World} {K : PySem.W.Frag} {mg : Str → Option Value} {base : Heap} (G : Facts K mg) : FnOk P w K mg base (L2N.CX P w) 1 (He.fAd K D_NotARecord__init_.at_) (fdOf K D_NotARecord__init_) ["self", "given"] (spI (He.ga K "NotARecord") "given") := fn_initG PySem.F.store_ValueError G.d_NotARecord__init_ sc_NotARecord__init_ (mkXB_ok G.x_NotARecord).o (mkXB_ok G.x_NotARecord).no (fun _ _ _ _ _ _ => ⟨.inl rfl, .inl rfl⟩) (by decide) rfl
theorem bi_NotARecord__init_ {K : PySem.W.Frag} {mg : Str → Option Value} (G : Facts K mg) : BindsP K (fdOf K D_NotARecord__init_) ["self", "given"] := binds_p G.d_NotARecord__init_ fun _ _ _ _ _ _ us hl => match us, hl with | [_, _], _ => rfl
theorem bk_NotARecord__init_ {K : PySem.W.Frag} {mg : Str → Option Value} (G : Facts K mg) : ∀ (s : Shared) (v u : Value), K.In s.heap → BindsTo s (fdOf K D_NotARecord__init_) ⟨[v], [("given", u)]⟩ ((["self", "given"] : List Str).zip [v, u]) := bindsK G.d_NotARecord__init_ fun _ _ _ _ _ _ _ _ => rfl
theorem sc_InvalidText__init_ : FnScope ["self", "given"] ["self", "given"] (defScope S_InvalidText__init_) := ⟨rfl, rfl, rfl, by decide +kernel, rfl, by decide +kernel, by decide +kernel⟩
theorem fi_InvalidText__init_ {P : Program} {w : World} {K : PySem.W.Frag} {mg : Str → Option Value} {base : Heap} (G : Facts K mg) : FnOk P w K mg base (L2N.CX P w) 1 (He.fAd K D_InvalidText__init_.at_) (fdOf K D_InvalidText__init_) ["self", "given"] (spI (He.ga K "InvalidText") "given") := fn_initG PySem.F.store_ValueError G.d_InvalidText__init_ sc_InvalidText__init_ (mkXB_ok G.x_InvalidText).o (mkXB_ok G.x_InvalidText).no (fun _ _ _ _ _ _ => ⟨.inl rfl, .inl rfl⟩) (by decide) rfl
theorem bi_InvalidText__init_ {K : PySem.W.Frag} {mg : Str → Option Value} (G : Facts K mg) : BindsP K (fdOf K D_InvalidText__init_) ["self", "given"] := binds_p G.d_InvalidText__init_ fun _ _ _ _ _ _ us hl => match us, hl with | [_, _], _ => rfl
theorem bk_InvalidText__init_ {K : PySem.W.Frag} {mg : Str → Option Value} (G : Facts K mg) : ∀ (s : Shared) (v u : Value), K.In s.heap → BindsTo s (fdOf K D_InvalidText__init_) ⟨[v], [("given", u)]⟩ ((["self", "given"] : List Str).zip [v, u]) := bindsK G.d_InvalidText__init_ fun _ _ _ _ _ _ _ _ => rfl
theorem sc_InvalidPace__init_ : FnScope ["self", "given"] ["self", "given"] (defScope S_InvalidPace__init_) := ⟨rfl, rfl, rfl, by decide +kernel, rfl, by decide +kernel, by decide +kernel⟩
theorem fi_InvalidPace__init_ {P : Program} {w : World} {K : PySem.W.Frag} {mg : Str → Option Value} {base : Heap} (G : Facts K mg) : FnOk P w K mg base (L2N.CX P w) 1 (He.fAd K D_InvalidPace__init_.at_) (fdOf K D_InvalidPace__init_) ["self", "given"] (spI (He.ga K "InvalidPace") "given") := fn_initG PySem.F.store_ValueError G.d_InvalidPace__init_ sc_InvalidPace__init_ (mkXB_ok G.x_InvalidPace).o (mkXB_ok G.x_InvalidPace).no (fun _ _ _ _ _ _ => ⟨.inl rfl, .inl rfl⟩) (by decide) rfl
theorem bi_InvalidPace__init_ {K : PySem.W.Frag} {mg : Str → Option Value} (G : Facts K mg) : BindsP K (fdOf K D_InvalidPace__init_) ["self", "given"] := binds_p G.d_InvalidPace__init_ fun _ _ _ _ _ _ us hl => match us, hl with | [_, _], _ => rfl
theorem bk_InvalidPace__init_ {K : PySem.W.Frag} {mg : Str → Option Value} (G : Facts K mg) : ∀ (s : Shared) (v u : Value), K.In s.heap → BindsTo s (fdOf K D_InvalidPace__init_) ⟨[v], [("given", u)]⟩ ((["self", "given"] : List Str).zip [v, u]) := bindsK G.d_InvalidPace__init_ fun _ _ _ _ _ _ _ _ => rfl
theorem sc_InvalidWidth__init_ : FnScope ["self", "given"] ["self", "given"] (defScope S_InvalidWidth__init_) := ⟨rfl, rfl, rfl, by decide +kernel, rfl, by decide +kernel, by decide +kernel⟩
theorem fi_InvalidWidth__init_ {P : Program} {w : World} {K : PySem.W.Frag} {mg : Str → Option Value} {base : Heap} (G : Facts K mg) : FnOk P w K mg base (L2N.CX P w) 1 (He.fAd K D_InvalidWidth__init_.at_) (fdOf K D_InvalidWidth__init_) ["self", "given"] (spI (He.ga K "InvalidWidth") "given") := fn_initG PySem.F.store_ValueError G.d_InvalidWidth__init_ sc_InvalidWidth__init_ (mkXB_ok G.x_InvalidWidth).o (mkXB_ok G.x_InvalidWidth).no (fun _ _ _ _ _ _ => ⟨.inl rfl, .inl rfl⟩) (by decide) rfl
theorem bi_InvalidWidth__init_ {K : PySem.W.Frag} {mg : Str → Option Value} (G : Facts K mg) : BindsP K (fdOf K D_InvalidWidth__init_) ["self", "given"] := binds_p G.d_InvalidWidth__init_ fun _ _ _ _ _ _ us hl => match us, hl with | [_, _], _ => rfl
theorem bk_InvalidWidth__init_ {K : PySem.W.Frag} {mg : Str → Option Value} (G : Facts K mg) : ∀ (s : Shared) (v u : Value), K.In s.heap → BindsTo s (fdOf K D_InvalidWidth__init_) ⟨[v], [("given", u)]⟩ ((["self", "given"] : List Str).zip [v, u]) := bindsK G.d_InvalidWidth__init_ fun _ _ _ _ _ _ _ _ => rfl
theorem sc_InvalidPlace__init_ : FnScope ["self", "given"] ["self", "given"] (defScope S_InvalidPlace__init_) := ⟨rfl, rfl, rfl, by decide +kernel, rfl, by decide +kernel, by decide +kernel⟩
theorem fi_InvalidPlace__init_ {P : Program} {w : World} {K : PySem.W.Frag} {mg : Str → Option Value} {base : Heap} (G : Facts K mg) : FnOk P w K mg base (L2N.CX P w) 1 (He.fAd K D_InvalidPlace__init_.at_) (fdOf K D_InvalidPlace__init_) ["self", "given"] (spI (He.ga K "InvalidPlace") "given") := fn_initG PySem.F.store_ValueError G.d_InvalidPlace__init_ sc_InvalidPlace__init_ (mkXB_ok G.x_InvalidPlace).o (mkXB_ok G.x_InvalidPlace).no (fun _ _ _ _ _ _ => ⟨.inl rfl, .inl rfl⟩) (by decide) rfl
theorem bi_InvalidPlace__init_ {K : PySem.W.Frag} {mg : Str → Option Value} (G : Facts K mg) : BindsP K (fdOf K D_InvalidPlace__init_) ["self", "given"] := binds_p G.d_InvalidPlace__init_ fun _ _ _ _ _ _ us hl => match us, hl with | [_, _], _ => rfl
theorem bk_InvalidPlace__init_ {K : PySem.W.Frag} {mg : Str → Option Value} (G : Facts K mg) : ∀ (s : Shared) (v u : Value), K.In s.heap → BindsTo s (fdOf K D_InvalidPlace__init_) ⟨[v], [("given", u)]⟩ ((["self", "given"] : List Str).zip [v, u]) := bindsK G.d_InvalidPlace__init_ fun _ _ _ _ _ _ _ _ => rfl
theorem sc_InvalidLength__init_ : FnScope ["self", "given"] ["self", "given"] (defScope S_InvalidLength__init_) := ⟨rfl, rfl, rfl, by decide +kernel, rfl, by decide +kernel, by decide +kernel⟩
theorem fi_InvalidLength__init_ {P : Program} {w : World} {K : PySem.W.Frag} {mg : Str → Option Value} {base : Heap} (G : Facts K mg) : FnOk P w K mg base (L2N.CX P w) 1 (He.fAd K D_InvalidLength__init_.at_) (fdOf K D_InvalidLength__init_) ["self", "given"] (spI (He.ga K "InvalidLength") "given") := fn_initG PySem.F.store_ValueError G.d_InvalidLength__init_ sc_InvalidLength__init_ (mkXB_ok G.x_InvalidLength).o (mkXB_ok G.x_InvalidLength).no (fun _ _ _ _ _ _ => ⟨.inl rfl, .inl rfl⟩) (by decide) rfl
theorem bi_InvalidLength__init_ {K : PySem.W.Frag} {mg : Str → Option Value} (G : Facts K mg) : BindsP K (fdOf K D_InvalidLength__init_) ["self", "given"] := binds_p G.d_InvalidLength__init_ fun _ _ _ _ _ _ us hl => match us, hl with | [_, _], _ => rfl
theorem bk_InvalidLength__init_ {K : PySem.W.Frag} {mg : Str → Option Value} (G : Facts K mg) : ∀ (s : Shared) (v u : Value), K.In s.heap → BindsTo s (fdOf K D_InvalidLength__init_) ⟨[v], [("given", u)]⟩ ((["self", "given"] : List Str).zip [v, u]) := bindsK G.d_InvalidLength__init_ fun _ _ _ _ _ _ _ _ => rfl
theorem sc_InvalidTime__init_ : FnScope ["self", "given"] ["self", "given"] (defScope S_InvalidTime__init_) := ⟨rfl, rfl, rfl, by decide +kernel, rfl, by decide +kernel, by decide +kernel⟩
theorem fi_InvalidTime__init_ {P : Program} {w : World} {K : PySem.W.Frag} {mg : Str → Option Value} {base : Heap} (G : Facts K mg) : FnOk P w K mg base (L2N.CX P w) 1 (He.fAd K D_InvalidTime__init_.at_) (fdOf K D_InvalidTime__init_) ["self", "given"] (spI (He.ga K "InvalidTime") "given") := fn_initG PySem.F.store_ValueError G.d_InvalidTime__init_ sc_InvalidTime__init_ (mkXB_ok G.x_InvalidTime).o (mkXB_ok G.x_InvalidTime).no (fun _ _ _ _ _ _ => ⟨.inl rfl, .inl rfl⟩) (by decide) rfl
theorem bi_InvalidTime__init_ {K : PySem.W.Frag} {mg : Str → Option Value} (G : Facts K mg) : BindsP K (fdOf K D_InvalidTime__init_) ["self", "given"] := binds_p G.d_InvalidTime__init_ fun _ _ _ _ _ _ us hl => match us, hl with | [_, _], _ => rfl
theorem bk_InvalidTime__init_ {K : PySem.W.Frag} {mg : Str → Option Value} (G : Facts K mg) : ∀ (s : Shared) (v u : Value), K.In s.heap → BindsTo s (fdOf K D_InvalidTime__init_) ⟨[v], [("given", u)]⟩ ((["self", "given"] : List Str).zip [v, u]) := bindsK G.d_InvalidTime__init_ fun _ _ _ _ _ _ _ _ => rfl
theorem sc_InvalidWindow__init_ : FnScope ["self", "given"] ["self", "given"] (defScope S_InvalidWindow__init_) := ⟨rfl, rfl, rfl, by decide +kernel, rfl, by decide +kernel, by decide +kernel⟩
theorem fi_InvalidWindow__init_ {P : Program} {w : World} {K : PySem.W.Frag} {mg : Str → Option Value} {base : Heap} (G : Facts K mg) : FnOk P w K mg base (L2N.CX P w) 1 (He.fAd K D_InvalidWindow__init_.at_) (fdOf K D_InvalidWindow__init_) ["self", "given"] (spI (He.ga K "InvalidWindow") "given") := fn_initG PySem.F.store_ValueError G.d_InvalidWindow__init_ sc_InvalidWindow__init_ (mkXB_ok G.x_InvalidWindow).o (mkXB_ok G.x_InvalidWindow).no (fun _ _ _ _ _ _ => ⟨.inl rfl, .inl rfl⟩) (by decide) rfl
theorem bi_InvalidWindow__init_ {K : PySem.W.Frag} {mg : Str → Option Value} (G : Facts K mg) : BindsP K (fdOf K D_InvalidWindow__init_) ["self", "given"] := binds_p G.d_InvalidWindow__init_ fun _ _ _ _ _ _ us hl => match us, hl with | [_, _], _ => rfl
theorem bk_InvalidWindow__init_ {K : PySem.W.Frag} {mg : Str → Option Value} (G : Facts K mg) : ∀ (s : Shared) (v u : Value), K.In s.heap → BindsTo s (fdOf K D_InvalidWindow__init_) ⟨[v], [("given", u)]⟩ ((["self", "given"] : List Str).zip [v, u]) := bindsK G.d_InvalidWindow__init_ fun _ _ _ _ _ _ _ _ => rfl
theorem sc_InvalidName__init_ : FnScope ["self", "given"] ["self", "given"] (defScope S_InvalidName__init_) := ⟨rfl, rfl, rfl, by decide +kernel, rfl, by decide +kernel, by decide +kernel⟩
theorem fi_InvalidName__init_ {P : Program} {w : World} {K : PySem.W.Frag} {mg : Str → Option Value} {base : Heap} (G : Facts K mg) : FnOk P w K mg base (L2N.CX P w) 1 (He.fAd K D_InvalidName__init_.at_) (fdOf K D_InvalidName__init_) ["self", "given"] (spI (He.ga K "InvalidName") "given") := fn_initG PySem.F.store_ValueError G.d_InvalidName__init_ sc_InvalidName__init_ (mkXB_ok G.x_InvalidName).o (mkXB_ok G.x_InvalidName).no (fun _ _ _ _ _ _ => ⟨.inl rfl, .inl rfl⟩) (by decide) rfl
theorem bi_InvalidName__init_ {K : PySem.W.Frag} {mg : Str → Option Value} (G : Facts K mg) : BindsP K (fdOf K D_InvalidName__init_) ["self", "given"] := binds_p G.d_InvalidName__init_ fun _ _ _ _ _ _ us hl => match us, hl with | [_, _], _ => rfl
theorem bk_InvalidName__init_ {K : PySem.W.Frag} {mg : Str → Option Value} (G : Facts K mg) : ∀ (s : Shared) (v u : Value), K.In s.heap → BindsTo s (fdOf K D_InvalidName__init_) ⟨[v], [("given", u)]⟩ ((["self", "given"] : List Str).zip [v, u]) := bindsK G.d_InvalidName__init_ fun _ _ _ _ _ _ _ _ => rfl
theorem sc_InvalidClaim__init_ : FnScope ["self", "given"] ["self", "given"] (defScope S_InvalidClaim__init_) := ⟨rfl, rfl, rfl, by decide +kernel, rfl, by decide +kernel, by decide +kernel⟩
theorem fi_InvalidClaim__init_ {P : Program} {w : World} {K : PySem.W.Frag} {mg : Str → Option Value} {base : Heap} (G : Facts K mg) : FnOk P w K mg base (L2N.CX P w) 1 (He.fAd K D_InvalidClaim__init_.at_) (fdOf K D_InvalidClaim__init_) ["self", "given"] (spI (He.ga K "InvalidClaim") "given") := fn_initG PySem.F.store_ValueError G.d_InvalidClaim__init_ sc_InvalidClaim__init_ (mkXB_ok G.x_InvalidClaim).o (mkXB_ok G.x_InvalidClaim).no (fun _ _ _ _ _ _ => ⟨.inl rfl, .inl rfl⟩) (by decide) rfl
theorem bi_InvalidClaim__init_ {K : PySem.W.Frag} {mg : Str → Option Value} (G : Facts K mg) : BindsP K (fdOf K D_InvalidClaim__init_) ["self", "given"] := binds_p G.d_InvalidClaim__init_ fun _ _ _ _ _ _ us hl => match us, hl with | [_, _], _ => rfl
theorem bk_InvalidClaim__init_ {K : PySem.W.Frag} {mg : Str → Option Value} (G : Facts K mg) : ∀ (s : Shared) (v u : Value), K.In s.heap → BindsTo s (fdOf K D_InvalidClaim__init_) ⟨[v], [("given", u)]⟩ ((["self", "given"] : List Str).zip [v, u]) := bindsK G.d_InvalidClaim__init_ fun _ _ _ _ _ _ _ _ => rfl
theorem sc_InvalidIndex__init_ : FnScope ["self", "given"] ["self", "given"] (defScope S_InvalidIndex__init_) := ⟨rfl, rfl, rfl, by decide +kernel, rfl, by decide +kernel, by decide +kernel⟩
theorem fi_InvalidIndex__init_ {P : Program} {w : World} {K : PySem.W.Frag} {mg : Str → Option Value} {base : Heap} (G : Facts K mg) : FnOk P w K mg base (L2N.CX P w) 1 (He.fAd K D_InvalidIndex__init_.at_) (fdOf K D_InvalidIndex__init_) ["self", "given"] (spI (He.ga K "InvalidIndex") "given") := fn_initG PySem.F.store_ValueError G.d_InvalidIndex__init_ sc_InvalidIndex__init_ (mkXB_ok G.x_InvalidIndex).o (mkXB_ok G.x_InvalidIndex).no (fun _ _ _ _ _ _ => ⟨.inl rfl, .inl rfl⟩) (by decide) rfl
theorem bi_InvalidIndex__init_ {K : PySem.W.Frag} {mg : Str → Option Value} (G : Facts K mg) : BindsP K (fdOf K D_InvalidIndex__init_) ["self", "given"] := binds_p G.d_InvalidIndex__init_ fun _ _ _ _ _ _ us hl => match us, hl with | [_, _], _ => rfl
theorem bk_InvalidIndex__init_ {K : PySem.W.Frag} {mg : Str → Option Value} (G : Facts K mg) : ∀ (s : Shared) (v u : Value), K.In s.heap → BindsTo s (fdOf K D_InvalidIndex__init_) ⟨[v], [("given", u)]⟩ ((["self", "given"] : List Str).zip [v, u]) := bindsK G.d_InvalidIndex__init_ fun _ _ _ _ _ _ _ _ => rfl
theorem sc_InvalidLine__init_ : FnScope ["self", "given"] ["self", "given"] (defScope S_InvalidLine__init_) := ⟨rfl, rfl, rfl, by decide +kernel, rfl, by decide +kernel, by decide +kernel⟩
theorem fi_InvalidLine__init_ {P : Program} {w : World} {K : PySem.W.Frag} {mg : Str → Option Value} {base : Heap} (G : Facts K mg) : FnOk P w K mg base (L2N.CX P w) 1 (He.fAd K D_InvalidLine__init_.at_) (fdOf K D_InvalidLine__init_) ["self", "given"] (spI (He.ga K "InvalidLine") "given") := fn_initG PySem.F.store_ValueError G.d_InvalidLine__init_ sc_InvalidLine__init_ (mkXB_ok G.x_InvalidLine).o (mkXB_ok G.x_InvalidLine).no (fun _ _ _ _ _ _ => ⟨.inl rfl, .inl rfl⟩) (by decide) rfl
theorem bi_InvalidLine__init_ {K : PySem.W.Frag} {mg : Str → Option Value} (G : Facts K mg) : BindsP K (fdOf K D_InvalidLine__init_) ["self", "given"] := binds_p G.d_InvalidLine__init_ fun _ _ _ _ _ _ us hl => match us, hl with | [_, _], _ => rfl
theorem bk_InvalidLine__init_ {K : PySem.W.Frag} {mg : Str → Option Value} (G : Facts K mg) : ∀ (s : Shared) (v u : Value), K.In s.heap → BindsTo s (fdOf K D_InvalidLine__init_) ⟨[v], [("given", u)]⟩ ((["self", "given"] : List Str).zip [v, u]) := bindsK G.d_InvalidLine__init_ fun _ _ _ _ _ _ _ _ => rfl
theorem sc_law_given : FnScope ["_law_thing", "_law_found"] ["_law_thing"] (defScope S_law_given) := ⟨rfl, rfl, rfl, by decide +kernel, rfl, by decide +kernel, by decide +kernel⟩
def b_law_given : SS := (sSeq (sOwn 1 (fLst (sCons (sVal (fLst (sCons (sMkE "NotASign" "given" (sVar 0)) (sCons (sMkE "NotASign" "given" (sVar 0)) sNil)))) (sCons (sVal (fLst (sCons (sMkE "NotARecord" "given" (sVar 0)) (sCons (sMkE "NotARecord" "given" (sVar 0)) sNil)))) sNil)))) (fun r M => (sSeq (sOwn 1 (fCat (sVar 1) (sVal (fLst (sCons (sVal (fLst (sCons (sMkE "InvalidText" "given" (sVar 0)) (sCons (sMkE "InvalidText" "given" (sVar 0)) sNil)))) (sCons (sVal (fLst (sCons (sMkE "InvalidPace" "given" (sVar 0)) (sCons (sMkE "InvalidPace" "given" (sVar 0)) sNil)))) sNil)))))) (sSeq (sApp 1 (sVal (fLst (sCons (sMkE "InvalidWidth" "given" (sVar 0)) (sCons (sMkE "InvalidWidth" "given" (sVar 0)) sNil))))) (sSeq (sApp 1 (sVal (fLst (sCons (sMkE "InvalidPlace" "given" (sVar 0)) (sCons (sMkE "InvalidPlace" "given" (sVar 0)) sNil))))) (sSeq (sApp 1 (sVal (fLst (sCons (sMkE "InvalidLength" "given" (sVar 0)) (sCons (sMkE "InvalidLength" "given" (sVar 0)) sNil))))) (fun r M => (sSeq (sOwn 1 (fCat (sVar 1) (sVal (fLst (sCons (sVal (fLst (sCons (sMkE "InvalidTime" "given" (sVar 0)) (sCons (sMkE "InvalidTime" "given" (sVar 0)) sNil)))) (sCons (sVal (fLst (sCons (sMkE "InvalidWindow" "given" (sVar 0)) (sCons (sMkE "InvalidWindow" "given" (sVar 0)) sNil)))) sNil)))))) (fun r M => (sSeq (sOwn 1 (fCat (sVar 1) (sVal (fLst (sCons (sVal (fLst (sCons (sMkE "InvalidName" "given" (sVar 0)) (sCons (sMkE "InvalidName" "given" (sVar 0)) sNil)))) (sCons (sVal (fLst (sCons (sMkE "InvalidClaim" "given" (sVar 0)) (sCons (sMkE "InvalidClaim" "given" (sVar 0)) sNil)))) sNil)))))) (fun r M => (sRet (sBin oAdd (sVar 1) (sVal (fLst (sCons (sVal (fLst (sCons (sMkE "InvalidIndex" "given" (sVar 0)) (sCons (sMkE "InvalidIndex" "given" (sVar 0)) sNil)))) (sCons (sVal (fLst (sCons (sMkE "InvalidLine" "given" (sVar 0)) (sCons (sMkE "InvalidLine" "given" (sVar 0)) sNil)))) sNil)))))) (frz 1 r) M)) (frz 1 r) M)) (frz 1 r) M))))) (frz 1 r) M))
def f_law_given : SF := runB 1 b_law_given
theorem ok_law_given {P : Program} {w : World} {K : PySem.W.Frag} {mg : Str → Option Value} {base : Heap} {T : Tb} (G : Facts K mg) (Y : EL lams K mg base T) : DFn P w K mg base 3 (He.fAd K D_law_given.at_) (fdOf K D_law_given) ["_law_thing"] (spD ⟨K, mg, T⟩ 1 f_law_given) :=
  dfn G.d_law_given sc_law_given rfl fun R cdv A outer s H E site tk => (db_cons (ds_own (i := 1) sc_law_given.nd rfl (.inl rfl) (df_lst (da_cons (de_new (df_lst (da_cons (de_mkP PySem.F.excBase_ValueError (mkXB_ok G.x_NotASign) (fi_NotASign__init_ G) (bi_NotASign__init_ G) (site.mono (by decide)) tk rfl G.g_NotASign (de_var (i := 0) rfl (.inl rfl))) (da_cons (de_mkK PySem.F.excBase_ValueError (mkXB_ok G.x_NotASign) (fi_NotASign__init_ G) (bk_NotASign__init_ G) (site.mono (by decide)) tk rfl G.g_NotASign (de_var (i := 0) rfl (.inl rfl))) da_nil)))) (da_cons (de_new (df_lst (da_cons (de_mkP PySem.F.excBase_ValueError (mkXB_ok G.x_NotARecord) (fi_NotARecord__init_ G) (bi_NotARecord__init_ G) (site.mono (by decide)) tk rfl G.g_NotARecord (de_var (i := 0) rfl (.inl rfl))) (da_cons (de_mkK PySem.F.excBase_ValueError (mkXB_ok G.x_NotARecord) (fi_NotARecord__init_ G) (bk_NotARecord__init_ G) (site.mono (by decide)) tk rfl G.g_NotARecord (de_var (i := 0) rfl (.inl rfl))) da_nil)))) da_nil))))
    (db_frz 1 (db_cons (ds_own (i := 1) sc_law_given.nd rfl (.inl rfl) (df_cat (de_var (i := 1) rfl (.inl rfl)) (de_new (df_lst (da_cons (de_new (df_lst (da_cons (de_mkP PySem.F.excBase_ValueError (mkXB_ok G.x_InvalidText) (fi_InvalidText__init_ G) (bi_InvalidText__init_ G) (site.mono (by decide)) tk rfl G.g_InvalidText (de_var (i := 0) rfl (.inl rfl))) (da_cons (de_mkK PySem.F.excBase_ValueError (mkXB_ok G.x_InvalidText) (fi_InvalidText__init_ G) (bk_InvalidText__init_ G) (site.mono (by decide)) tk rfl G.g_InvalidText (de_var (i := 0) rfl (.inl rfl))) da_nil)))) (da_cons (de_new (df_lst (da_cons (de_mkP PySem.F.excBase_ValueError (mkXB_ok G.x_InvalidPace) (fi_InvalidPace__init_ G) (bi_InvalidPace__init_ G) (site.mono (by decide)) tk rfl G.g_InvalidPace (de_var (i := 0) rfl (.inl rfl))) (da_cons (de_mkK PySem.F.excBase_ValueError (mkXB_ok G.x_InvalidPace) (fi_InvalidPace__init_ G) (bk_InvalidPace__init_ G) (site.mono (by decide)) tk rfl G.g_InvalidPace (de_var (i := 0) rfl (.inl rfl))) da_nil)))) da_nil))))))
    (db_cons (ds_app (i := 1) rfl (.inl rfl) (de_new (df_lst (da_cons (de_mkP PySem.F.excBase_ValueError (mkXB_ok G.x_InvalidWidth) (fi_InvalidWidth__init_ G) (bi_InvalidWidth__init_ G) (site.mono (by decide)) tk rfl G.g_InvalidWidth (de_var (i := 0) rfl (.inl rfl))) (da_cons (de_mkK PySem.F.excBase_ValueError (mkXB_ok G.x_InvalidWidth) (fi_InvalidWidth__init_ G) (bk_InvalidWidth__init_ G) (site.mono (by decide)) tk rfl G.g_InvalidWidth (de_var (i := 0) rfl (.inl rfl))) da_nil)))))
    (db_cons (ds_app (i := 1) rfl (.inl rfl) (de_new (df_lst (da_cons (de_mkP PySem.F.excBase_ValueError (mkXB_ok G.x_InvalidPlace) (fi_InvalidPlace__init_ G) (bi_InvalidPlace__init_ G) (site.mono (by decide)) tk rfl G.g_InvalidPlace (de_var (i := 0) rfl (.inl rfl))) (da_cons (de_mkK PySem.F.excBase_ValueError (mkXB_ok G.x_InvalidPlace) (fi_InvalidPlace__init_ G) (bk_InvalidPlace__init_ G) (site.mono (by decide)) tk rfl G.g_InvalidPlace (de_var (i := 0) rfl (.inl rfl))) da_nil)))))
    (db_cons (ds_app (i := 1) rfl (.inl rfl) (de_new (df_lst (da_cons (de_mkP PySem.F.excBase_ValueError (mkXB_ok G.x_InvalidLength) (fi_InvalidLength__init_ G) (bi_InvalidLength__init_ G) (site.mono (by decide)) tk rfl G.g_InvalidLength (de_var (i := 0) rfl (.inl rfl))) (da_cons (de_mkK PySem.F.excBase_ValueError (mkXB_ok G.x_InvalidLength) (fi_InvalidLength__init_ G) (bk_InvalidLength__init_ G) (site.mono (by decide)) tk rfl G.g_InvalidLength (de_var (i := 0) rfl (.inl rfl))) da_nil)))))
    (db_frz 1 (db_cons (ds_own (i := 1) sc_law_given.nd rfl (.inl rfl) (df_cat (de_var (i := 1) rfl (.inl rfl)) (de_new (df_lst (da_cons (de_new (df_lst (da_cons (de_mkP PySem.F.excBase_ValueError (mkXB_ok G.x_InvalidTime) (fi_InvalidTime__init_ G) (bi_InvalidTime__init_ G) (site.mono (by decide)) tk rfl G.g_InvalidTime (de_var (i := 0) rfl (.inl rfl))) (da_cons (de_mkK PySem.F.excBase_ValueError (mkXB_ok G.x_InvalidTime) (fi_InvalidTime__init_ G) (bk_InvalidTime__init_ G) (site.mono (by decide)) tk rfl G.g_InvalidTime (de_var (i := 0) rfl (.inl rfl))) da_nil)))) (da_cons (de_new (df_lst (da_cons (de_mkP PySem.F.excBase_ValueError (mkXB_ok G.x_InvalidWindow) (fi_InvalidWindow__init_ G) (bi_InvalidWindow__init_ G) (site.mono (by decide)) tk rfl G.g_InvalidWindow (de_var (i := 0) rfl (.inl rfl))) (da_cons (de_mkK PySem.F.excBase_ValueError (mkXB_ok G.x_InvalidWindow) (fi_InvalidWindow__init_ G) (bk_InvalidWindow__init_ G) (site.mono (by decide)) tk rfl G.g_InvalidWindow (de_var (i := 0) rfl (.inl rfl))) da_nil)))) da_nil))))))
    (db_frz 1 (db_cons (ds_own (i := 1) sc_law_given.nd rfl (.inl rfl) (df_cat (de_var (i := 1) rfl (.inl rfl)) (de_new (df_lst (da_cons (de_new (df_lst (da_cons (de_mkP PySem.F.excBase_ValueError (mkXB_ok G.x_InvalidName) (fi_InvalidName__init_ G) (bi_InvalidName__init_ G) (site.mono (by decide)) tk rfl G.g_InvalidName (de_var (i := 0) rfl (.inl rfl))) (da_cons (de_mkK PySem.F.excBase_ValueError (mkXB_ok G.x_InvalidName) (fi_InvalidName__init_ G) (bk_InvalidName__init_ G) (site.mono (by decide)) tk rfl G.g_InvalidName (de_var (i := 0) rfl (.inl rfl))) da_nil)))) (da_cons (de_new (df_lst (da_cons (de_mkP PySem.F.excBase_ValueError (mkXB_ok G.x_InvalidClaim) (fi_InvalidClaim__init_ G) (bi_InvalidClaim__init_ G) (site.mono (by decide)) tk rfl G.g_InvalidClaim (de_var (i := 0) rfl (.inl rfl))) (da_cons (de_mkK PySem.F.excBase_ValueError (mkXB_ok G.x_InvalidClaim) (fi_InvalidClaim__init_ G) (bk_InvalidClaim__init_ G) (site.mono (by decide)) tk rfl G.g_InvalidClaim (de_var (i := 0) rfl (.inl rfl))) da_nil)))) da_nil))))))
    (db_frz 1 (db_one (ds_ret (e_add (de_var (i := 1) rfl (.inl rfl)) (de_new (df_lst (da_cons (de_new (df_lst (da_cons (de_mkP PySem.F.excBase_ValueError (mkXB_ok G.x_InvalidIndex) (fi_InvalidIndex__init_ G) (bi_InvalidIndex__init_ G) (site.mono (by decide)) tk rfl G.g_InvalidIndex (de_var (i := 0) rfl (.inl rfl))) (da_cons (de_mkK PySem.F.excBase_ValueError (mkXB_ok G.x_InvalidIndex) (fi_InvalidIndex__init_ G) (bk_InvalidIndex__init_ G) (site.mono (by decide)) tk rfl G.g_InvalidIndex (de_var (i := 0) rfl (.inl rfl))) da_nil)))) (da_cons (de_new (df_lst (da_cons (de_mkP PySem.F.excBase_ValueError (mkXB_ok G.x_InvalidLine) (fi_InvalidLine__init_ G) (bi_InvalidLine__init_ G) (site.mono (by decide)) tk rfl G.g_InvalidLine (de_var (i := 0) rfl (.inl rfl))) (da_cons (de_mkK PySem.F.excBase_ValueError (mkXB_ok G.x_InvalidLine) (fi_InvalidLine__init_ G) (bk_InvalidLine__init_ G) (site.mono (by decide)) tk rfl G.g_InvalidLine (de_var (i := 0) rfl (.inl rfl))) da_nil)))) da_nil))))))))))))))))))
theorem b_law_given_1 {K : PySem.W.Frag} {mg : Str → Option Value} (G : Facts K mg) : DBind K (fdOf K D_law_given) ["_law_thing"] 1 [] (fun ds _ => ds) := bind_pos G.d_law_given rfl fun _ _ _ _ _ _ us hl => match us, hl with | [_], _ => rfl
theorem sc_InvalidDead__init_ : FnScope ["self", "index"] ["self", "index"] (defScope S_InvalidDead__init_) := ⟨rfl, rfl, rfl, by decide +kernel, rfl, by decide +kernel, by decide +kernel⟩
theorem fi_InvalidDead__init_ {P : Program} {w : World} {K : PySem.W.Frag} {mg : Str → Option Value} {base : Heap} (G : Facts K mg) : FnOk P w K mg base (L2N.CX P w) 1 (He.fAd K D_InvalidDead__init_.at_) (fdOf K D_InvalidDead__init_) ["self", "index"] (spI (He.ga K "InvalidDead") "index") := fn_initG PySem.F.store_ValueError G.d_InvalidDead__init_ sc_InvalidDead__init_ (mkXB_ok G.x_InvalidDead).o (mkXB_ok G.x_InvalidDead).no (fun _ _ _ _ _ _ => ⟨.inl rfl, .inl rfl⟩) (by decide) rfl
theorem bi_InvalidDead__init_ {K : PySem.W.Frag} {mg : Str → Option Value} (G : Facts K mg) : BindsP K (fdOf K D_InvalidDead__init_) ["self", "index"] := binds_p G.d_InvalidDead__init_ fun _ _ _ _ _ _ us hl => match us, hl with | [_, _], _ => rfl
theorem bk_InvalidDead__init_ {K : PySem.W.Frag} {mg : Str → Option Value} (G : Facts K mg) : ∀ (s : Shared) (v u : Value), K.In s.heap → BindsTo s (fdOf K D_InvalidDead__init_) ⟨[v], [("index", u)]⟩ ((["self", "index"] : List Str).zip [v, u]) := bindsK G.d_InvalidDead__init_ fun _ _ _ _ _ _ _ _ => rfl
theorem sc_InvalidPaces__init_ : FnScope ["self", "index"] ["self", "index"] (defScope S_InvalidPaces__init_) := ⟨rfl, rfl, rfl, by decide +kernel, rfl, by decide +kernel, by decide +kernel⟩
theorem fi_InvalidPaces__init_ {P : Program} {w : World} {K : PySem.W.Frag} {mg : Str → Option Value} {base : Heap} (G : Facts K mg) : FnOk P w K mg base (L2N.CX P w) 1 (He.fAd K D_InvalidPaces__init_.at_) (fdOf K D_InvalidPaces__init_) ["self", "index"] (spI (He.ga K "InvalidPaces") "index") := fn_initG PySem.F.store_ValueError G.d_InvalidPaces__init_ sc_InvalidPaces__init_ (mkXB_ok G.x_InvalidPaces).o (mkXB_ok G.x_InvalidPaces).no (fun _ _ _ _ _ _ => ⟨.inl rfl, .inl rfl⟩) (by decide) rfl
theorem bi_InvalidPaces__init_ {K : PySem.W.Frag} {mg : Str → Option Value} (G : Facts K mg) : BindsP K (fdOf K D_InvalidPaces__init_) ["self", "index"] := binds_p G.d_InvalidPaces__init_ fun _ _ _ _ _ _ us hl => match us, hl with | [_, _], _ => rfl
theorem bk_InvalidPaces__init_ {K : PySem.W.Frag} {mg : Str → Option Value} (G : Facts K mg) : ∀ (s : Shared) (v u : Value), K.In s.heap → BindsTo s (fdOf K D_InvalidPaces__init_) ⟨[v], [("index", u)]⟩ ((["self", "index"] : List Str).zip [v, u]) := bindsK G.d_InvalidPaces__init_ fun _ _ _ _ _ _ _ _ => rfl
theorem sc_InvalidGroups__init_ : FnScope ["self", "index"] ["self", "index"] (defScope S_InvalidGroups__init_) := ⟨rfl, rfl, rfl, by decide +kernel, rfl, by decide +kernel, by decide +kernel⟩
theorem fi_InvalidGroups__init_ {P : Program} {w : World} {K : PySem.W.Frag} {mg : Str → Option Value} {base : Heap} (G : Facts K mg) : FnOk P w K mg base (L2N.CX P w) 1 (He.fAd K D_InvalidGroups__init_.at_) (fdOf K D_InvalidGroups__init_) ["self", "index"] (spI (He.ga K "InvalidGroups") "index") := fn_initG PySem.F.store_ValueError G.d_InvalidGroups__init_ sc_InvalidGroups__init_ (mkXB_ok G.x_InvalidGroups).o (mkXB_ok G.x_InvalidGroups).no (fun _ _ _ _ _ _ => ⟨.inl rfl, .inl rfl⟩) (by decide) rfl
theorem bi_InvalidGroups__init_ {K : PySem.W.Frag} {mg : Str → Option Value} (G : Facts K mg) : BindsP K (fdOf K D_InvalidGroups__init_) ["self", "index"] := binds_p G.d_InvalidGroups__init_ fun _ _ _ _ _ _ us hl => match us, hl with | [_, _], _ => rfl
theorem bk_InvalidGroups__init_ {K : PySem.W.Frag} {mg : Str → Option Value} (G : Facts K mg) : ∀ (s : Shared) (v u : Value), K.In s.heap → BindsTo s (fdOf K D_InvalidGroups__init_) ⟨[v], [("index", u)]⟩ ((["self", "index"] : List Str).zip [v, u]) := bindsK G.d_InvalidGroups__init_ fun _ _ _ _ _ _ _ _ => rfl
theorem sc_InvalidTimes__init_ : FnScope ["self", "index"] ["self", "index"] (defScope S_InvalidTimes__init_) := ⟨rfl, rfl, rfl, by decide +kernel, rfl, by decide +kernel, by decide +kernel⟩
theorem fi_InvalidTimes__init_ {P : Program} {w : World} {K : PySem.W.Frag} {mg : Str → Option Value} {base : Heap} (G : Facts K mg) : FnOk P w K mg base (L2N.CX P w) 1 (He.fAd K D_InvalidTimes__init_.at_) (fdOf K D_InvalidTimes__init_) ["self", "index"] (spI (He.ga K "InvalidTimes") "index") := fn_initG PySem.F.store_ValueError G.d_InvalidTimes__init_ sc_InvalidTimes__init_ (mkXB_ok G.x_InvalidTimes).o (mkXB_ok G.x_InvalidTimes).no (fun _ _ _ _ _ _ => ⟨.inl rfl, .inl rfl⟩) (by decide) rfl
theorem bi_InvalidTimes__init_ {K : PySem.W.Frag} {mg : Str → Option Value} (G : Facts K mg) : BindsP K (fdOf K D_InvalidTimes__init_) ["self", "index"] := binds_p G.d_InvalidTimes__init_ fun _ _ _ _ _ _ us hl => match us, hl with | [_, _], _ => rfl
theorem bk_InvalidTimes__init_ {K : PySem.W.Frag} {mg : Str → Option Value} (G : Facts K mg) : ∀ (s : Shared) (v u : Value), K.In s.heap → BindsTo s (fdOf K D_InvalidTimes__init_) ⟨[v], [("index", u)]⟩ ((["self", "index"] : List Str).zip [v, u]) := bindsK G.d_InvalidTimes__init_ fun _ _ _ _ _ _ _ _ => rfl
theorem sc_InvalidDeeds__init_ : FnScope ["self", "index"] ["self", "index"] (defScope S_InvalidDeeds__init_) := ⟨rfl, rfl, rfl, by decide +kernel, rfl, by decide +kernel, by decide +kernel⟩
theorem fi_InvalidDeeds__init_ {P : Program} {w : World} {K : PySem.W.Frag} {mg : Str → Option Value} {base : Heap} (G : Facts K mg) : FnOk P w K mg base (L2N.CX P w) 1 (He.fAd K D_InvalidDeeds__init_.at_) (fdOf K D_InvalidDeeds__init_) ["self", "index"] (spI (He.ga K "InvalidDeeds") "index") := fn_initG PySem.F.store_ValueError G.d_InvalidDeeds__init_ sc_InvalidDeeds__init_ (mkXB_ok G.x_InvalidDeeds).o (mkXB_ok G.x_InvalidDeeds).no (fun _ _ _ _ _ _ => ⟨.inl rfl, .inl rfl⟩) (by decide) rfl
theorem bi_InvalidDeeds__init_ {K : PySem.W.Frag} {mg : Str → Option Value} (G : Facts K mg) : BindsP K (fdOf K D_InvalidDeeds__init_) ["self", "index"] := binds_p G.d_InvalidDeeds__init_ fun _ _ _ _ _ _ us hl => match us, hl with | [_, _], _ => rfl
theorem bk_InvalidDeeds__init_ {K : PySem.W.Frag} {mg : Str → Option Value} (G : Facts K mg) : ∀ (s : Shared) (v u : Value), K.In s.heap → BindsTo s (fdOf K D_InvalidDeeds__init_) ⟨[v], [("index", u)]⟩ ((["self", "index"] : List Str).zip [v, u]) := bindsK G.d_InvalidDeeds__init_ fun _ _ _ _ _ _ _ _ => rfl
theorem sc_law_indexed : FnScope ["_law_thing", "_law_found"] ["_law_thing"] (defScope S_law_indexed) := ⟨rfl, rfl, rfl, by decide +kernel, rfl, by decide +kernel, by decide +kernel⟩
def b_law_indexed : SS := (sSeq (sOwn 1 (fLst (sCons (sVal (fLst (sCons (sMkE "InvalidDead" "index" (sVar 0)) (sCons (sMkE "InvalidDead" "index" (sVar 0)) sNil)))) (sCons (sVal (fLst (sCons (sMkE "InvalidPaces" "index" (sVar 0)) (sCons (sMkE "InvalidPaces" "index" (sVar 0)) sNil)))) sNil)))) (sSeq (sApp 1 (sVal (fLst (sCons (sMkE "InvalidGroups" "index" (sVar 0)) (sCons (sMkE "InvalidGroups" "index" (sVar 0)) sNil))))) (fun r M => (sRet (sBin oAdd (sVar 1) (sVal (fLst (sCons (sVal (fLst (sCons (sMkE "InvalidTimes" "index" (sVar 0)) (sCons (sMkE "InvalidTimes" "index" (sVar 0)) sNil)))) (sCons (sVal (fLst (sCons (sMkE "InvalidDeeds" "index" (sVar 0)) (sCons (sMkE "InvalidDeeds" "index" (sVar 0)) sNil)))) sNil)))))) (frz 1 r) M)))
def f_law_indexed : SF := runB 1 b_law_indexed
theorem ok_law_indexed {P : Program} {w : World} {K : PySem.W.Frag} {mg : Str → Option Value} {base : Heap} {T : Tb} (G : Facts K mg) (Y : EL lams K mg base T) : DFn P w K mg base 3 (He.fAd K D_law_indexed.at_) (fdOf K D_law_indexed) ["_law_thing"] (spD ⟨K, mg, T⟩ 1 f_law_indexed) :=
  dfn G.d_law_indexed sc_law_indexed rfl fun R cdv A outer s H E site tk => (db_cons (ds_own (i := 1) sc_law_indexed.nd rfl (.inl rfl) (df_lst (da_cons (de_new (df_lst (da_cons (de_mkP PySem.F.excBase_ValueError (mkXB_ok G.x_InvalidDead) (fi_InvalidDead__init_ G) (bi_InvalidDead__init_ G) (site.mono (by decide)) tk rfl G.g_InvalidDead (de_var (i := 0) rfl (.inl rfl))) (da_cons (de_mkK PySem.F.excBase_ValueError (mkXB_ok G.x_InvalidDead) (fi_InvalidDead__init_ G) (bk_InvalidDead__init_ G) (site.mono (by decide)) tk rfl G.g_InvalidDead (de_var (i := 0) rfl (.inl rfl))) da_nil)))) (da_cons (de_new (df_lst (da_cons (de_mkP PySem.F.excBase_ValueError (mkXB_ok G.x_InvalidPaces) (fi_InvalidPaces__init_ G) (bi_InvalidPaces__init_ G) (site.mono (by decide)) tk rfl G.g_InvalidPaces (de_var (i := 0) rfl (.inl rfl))) (da_cons (de_mkK PySem.F.excBase_ValueError (mkXB_ok G.x_InvalidPaces) (fi_InvalidPaces__init_ G) (bk_InvalidPaces__init_ G) (site.mono (by decide)) tk rfl G.g_InvalidPaces (de_var (i := 0) rfl (.inl rfl))) da_nil)))) da_nil))))
    (db_cons (ds_app (i := 1) rfl (.inl rfl) (de_new (df_lst (da_cons (de_mkP PySem.F.excBase_ValueError (mkXB_ok G.x_InvalidGroups) (fi_InvalidGroups__init_ G) (bi_InvalidGroups__init_ G) (site.mono (by decide)) tk rfl G.g_InvalidGroups (de_var (i := 0) rfl (.inl rfl))) (da_cons (de_mkK PySem.F.excBase_ValueError (mkXB_ok G.x_InvalidGroups) (fi_InvalidGroups__init_ G) (bk_InvalidGroups__init_ G) (site.mono (by decide)) tk rfl G.g_InvalidGroups (de_var (i := 0) rfl (.inl rfl))) da_nil)))))
    (db_frz 1 (db_one (ds_ret (e_add (de_var (i := 1) rfl (.inl rfl)) (de_new (df_lst (da_cons (de_new (df_lst (da_cons (de_mkP PySem.F.excBase_ValueError (mkXB_ok G.x_InvalidTimes) (fi_InvalidTimes__init_ G) (bi_InvalidTimes__init_ G) (site.mono (by decide)) tk rfl G.g_InvalidTimes (de_var (i := 0) rfl (.inl rfl))) (da_cons (de_mkK PySem.F.excBase_ValueError (mkXB_ok G.x_InvalidTimes) (fi_InvalidTimes__init_ G) (bk_InvalidTimes__init_ G) (site.mono (by decide)) tk rfl G.g_InvalidTimes (de_var (i := 0) rfl (.inl rfl))) da_nil)))) (da_cons (de_new (df_lst (da_cons (de_mkP PySem.F.excBase_ValueError (mkXB_ok G.x_InvalidDeeds) (fi_InvalidDeeds__init_ G) (bi_InvalidDeeds__init_ G) (site.mono (by decide)) tk rfl G.g_InvalidDeeds (de_var (i := 0) rfl (.inl rfl))) (da_cons (de_mkK PySem.F.excBase_ValueError (mkXB_ok G.x_InvalidDeeds) (fi_InvalidDeeds__init_ G) (bk_InvalidDeeds__init_ G) (site.mono (by decide)) tk rfl G.g_InvalidDeeds (de_var (i := 0) rfl (.inl rfl))) da_nil)))) da_nil))))))))))
theorem b_law_indexed_1 {K : PySem.W.Frag} {mg : Str → Option Value} (G : Facts K mg) : DBind K (fdOf K D_law_indexed) ["_law_thing"] 1 [] (fun ds _ => ds) := bind_pos G.d_law_indexed rfl fun _ _ _ _ _ _ us hl => match us, hl with | [_], _ => rfl
theorem sc_UnknownName__init_ : FnScope ["self", "given"] ["self", "given"] (defScope S_UnknownName__init_) := ⟨rfl, rfl, rfl, by decide +kernel, rfl, by decide +kernel, by decide +kernel⟩
theorem fi_UnknownName__init_ {P : Program} {w : World} {K : PySem.W.Frag} {mg : Str → Option Value} {base : Heap} (G : Facts K mg) : FnOk P w K mg base (L2N.CX P w) 1 (He.fAd K D_UnknownName__init_.at_) (fdOf K D_UnknownName__init_) ["self", "given"] (spI (He.ga K "UnknownName") "given") := fn_initG PySem.F.store_LookupError G.d_UnknownName__init_ sc_UnknownName__init_ (mkXB_ok G.x_UnknownName).o (mkXB_ok G.x_UnknownName).no (fun _ _ _ _ _ _ => ⟨.inl rfl, .inl rfl⟩) (by decide) rfl
theorem bi_UnknownName__init_ {K : PySem.W.Frag} {mg : Str → Option Value} (G : Facts K mg) : BindsP K (fdOf K D_UnknownName__init_) ["self", "given"] := binds_p G.d_UnknownName__init_ fun _ _ _ _ _ _ us hl => match us, hl with | [_, _], _ => rfl
theorem bk_UnknownName__init_ {K : PySem.W.Frag} {mg : Str → Option Value} (G : Facts K mg) : ∀ (s : Shared) (v u : Value), K.In s.heap → BindsTo s (fdOf K D_UnknownName__init_) ⟨[v], [("given", u)]⟩ ((["self", "given"] : List Str).zip [v, u]) := bindsK G.d_UnknownName__init_ fun _ _ _ _ _ _ _ _ => rfl
theorem sc_OtherKind__init_ : FnScope ["self", "given"] ["self", "given"] (defScope S_OtherKind__init_) := ⟨rfl, rfl, rfl, by decide +kernel, rfl, by decide +kernel, by decide +kernel⟩
theorem fi_OtherKind__init_ {P : Program} {w : World} {K : PySem.W.Frag} {mg : Str → Option Value} {base : Heap} (G : Facts K mg) : FnOk P w K mg base (L2N.CX P w) 1 (He.fAd K D_OtherKind__init_.at_) (fdOf K D_OtherKind__init_) ["self", "given"] (spI (He.ga K "OtherKind") "given") := fn_initG PySem.F.store_ArithmeticError G.d_OtherKind__init_ sc_OtherKind__init_ (mkXB_ok G.x_OtherKind).o (mkXB_ok G.x_OtherKind).no (fun _ _ _ _ _ _ => ⟨.inl rfl, .inl rfl⟩) (by decide) rfl
theorem bi_OtherKind__init_ {K : PySem.W.Frag} {mg : Str → Option Value} (G : Facts K mg) : BindsP K (fdOf K D_OtherKind__init_) ["self", "given"] := binds_p G.d_OtherKind__init_ fun _ _ _ _ _ _ us hl => match us, hl with | [_, _], _ => rfl
theorem bk_OtherKind__init_ {K : PySem.W.Frag} {mg : Str → Option Value} (G : Facts K mg) : ∀ (s : Shared) (v u : Value), K.In s.heap → BindsTo s (fdOf K D_OtherKind__init_) ⟨[v], [("given", u)]⟩ ((["self", "given"] : List Str).zip [v, u]) := bindsK G.d_OtherKind__init_ fun _ _ _ _ _ _ _ _ => rfl
theorem sc_InUse__init_ : FnScope ["self", "index"] ["self", "index"] (defScope S_InUse__init_) := ⟨rfl, rfl, rfl, by decide +kernel, rfl, by decide +kernel, by decide +kernel⟩
theorem fi_InUse__init_ {P : Program} {w : World} {K : PySem.W.Frag} {mg : Str → Option Value} {base : Heap} (G : Facts K mg) : FnOk P w K mg base (L2N.CX P w) 1 (He.fAd K D_InUse__init_.at_) (fdOf K D_InUse__init_) ["self", "index"] (spI (He.ga K "InUse") "index") := fn_initG PySem.F.store_LookupError G.d_InUse__init_ sc_InUse__init_ (mkXB_ok G.x_InUse).o (mkXB_ok G.x_InUse).no (fun _ _ _ _ _ _ => ⟨.inl rfl, .inl rfl⟩) (by decide) rfl
theorem bi_InUse__init_ {K : PySem.W.Frag} {mg : Str → Option Value} (G : Facts K mg) : BindsP K (fdOf K D_InUse__init_) ["self", "index"] := binds_p G.d_InUse__init_ fun _ _ _ _ _ _ us hl => match us, hl with | [_, _], _ => rfl
theorem bk_InUse__init_ {K : PySem.W.Frag} {mg : Str → Option Value} (G : Facts K mg) : ∀ (s : Shared) (v u : Value), K.In s.heap → BindsTo s (fdOf K D_InUse__init_) ⟨[v], [("index", u)]⟩ ((["self", "index"] : List Str).zip [v, u]) := bindsK G.d_InUse__init_ fun _ _ _ _ _ _ _ _ => rfl
theorem sc_TooMany__init_ : FnScope ["self", "most"] ["self", "most"] (defScope S_TooMany__init_) := ⟨rfl, rfl, rfl, by decide +kernel, rfl, by decide +kernel, by decide +kernel⟩
theorem fi_TooMany__init_ {P : Program} {w : World} {K : PySem.W.Frag} {mg : Str → Option Value} {base : Heap} (G : Facts K mg) : FnOk P w K mg base (L2N.CX P w) 1 (He.fAd K D_TooMany__init_.at_) (fdOf K D_TooMany__init_) ["self", "most"] (spI (He.ga K "TooMany") "most") := fn_initG PySem.F.store_ArithmeticError G.d_TooMany__init_ sc_TooMany__init_ (mkXB_ok G.x_TooMany).o (mkXB_ok G.x_TooMany).no (fun _ _ _ _ _ _ => ⟨.inl rfl, .inl rfl⟩) (by decide) rfl
theorem bi_TooMany__init_ {K : PySem.W.Frag} {mg : Str → Option Value} (G : Facts K mg) : BindsP K (fdOf K D_TooMany__init_) ["self", "most"] := binds_p G.d_TooMany__init_ fun _ _ _ _ _ _ us hl => match us, hl with | [_, _], _ => rfl
theorem bk_TooMany__init_ {K : PySem.W.Frag} {mg : Str → Option Value} (G : Facts K mg) : ∀ (s : Shared) (v u : Value), K.In s.heap → BindsTo s (fdOf K D_TooMany__init_) ⟨[v], [("most", u)]⟩ ((["self", "most"] : List Str).zip [v, u]) := bindsK G.d_TooMany__init_ fun _ _ _ _ _ _ _ _ => rfl
theorem sc_Broken__init_ : FnScope ["self", "index"] ["self", "index"] (defScope S_Broken__init_) := ⟨rfl, rfl, rfl, by decide +kernel, rfl, by decide +kernel, by decide +kernel⟩
theorem fi_Broken__init_ {P : Program} {w : World} {K : PySem.W.Frag} {mg : Str → Option Value} {base : Heap} (G : Facts K mg) : FnOk P w K mg base (L2N.CX P w) 1 (He.fAd K D_Broken__init_.at_) (fdOf K D_Broken__init_) ["self", "index"] (spI (He.ga K "Broken") "index") := fn_initG PySem.F.store_ArithmeticError G.d_Broken__init_ sc_Broken__init_ (mkXB_ok G.x_Broken).o (mkXB_ok G.x_Broken).no (fun _ _ _ _ _ _ => ⟨.inl rfl, .inl rfl⟩) (by decide) rfl
theorem bi_Broken__init_ {K : PySem.W.Frag} {mg : Str → Option Value} (G : Facts K mg) : BindsP K (fdOf K D_Broken__init_) ["self", "index"] := binds_p G.d_Broken__init_ fun _ _ _ _ _ _ us hl => match us, hl with | [_, _], _ => rfl
theorem bk_Broken__init_ {K : PySem.W.Frag} {mg : Str → Option Value} (G : Facts K mg) : ∀ (s : Shared) (v u : Value), K.In s.heap → BindsTo s (fdOf K D_Broken__init_) ⟨[v], [("index", u)]⟩ ((["self", "index"] : List Str).zip [v, u]) := bindsK G.d_Broken__init_ fun _ _ _ _ _ _ _ _ => rfl
theorem sc_law_right : FnScope ["_law_cup_here", "_law_things", "_law_thing", "_law_at", "_law_both", "_law_e"] ["_law_cup_here"] (defScope S_law_right) := ⟨rfl, rfl, rfl, by decide +kernel, rfl, by decide +kernel, by decide +kernel⟩
def b_law_right : SS := (sSeq (sAsg (sVal (fLst (sCons (sC .non) (sCons (sC (.int 0)) (sCons (sUn oNeg (sC (.int 3))) (sCons (sC (.bl true)) (sCons (sC (.str "a")) (sCons (sC (.str "")) (sCons (sTup sNil) (sCons (sTup (sCons (sC (.int 1)) (sCons (sC (.int 2)) sNil))) (sCons (sVal (fLst sNil)) (sCons (sVal (fLst (sCons (sC (.int 7)) sNil))) (sCons (sVal fDic0) (sCons (sVal (fDicC [((.inr "a"), .int 1)])) (sCons (sBin (oI gPow) (sC (.int 10)) (sC (.int 30))) (sCons (sTup (sCons (sC (.str "set")) (sCons (sC (.int 3)) sNil))) sNil)))))))))))))))) (aName 1)) (sSeq (sAsg (sCallD (sCons (sVar 0) (sCons (sVar 1) sNil)) sNo 2 0 (fun ds _ => ds) f_law_pick) (aName 2)) (sSeq (sFor (sEnum (sCallD (sCons (sVar 2) sNil) sNo 1 0 (fun ds _ => ds) f_law_given)) (aTup 2 (aCons (aName 3) (aCons (aName 4) aNil))) (sIte (tBin oNe (sVal (fLc [5] (sItems (sVar 4)) (kName 5) tsYes (sBin oAdd (sCallD (sCons (sVar 5) sNil) sNo 1 0 (fun ds _ => ds) f_law_classes) (sVal (fLst (sCons (sCall oReprG (sCons (sUn (oExF kxn "given") (sVar 5)) sNil)) sNil)))))) (sBin oRepL (sVal (fLst (sCons (sVal (fLst (sCons (sVar 3) (sCons (sC (.int 30)) (sCons (sC (.int 33)) (sCons (sCall oReprG (sCons (sVar 2) sNil)) sNil)))))) sNil))) (sC (.int 2)))) (sRet (sC (.bl false))) sSkip)) (sSeq (sFor (sEnum (sCallD (sCons (sVar 2) sNil) sNo 1 0 (fun ds _ => ds) f_law_indexed)) (aTup 2 (aCons (aName 3) (aCons (aName 4) aNil))) (sIte (tBin oNe (sVal (fLc [5] (sItems (sVar 4)) (kName 5) tsYes (sBin oAdd (sCallD (sCons (sVar 5) sNil) sNo 1 0 (fun ds _ => ds) f_law_classes) (sVal (fLst (sCons (sCall oReprG (sCons (sUn (oExF kxn "index") (sVar 5)) sNil)) sNil)))))) (sBin oRepL (sVal (fLst (sCons (sVal (fLst (sCons (sBin oAdd (sC (.int 13)) (sVar 3)) (sCons (sC (.int 30)) (sCons (sC (.int 33)) (sCons (sCall oReprG (sCons (sVar 2) sNil)) sNil)))))) sNil))) (sC (.int 2)))) (sRet (sC (.bl false))) sSkip)) (sSeq (sAsg (sVal (fLst (sCons (sMkE "UnknownName" "given" (sVar 2)) (sCons (sMkE "UnknownName" "given" (sVar 2)) sNil)))) (aName 4)) (sSeq (sIte (tBin oNe (sVal (fLc [5] (sItems (sVar 4)) (kName 5) tsYes (sBin oAdd (sCallD (sCons (sVar 5) sNil) sNo 1 0 (fun ds _ => ds) f_law_classes) (sVal (fLst (sCons (sCall oReprG (sCons (sUn (oExF kxn "given") (sVar 5)) sNil)) sNil)))))) (sBin oRepL (sVal (fLst (sCons (sVal (fLst (sCons (sC (.int 18)) (sCons (sC (.int 31)) (sCons (sC (.int 34)) (sCons (sCall oReprG (sCons (sVar 2) sNil)) sNil)))))) sNil))) (sC (.int 2)))) (sRet (sC (.bl false))) sSkip) (sSeq (sAsg (sVal (fLst (sCons (sMkE "OtherKind" "given" (sVar 2)) (sCons (sMkE "OtherKind" "given" (sVar 2)) sNil)))) (aName 4)) (sSeq (sIte (tBin oNe (sVal (fLc [5] (sItems (sVar 4)) (kName 5) tsYes (sBin oAdd (sCallD (sCons (sVar 5) sNil) sNo 1 0 (fun ds _ => ds) f_law_classes) (sVal (fLst (sCons (sCall oReprG (sCons (sUn (oExF kxn "given") (sVar 5)) sNil)) sNil)))))) (sBin oRepL (sVal (fLst (sCons (sVal (fLst (sCons (sC (.int 21)) (sCons (sC (.int 32)) (sCons (sC (.int 35)) (sCons (sCall oReprG (sCons (sVar 2) sNil)) sNil)))))) sNil))) (sC (.int 2)))) (sRet (sC (.bl false))) sSkip) (sSeq (sAsg (sVal (fLst (sCons (sMkE "InUse" "index" (sVar 2)) (sCons (sMkE "InUse" "index" (sVar 2)) sNil)))) (aName 4)) (sSeq (sIte (tBin oNe (sVal (fLc [5] (sItems (sVar 4)) (kName 5) tsYes (sBin oAdd (sCallD (sCons (sVar 5) sNil) sNo 1 0 (fun ds _ => ds) f_law_classes) (sVal (fLst (sCons (sCall oReprG (sCons (sUn (oExF kxn "index") (sVar 5)) sNil)) sNil)))))) (sBin oRepL (sVal (fLst (sCons (sVal (fLst (sCons (sC (.int 19)) (sCons (sC (.int 31)) (sCons (sC (.int 34)) (sCons (sCall oReprG (sCons (sVar 2) sNil)) sNil)))))) sNil))) (sC (.int 2)))) (sRet (sC (.bl false))) sSkip) (sSeq (sAsg (sVal (fLst (sCons (sMkE "TooMany" "most" (sVar 2)) (sCons (sMkE "TooMany" "most" (sVar 2)) sNil)))) (aName 4)) (sSeq (sIte (tBin oNe (sVal (fLc [5] (sItems (sVar 4)) (kName 5) tsYes (sBin oAdd (sCallD (sCons (sVar 5) sNil) sNo 1 0 (fun ds _ => ds) f_law_classes) (sVal (fLst (sCons (sCall oReprG (sCons (sUn (oExF kxn "most") (sVar 5)) sNil)) sNil)))))) (sBin oRepL (sVal (fLst (sCons (sVal (fLst (sCons (sC (.int 20)) (sCons (sC (.int 32)) (sCons (sC (.int 35)) (sCons (sCall oReprG (sCons (sVar 2) sNil)) sNil)))))) sNil))) (sC (.int 2)))) (sRet (sC (.bl false))) sSkip) (sSeq (sAsg (sVal (fLst (sCons (sMkE "Broken" "index" (sVar 2)) (sCons (sMkE "Broken" "index" (sVar 2)) sNil)))) (aName 4)) (sRet (sBin oEq (sVal (fLc [5] (sItems (sVar 4)) (kName 5) tsYes (sBin oAdd (sCallD (sCons (sVar 5) sNil) sNo 1 0 (fun ds _ => ds) f_law_classes) (sVal (fLst (sCons (sCall oReprG (sCons (sUn (oExF kxn "index") (sVar 5)) sNil)) sNil)))))) (sBin oRepL (sVal (fLst (sCons (sVal (fLst (sCons (sC (.int 22)) (sCons (sC (.int 32)) (sCons (sC (.int 35)) (sCons (sCall oReprG (sCons (sVar 2) sNil)) sNil)))))) sNil))) (sC (.int 2))))))))))))))))))
def f_law_right : SF := runB 5 b_law_right
theorem ok_law_right {P : Program} {w : World} {K : PySem.W.Frag} {mg : Str → Option Value} {base : Heap} {T : Tb} (G : Facts K mg) (Y : EL lams K mg base T) : DFn P w K mg base 4 (He.fAd K D_law_right.at_) (fdOf K D_law_right) ["_law_cup_here"] (spD ⟨K, mg, T⟩ 1 f_law_right) :=
  dfn G.d_law_right sc_law_right rfl fun R cdv A outer s H E site tk => (db_cons (ds_set (i := 1) sc_law_right.nd rfl (.inl rfl) (de_new (df_lst (da_cons de_non (da_cons de_int (da_cons (de_neg de_int) (da_cons de_bl (da_cons de_str (da_cons de_str (da_cons (de_tup da_nil) (da_cons (de_tup (da_cons de_int (da_cons de_int da_nil))) (da_cons (de_new (df_lst da_nil)) (da_cons (de_new (df_lst (da_cons de_int da_nil))) (da_cons (de_new df_dic0) (da_cons (de_new (df_dicC [((.inr "a"), .int 1)] (pps_cons pe_str pe_int pps_nil) (fun _ _ _ => (.cons (.int _) .nil)) rfl (by decide) rfl rfl (List.cons_ne_nil _ _) (by decide))) (da_cons (e_pow de_int de_int) (da_cons (de_tup (da_cons de_str (da_cons de_int da_nil))) da_nil)))))))))))))))))
    (db_cons (ds_set (i := 2) sc_law_right.nd rfl (.inl rfl) (de_call (args_pos (da_cons (de_var (i := 0) rfl (.inl rfl)) (da_cons (de_var (i := 1) rfl (.inl rfl)) da_nil))) ((ok_law_pick (T := T.inn R) G Y.inn).mono (by decide)) (b_law_pick_2 G) rfl site tk rfl G.g_law_pick G.d_law_pick.kp))
    (db_cons (ds_for (nx_tup (nxs_cons (nx_name 3) (nxs_cons (nx_name 4) nxs_nil))) owns rfl (di_enum rfl G.n_enumerate (de_call (args_pos (da_cons (de_var (i := 2) rfl (.inl rfl)) da_nil)) ((ok_law_given (T := T.inn R) G Y.inn).mono (by decide)) (b_law_given_1 G) rfl site tk rfl G.g_law_given G.d_law_given.kp)) (dg_tup rfl (dgs_cons (i := 3) sc_law_right.nd rfl (.inl rfl) (dgs_cons (i := 4) sc_law_right.nd rfl (.inl rfl) dgs_nil))) (db_one (ds_if (t_ne site.ut (de_new (df_lc (own := [("_law_e", 5)]) rfl sc_law_right.nd (di_seq (de_var (i := 4) rfl (.inl rfl))) (blkOk_by rfl) (pt_name (i := 5)) (fun s H C cl fp => (pg_name (i := 5) sc_law_right.nd rfl (.inl rfl))) (fun s H C cl fp => dts_nil) (fun s H C cl fp => (e_add (de_call (args_pos (da_cons (de_var (i := 5) rfl (.inl rfl)) da_nil)) ((ok_law_classes (T := T.inn R) G Y.inn).mono (by decide)) (b_law_classes_1 G) rfl (Site.blk site) takesF rfl G.g_law_classes G.d_law_classes.kp) (de_new (df_lst (da_cons (f_reprG (Site.blk site).ut (by rfl) G.n_repr (da_cons (de_xe (xe_ok G.xf (gl_kx G) (by decide +kernel) (by decide)) (de_var (i := 5) rfl (.inl rfl))) da_nil)) da_nil))))))) (e_repL (de_new (df_lst (da_cons (de_new (df_lst (da_cons (de_var (i := 3) rfl (.inl rfl)) (da_cons de_int (da_cons de_int (da_cons (f_reprG site.ut (by rfl) G.n_repr (da_cons (de_var (i := 2) rfl (.inl rfl)) da_nil)) da_nil)))))) da_nil))) de_int)) (db_one (ds_ret de_bl)) db_nil)))
    (db_cons (ds_for (nx_tup (nxs_cons (nx_name 3) (nxs_cons (nx_name 4) nxs_nil))) owns rfl (di_enum rfl G.n_enumerate (de_call (args_pos (da_cons (de_var (i := 2) rfl (.inl rfl)) da_nil)) ((ok_law_indexed (T := T.inn R) G Y.inn).mono (by decide)) (b_law_indexed_1 G) rfl site tk rfl G.g_law_indexed G.d_law_indexed.kp)) (dg_tup rfl (dgs_cons (i := 3) sc_law_right.nd rfl (.inl rfl) (dgs_cons (i := 4) sc_law_right.nd rfl (.inl rfl) dgs_nil))) (db_one (ds_if (t_ne site.ut (de_new (df_lc (own := [("_law_e", 5)]) rfl sc_law_right.nd (di_seq (de_var (i := 4) rfl (.inl rfl))) (blkOk_by rfl) (pt_name (i := 5)) (fun s H C cl fp => (pg_name (i := 5) sc_law_right.nd rfl (.inl rfl))) (fun s H C cl fp => dts_nil) (fun s H C cl fp => (e_add (de_call (args_pos (da_cons (de_var (i := 5) rfl (.inl rfl)) da_nil)) ((ok_law_classes (T := T.inn R) G Y.inn).mono (by decide)) (b_law_classes_1 G) rfl (Site.blk site) takesF rfl G.g_law_classes G.d_law_classes.kp) (de_new (df_lst (da_cons (f_reprG (Site.blk site).ut (by rfl) G.n_repr (da_cons (de_xe (xe_ok G.xf (gl_kx G) (by decide +kernel) (by decide)) (de_var (i := 5) rfl (.inl rfl))) da_nil)) da_nil))))))) (e_repL (de_new (df_lst (da_cons (de_new (df_lst (da_cons (e_add de_int (de_var (i := 3) rfl (.inl rfl))) (da_cons de_int (da_cons de_int (da_cons (f_reprG site.ut (by rfl) G.n_repr (da_cons (de_var (i := 2) rfl (.inl rfl)) da_nil)) da_nil)))))) da_nil))) de_int)) (db_one (ds_ret de_bl)) db_nil)))
    (db_cons (ds_set (i := 4) sc_law_right.nd rfl (.inl rfl) (de_new (df_lst (da_cons (de_mkP PySem.F.excBase_LookupError (mkXB_ok G.x_UnknownName) (fi_UnknownName__init_ G) (bi_UnknownName__init_ G) (site.mono (by decide)) tk rfl G.g_UnknownName (de_var (i := 2) rfl (.inl rfl))) (da_cons (de_mkK PySem.F.excBase_LookupError (mkXB_ok G.x_UnknownName) (fi_UnknownName__init_ G) (bk_UnknownName__init_ G) (site.mono (by decide)) tk rfl G.g_UnknownName (de_var (i := 2) rfl (.inl rfl))) da_nil)))))
    (db_cons (ds_if (t_ne site.ut (de_new (df_lc (own := [("_law_e", 5)]) rfl sc_law_right.nd (di_seq (de_var (i := 4) rfl (.inl rfl))) (blkOk_by rfl) (pt_name (i := 5)) (fun s H C cl fp => (pg_name (i := 5) sc_law_right.nd rfl (.inl rfl))) (fun s H C cl fp => dts_nil) (fun s H C cl fp => (e_add (de_call (args_pos (da_cons (de_var (i := 5) rfl (.inl rfl)) da_nil)) ((ok_law_classes (T := T.inn R) G Y.inn).mono (by decide)) (b_law_classes_1 G) rfl (Site.blk site) takesF rfl G.g_law_classes G.d_law_classes.kp) (de_new (df_lst (da_cons (f_reprG (Site.blk site).ut (by rfl) G.n_repr (da_cons (de_xe (xe_ok G.xf (gl_kx G) (by decide +kernel) (by decide)) (de_var (i := 5) rfl (.inl rfl))) da_nil)) da_nil))))))) (e_repL (de_new (df_lst (da_cons (de_new (df_lst (da_cons de_int (da_cons de_int (da_cons de_int (da_cons (f_reprG site.ut (by rfl) G.n_repr (da_cons (de_var (i := 2) rfl (.inl rfl)) da_nil)) da_nil)))))) da_nil))) de_int)) (db_one (ds_ret de_bl)) db_nil)
    (db_cons (ds_set (i := 4) sc_law_right.nd rfl (.inl rfl) (de_new (df_lst (da_cons (de_mkP PySem.F.excBase_ArithmeticError (mkXB_ok G.x_OtherKind) (fi_OtherKind__init_ G) (bi_OtherKind__init_ G) (site.mono (by decide)) tk rfl G.g_OtherKind (de_var (i := 2) rfl (.inl rfl))) (da_cons (de_mkK PySem.F.excBase_ArithmeticError (mkXB_ok G.x_OtherKind) (fi_OtherKind__init_ G) (bk_OtherKind__init_ G) (site.mono (by decide)) tk rfl G.g_OtherKind (de_var (i := 2) rfl (.inl rfl))) da_nil)))))
    (db_cons (ds_if (t_ne site.ut (de_new (df_lc (own := [("_law_e", 5)]) rfl sc_law_right.nd (di_seq (de_var (i := 4) rfl (.inl rfl))) (blkOk_by rfl) (pt_name (i := 5)) (fun s H C cl fp => (pg_name (i := 5) sc_law_right.nd rfl (.inl rfl))) (fun s H C cl fp => dts_nil) (fun s H C cl fp => (e_add (de_call (args_pos (da_cons (de_var (i := 5) rfl (.inl rfl)) da_nil)) ((ok_law_classes (T := T.inn R) G Y.inn).mono (by decide)) (b_law_classes_1 G) rfl (Site.blk site) takesF rfl G.g_law_classes G.d_law_classes.kp) (de_new (df_lst (da_cons (f_reprG (Site.blk site).ut (by rfl) G.n_repr (da_cons (de_xe (xe_ok G.xf (gl_kx G) (by decide +kernel) (by decide)) (de_var (i := 5) rfl (.inl rfl))) da_nil)) da_nil))))))) (e_repL (de_new (df_lst (da_cons (de_new (df_lst (da_cons de_int (da_cons de_int (da_cons de_int (da_cons (f_reprG site.ut (by rfl) G.n_repr (da_cons (de_var (i := 2) rfl (.inl rfl)) da_nil)) da_nil)))))) da_nil))) de_int)) (db_one (ds_ret de_bl)) db_nil)
    (db_cons (ds_set (i := 4) sc_law_right.nd rfl (.inl rfl) (de_new (df_lst (da_cons (de_mkP PySem.F.excBase_LookupError (mkXB_ok G.x_InUse) (fi_InUse__init_ G) (bi_InUse__init_ G) (site.mono (by decide)) tk rfl G.g_InUse (de_var (i := 2) rfl (.inl rfl))) (da_cons (de_mkK PySem.F.excBase_LookupError (mkXB_ok G.x_InUse) (fi_InUse__init_ G) (bk_InUse__init_ G) (site.mono (by decide)) tk rfl G.g_InUse (de_var (i := 2) rfl (.inl rfl))) da_nil)))))
    (db_cons (ds_if (t_ne site.ut (de_new (df_lc (own := [("_law_e", 5)]) rfl sc_law_right.nd (di_seq (de_var (i := 4) rfl (.inl rfl))) (blkOk_by rfl) (pt_name (i := 5)) (fun s H C cl fp => (pg_name (i := 5) sc_law_right.nd rfl (.inl rfl))) (fun s H C cl fp => dts_nil) (fun s H C cl fp => (e_add (de_call (args_pos (da_cons (de_var (i := 5) rfl (.inl rfl)) da_nil)) ((ok_law_classes (T := T.inn R) G Y.inn).mono (by decide)) (b_law_classes_1 G) rfl (Site.blk site) takesF rfl G.g_law_classes G.d_law_classes.kp) (de_new (df_lst (da_cons (f_reprG (Site.blk site).ut (by rfl) G.n_repr (da_cons (de_xe (xe_ok G.xf (gl_kx G) (by decide +kernel) (by decide)) (de_var (i := 5) rfl (.inl rfl))) da_nil)) da_nil))))))) (e_repL (de_new (df_lst (da_cons (de_new (df_lst (da_cons de_int (da_cons de_int (da_cons de_int (da_cons (f_reprG site.ut (by rfl) G.n_repr (da_cons (de_var (i := 2) rfl (.inl rfl)) da_nil)) da_nil)))))) da_nil))) de_int)) (db_one (ds_ret de_bl)) db_nil)
    (db_cons (ds_set (i := 4) sc_law_right.nd rfl (.inl rfl) (de_new (df_lst (da_cons (de_mkP PySem.F.excBase_ArithmeticError (mkXB_ok G.x_TooMany) (fi_TooMany__init_ G) (bi_TooMany__init_ G) (site.mono (by decide)) tk rfl G.g_TooMany (de_var (i := 2) rfl (.inl rfl))) (da_cons (de_mkK PySem.F.excBase_ArithmeticError (mkXB_ok G.x_TooMany) (fi_TooMany__init_ G) (bk_TooMany__init_ G) (site.mono (by decide)) tk rfl G.g_TooMany (de_var (i := 2) rfl (.inl rfl))) da_nil)))))
    (db_cons (ds_if (t_ne site.ut (de_new (df_lc (own := [("_law_e", 5)]) rfl sc_law_right.nd (di_seq (de_var (i := 4) rfl (.inl rfl))) (blkOk_by rfl) (pt_name (i := 5)) (fun s H C cl fp => (pg_name (i := 5) sc_law_right.nd rfl (.inl rfl))) (fun s H C cl fp => dts_nil) (fun s H C cl fp => (e_add (de_call (args_pos (da_cons (de_var (i := 5) rfl (.inl rfl)) da_nil)) ((ok_law_classes (T := T.inn R) G Y.inn).mono (by decide)) (b_law_classes_1 G) rfl (Site.blk site) takesF rfl G.g_law_classes G.d_law_classes.kp) (de_new (df_lst (da_cons (f_reprG (Site.blk site).ut (by rfl) G.n_repr (da_cons (de_xe (xe_ok G.xf (gl_kx G) (by decide +kernel) (by decide)) (de_var (i := 5) rfl (.inl rfl))) da_nil)) da_nil))))))) (e_repL (de_new (df_lst (da_cons (de_new (df_lst (da_cons de_int (da_cons de_int (da_cons de_int (da_cons (f_reprG site.ut (by rfl) G.n_repr (da_cons (de_var (i := 2) rfl (.inl rfl)) da_nil)) da_nil)))))) da_nil))) de_int)) (db_one (ds_ret de_bl)) db_nil)
    (db_cons (ds_set (i := 4) sc_law_right.nd rfl (.inl rfl) (de_new (df_lst (da_cons (de_mkP PySem.F.excBase_ArithmeticError (mkXB_ok G.x_Broken) (fi_Broken__init_ G) (bi_Broken__init_ G) (site.mono (by decide)) tk rfl G.g_Broken (de_var (i := 2) rfl (.inl rfl))) (da_cons (de_mkK PySem.F.excBase_ArithmeticError (mkXB_ok G.x_Broken) (fi_Broken__init_ G) (bk_Broken__init_ G) (site.mono (by decide)) tk rfl G.g_Broken (de_var (i := 2) rfl (.inl rfl))) da_nil)))))
    (db_one (ds_ret (e_eq site.ut (de_new (df_lc (own := [("_law_e", 5)]) rfl sc_law_right.nd (di_seq (de_var (i := 4) rfl (.inl rfl))) (blkOk_by rfl) (pt_name (i := 5)) (fun s H C cl fp => (pg_name (i := 5) sc_law_right.nd rfl (.inl rfl))) (fun s H C cl fp => dts_nil) (fun s H C cl fp => (e_add (de_call (args_pos (da_cons (de_var (i := 5) rfl (.inl rfl)) da_nil)) ((ok_law_classes (T := T.inn R) G Y.inn).mono (by decide)) (b_law_classes_1 G) rfl (Site.blk site) takesF rfl G.g_law_classes G.d_law_classes.kp) (de_new (df_lst (da_cons (f_reprG (Site.blk site).ut (by rfl) G.n_repr (da_cons (de_xe (xe_ok G.xf (gl_kx G) (by decide +kernel) (by decide)) (de_var (i := 5) rfl (.inl rfl))) da_nil)) da_nil))))))) (e_repL (de_new (df_lst (da_cons (de_new (df_lst (da_cons de_int (da_cons de_int (da_cons de_int (da_cons (f_reprG site.ut (by rfl) G.n_repr (da_cons (de_var (i := 2) rfl (.inl rfl)) da_nil)) da_nil)))))) da_nil))) de_int)))))))))))))))))
theorem sc_law_cup : FnScope ["_law_script", "_law_spot", "_law_cell", "_law_part"] ["_law_script", "_law_spot"] (defScope S_law_cup) := ⟨rfl, rfl, rfl, by decide +kernel, rfl, by decide +kernel, by decide +kernel⟩
def b_law_cup : SS := (sSeq (sAsg (sIf (tBin (oI gLt) (sVar 1) (sCall oLen (sCons (sVar 0) sNil))) (sBin oIx (sVar 0) (sVar 1)) (sBin oAdd (sBin oMul (sC (.int 7919)) (sVar 1)) (sC (.int 104729)))) (aName 2)) (sSeq (sFor (sItems (sIf (tBin (oI gGe) (sVar 1) (sCall oLen (sCons (sVar 0) sNil))) (sSl (sVar 0) none (some (sC (.int 2)))) (sVal (fLst sNil)))) (aName 3) (sAsg (sBin (oI gMod) (sCall oInt (sCons (sBin oAdd (sBin oMul (sVar 2) (sC (.int 31))) (sVar 3)) sNil)) (sC (.int 1000000007))) (aName 2))) (sRetF (fLst (sCons (sBin (oI gMod) (sCall oInt (sCons (sBin oAdd (sBin oAdd (sBin oMul (sVar 2) (sC (.int 4099))) (sBin oMul (sC (.int 271)) (sVar 1))) (sC (.int 17))) sNil)) (sC (.int 2147483629))) (sCons (sIf (sOr (tBin (oI gLt) (sVar 2) (sC (.int 0))) (tBin (oI gGe) (sVar 2) (sBin (oI gPow) (sC (.int 10)) (sC (.int 18))))) (sCall (o1 gAbs) (sCons (sVar 2) sNil)) (sC (.int 0))) sNil))))))
def f_law_cup : SFm := runF 2 b_law_cup
theorem ok_law_cup {P : Program} {w : World} {K : PySem.W.Frag} {mg : Str → Option Value} {base : Heap} {T : Tb} (G : Facts K mg) (Y : EL lams K mg base T) : DFn P w K mg base 1 (He.fAd K D_law_cup.at_) (fdOf K D_law_cup) ["_law_script", "_law_spot"] (spF ⟨K, mg, T⟩ 2 f_law_cup) :=
  dfnF G.d_law_cup sc_law_cup rfl fun R cdv A outer s H E site tk => (db_cons (ds_set (i := 2) sc_law_cup.nd rfl (.inl rfl) (de_if (t_lt (de_var (i := 1) rfl (.inl rfl)) (f_len rfl G.n_len (da_cons (de_var (i := 0) rfl (.inl rfl)) da_nil))) (de_ix (de_var (i := 0) rfl (.inl rfl)) (de_var (i := 1) rfl (.inl rfl)) (fun _ _ => rfl)) (e_add (e_mul de_int (de_var (i := 1) rfl (.inl rfl))) de_int)))
    (db_cons (ds_for (nx_name 3) owns rfl (di_seq (de_if (t_ge (de_var (i := 1) rfl (.inl rfl)) (f_len rfl G.n_len (da_cons (de_var (i := 0) rfl (.inl rfl)) da_nil))) (de_sl (de_var (i := 0) rfl (.inl rfl)) do_none (do_some de_int)) (de_new (df_lst da_nil)))) (dg_name (i := 3) sc_law_cup.nd rfl (.inl rfl)) (db_one (ds_set (i := 2) sc_law_cup.nd rfl (.inl rfl) (e_mod (f_int rfl G.n_int (da_cons (e_add (e_mul (de_var (i := 2) rfl (.inl rfl)) de_int) (de_var (i := 3) rfl (.inl rfl))) da_nil)) de_int))))
    (db_one (ds_retF (df_lst (da_cons (e_mod (f_int rfl G.n_int (da_cons (e_add (e_add (e_mul (de_var (i := 2) rfl (.inl rfl)) de_int) (e_mul de_int (de_var (i := 1) rfl (.inl rfl)))) de_int) da_nil)) de_int) (da_cons (de_if (DW.pt (dw_or (t_lt (de_var (i := 2) rfl (.inl rfl)) de_int) (dw_or1 (t_ge (de_var (i := 2) rfl (.inl rfl)) (e_pow de_int de_int))))) (f_abs rfl G.n_abs (da_cons (de_var (i := 2) rfl (.inl rfl)) da_nil)) de_int) da_nil)))))))
theorem b_law_cup_2 {K : PySem.W.Frag} {mg : Str → Option Value} (G : Facts K mg) : DBind K (fdOf K D_law_cup) ["_law_script", "_law_spot"] 2 [] (fun ds _ => ds) := bind_pos G.d_law_cup rfl fun _ _ _ _ _ _ us hl => match us, hl with | [_, _], _ => rfl
theorem b_law_right_1 {K : PySem.W.Frag} {mg : Str → Option Value} (G : Facts K mg) : DBind K (fdOf K D_law_right) ["_law_cup_here"] 1 [] (fun ds _ => ds) := bind_pos G.d_law_right rfl fun _ _ _ _ _ _ us hl => match us, hl with | [_], _ => rfl
theorem sc_law : FnScope ["_law_script", "_law_seen", "_law_bare", "_law_e", "_law_spot"] ["_law_script"] (defScope S_law) := ⟨rfl, rfl, rfl, by decide +kernel, rfl, by decide +kernel, by decide +kernel⟩
def b_law : SS := (sSeq (sAsg (sVal (fLst (sCons (sC (.int 8)) (sCons (sC (.int 40)) (sCons (sC (.int 9)) (sCons (sC (.int 12)) (sCons (sC (.int 6)) (sCons (sC (.int 30)) (sCons (sC (.int 1000000000000000000000000000000)) sNil))))))))) (aName 1)) (sSeq (sIte (tBin oNe (sCall oReprG (sCons (sVar 1) sNil)) (sCall oReprG (sCons (sVal (fLst (sCons (sC (.int 8)) (sCons (sC (.int 40)) (sCons (sC (.int 9)) (sCons (sC (.int 12)) (sCons (sC (.int 6)) (sCons (sC (.int 30)) (sCons (sBin (oI gPow) (sC (.int 10)) (sC (.int 30))) sNil))))))))) sNil))) (sRet (sC (.bl false))) sSkip) (sSeq (sAsg (sVal (fLst (sCons (sMkE0 "NothingToUndo") (sCons (sMkE0 "WrongValue") (sCons (sMkE0 "WrongName") (sCons (sMkE0 "NoAnswer") sNil)))))) (aName 2)) (sSeq (sIte (tBin oNe (sVal (fLc [3] (sItems (sVar 2)) (kName 3) tsYes (sCallD (sCons (sVar 3) sNil) sNo 1 0 (fun ds _ => ds) f_law_classes))) (sVal (fLst (sCons (sVal (fLst (sCons (sC (.int 23)) (sCons (sC (.int 32)) (sCons (sC (.int 35)) sNil))))) (sCons (sVal (fLst (sCons (sC (.int 30)) (sCons (sC (.int 33)) sNil)))) (sCons (sVal (fLst (sCons (sC (.int 31)) (sCons (sC (.int 34)) sNil)))) (sCons (sVal (fLst (sCons (sC (.int 32)) (sCons (sC (.int 35)) sNil)))) sNil))))))) (sRet (sC (.bl false))) sSkip) (sRet (sCall oAll (sCons (sVal (fLc [4] (sRng1 (sCall (o2 gMax) (sCons (sC (.int 2)) (sCons (sCall (o2 gMin) (sCons (sCall oLen (sCons (sVar 0) sNil)) (sCons (sC (.int 8)) sNil))) sNil)))) (kName 4) tsYes (sCallD (sCons (sMem (sCallF (sCons (sVar 0) (sCons (sVar 4) sNil)) sNo 2 0 (fun ds _ => ds) f_law_cup)) sNil) sNo 1 0 (fun ds _ => ds) f_law_right))) sNil)))))))
def f_law : SF := runB 4 b_law
theorem ok_law {P : Program} {w : World} {K : PySem.W.Frag} {mg : Str → Option Value} {base : Heap} {T : Tb} (G : Facts K mg) (Y : EL lams K mg base T) : DFn P w K mg base 5 (He.fAd K D_law.at_) (fdOf K D_law) ["_law_script"] (spD ⟨K, mg, T⟩ 1 f_law) :=
  dfn G.d_law sc_law rfl fun R cdv A outer s H E site tk => (db_cons (ds_set (i := 1) sc_law.nd rfl (.inl rfl) (de_new (df_lst (da_cons (de_gint rfl G.i_MOST_WIDTH) (da_cons (de_gint rfl G.i_MOST_LENGTH) (da_cons (de_gint rfl G.i_MOST_PACE) (da_cons (de_gint rfl G.i_MOST_GLANCES) (da_cons (de_gint rfl G.i_MOST_TIMES) (da_cons (de_gint rfl G.i_MOST_PAIRS) (da_cons (de_gint rfl G.i_GREATEST) da_nil))))))))))
    (db_cons (ds_if (t_ne site.ut (f_reprG site.ut (by rfl) G.n_repr (da_cons (de_var (i := 1) rfl (.inl rfl)) da_nil)) (f_reprG site.ut (by rfl) G.n_repr (da_cons (de_new (df_lst (da_cons de_int (da_cons de_int (da_cons de_int (da_cons de_int (da_cons de_int (da_cons de_int (da_cons (e_pow de_int de_int) da_nil))))))))) da_nil))) (db_one (ds_ret de_bl)) db_nil)
    (db_cons (ds_set (i := 2) sc_law.nd rfl (.inl rfl) (de_new (df_lst (da_cons (de_mk0 PySem.F.excBase_ArithmeticError G.e0_NothingToUndo rfl G.g_NothingToUndo) (da_cons (de_mk0 PySem.F.excBase_ValueError G.e0_WrongValue rfl G.g_WrongValue) (da_cons (de_mk0 PySem.F.excBase_LookupError G.e0_WrongName rfl G.g_WrongName) (da_cons (de_mk0 PySem.F.excBase_ArithmeticError G.e0_NoAnswer rfl G.g_NoAnswer) da_nil)))))))
    (db_cons (ds_if (t_ne site.ut (de_new (df_lc (own := [("_law_e", 3)]) rfl sc_law.nd (di_seq (de_var (i := 2) rfl (.inl rfl))) (blkOk_by rfl) (pt_name (i := 3)) (fun s H C cl fp => (pg_name (i := 3) sc_law.nd rfl (.inl rfl))) (fun s H C cl fp => dts_nil) (fun s H C cl fp => (de_call (args_pos (da_cons (de_var (i := 3) rfl (.inl rfl)) da_nil)) ((ok_law_classes (T := T.inn R) G Y.inn).mono (by decide)) (b_law_classes_1 G) rfl (Site.blk site) takesF rfl G.g_law_classes G.d_law_classes.kp)))) (de_new (df_lst (da_cons (de_new (df_lst (da_cons de_int (da_cons de_int (da_cons de_int da_nil))))) (da_cons (de_new (df_lst (da_cons de_int (da_cons de_int da_nil)))) (da_cons (de_new (df_lst (da_cons de_int (da_cons de_int da_nil)))) (da_cons (de_new (df_lst (da_cons de_int (da_cons de_int da_nil)))) da_nil))))))) (db_one (ds_ret de_bl)) db_nil)
    (db_one (ds_ret (f_all rfl rfl G.n_all (da_cons (de_new (df_lc (own := [("_law_spot", 4)]) rfl sc_law.nd (di_rng1 rfl G.n_range (f_max rfl rfl G.n_max (da_cons de_int (da_cons (f_min rfl rfl G.n_min (da_cons (f_len rfl G.n_len (da_cons (de_var (i := 0) rfl (.inr (.inl rfl))) da_nil)) (da_cons de_int da_nil))) da_nil)))) (blkOk_by rfl) (pt_name (i := 4)) (fun s H C cl fp => (pg_name (i := 4) sc_law.nd rfl (.inl rfl))) (fun s H C cl fp => dts_nil) (fun s H C cl fp => (de_call (args_pos (da_cons (de_mem (df_call (args_pos (da_cons (de_var (i := 0) rfl (.inr (.inl rfl))) (da_cons (de_var (i := 4) rfl (.inl rfl)) da_nil))) ((ok_law_cup (T := T.inn R) G Y.inn).mono (by decide)) (b_law_cup_2 G) rfl (Site.blk site) takesF rfl G.g_law_cup G.d_law_cup.kp)) da_nil)) ((ok_law_right (T := T.inn R) G Y.inn).mono (by decide)) (b_law_right_1 G) rfl (Site.blk site) takesF rfl G.g_law_right G.d_law_right.kp)))) da_nil))))))))
def fa : List He.Fa := [.int "MOST_WIDTH" 8, .int "MOST_LENGTH" 40, .int "MOST_PACE" 9, .int "MOST_GLANCES" 12, .int "MOST_TIMES" 6, .int "MOST_PAIRS" 30, .int "GREATEST" 1000000000000000000000000000000, .free "repr", .glo "NothingToUndo", .glo "WrongValue", .glo "WrongName", .glo "NoAnswer", .glo "UnknownName", .glo "OtherKind", .glo "InUse", .glo "TooMany", .glo "Broken", .glo "NotASign", .glo "NotARecord", .glo "InvalidWidth", .glo "InvalidPlace", .glo "InvalidLength", .glo "InvalidDead", .glo "InvalidPaces", .glo "InvalidGroups", .glo "InvalidText", .glo "InvalidPace", .glo "InvalidTime", .glo "InvalidWindow", .glo "InvalidName", .glo "InvalidClaim", .glo "InvalidIndex", .glo "InvalidLine", .glo "InvalidTimes", .glo "InvalidDeeds", .free "isinstance", .free "ValueError", .free "LookupError", .free "ArithmeticError", .free "range", .glo "_law_classes", .free "len", .free "min", .free "max", .free "int", .free "divmod", .glo "_law_sip", .glo "_law_pick", .glo "_law_given", .free "enumerate", .glo "_law_indexed", .free "abs", .glo "_law_cup", .glo "_law_right", .free "all", .glo "law"]
def fn : List He.DefD := [D_law_classes, D_law_sip, D_law_pick, D_NotASign__init_, D_NotARecord__init_, D_InvalidText__init_, D_InvalidPace__init_, D_InvalidWidth__init_, D_InvalidPlace__init_, D_InvalidLength__init_, D_InvalidTime__init_, D_InvalidWindow__init_, D_InvalidName__init_, D_InvalidClaim__init_, D_InvalidIndex__init_, D_InvalidLine__init_, D_law_given, D_InvalidDead__init_, D_InvalidPaces__init_, D_InvalidGroups__init_, D_InvalidTimes__init_, D_InvalidDeeds__init_, D_law_indexed, D_UnknownName__init_, D_OtherKind__init_, D_InUse__init_, D_TooMany__init_, D_Broken__init_, D_law_right, D_law_cup, D_law]
def pK (K : PySem.W.Frag) : Bool := (ex0B K (exT "ArithmeticError") "ArithmeticError.__new__" "NothingToUndo") && (ex0B K (exT "ValueError") "ValueError.__new__" "WrongValue") && (ex0B K (exT "LookupError") "LookupError.__new__" "WrongName") && (ex0B K (exT "ArithmeticError") "ArithmeticError.__new__" "NoAnswer") && (ansB1 K an1) && (ansB2 K an2) && (xfAll K kx ["given", "most", "index"]) && (mkXB K (exT "ValueError") "ValueError.__new__" "NotASign" "given" (He.fAd K D_NotASign__init_.at_)) && (mkXB K (exT "ValueError") "ValueError.__new__" "NotARecord" "given" (He.fAd K D_NotARecord__init_.at_)) && (mkXB K (exT "ValueError") "ValueError.__new__" "InvalidText" "given" (He.fAd K D_InvalidText__init_.at_)) && (mkXB K (exT "ValueError") "ValueError.__new__" "InvalidPace" "given" (He.fAd K D_InvalidPace__init_.at_)) && (mkXB K (exT "ValueError") "ValueError.__new__" "InvalidWidth" "given" (He.fAd K D_InvalidWidth__init_.at_)) && (mkXB K (exT "ValueError") "ValueError.__new__" "InvalidPlace" "given" (He.fAd K D_InvalidPlace__init_.at_)) && (mkXB K (exT "ValueError") "ValueError.__new__" "InvalidLength" "given" (He.fAd K D_InvalidLength__init_.at_)) && (mkXB K (exT "ValueError") "ValueError.__new__" "InvalidTime" "given" (He.fAd K D_InvalidTime__init_.at_)) && (mkXB K (exT "ValueError") "ValueError.__new__" "InvalidWindow" "given" (He.fAd K D_InvalidWindow__init_.at_)) && (mkXB K (exT "ValueError") "ValueError.__new__" "InvalidName" "given" (He.fAd K D_InvalidName__init_.at_)) && (mkXB K (exT "ValueError") "ValueError.__new__" "InvalidClaim" "given" (He.fAd K D_InvalidClaim__init_.at_)) && (mkXB K (exT "ValueError") "ValueError.__new__" "InvalidIndex" "given" (He.fAd K D_InvalidIndex__init_.at_)) && (mkXB K (exT "ValueError") "ValueError.__new__" "InvalidLine" "given" (He.fAd K D_InvalidLine__init_.at_)) && (mkXB K (exT "ValueError") "ValueError.__new__" "InvalidDead" "index" (He.fAd K D_InvalidDead__init_.at_)) && (mkXB K (exT "ValueError") "ValueError.__new__" "InvalidPaces" "index" (He.fAd K D_InvalidPaces__init_.at_)) && (mkXB K (exT "ValueError") "ValueError.__new__" "InvalidGroups" "index" (He.fAd K D_InvalidGroups__init_.at_)) && (mkXB K (exT "ValueError") "ValueError.__new__" "InvalidTimes" "index" (He.fAd K D_InvalidTimes__init_.at_)) && (mkXB K (exT "ValueError") "ValueError.__new__" "InvalidDeeds" "index" (He.fAd K D_InvalidDeeds__init_.at_)) && (mkXB K (exT "LookupError") "LookupError.__new__" "UnknownName" "given" (He.fAd K D_UnknownName__init_.at_)) && (mkXB K (exT "ArithmeticError") "ArithmeticError.__new__" "OtherKind" "given" (He.fAd K D_OtherKind__init_.at_)) && (mkXB K (exT "LookupError") "LookupError.__new__" "InUse" "index" (He.fAd K D_InUse__init_.at_)) && (mkXB K (exT "ArithmeticError") "ArithmeticError.__new__" "TooMany" "most" (He.fAd K D_TooMany__init_.at_)) && (mkXB K (exT "ArithmeticError") "ArithmeticError.__new__" "Broken" "index" (He.fAd K D_Broken__init_.at_))
def stL : List StD := []
def tf : List He.Defn := lams.map (·.1)
theorem facts_of {K : PySem.W.Frag} {h h1 : Heap} {w : World} {mg : Str → Option Value} (X : K.In h) (G : h.Ns mainGlobals mg) (c : SaysS fa fn tf stL pK w h1 K) : Facts K mg := by
  have p := c.more
  unfold pK at p
  simp only [Bool.and_eq_true] at p
  exact {
    i_MOST_WIDTH := He.int_ok X G (c.d.fact 0 (f := .int "MOST_WIDTH" 8) rfl)
    i_MOST_LENGTH := He.int_ok X G (c.d.fact 1 (f := .int "MOST_LENGTH" 40) rfl)
    i_MOST_PACE := He.int_ok X G (c.d.fact 2 (f := .int "MOST_PACE" 9) rfl)
    i_MOST_GLANCES := He.int_ok X G (c.d.fact 3 (f := .int "MOST_GLANCES" 12) rfl)
    i_MOST_TIMES := He.int_ok X G (c.d.fact 4 (f := .int "MOST_TIMES" 6) rfl)
    i_MOST_PAIRS := He.int_ok X G (c.d.fact 5 (f := .int "MOST_PAIRS" 30) rfl)
    i_GREATEST := He.int_ok X G (c.d.fact 6 (f := .int "GREATEST" 1000000000000000000000000000000) rfl)
    n_repr := He.free_ok X G (c.d.fact 7 (f := .free "repr") rfl)
    g_NothingToUndo := He.glo_ok X G (c.d.fact 8 (f := .glo "NothingToUndo") rfl)
    g_WrongValue := He.glo_ok X G (c.d.fact 9 (f := .glo "WrongValue") rfl)
    g_WrongName := He.glo_ok X G (c.d.fact 10 (f := .glo "WrongName") rfl)
    g_NoAnswer := He.glo_ok X G (c.d.fact 11 (f := .glo "NoAnswer") rfl)
    g_UnknownName := He.glo_ok X G (c.d.fact 12 (f := .glo "UnknownName") rfl)
    g_OtherKind := He.glo_ok X G (c.d.fact 13 (f := .glo "OtherKind") rfl)
    g_InUse := He.glo_ok X G (c.d.fact 14 (f := .glo "InUse") rfl)
    g_TooMany := He.glo_ok X G (c.d.fact 15 (f := .glo "TooMany") rfl)
    g_Broken := He.glo_ok X G (c.d.fact 16 (f := .glo "Broken") rfl)
    g_NotASign := He.glo_ok X G (c.d.fact 17 (f := .glo "NotASign") rfl)
    g_NotARecord := He.glo_ok X G (c.d.fact 18 (f := .glo "NotARecord") rfl)
    g_InvalidWidth := He.glo_ok X G (c.d.fact 19 (f := .glo "InvalidWidth") rfl)
    g_InvalidPlace := He.glo_ok X G (c.d.fact 20 (f := .glo "InvalidPlace") rfl)
    g_InvalidLength := He.glo_ok X G (c.d.fact 21 (f := .glo "InvalidLength") rfl)
    g_InvalidDead := He.glo_ok X G (c.d.fact 22 (f := .glo "InvalidDead") rfl)
    g_InvalidPaces := He.glo_ok X G (c.d.fact 23 (f := .glo "InvalidPaces") rfl)
    g_InvalidGroups := He.glo_ok X G (c.d.fact 24 (f := .glo "InvalidGroups") rfl)
    g_InvalidText := He.glo_ok X G (c.d.fact 25 (f := .glo "InvalidText") rfl)
    g_InvalidPace := He.glo_ok X G (c.d.fact 26 (f := .glo "InvalidPace") rfl)
    g_InvalidTime := He.glo_ok X G (c.d.fact 27 (f := .glo "InvalidTime") rfl)
    g_InvalidWindow := He.glo_ok X G (c.d.fact 28 (f := .glo "InvalidWindow") rfl)
    g_InvalidName := He.glo_ok X G (c.d.fact 29 (f := .glo "InvalidName") rfl)
    g_InvalidClaim := He.glo_ok X G (c.d.fact 30 (f := .glo "InvalidClaim") rfl)
    g_InvalidIndex := He.glo_ok X G (c.d.fact 31 (f := .glo "InvalidIndex") rfl)
    g_InvalidLine := He.glo_ok X G (c.d.fact 32 (f := .glo "InvalidLine") rfl)
    g_InvalidTimes := He.glo_ok X G (c.d.fact 33 (f := .glo "InvalidTimes") rfl)
    g_InvalidDeeds := He.glo_ok X G (c.d.fact 34 (f := .glo "InvalidDeeds") rfl)
    n_isinstance := He.free_ok X G (c.d.fact 35 (f := .free "isinstance") rfl)
    n_ValueError := He.free_ok X G (c.d.fact 36 (f := .free "ValueError") rfl)
    n_LookupError := He.free_ok X G (c.d.fact 37 (f := .free "LookupError") rfl)
    n_ArithmeticError := He.free_ok X G (c.d.fact 38 (f := .free "ArithmeticError") rfl)
    n_range := He.free_ok X G (c.d.fact 39 (f := .free "range") rfl)
    g_law_classes := He.glo_ok X G (c.d.fact 40 (f := .glo "_law_classes") rfl)
    n_len := He.free_ok X G (c.d.fact 41 (f := .free "len") rfl)
    n_min := He.free_ok X G (c.d.fact 42 (f := .free "min") rfl)
    n_max := He.free_ok X G (c.d.fact 43 (f := .free "max") rfl)
    n_int := He.free_ok X G (c.d.fact 44 (f := .free "int") rfl)
    n_divmod := He.free_ok X G (c.d.fact 45 (f := .free "divmod") rfl)
    g_law_sip := He.glo_ok X G (c.d.fact 46 (f := .glo "_law_sip") rfl)
    g_law_pick := He.glo_ok X G (c.d.fact 47 (f := .glo "_law_pick") rfl)
    g_law_given := He.glo_ok X G (c.d.fact 48 (f := .glo "_law_given") rfl)
    n_enumerate := He.free_ok X G (c.d.fact 49 (f := .free "enumerate") rfl)
    g_law_indexed := He.glo_ok X G (c.d.fact 50 (f := .glo "_law_indexed") rfl)
    n_abs := He.free_ok X G (c.d.fact 51 (f := .free "abs") rfl)
    g_law_cup := He.glo_ok X G (c.d.fact 52 (f := .glo "_law_cup") rfl)
    g_law_right := He.glo_ok X G (c.d.fact 53 (f := .glo "_law_right") rfl)
    n_all := He.free_ok X G (c.d.fact 54 (f := .free "all") rfl)
    g_law := He.glo_ok X G (c.d.fact 55 (f := .glo "law") rfl)
    d_law_classes := fd_of c.d 0
    d_law_sip := fd_of c.d 1
    d_law_pick := fd_of c.d 2
    d_NotASign__init_ := fd_of c.d 3
    d_NotARecord__init_ := fd_of c.d 4
    d_InvalidText__init_ := fd_of c.d 5
    d_InvalidPace__init_ := fd_of c.d 6
    d_InvalidWidth__init_ := fd_of c.d 7
    d_InvalidPlace__init_ := fd_of c.d 8
    d_InvalidLength__init_ := fd_of c.d 9
    d_InvalidTime__init_ := fd_of c.d 10
    d_InvalidWindow__init_ := fd_of c.d 11
    d_InvalidName__init_ := fd_of c.d 12
    d_InvalidClaim__init_ := fd_of c.d 13
    d_InvalidIndex__init_ := fd_of c.d 14
    d_InvalidLine__init_ := fd_of c.d 15
    d_law_given := fd_of c.d 16
    d_InvalidDead__init_ := fd_of c.d 17
    d_InvalidPaces__init_ := fd_of c.d 18
    d_InvalidGroups__init_ := fd_of c.d 19
    d_InvalidTimes__init_ := fd_of c.d 20
    d_InvalidDeeds__init_ := fd_of c.d 21
    d_law_indexed := fd_of c.d 22
    d_UnknownName__init_ := fd_of c.d 23
    d_OtherKind__init_ := fd_of c.d 24
    d_InUse__init_ := fd_of c.d 25
    d_TooMany__init_ := fd_of c.d 26
    d_Broken__init_ := fd_of c.d 27
    d_law_right := fd_of c.d 28
    d_law_cup := fd_of c.d 29
    d_law := fd_of c.d 30
    e0_NothingToUndo := p.1.1.1.1.1.1.1.1.1.1.1.1.1.1.1.1.1.1.1.1.1.1.1.1.1.1.1.1.1
    e0_WrongValue := p.1.1.1.1.1.1.1.1.1.1.1.1.1.1.1.1.1.1.1.1.1.1.1.1.1.1.1.1.2
    e0_WrongName := p.1.1.1.1.1.1.1.1.1.1.1.1.1.1.1.1.1.1.1.1.1.1.1.1.1.1.1.2
    e0_NoAnswer := p.1.1.1.1.1.1.1.1.1.1.1.1.1.1.1.1.1.1.1.1.1.1.1.1.1.1.2
    ans1 := p.1.1.1.1.1.1.1.1.1.1.1.1.1.1.1.1.1.1.1.1.1.1.1.1.1.2
    ans2 := p.1.1.1.1.1.1.1.1.1.1.1.1.1.1.1.1.1.1.1.1.1.1.1.1.2
    xf := p.1.1.1.1.1.1.1.1.1.1.1.1.1.1.1.1.1.1.1.1.1.1.1.2
    x_NotASign := p.1.1.1.1.1.1.1.1.1.1.1.1.1.1.1.1.1.1.1.1.1.1.2
    x_NotARecord := p.1.1.1.1.1.1.1.1.1.1.1.1.1.1.1.1.1.1.1.1.1.2
    x_InvalidText := p.1.1.1.1.1.1.1.1.1.1.1.1.1.1.1.1.1.1.1.1.2
    x_InvalidPace := p.1.1.1.1.1.1.1.1.1.1.1.1.1.1.1.1.1.1.1.2
    x_InvalidWidth := p.1.1.1.1.1.1.1.1.1.1.1.1.1.1.1.1.1.1.2
    x_InvalidPlace := p.1.1.1.1.1.1.1.1.1.1.1.1.1.1.1.1.1.2
    x_InvalidLength := p.1.1.1.1.1.1.1.1.1.1.1.1.1.1.1.1.2
    x_InvalidTime := p.1.1.1.1.1.1.1.1.1.1.1.1.1.1.1.2
    x_InvalidWindow := p.1.1.1.1.1.1.1.1.1.1.1.1.1.1.2
    x_InvalidName := p.1.1.1.1.1.1.1.1.1.1.1.1.1.2
    x_InvalidClaim := p.1.1.1.1.1.1.1.1.1.1.1.1.2
    x_InvalidIndex := p.1.1.1.1.1.1.1.1.1.1.1.2
    x_InvalidLine := p.1.1.1.1.1.1.1.1.1.1.2
    x_InvalidDead := p.1.1.1.1.1.1.1.1.1.2
    x_InvalidPaces := p.1.1.1.1.1.1.1.1.2
    x_InvalidGroups := p.1.1.1.1.1.1.1.2
    x_InvalidTimes := p.1.1.1.1.1.1.2
    x_InvalidDeeds := p.1.1.1.1.1.2
    x_UnknownName := p.1.1.1.1.2
    x_OtherKind := p.1.1.1.2
    x_InUse := p.1.1.2
    x_TooMany := p.1.2
    x_Broken := p.2
  }
end W01

namespace W01
open PySem PySem.W PySem.Calls PyProof.Rows HandSHeadRun
abbrev Rw : OpenRow := OpenLaw.row PySem.Challenge.rw_glimpserounds_k01_constants_and_errors
abbrev qv : Program := view Rw.prog [43]
def names0 : List PySem.Str := ["__name__", "WrongValue", "NotASign", "NotARecord", "InvalidText", "InvalidPace", "InvalidWidth", "InvalidPlace", "InvalidLength", "InvalidTime", "InvalidWindow", "InvalidName", "InvalidClaim", "InvalidIndex", "InvalidLine", "InvalidDead", "InvalidPaces", "InvalidGroups", "InvalidTimes", "InvalidDeeds", "WrongName", "UnknownName", "InUse", "NoAnswer", "TooMany", "OtherKind", "Broken", "NothingToUndo", "MOST_WIDTH", "MOST_LENGTH"]
def names1 : List PySem.Str := ["MOST_PACE", "MOST_GLANCES", "MOST_TIMES", "MOST_PAIRS", "GREATEST", "_law_cup", "_law_sip", "_law_pick", "_law_classes", "_law_given", "_law_indexed", "_law_right"]
def names : List PySem.Str := names0 ++ names1
abbrev hkB : PySem.W.Hook := Dy.hookR fa fn tf stL pK 553
def ob (s : SharedT) : Dy.AlS := Dy.obsR fa fn tf stL pK 553 (HandSHeadRun.getT s)
theorem ob_eq (s : SharedT) : ob s = hkB.obs s.abs := Dy.obsR_eq (HandSHeadRun.getT_eq s)
def rest : List Stmt := PySem.Challenge.pw_glimpserounds_k01_constants_and_errors.main.body.drop 32
noncomputable def sk (w : World) (os : OsState) : SharedT := { tree := k01s.tree_597 w.params, n := 503, life := {}, gens := ⟨[]⟩, drawn := {}, toks := 844, os := os }
noncomputable def sq (w : World) (os : OsState) : SharedT := { tree := PySem.W.Fast.tw11661367507353950899 w.params, n := 503, life := {}, gens := ⟨[]⟩, drawn := {}, toks := 844, os := os }
noncomputable def sb (w : World) (os : OsState) : SharedT := { tree := k01s.tree_4 w.params, n := 15, life := {}, gens := ⟨[]⟩, drawn := {}, toks := 187, os := os }
theorem es (w : World) (os : OsState) : sk w os = sq w os := by
  unfold sk sq
  rw [PySem.W.Fast.te11661367507353950899]
theorem h1 (w : World) (os : OsState) : (Dy.preQ Rw.prog 11 (some (Value.ref 6)) 12 w os).map (fun x => x.2) = some ⟨denQ tabQ (.body (behindTheImports Rw.prog) k01s.env_1), .body (behindTheImports Rw.prog) k01s.env_1, ⟨0, 0, 0, 0⟩, [topFrame ⟨0, 0, 0, 0⟩]⟩ := by kernel_rfl
theorem h2 (w : World) (os : OsState) : (Dy.preQ Rw.prog 11 (some (Value.ref 6)) 12 w os).bind (fun x => Dy.segF (stepQ (denQ tabQ) Rw.prog w) 11 (some (Value.ref 6)) 1 x.1 (blockOf (behindTheImports Rw.prog) k01s.env_1 (.body (behindTheImports Rw.prog) k01s.env_1) ⟨0, 0, 0, 0⟩ [topFrame ⟨0, 0, 0, 0⟩])) = some (sb w os, .body (behindTheImports Rw.prog) k01s.env_1, ⟨0, 0, 0, 0⟩) := by kernel_rfl
theorem eb : behindTheImports Rw.prog = (k01s.sts_4 ++ (k01s.sts_21 ++ (k01s.sts_44 ++ (k01s.sts_67 ++ (k01s.sts_90 ++ (k01s.sts_113 ++ (k01s.sts_136 ++ (k01s.sts_159 ++ (k01s.sts_182 ++ (k01s.sts_205 ++ (k01s.sts_228 ++ (k01s.sts_251 ++ (k01s.sts_274 ++ (k01s.sts_297 ++ (k01s.sts_320 ++ (k01s.sts_343 ++ (k01s.sts_366 ++ (k01s.sts_389 ++ (k01s.sts_412 ++ (k01s.sts_435 ++ (k01s.sts_451 ++ (k01s.sts_474 ++ (k01s.sts_497 ++ (k01s.sts_514 ++ (k01s.sts_537 ++ (k01s.sts_560 ++ (k01s.sts_583 ++ rest))))))))))))))))))))))))))) := by kernel_rfl
theorem h3 (w : World) (os : OsState) : (goF (stepQ (denQ tabQ) Rw.prog w) 11 (some (Value.ref 6)) 20000 (sq w os) (Dy.restQ rest k01s.env_1 (.body (behindTheImports Rw.prog) k01s.env_1) ⟨105, 0, 105, 12⟩ [topFrame ⟨0, 0, 0, 0⟩])).map (fun s => (looksF Rw.prog (boot_heap w.params) s.abs, seenQ qv names (importedModules Rw.prog.main.body) (fun s => xlAt qv [] s && recOk Rw.toRowW.records s) s.abs, ob s)) = some (true, openGood qv names, hkB.val w) := by kernel_rfl
theorem ends (w : World) : Dy.EndsIn Rw qv hkB ob (12 + (1 + (Nat.add 196 (Nat.add 246 (Nat.add 246 (Nat.add 246 (Nat.add 246 (Nat.add 246 (Nat.add 246 (Nat.add 246 (Nat.add 246 (Nat.add 246 (Nat.add 246 (Nat.add 246 (Nat.add 246 (Nat.add 246 (Nat.add 246 (Nat.add 246 (Nat.add 246 (Nat.add 246 (Nat.add 246 (Nat.add 187 (Nat.add 246 (Nat.add 246 (Nat.add 197 (Nat.add 246 (Nat.add 246 (Nat.add 246 (Nat.add 250 20000))))))))))))))))))))))))))))) names w :=
  Dy.ends_in (M := 20000) (F := fun N => (Nat.add 196 (Nat.add 246 (Nat.add 246 (Nat.add 246 (Nat.add 246 (Nat.add 246 (Nat.add 246 (Nat.add 246 (Nat.add 246 (Nat.add 246 (Nat.add 246 (Nat.add 246 (Nat.add 246 (Nat.add 246 (Nat.add 246 (Nat.add 246 (Nat.add 246 (Nat.add 246 (Nat.add 246 (Nat.add 187 (Nat.add 246 (Nat.add 246 (Nat.add 197 (Nat.add 246 (Nat.add 246 (Nat.add 246 (Nat.add 250 N)))))))))))))))))))))))))))) (by kernel_rfl) (by kernel_rfl) (h1 w) (h2 w) eb (fun os N x h => k01s.chain Rw.prog (behindTheImports Rw.prog) w os rest N x h) (es w) (h3 w)
end W01

namespace M01
open W01
open PySem
open Dy
open L2 (kitB Key)
theorem rng_of (w : Int) (M : Mem) (h1 : 0 ≤ w) (h2 : w < 1000000) : oRng1 (.int w) M = .ok ((List.range w.toNat).map fun i => .int (i : Nat)) M := by
  show (if small62 w then (.ok (rgD 0 w) M : R (List Dm)) else .bad) = _
  rw [if_pos (by unfold small62; omega)]
  unfold rgD
  simp
theorem mul_small (i j : Int) (M : Mem) (h : i.natAbs < 2 ^ 64) : oMul (.int i) (.int j) M = .ok (.int (i * j)) M := by
  simp only [oMul, h, true_or, if_true]
def CupOk (k : Nat) (M : Mem) : Prop := ∃ a b : Int, M[k]? = some (.lst [.int a, .int b]) ∧ 0 ≤ a ∧ 0 ≤ b
theorem set_get {M : Mem} {k : Nat} {m m' : MO} (h : M[k]? = some m) : (M.set k m')[k]? = some m' := List.getElem?_set_self (List.getElem?_eq_some_iff.mp h).1
theorem sq_ref {M : Mem} {k : Nat} {ds : List Dm} (h : M[k]? = some (.lst ds)) : sqOf M (.ref k) = some ds := by
  unfold sqOf
  simp [h]
theorem ix0 (M : Mem) (k : Nat) (a b : Int) (h : M[k]? = some (.lst [.int a, .int b])) : oIx (.ref k) (.int 0) M = .ok (.int a) M := by
  rw [oIx_seq (fun z => by simp), sq_ref h]
  rfl
theorem ix1 (M : Mem) (k : Nat) (a b : Int) (h : M[k]? = some (.lst [.int a, .int b])) : oIx (.ref k) (.int 1) M = .ok (.int b) M := by
  rw [oIx_seq (fun z => by simp), sq_ref h]
  rfl
theorem put0 (M : Mem) (k : Nat) (a b c : Int) (r : Sl) (h : M[k]? = some (.lst [.int a, .int b])) : setMem k 0 (.int c) r M = .nx r (M.set k (.lst [.int c, .int b])) := by
  unfold setMem
  rw [h]
  rfl
theorem put1 (M : Mem) (k : Nat) (a b c : Int) (r : Sl) (h : M[k]? = some (.lst [.int a, .int b])) : setMem k 1 (.int c) r M = .nx r (M.set k (.lst [.int a, .int c])) := by
  unfold setMem
  rw [h]
  rfl
theorem aIx_ref {i k : Nat} {j : Int} {d : Dm} {r : Sl} {M : Mem} (h : r[i]? = some (.val (.ref k))) : aIx i (sC (.int j)) d r M = setMem k j d r M := by
  unfold aIx
  simp [h]
theorem mul_const (i j : Int) (M : Mem) (h : j.natAbs < 2 ^ 64) : oMul (.int i) (.int j) M = .ok (.int (i * j)) M := by
  simp only [oMul, h, true_or, or_true, if_true]
theorem mod_ap (i j : Int) (M : Mem) (h : 0 < j) : oI gMod (.int i) (.int j) M = .ok (.int (i % j)) M := by
  simp only [oI_ap, gMod, h, if_true]
theorem div_ap (i j : Int) (M : Mem) (h : 0 < j) (h2 : j < 1000000000) : oI gDiv (.int i) (.int j) M = .ok (.int (i / j)) M := by
  have e : j.natAbs.log2 < 9000 := by
    by_cases z : j.natAbs = 0
    · rw [z]
      decide
    · rw [Nat.log2_lt z]
      exact Nat.lt_of_lt_of_le (show j.natAbs < 2 ^ 30 by omega) (Nat.pow_le_pow_right (by decide) (by decide))
  simp only [oI_ap, gDiv, h, e, and_self, if_true]
theorem divmod_ap (i j : Int) (M : Mem) (h : 0 < j) (h2 : j < 1000000000) : oDivmod [.int i, .int j] M = .ok (.tup [.int (i / j), .int (i % j)]) M := by
  have e : Builtin.divisionGoesByPylong i j = false := PyProof.noPylong_small (by omega)
  simp only [oDivmod, h, e, and_self, if_true]
theorem gt_ap (i j : Int) (M : Mem) : oI gGt (.int i) (.int j) M = .ok (.bl (decide (j < i))) M := rfl
theorem sip_ok (k : Nat) (M : Mem) (m : Int) (h : CupOk k M) (h1 : 0 < m) (h2 : m < 1000000) : ∃ v M', f_law_sip [.ref k, .int m] M = .ok (.int v) M' ∧ 0 ≤ v ∧ v < m ∧ CupOk k M' ∧ M'.length = M.length := by
  obtain ⟨a, b, hM, ha, hb⟩ := h
  have e0 := ix0 M k a b hM
  have em := mul_const a 48271 M (by decide)
  have ed := mod_ap (a * 48271 + 11) 2147483629 M (by decide)
  have a0 : 0 ≤ (a * 48271 + 11) % 2147483629 := Int.emod_nonneg _ (by decide)
  have p0 := put0 M k a b ((a * 48271 + 11) % 2147483629) [.val (.ref k), .val (.int m), .un] hM
  have hM1 : (M.set k (.lst [.int ((a * 48271 + 11) % 2147483629), .int b]))[k]? = _ := set_get hM
  have l1 : (M.set k (.lst [.int ((a * 48271 + 11) % 2147483629), .int b])).length = M.length := List.length_set
  generalize (a * 48271 + 11) % 2147483629 = a' at a0 p0 ed hM1 l1
  generalize M.set k (.lst [.int a', .int b]) = M1 at p0 hM1 l1
  have f1 := ix1 M1 k a' b hM1
  have f0 := ix0 M1 k a' b hM1
  have x0 : ∀ d, aIx 0 (sC (.int 0)) d [.val (.ref k), .val (.int m), .un] M = setMem k 0 d [.val (.ref k), .val (.int m), .un] M := fun d => aIx_ref rfl
  by_cases hb1 : 0 < b
  · have dv := divmod_ap b m M1 h1 (by omega)
    have x1 : ∀ d, aIx 0 (sC (.int 1)) d [.val (.ref k), .val (.int m), .un] M1 = setMem k 1 d [.val (.ref k), .val (.int m), .un] M1 := fun d => aIx_ref rfl
    have p1 := put1 M1 k a' b (b / m) [.val (.ref k), .val (.int m), .un] hM1
    have hM2 : (M1.set k (.lst [.int a', .int (b / m)]))[k]? = _ := set_get hM1
    refine ⟨b % m, M1.set k (.lst [.int a', .int (b / m)]), runB_rt ?_, Int.emod_nonneg _ (by omega), Int.emod_lt_of_pos _ h1, ⟨a', b / m, hM2, a0, Int.ediv_nonneg hb (by omega)⟩, by rw [List.length_set]; exact l1⟩
    have g1 := gt_ap b 0 M1
    rw [decide_eq_true hb1] at g1
    simp only [b_law_sip, List.map_cons, List.map_nil, List.replicate_succ, List.replicate_zero, List.cons_append, List.nil_append, sSeq_ap, sAsg_ap, sBin_ap, sCall_ap, sCons_ap, sNil_ap, sVar_ap, sC_ap, List.getElem?_cons_succ, List.getElem?_cons_zero, bind_ok_ap, e0, em, oAdd_ap, oInt_ap, ed, of_ok_ap, x0, p0, seq_nx_ap,
      sIte_ap, tBin_ap, f1, g1, toB_ap, if_true, dv, aTup_ap, List.length_cons, List.length_nil, aCons_ap, x1, p1, aName_ap]
    simp
  · refine ⟨(a' / 1021) % m, M1, runB_rt ?_, Int.emod_nonneg _ (by omega), Int.emod_lt_of_pos _ h1, ⟨a', b, hM1, a0, hb⟩, l1⟩
    have g1 := gt_ap b 0 M1
    rw [decide_eq_false hb1] at g1
    have d1 := div_ap a' 1021 M1 (by decide) (by decide)
    have d2 := mod_ap (a' / 1021) m M1 h1
    simp only [b_law_sip, List.map_cons, List.map_nil, List.replicate_succ, List.replicate_zero, List.cons_append, List.nil_append, sSeq_ap, sAsg_ap, sBin_ap, sCall_ap, sCons_ap, sNil_ap, sVar_ap, sC_ap, List.getElem?_cons_succ, List.getElem?_cons_zero, bind_ok_ap, e0, em, oAdd_ap, oInt_ap, ed, of_ok_ap, x0, p0, seq_nx_ap,
      sIte_ap, tBin_ap, f1, f0, g1, toB_ap, Bool.false_eq_true, if_false, sSkip_ap, d1, d2, sRet_ap]
theorem pick_ok (k : Nat) (M : Mem) (ds : List Dm) (h : CupOk k M) (h1 : 0 < ds.length) (h2 : ds.length < 1000) : ∃ d M', f_law_pick [.ref k, .lst ds] M = .ok d M' ∧ d ∈ ds ∧ CupOk k M' ∧ M'.length = M.length := by
  obtain ⟨v, M', e, v0, v1, c, l⟩ := sip_ok k M ds.length h (by omega) (by omega)
  have hv : v.toNat < ds.length := by omega
  have ex : oIx (.lst ds) (.int v) M' = .ok ds[v.toNat] M' := by
    rw [oIx_seq (fun z => by simp)]
    show (match L2.atI ds v with
      | some y => (.ok y M' : R Dm)
      | none => .bad) = _
    unfold L2.atI L2.ixN
    rw [if_pos v0, if_pos v1]
    show (match ds[v.toNat]? with
      | some y => (.ok y M' : R Dm)
      | none => .bad) = _
    rw [List.getElem?_eq_getElem hv]
  refine ⟨ds[v.toNat], M', runB_rt ?_, List.getElem_mem hv, c, l⟩
  have el : oLen [.lst ds] M = .ok (.int ds.length) M := rfl
  simp only [b_law_pick, List.map_cons, List.map_nil, List.replicate_zero, List.append_nil, sRet_ap, sBin_ap, sVar_ap, List.getElem?_cons_succ, List.getElem?_cons_zero, bind_ok_ap, sCallD_ap, sCons_ap, sNil_ap, sNo_ap, sCall_ap, el, List.length_cons, List.length_nil, and_self, if_true, e, ex, of_ok_ap]
theorem sz2 : (2 : Nat) ≤ sizeLine := by decide
def cP1 : SS := (sAsg (sIf (tBin (oI gLt) (sVar 1) (sCall oLen (sCons (sVar 0) sNil))) (sBin oIx (sVar 0) (sVar 1)) (sBin oAdd (sBin oMul (sC (.int 7919)) (sVar 1)) (sC (.int 104729)))) (aName 2))
def cIt : SE (List Dm) := (sItems (sIf (tBin (oI gGe) (sVar 1) (sCall oLen (sCons (sVar 0) sNil))) (sSl (sVar 0) none (some (sC (.int 2)))) (sVal (fLst sNil))))
def cB : SS := (sAsg (sBin (oI gMod) (sCall oInt (sCons (sBin oAdd (sBin oMul (sVar 2) (sC (.int 31))) (sVar 3)) sNil)) (sC (.int 1000000007))) (aName 2))
def cP3 : SS := (sRetF (fLst (sCons (sBin (oI gMod) (sCall oInt (sCons (sBin oAdd (sBin oAdd (sBin oMul (sVar 2) (sC (.int 4099))) (sBin oMul (sC (.int 271)) (sVar 1))) (sC (.int 17))) sNil)) (sC (.int 2147483629))) (sCons (sIf (sOr (tBin (oI gLt) (sVar 2) (sC (.int 0))) (tBin (oI gGe) (sVar 2) (sBin (oI gPow) (sC (.int 10)) (sC (.int 18))))) (sCall (o1 gAbs) (sCons (sVar 2) sNil)) (sC (.int 0))) sNil))))
theorem cup_eq : b_law_cup = sSeq cP1 (sSeq (sFor cIt (aName 3) cB) cP3) := rfl
theorem atI_in {α : Type} (l : List α) (x : Int) (h0 : 0 ≤ x) (h : x < l.length) : L2.atI l x = l[x.toNat]? := by
  unfold L2.atI L2.ixN
  rw [if_pos h0, if_pos h]
  rfl
section
variable {ns : List Int} {sp : Int}
theorem len_frl (M : Mem) : oLen [.frl (ns.map .int)] M = .ok (.int ns.length) M := by
  show R.ok (Dm.int ((ns.map Dm.int).length : Nat)) M = _
  rw [List.length_map]
end
section
variable {ns : List Int} {sp : Int}
theorem lt_ap (i j : Int) (M : Mem) : oI gLt (.int i) (.int j) M = .ok (.bl (decide (i < j))) M := rfl
end
section
variable {ns : List Int} {sp : Int}
theorem ge_ap (i j : Int) (M : Mem) : oI gGe (.int i) (.int j) M = .ok (.bl (decide (j ≤ i))) M := rfl
end
section
variable {ns : List Int} {sp : Int}
theorem c1 (M : Mem) (h : 0 ≤ sp) : ∃ z : Int, cP1 [.val (.frl (ns.map .int)), .val (.int sp), .un, .un] M = .nx [.val (.frl (ns.map .int)), .val (.int sp), .val (.int z), .un] M := by
  have e1 := len_frl (ns := ns) M
  have e2 := lt_ap sp ns.length M
  by_cases hl : sp < (ns.length : Int)
  · rw [decide_eq_true hl] at e2
    have hl2 : sp.toNat < ns.length := by omega
    have ex : oIx (.frl (ns.map .int)) (.int sp) M = .ok (.int ns[sp.toNat]) M := by
      rw [oIx_seq (fun z => by simp)]
      show (match L2.atI (ns.map Dm.int) sp with
        | some y => (.ok y M : R Dm)
        | none => .bad) = _
      rw [atI_in _ _ h (by rw [List.length_map]; exact hl), List.getElem?_map, List.getElem?_eq_getElem hl2]
      rfl
    refine ⟨ns[sp.toNat], ?_⟩
    simp only [cP1, sIf_ap, List.map_cons, List.map_nil, List.replicate_succ, List.replicate_zero, List.cons_append, List.nil_append, sSeq_ap, sAsg_ap, sPar_ap, sCallD_ap, sCons_ap, sNil_ap, sNo_ap, sVar_ap, sC_ap, sCall_ap, List.getElem?_cons_succ, List.getElem?_cons_zero, bind_ok_ap, List.length_cons, List.length_nil, and_self, if_true, of_ok_ap, Nat.zero_add, Nat.reduceAdd, Nat.reduceLT, List.set_cons_succ, List.set_cons_zero, seq_nx_ap, seq_rt_ap, sIte_ap, tBin_ap, sBin_ap, toB_ap, Bool.false_eq_true, if_false, sSkip_ap, sRet_ap, sTup_ap, sVal_ap, fLst_ap, moV, aName_ap, aTup_ap, aCons_ap, aNil_ap, e1, e2, ex]
  · rw [decide_eq_false hl] at e2
    have em := mul_small 7919 sp M (by decide)
    refine ⟨7919 * sp + 104729, ?_⟩
    simp only [cP1, sIf_ap, List.map_cons, List.map_nil, List.replicate_succ, List.replicate_zero, List.cons_append, List.nil_append, sSeq_ap, sAsg_ap, sPar_ap, sCallD_ap, sCons_ap, sNil_ap, sNo_ap, sVar_ap, sC_ap, sCall_ap, List.getElem?_cons_succ, List.getElem?_cons_zero, bind_ok_ap, List.length_cons, List.length_nil, and_self, if_true, of_ok_ap, Nat.zero_add, Nat.reduceAdd, Nat.reduceLT, List.set_cons_succ, List.set_cons_zero, seq_nx_ap, seq_rt_ap, sIte_ap, tBin_ap, sBin_ap, toB_ap, Bool.false_eq_true, if_false, sSkip_ap, sRet_ap, sTup_ap, sVal_ap, fLst_ap, moV, aName_ap, aTup_ap, aCons_ap, aNil_ap, e1, e2, em, oAdd_ap]
end
section
variable {ns : List Int} {sp : Int}
theorem cIt_ok (M : Mem) (z : Int) : ∃ ps : List Int, cIt [.val (.frl (ns.map .int)), .val (.int sp), .val (.int z), .un] M = .ok (ps.map .int) M := by
  have e1 := len_frl (ns := ns) M
  have e2 := ge_ap sp ns.length M
  by_cases hl : (ns.length : Int) ≤ sp
  · rw [decide_eq_true hl] at e2
    refine ⟨(ns.drop (HT.sIx (ns.map Dm.int).length 0 none)).take (HT.sIx (ns.map Dm.int).length (ns.map Dm.int).length (some 2) - HT.sIx (ns.map Dm.int).length 0 none), ?_⟩
    have es : oSl (.frl (ns.map .int)) none (some 2) M = .ok (.lst (((ns.drop (HT.sIx (ns.map Dm.int).length 0 none)).take (HT.sIx (ns.map Dm.int).length (ns.map Dm.int).length (some 2) - HT.sIx (ns.map Dm.int).length 0 none)).map .int)) M := by
      rw [List.map_take, List.map_drop]
      rfl
    simp only [cIt, sItems_ap, sIf_ap, sSl, sOpt, List.map_cons, List.map_nil, List.replicate_succ, List.replicate_zero, List.cons_append, List.nil_append, sSeq_ap, sAsg_ap, sPar_ap, sCallD_ap, sCons_ap, sNil_ap, sNo_ap, sVar_ap, sC_ap, sCall_ap, List.getElem?_cons_succ, List.getElem?_cons_zero, bind_ok_ap, List.length_cons, List.length_nil, and_self, if_true, of_ok_ap, Nat.zero_add, Nat.reduceAdd, Nat.reduceLT, List.set_cons_succ, List.set_cons_zero, seq_nx_ap, seq_rt_ap, sIte_ap, tBin_ap, sBin_ap, toB_ap, Bool.false_eq_true, if_false, sSkip_ap, sRet_ap, sTup_ap, sVal_ap, fLst_ap, moV, aName_ap, aTup_ap, aCons_ap, aNil_ap, e1, e2, es]
    rfl
  · rw [decide_eq_false hl] at e2
    refine ⟨[], ?_⟩
    have z0 : (0 : Nat) ≤ sizeLine := by decide
    simp only [cIt, sItems_ap, sIf_ap, List.map_cons, List.map_nil, List.replicate_succ, List.replicate_zero, List.cons_append, List.nil_append, sSeq_ap, sAsg_ap, sPar_ap, sCallD_ap, sCons_ap, sNil_ap, sNo_ap, sVar_ap, sC_ap, sCall_ap, List.getElem?_cons_succ, List.getElem?_cons_zero, bind_ok_ap, List.length_cons, List.length_nil, and_self, if_true, of_ok_ap, Nat.zero_add, Nat.reduceAdd, Nat.reduceLT, List.set_cons_succ, List.set_cons_zero, seq_nx_ap, seq_rt_ap, sIte_ap, tBin_ap, sBin_ap, toB_ap, Bool.false_eq_true, if_false, sSkip_ap, sRet_ap, sTup_ap, sVal_ap, fLst_ap, moV, aName_ap, aTup_ap, aCons_ap, aNil_ap, e1, e2, z0]
    rfl
end
section
variable {ns : List Int} {sp : Int}
theorem cLoop (M : Mem) : ∀ (ps : List Int) (z : Int) (s3 : Dy.Slot), ∃ (z' : Int) (s3' : Dy.Slot), forGo (aName 3) cB (ps.map .int) [.val (.frl (ns.map .int)), .val (.int sp), .val (.int z), s3] M = .nx [.val (.frl (ns.map .int)), .val (.int sp), .val (.int z'), s3'] M
  | [], z, s3 => ⟨z, s3, rfl⟩
  | p :: ps, z, s3 => by
    have em := mul_const z 31 M (by decide)
    have ed := mod_ap (z * 31 + p) 1000000007 M (by decide)
    obtain ⟨z', s3', e⟩ := cLoop M ps ((z * 31 + p) % 1000000007) (.val (.int p))
    refine ⟨z', s3', ?_⟩
    rw [List.map_cons]
    unfold forGo
    have et : (aName 3 (.int p) [.val (.frl (ns.map .int)), .val (.int sp), .val (.int z), s3] M).seq cB = .nx [.val (.frl (ns.map .int)), .val (.int sp), .val (.int ((z * 31 + p) % 1000000007)), .val (.int p)] M := by
      simp only [cB, List.map_cons, List.map_nil, List.replicate_succ, List.replicate_zero, List.cons_append, List.nil_append, sSeq_ap, sAsg_ap, sPar_ap, sCallD_ap, sCons_ap, sNil_ap, sNo_ap, sVar_ap, sC_ap, sCall_ap, List.getElem?_cons_succ, List.getElem?_cons_zero, bind_ok_ap, List.length_cons, List.length_nil, and_self, if_true, of_ok_ap, Nat.zero_add, Nat.reduceAdd, Nat.reduceLT, List.set_cons_succ, List.set_cons_zero, seq_nx_ap, seq_rt_ap, sIte_ap, tBin_ap, sBin_ap, toB_ap, Bool.false_eq_true, if_false, sSkip_ap, sRet_ap, sTup_ap, sVal_ap, fLst_ap, moV, aName_ap, aTup_ap, aCons_ap, aNil_ap, em, oAdd_ap, oInt_ap, ed]
    rw [et]
    exact e
end
section
variable {ns : List Int} {sp : Int}
theorem c3 (M : Mem) (z : Int) (s3 : Dy.Slot) : ∃ a b : Int, cP3 [.val (.frl (ns.map .int)), .val (.int sp), .val (.int z), s3] M = .rf (.lst [.int a, .int b]) M ∧ 0 ≤ a ∧ 0 ≤ b := by
  have em := mul_const z 4099 M (by decide)
  have em2 := mul_small 271 sp M (by decide)
  have ed := mod_ap (z * 4099 + 271 * sp + 17) 2147483629 M (by decide)
  have e1 := lt_ap z 0 M
  have e2 := ge_ap z (10 ^ 18) M
  have e3 : oI gPow (.int 10) (.int 18) M = .ok (.int (10 ^ 18)) M := rfl
  have e4 : Dy.o1 gAbs [.int z] M = .ok (.int (if z < 0 then -z else z)) M := rfl
  have a0 : 0 ≤ (z * 4099 + 271 * sp + 17) % 2147483629 := Int.emod_nonneg _ (by decide)
  by_cases h1 : z < 0
  · rw [decide_eq_true h1] at e1
    rw [if_pos h1] at e4
    refine ⟨_, -z, ?_, a0, by omega⟩
    simp only [cP3, sRetF_ap, sIf_ap, sOr_ap, List.map_cons, List.map_nil, List.replicate_succ, List.replicate_zero, List.cons_append, List.nil_append, sSeq_ap, sAsg_ap, sPar_ap, sCallD_ap, sCons_ap, sNil_ap, sNo_ap, sVar_ap, sC_ap, sCall_ap, List.getElem?_cons_succ, List.getElem?_cons_zero, bind_ok_ap, List.length_cons, List.length_nil, and_self, if_true, of_ok_ap, Nat.zero_add, Nat.reduceAdd, Nat.reduceLT, List.set_cons_succ, List.set_cons_zero, seq_nx_ap, seq_rt_ap, sIte_ap, tBin_ap, sBin_ap, toB_ap, Bool.false_eq_true, if_false, sSkip_ap, sRet_ap, sTup_ap, sVal_ap, fLst_ap, moV, aName_ap, aTup_ap, aCons_ap, aNil_ap, em, em2, oAdd_ap, oInt_ap, ed, e1, e4, sz2]
  · rw [decide_eq_false h1] at e1
    rw [if_neg h1] at e4
    by_cases h2 : 10 ^ 18 ≤ z
    · rw [decide_eq_true h2] at e2
      refine ⟨_, z, ?_, a0, by omega⟩
      simp only [cP3, sRetF_ap, sIf_ap, sOr_ap, List.map_cons, List.map_nil, List.replicate_succ, List.replicate_zero, List.cons_append, List.nil_append, sSeq_ap, sAsg_ap, sPar_ap, sCallD_ap, sCons_ap, sNil_ap, sNo_ap, sVar_ap, sC_ap, sCall_ap, List.getElem?_cons_succ, List.getElem?_cons_zero, bind_ok_ap, List.length_cons, List.length_nil, and_self, if_true, of_ok_ap, Nat.zero_add, Nat.reduceAdd, Nat.reduceLT, List.set_cons_succ, List.set_cons_zero, seq_nx_ap, seq_rt_ap, sIte_ap, tBin_ap, sBin_ap, toB_ap, Bool.false_eq_true, if_false, sSkip_ap, sRet_ap, sTup_ap, sVal_ap, fLst_ap, moV, aName_ap, aTup_ap, aCons_ap, aNil_ap, em, em2, oAdd_ap, oInt_ap, ed, e1, e2, e3, e4, sz2]
    · rw [decide_eq_false h2] at e2
      refine ⟨_, 0, ?_, a0, by omega⟩
      simp only [cP3, sRetF_ap, sIf_ap, sOr_ap, List.map_cons, List.map_nil, List.replicate_succ, List.replicate_zero, List.cons_append, List.nil_append, sSeq_ap, sAsg_ap, sPar_ap, sCallD_ap, sCons_ap, sNil_ap, sNo_ap, sVar_ap, sC_ap, sCall_ap, List.getElem?_cons_succ, List.getElem?_cons_zero, bind_ok_ap, List.length_cons, List.length_nil, and_self, if_true, of_ok_ap, Nat.zero_add, Nat.reduceAdd, Nat.reduceLT, List.set_cons_succ, List.set_cons_zero, seq_nx_ap, seq_rt_ap, sIte_ap, tBin_ap, sBin_ap, toB_ap, Bool.false_eq_true, if_false, sSkip_ap, sRet_ap, sTup_ap, sVal_ap, fLst_ap, moV, aName_ap, aTup_ap, aCons_ap, aNil_ap, em, em2, oAdd_ap, oInt_ap, ed, e1, e2, e3, sz2]
end
section
variable {ns : List Int} {sp : Int}
theorem cup_ok (M : Mem) (h : 0 ≤ sp) : ∃ a b : Int, f_law_cup [.frl (ns.map .int), .int sp] M = .ok (.lst [.int a, .int b]) M ∧ 0 ≤ a ∧ 0 ≤ b := by
  obtain ⟨z, e1⟩ := c1 (ns := ns) M h
  obtain ⟨ps, e2⟩ := cIt_ok (ns := ns) (sp := sp) M z
  obtain ⟨z', s3', e3⟩ := cLoop (ns := ns) (sp := sp) M ps z .un
  obtain ⟨a, b, e4, a0, b0⟩ := c3 (ns := ns) (sp := sp) M z' s3'
  refine ⟨a, b, ?_, a0, b0⟩
  have e : b_law_cup [.val (.frl (ns.map .int)), .val (.int sp), .un, .un] M = .rf (.lst [.int a, .int b]) M := by
    rw [cup_eq]
    simp only [sSeq_ap, e1, seq_nx_ap, sFor_ap, e2, of_ok_ap, e3, e4]
  show (match b_law_cup [.val (.frl (ns.map .int)), .val (.int sp), .un, .un] M with
    | .rf m M' => (.ok m M' : R MO)
    | .ex _ C fs M' => .ex C fs M'
    | _ => .bad) = _
  rw [e]
end
theorem bls_true : ∀ {ys : List Dm}, (∀ y ∈ ys, y = .bl true) → ∃ bs, bls ys = some bs ∧ bs.all id = true
  | [], _ => ⟨[], rfl, rfl⟩
  | y :: ys, h => by
    obtain ⟨bs, e1, e2⟩ := bls_true (ys := ys) fun z hz => h z (List.mem_cons_of_mem _ hz)
    have hy := h y List.mem_cons_self
    subst hy
    refine ⟨true :: bs, ?_, by rw [List.all_cons, e2]; rfl⟩
    show (bls ys).map (true :: ·) = _
    rw [e1]
    rfl
end M01


namespace M01
open W01
open PySem
open Dy
open L2 (kitB Key)
def rt1 : SS := (sAsg (sVal (fLst (sCons (sC .non) (sCons (sC (.int 0)) (sCons (sUn oNeg (sC (.int 3))) (sCons (sC (.bl true)) (sCons (sC (.str "a")) (sCons (sC (.str "")) (sCons (sTup sNil) (sCons (sTup (sCons (sC (.int 1)) (sCons (sC (.int 2)) sNil))) (sCons (sVal (fLst sNil)) (sCons (sVal (fLst (sCons (sC (.int 7)) sNil))) (sCons (sVal fDic0) (sCons (sVal (fDicC [((.inr "a"), .int 1)])) (sCons (sBin (oI gPow) (sC (.int 10)) (sC (.int 30))) (sCons (sTup (sCons (sC (.str "set")) (sCons (sC (.int 3)) sNil))) sNil)))))))))))))))) (aName 1))
def rt2 : SS := (sAsg (sCallD (sCons (sVar 0) (sCons (sVar 1) sNil)) sNo 2 0 (fun ds _ => ds) f_law_pick) (aName 2))
def rt3b1 : SS := (sIte (tBin oNe (sVal (fLc [5] (sItems (sVar 4)) (kName 5) tsYes (sBin oAdd (sCallD (sCons (sVar 5) sNil) sNo 1 0 (fun ds _ => ds) f_law_classes) (sVal (fLst (sCons (sCall oReprG (sCons (sUn (oExF kxn "given") (sVar 5)) sNil)) sNil)))))) (sBin oRepL (sVal (fLst (sCons (sVal (fLst (sCons (sVar 3) (sCons (sC (.int 30)) (sCons (sC (.int 33)) (sCons (sCall oReprG (sCons (sVar 2) sNil)) sNil)))))) sNil))) (sC (.int 2)))) (sRet (sC (.bl false))) sSkip)
def rt3b : SS := rt3b1
def rt3 : SS := (sFor (sEnum (sCallD (sCons (sVar 2) sNil) sNo 1 0 (fun ds _ => ds) f_law_given)) (aTup 2 (aCons (aName 3) (aCons (aName 4) aNil))) rt3b)
def rt4b1 : SS := (sIte (tBin oNe (sVal (fLc [5] (sItems (sVar 4)) (kName 5) tsYes (sBin oAdd (sCallD (sCons (sVar 5) sNil) sNo 1 0 (fun ds _ => ds) f_law_classes) (sVal (fLst (sCons (sCall oReprG (sCons (sUn (oExF kxn "index") (sVar 5)) sNil)) sNil)))))) (sBin oRepL (sVal (fLst (sCons (sVal (fLst (sCons (sBin oAdd (sC (.int 13)) (sVar 3)) (sCons (sC (.int 30)) (sCons (sC (.int 33)) (sCons (sCall oReprG (sCons (sVar 2) sNil)) sNil)))))) sNil))) (sC (.int 2)))) (sRet (sC (.bl false))) sSkip)
def rt4b : SS := rt4b1
def rt4 : SS := (sFor (sEnum (sCallD (sCons (sVar 2) sNil) sNo 1 0 (fun ds _ => ds) f_law_indexed)) (aTup 2 (aCons (aName 3) (aCons (aName 4) aNil))) rt4b)
def rt5 : SS := (sAsg (sVal (fLst (sCons (sMkE "UnknownName" "given" (sVar 2)) (sCons (sMkE "UnknownName" "given" (sVar 2)) sNil)))) (aName 4))
def rt6 : SS := (sIte (tBin oNe (sVal (fLc [5] (sItems (sVar 4)) (kName 5) tsYes (sBin oAdd (sCallD (sCons (sVar 5) sNil) sNo 1 0 (fun ds _ => ds) f_law_classes) (sVal (fLst (sCons (sCall oReprG (sCons (sUn (oExF kxn "given") (sVar 5)) sNil)) sNil)))))) (sBin oRepL (sVal (fLst (sCons (sVal (fLst (sCons (sC (.int 18)) (sCons (sC (.int 31)) (sCons (sC (.int 34)) (sCons (sCall oReprG (sCons (sVar 2) sNil)) sNil)))))) sNil))) (sC (.int 2)))) (sRet (sC (.bl false))) sSkip)
def rt7 : SS := (sAsg (sVal (fLst (sCons (sMkE "OtherKind" "given" (sVar 2)) (sCons (sMkE "OtherKind" "given" (sVar 2)) sNil)))) (aName 4))
def rt8 : SS := (sIte (tBin oNe (sVal (fLc [5] (sItems (sVar 4)) (kName 5) tsYes (sBin oAdd (sCallD (sCons (sVar 5) sNil) sNo 1 0 (fun ds _ => ds) f_law_classes) (sVal (fLst (sCons (sCall oReprG (sCons (sUn (oExF kxn "given") (sVar 5)) sNil)) sNil)))))) (sBin oRepL (sVal (fLst (sCons (sVal (fLst (sCons (sC (.int 21)) (sCons (sC (.int 32)) (sCons (sC (.int 35)) (sCons (sCall oReprG (sCons (sVar 2) sNil)) sNil)))))) sNil))) (sC (.int 2)))) (sRet (sC (.bl false))) sSkip)
def rt9 : SS := (sAsg (sVal (fLst (sCons (sMkE "InUse" "index" (sVar 2)) (sCons (sMkE "InUse" "index" (sVar 2)) sNil)))) (aName 4))
def rt10 : SS := (sIte (tBin oNe (sVal (fLc [5] (sItems (sVar 4)) (kName 5) tsYes (sBin oAdd (sCallD (sCons (sVar 5) sNil) sNo 1 0 (fun ds _ => ds) f_law_classes) (sVal (fLst (sCons (sCall oReprG (sCons (sUn (oExF kxn "index") (sVar 5)) sNil)) sNil)))))) (sBin oRepL (sVal (fLst (sCons (sVal (fLst (sCons (sC (.int 19)) (sCons (sC (.int 31)) (sCons (sC (.int 34)) (sCons (sCall oReprG (sCons (sVar 2) sNil)) sNil)))))) sNil))) (sC (.int 2)))) (sRet (sC (.bl false))) sSkip)
def rt11 : SS := (sAsg (sVal (fLst (sCons (sMkE "TooMany" "most" (sVar 2)) (sCons (sMkE "TooMany" "most" (sVar 2)) sNil)))) (aName 4))
def rt12 : SS := (sIte (tBin oNe (sVal (fLc [5] (sItems (sVar 4)) (kName 5) tsYes (sBin oAdd (sCallD (sCons (sVar 5) sNil) sNo 1 0 (fun ds _ => ds) f_law_classes) (sVal (fLst (sCons (sCall oReprG (sCons (sUn (oExF kxn "most") (sVar 5)) sNil)) sNil)))))) (sBin oRepL (sVal (fLst (sCons (sVal (fLst (sCons (sC (.int 20)) (sCons (sC (.int 32)) (sCons (sC (.int 35)) (sCons (sCall oReprG (sCons (sVar 2) sNil)) sNil)))))) sNil))) (sC (.int 2)))) (sRet (sC (.bl false))) sSkip)
def rt13 : SS := (sAsg (sVal (fLst (sCons (sMkE "Broken" "index" (sVar 2)) (sCons (sMkE "Broken" "index" (sVar 2)) sNil)))) (aName 4))
def rt14 : SS := (sRet (sBin oEq (sVal (fLc [5] (sItems (sVar 4)) (kName 5) tsYes (sBin oAdd (sCallD (sCons (sVar 5) sNil) sNo 1 0 (fun ds _ => ds) f_law_classes) (sVal (fLst (sCons (sCall oReprG (sCons (sUn (oExF kxn "index") (sVar 5)) sNil)) sNil)))))) (sBin oRepL (sVal (fLst (sCons (sVal (fLst (sCons (sC (.int 22)) (sCons (sC (.int 32)) (sCons (sC (.int 35)) (sCons (sCall oReprG (sCons (sVar 2) sNil)) sNil)))))) sNil))) (sC (.int 2)))))
theorem rt_parts : b_law_right = (sSeq rt1 (sSeq rt2 (sSeq rt3 (sSeq rt4 (sSeq rt5 (sSeq rt6 (sSeq rt7 (sSeq rt8 (sSeq rt9 (sSeq rt10 (sSeq rt11 (sSeq rt12 (sSeq rt13 rt14))))))))))))) := rfl

/-- the things -/
def TH : List Dm := [.non, .int 0, .int (-3), .bl true, .str "a", .str "", .tup [], .tup [.int 1, .int 2], .lst [], .lst [.int 7], .dic [], .dic [(.inr "a", .int 1)], .int 1000000000000000000000000000000, .tup [.str "set", .int 3]]
def rest : SS := (sSeq rt3 (sSeq rt4 (sSeq rt5 (sSeq rt6 (sSeq rt7 (sSeq rt8 (sSeq rt9 (sSeq rt10 (sSeq rt11 (sSeq rt12 (sSeq rt13 rt14)))))))))))
section
variable {c : Nat} {M : Mem}
theorem rt1_ok : rt1 [.val (.ref c), .un, .un, .un, .un, .un] M = .nx [.val (.ref c), .val (.lst TH), .un, .un, .un, .un] M := by kernel_rfl
theorem r_0 : rest [.val (.ref c), .val (.lst TH), .val (.non), .un, .un, .un] M = .rt (.bl true) M := by kernel_rfl
theorem r_1 : rest [.val (.ref c), .val (.lst TH), .val (.int 0), .un, .un, .un] M = .rt (.bl true) M := by kernel_rfl
theorem r_2 : rest [.val (.ref c), .val (.lst TH), .val (.int (-3)), .un, .un, .un] M = .rt (.bl true) M := by kernel_rfl
theorem r_3 : rest [.val (.ref c), .val (.lst TH), .val (.bl true), .un, .un, .un] M = .rt (.bl true) M := by kernel_rfl
theorem r_4 : rest [.val (.ref c), .val (.lst TH), .val (.str "a"), .un, .un, .un] M = .rt (.bl true) M := by kernel_rfl
theorem r_5 : rest [.val (.ref c), .val (.lst TH), .val (.str ""), .un, .un, .un] M = .rt (.bl true) M := by kernel_rfl
theorem r_6 : rest [.val (.ref c), .val (.lst TH), .val (.tup []), .un, .un, .un] M = .rt (.bl true) M := by kernel_rfl
theorem r_7 : rest [.val (.ref c), .val (.lst TH), .val (.tup [.int 1, .int 2]), .un, .un, .un] M = .rt (.bl true) M := by kernel_rfl
theorem r_8 : rest [.val (.ref c), .val (.lst TH), .val (.lst []), .un, .un, .un] M = .rt (.bl true) M := by kernel_rfl
theorem r_9 : rest [.val (.ref c), .val (.lst TH), .val (.lst [.int 7]), .un, .un, .un] M = .rt (.bl true) M := by kernel_rfl
theorem r_10 : rest [.val (.ref c), .val (.lst TH), .val (.dic []), .un, .un, .un] M = .rt (.bl true) M := by kernel_rfl
theorem r_11 : rest [.val (.ref c), .val (.lst TH), .val (.dic [(.inr "a", .int 1)]), .un, .un, .un] M = .rt (.bl true) M := by kernel_rfl
theorem r_12 : rest [.val (.ref c), .val (.lst TH), .val (.int 1000000000000000000000000000000), .un, .un, .un] M = .rt (.bl true) M := by kernel_rfl
theorem r_13 : rest [.val (.ref c), .val (.lst TH), .val (.tup [.str "set", .int 3]), .un, .un, .un] M = .rt (.bl true) M := by kernel_rfl
theorem rest_ok {d : Dm} (h : d ∈ TH) : rest [.val (.ref c), .val (.lst TH), .val d, .un, .un, .un] M = .rt (.bl true) M := by
  simp only [TH, List.mem_cons, List.not_mem_nil, or_false] at h
  rcases h with rfl | rfl | rfl | rfl | rfl | rfl | rfl | rfl | rfl | rfl | rfl | rfl | rfl | rfl
  · exact r_0
  · exact r_1
  · exact r_2
  · exact r_3
  · exact r_4
  · exact r_5
  · exact r_6
  · exact r_7
  · exact r_8
  · exact r_9
  · exact r_10
  · exact r_11
  · exact r_12
  · exact r_13
theorem right_ok (h : CupOk c M) : ∃ M', f_law_right [.ref c] M = .ok (.bl true) M' := by
  obtain ⟨d, M1, e1, hd, c1, l1⟩ := pick_ok c M TH h (by decide) (by decide)
  refine ⟨M1, runB_rt ?_⟩
  rw [rt_parts]
  show (sSeq rt1 (sSeq rt2 rest)) [.val (.ref c), .un, .un, .un, .un, .un] M = _
  have b2 : rt2 [.val (.ref c), .val (.lst TH), .un, .un, .un, .un] M = .nx [.val (.ref c), .val (.lst TH), .val d, .un, .un, .un] M1 := by
    simp only [rt2, sAsg_ap, sCallD_ap, sCons_ap, sNil_ap, sNo_ap, sVar_ap, List.getElem?_cons_succ, List.getElem?_cons_zero, bind_ok_ap, List.length_cons, List.length_nil, Nat.zero_add, Nat.reduceAdd, and_self, if_true, e1, of_ok_ap, aName_ap]
    rfl
  rw [sSeq_ap, rt1_ok, seq_nx_ap, sSeq_ap, b2, seq_nx_ap]
  exact rest_ok hd
end
end M01

namespace M01
open W01
open PySem
open Dy
open L2 (kitB Key)
def lw1 : SS := (sAsg (sVal (fLst (sCons (sC (.int 8)) (sCons (sC (.int 40)) (sCons (sC (.int 9)) (sCons (sC (.int 12)) (sCons (sC (.int 6)) (sCons (sC (.int 30)) (sCons (sC (.int 1000000000000000000000000000000)) sNil))))))))) (aName 1))
def lw2 : SS := (sIte (tBin oNe (sCall oReprG (sCons (sVar 1) sNil)) (sCall oReprG (sCons (sVal (fLst (sCons (sC (.int 8)) (sCons (sC (.int 40)) (sCons (sC (.int 9)) (sCons (sC (.int 12)) (sCons (sC (.int 6)) (sCons (sC (.int 30)) (sCons (sBin (oI gPow) (sC (.int 10)) (sC (.int 30))) sNil))))))))) sNil))) (sRet (sC (.bl false))) sSkip)
def lw3 : SS := (sAsg (sVal (fLst (sCons (sMkE0 "NothingToUndo") (sCons (sMkE0 "WrongValue") (sCons (sMkE0 "WrongName") (sCons (sMkE0 "NoAnswer") sNil)))))) (aName 2))
def lw4 : SS := (sIte (tBin oNe (sVal (fLc [3] (sItems (sVar 2)) (kName 3) tsYes (sCallD (sCons (sVar 3) sNil) sNo 1 0 (fun ds _ => ds) f_law_classes))) (sVal (fLst (sCons (sVal (fLst (sCons (sC (.int 23)) (sCons (sC (.int 32)) (sCons (sC (.int 35)) sNil))))) (sCons (sVal (fLst (sCons (sC (.int 30)) (sCons (sC (.int 33)) sNil)))) (sCons (sVal (fLst (sCons (sC (.int 31)) (sCons (sC (.int 34)) sNil)))) (sCons (sVal (fLst (sCons (sC (.int 32)) (sCons (sC (.int 35)) sNil)))) sNil))))))) (sRet (sC (.bl false))) sSkip)
def lw5 : SS := (sRet (sCall oAll (sCons (sVal (fLc [4] (sRng1 (sCall (o2 gMax) (sCons (sC (.int 2)) (sCons (sCall (o2 gMin) (sCons (sCall oLen (sCons (sVar 0) sNil)) (sCons (sC (.int 8)) sNil))) sNil)))) (kName 4) tsYes (sCallD (sCons (sMem (sCallF (sCons (sVar 0) (sCons (sVar 4) sNil)) sNo 2 0 (fun ds _ => ds) f_law_cup)) sNil) sNo 1 0 (fun ds _ => ds) f_law_right))) sNil)))
theorem lw_parts : b_law = (sSeq lw1 (sSeq lw2 (sSeq lw3 (sSeq lw4 lw5)))) := rfl

section
variable {D : Dm}
def L1 : Dm := .lst [.int 8, .int 40, .int 9, .int 12, .int 6, .int 30, .int 1000000000000000000000000000000]
def L2' : Dm := .lst [.exc "NothingToUndo" [], .exc "WrongValue" [], .exc "WrongName" [], .exc "NoAnswer" []]
abbrev flw (D : Dm) (s1 s2 : Dy.Slot) : Sl := [.val D, s1, s2, .un, .un]
theorem lw1_ok : lw1 (flw D .un .un) [] = .nx (flw D (.val L1) .un) [] := by kernel_rfl
theorem lw2_ok : lw2 (flw D (.val L1) .un) [] = .nx (flw D (.val L1) .un) [] := by kernel_rfl
theorem lw3_ok : lw3 (flw D (.val L1) .un) [] = .nx (flw D (.val L1) (.val L2')) [] := by kernel_rfl
theorem lw4_ok : lw4 (flw D (.val L1) (.val L2')) [] = .nx (flw D (.val L1) (.val L2')) [] := by kernel_rfl
end
theorem _root_.W01.law_ok (ns : List Int) (hn : ns.length ≤ 63) : ∃ M, f_law [.frl (ns.map .int)] [] = .ok (.bl true) M := by
  have e1 := len_frl (ns := ns) []
  have n1 : o2 gMin [.int ns.length, .int 8] [] = .ok (.int (if (8 : Int) < ns.length then 8 else ns.length)) [] := rfl
  have n2 : o2 gMax [.int 2, .int (if (8 : Int) < ns.length then 8 else ns.length)] [] = .ok (.int (if (if (8 : Int) < ns.length then 8 else (ns.length : Int)) > 2 then (if (8 : Int) < ns.length then 8 else (ns.length : Int)) else 2)) [] := rfl
  have hb : ∃ c : Int, (if (if (8 : Int) < ns.length then 8 else (ns.length : Int)) > 2 then (if (8 : Int) < ns.length then 8 else (ns.length : Int)) else 2) = c ∧ 0 ≤ c ∧ c ≤ 8 := by
    refine ⟨_, rfl, ?_, ?_⟩ <;> (repeat' split) <;> omega
  obtain ⟨c, ec, c0, c8⟩ := hb
  rw [ec] at n2
  have er := rng_of c [] c0 (by omega)
  obtain ⟨ys, M2, e2, _, j2, _⟩ := lcGo_inv (k := kName 4) (e := sCallD (sCons (sMem (sCallF (sCons (sVar 0) (sCons (sVar 4) sNil)) sNo 2 0 (fun ds _ => ds) f_law_cup)) sNil) sNo 1 0 (fun ds _ => ds) f_law_right)
    (r0 := wipeS (flw (.frl (ns.map .int)) (.val L1) (.val L2')) [4]) (fun _ => True) (fun d => d = .bl true) ((List.range c.toNat).map fun i => .int (i : Nat)) [] [] True.intro (fun x hx => nomatch hx) (fun d hd M hM => by
      obtain ⟨i, hi, rfl⟩ := List.mem_map.mp hd
      obtain ⟨a, b, e, a0, b0⟩ := cup_ok (ns := ns) (sp := (i : Nat)) M (by omega)
      obtain ⟨M', er⟩ := right_ok (c := M.length) (M := M ++ [.lst [.int a, .int b]]) ⟨a, b, by simp, a0, b0⟩
      refine ⟨[(4, .int (i : Nat))], .bl true, M', rfl, ?_, rfl, True.intro⟩
      simp only [flw, setsS, wipeS, List.set, sCallD_ap, sCallF_ap, sMem_ap, sCons_ap, sNil_ap, sNo_ap, sVar_ap, List.getElem?_cons_succ, List.getElem?_cons_zero, bind_ok_ap, List.length_cons, List.length_nil, Nat.zero_add, Nat.reduceAdd, and_self, if_true, e, er]) (by
      have z : (100 : Nat) ≤ sizeLine := by decide
      simp only [List.length_nil, List.length_map, List.length_range]
      omega)
  obtain ⟨bs, b1', b2'⟩ := bls_true j2
  have ea : oAll [.lst ys] M2 = .ok (.bl true) M2 := by
    unfold oAll
    simp only [b1', b2']
  have e4 : lw5 (flw (.frl (ns.map .int)) (.val L1) (.val L2')) [] = .rt (.bl true) M2 := by
    have ne : noOwn (flw (.frl (ns.map .int)) (.val L1) (.val L2')) [4] = true := rfl
    unfold flw at e2 ne ⊢
    simp only [lw5, sRet_ap, sCall_ap, sCons_ap, sVal_ap, fLc_ap, ne, if_true, sRng1_ap, sVar_ap, sC_ap, List.getElem?_cons_succ, List.getElem?_cons_zero, e1, n1, n2, er, e2, moV, ea, sNil_ap, bind_ok_ap, of_ok_ap]
  refine ⟨M2, runB_rt ?_⟩
  rw [lw_parts]
  show (sSeq lw1 (sSeq lw2 (sSeq lw3 (sSeq lw4 lw5)))) (flw (.frl (ns.map .int)) .un .un) [] = _
  rw [sSeq_ap, lw1_ok, seq_nx_ap, sSeq_ap, lw2_ok, seq_nx_ap, sSeq_ap, lw3_ok, seq_nx_ap, sSeq_ap, lw4_ok, seq_nx_ap]
  exact e4
end M01

open PySem PySem.W PySem.Calls PyProof.Rows
theorem k01_holds : PySem.Challenge.rw_glimpserounds_k01_constants_and_errors.Holds := by
  w_on; o_law
  refine Dy.head_two (r := OpenLaw.row PySem.Challenge.rw_glimpserounds_k01_constants_and_errors) (q := W01.qv) (H := W01.hkB) (ob := W01.ob) (loose := W01.names) (d := HandSHeadRun.topDef (OpenLaw.row PySem.Challenge.rw_glimpserounds_k01_constants_and_errors).prog 43) (kwd := []) W01.ob_eq
    (by kernel_rfl) (fun s => by kernel_rfl) W01.ends (by kernel_rfl) (by kernel_rfl) (by kernel_rfl) (by rfl) (by first | assumption | decide +kernel) (by decide +kernel) ⟨rfl, rfl, rfl, rfl, rfl, by decide +kernel⟩ ?hw ?hc
  case hw => w_witness2
  case hc =>
    refine Dy.dy_endT (l := PySem.Challenge.rw_glimpserounds_k01_constants_and_errors) (n := 63) (k := 5) (x := "_law_script") rfl (by decide) (by kernel_rfl) ⟨rfl, by decide, by decide⟩ ?F
    intro w mg f h Y G hmg0
    obtain ⟨K, KX, c⟩ := Y
    have FT := W01.facts_of KX G c
    have en : (HandSHeadRun.topDef (OpenLaw.row PySem.Challenge.rw_glimpserounds_k01_constants_and_errors).prog 43).name = ("law" : PySem.Str) := by kernel_rfl
    rw [en, FT.g_law] at hmg0
    cases hmg0
    exact ⟨K, Dy.fdOf K W01.D_law, W01.f_law, Dy.csOf K W01.lams, KX, Dy.cs_of c, (fun s v => L2.FunD.bindsA (ps := ["_law_script"]) FT.d_law (fun _ _ _ _ _ _ us hl => match us, hl with | [_], _ => rfl) s [v] rfl), fun base _ _ TB => W01.ok_law FT (Dy.el_top TB rfl), fun ns hl _ => W01.law_ok ns hl⟩

theorem PySem.Challenge.cw_glimpserounds_k01_constants_and_errors_holds : PySem.Challenge.rw_glimpserounds_k01_constants_and_errors.Holds :=
  k01_holds
