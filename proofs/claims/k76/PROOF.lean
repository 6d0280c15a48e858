import PyProof.Rows.All
import Wide.All
import OpenK.AllK
import Wide.FinOn
import HandS.ForMost
import HandS.Exc
import HandS.Words
import HandS.Lambda
import HandS.Flow
import HandS.CallSlots
import HandS.ExcOwn
import HandS.IsInst
import KE.GoesNew
import KE.GoesEnum
import KE.GoesMore
import HandS.ExcInit
import HandS.ExcField
import HandS.TryMany
import HandS.WordsExc
import HandS.TupAny
import HandS.Text
import HandS.TupLe
import HandS.Conv
import HandS.TupLen
import HandS.Deep
import PyProof.ListStr
import HandS.RaiseMore
import HandS.Small
import HandS.BoundDict
import HandS.TryOnly
import HandS.Style
import HandS.DictComp
import KE.SortData
import KE.KDictSum
import KE.SortKeyHeap
import KE.KSortKey
import HandS.EndTab
import HandS.Codes
import PySem.Challenge.RW_cutintwo_k76_whole_texts_of_deeds
section
set_option Elab.async false
open PySem PySem.W PyProof.Rows
set_option maxRecDepth 100000
set_option maxHeartbeats 0
open_top head for PySem.Challenge.rw_cutintwo_k76_whole_texts_of_deeds
end
section
set_option Elab.async false
set_option linter.all false
set_option maxRecDepth 100000
set_option maxHeartbeats 2000000
/-! DlA: plain data D over the hand layer: what a value reads as (Dr), who owns an object (Own), what a frame's names hold (ES, Rel), steps (Ext). -/
namespace Dl
open PySem PySem.Spec PyProof.Rows L2

abbrev St := L2.St
/-- plain data -/
inductive D where
  | non | bl (b : Bool) | int (i : Int) | str (x : Str) | tup (xs : List D) | lst (xs : List D)
  | dct (t : Bool) (ks vs : List D) | ins (c : Str) (ns : List Str) (vs : List D) | box (n : Nat)
/-- what a name or a place holds: data that nobody changes any more, or a list, a dict that this place alone holds -/
inductive LV where
  | fz (d : D) | ow (d : D)
inductive Box where
  | stm (cells : List Int) (left count mix : Int)
  | obj (c : Str) (ns : List Str) (vs : List LV)
  | row (vs : List LV)
structure ES where
  env : List (Option LV)
  g : List Box
/-- who owns an object; none: nobody may change it -/
inductive Tag where
  | oth | slot (i : Nat) | box (n : Nat) | sub (n k : Nat) | tbl
  deriving DecidableEq
structure Own where
  tg : Addr → Option Tag
  bx : Nat → Addr
/-- where own classes stand, and the tables of code objects with the name that they tell -/
structure Wd where
  f : Str → Addr
  T : List (Addr × Str)
instance : CoeFun Wd (fun _ => Str → Addr) := ⟨Wd.f⟩
def Own.put (o : Own) (a : Addr) (t : Option Tag) : Own := ⟨fun b => if b = a then t else o.tg b, o.bx⟩
theorem put_same {o : Own} {a : Addr} {t : Option Tag} : (o.put a t).tg a = t := by unfold Own.put; simp
theorem put_ne {o : Own} {a b : Addr} {t : Option Tag} (h : b ≠ a) : (o.put a t).tg b = o.tg b := by unfold Own.put; simp [h]

/-- no object of another kind -/
def NE : HO → Prop
  | .ext _ => False
  | .tup _ => False
  | _ => True
def NT (u : HO) : Prop := ∀ ps, u ≠ .tbl ps
def KeyOk : Key → Prop
  | .inl _ => True
  | .inr x => x.length ≤ sizeLine
def keyD : Key → D
  | .inl i => .int i
  | .inr x => .str x
def FzL (K : PySem.W.Frag) (o : Own) (H : Hp) (a : Addr) (xs : List V) : Prop := (H a = some (.lst xs) ∧ o.tg a = none) ∧ xs.length ≤ sizeLine
def FzT (K : PySem.W.Frag) (o : Own) (H : Hp) (a : Addr) (xs : List V) : Prop := (H a = some (.tup xs) ∧ o.tg a = none) ∧ xs.length ≤ sizeLine
theorem FzL.sq {K o H a xs} (h : FzL K o H a xs) : SqL K H a xs := .of h.1.1
theorem FzT.sq {K o H a xs} (h : FzT K o H a xs) : SqT K H a xs := .of h.1.1

section
variable (K : PySem.W.Frag) (cn : Wd) (o : Own) (H : Hp)
mutual
/-- the value reads as the data, through objects that nobody may change -/
inductive Dr : V → D → Prop
  | non : Dr .non .non
  | bl (b : Bool) : Dr (.bl b) (.bl b)
  | int (i : Int) : Dr (.int i) (.int i)
  | str (x : Str) : x.length ≤ sizeLine → Dr (.str x) (.str x)
  | lst {a : Addr} {xs : List V} {ds : List D} : FzL K o H a xs → DrAll xs ds → Dr (.ref a) (.lst ds)
  | tup {a : Addr} {xs : List V} {ds : List D} : FzT K o H a xs → DrAll xs ds → Dr (.ref a) (.tup ds)
  | dk {a : Addr} {kvs : List (Key × V)} {t : Bool} {ks vs : List D} : H a = some (.dK kvs) → kvs.length ≤ sizeLine → o.tg a = none → (t = false ∧ ks = kvs.map (fun p => keyD p.1) ∧ ∀ p ∈ kvs, KeyOk p.1) → DrAll (kvs.map (·.2)) vs → Dr (.ref a) (.dct t ks vs)
  | dt {a : Addr} {kvs : List (List Key × V)} {t : Bool} {ks vs : List D} : H a = some (.dT kvs) → kvs.length ≤ sizeLine → o.tg a = none → (t = true ∧ ks = kvs.map (fun p => D.tup (p.1.map keyD)) ∧ ∀ p ∈ kvs, p.1.length ≤ sizeLine ∧ ∀ k ∈ p.1, KeyOk k) → DrAll (kvs.map (·.2)) vs → Dr (.ref a) (.dct t ks vs)
  | ins {a dx : Addr} {c : Str} {fs : List (Str × V)} {ns : List Str} {vs : List D} : H a = some (.ins (cn c) dx fs) → o.tg a = none → ns = fs.map (·.1) → DrAll (fs.map (·.2)) vs → Dr (.ref a) (.ins c ns vs)
  | box (n : Nat) : o.tg (o.bx n) = some (.box n) → Dr (.ref (o.bx n)) (.box n)
inductive DrAll : List V → List D → Prop
  | nil : DrAll [] []
  | cons {v : V} {vs : List V} {d : D} {ds : List D} : Dr v d → DrAll vs ds → DrAll (v :: vs) (d :: ds)
end
/-- what stands at an owned object -/
def Cont (p : Addr) : D → Prop
  | .lst ds => ∃ xs, H p = some (.lst xs) ∧ xs.length ≤ sizeLine ∧ DrAll K cn o H xs ds
  | .dct t ks vs => (∃ kvs : List (Key × V), H p = some (.dK kvs) ∧ kvs.length ≤ sizeLine ∧ (t = false ∧ ks = kvs.map (fun p => keyD p.1) ∧ ∀ p ∈ kvs, KeyOk p.1) ∧ DrAll K cn o H (kvs.map (·.2)) vs) ∨
      (∃ kvs : List (List Key × V), H p = some (.dT kvs) ∧ kvs.length ≤ sizeLine ∧ (t = true ∧ ks = kvs.map (fun p => D.tup (p.1.map keyD)) ∧ ∀ p ∈ kvs, p.1.length ≤ sizeLine ∧ ∀ k ∈ p.1, KeyOk k) ∧ DrAll K cn o H (kvs.map (·.2)) vs)
  | _ => False
/-- a place of a box -/
def PlOk (t : Tag) (v : V) : LV → Prop
  | .fz d => Dr K cn o H v d
  | .ow d => ∃ p, v = .ref p ∧ o.tg p = some t ∧ Cont K cn o H p d
def PlAll (n : Nat) : Nat → List V → List LV → Prop
  | _, [], [] => True
  | k, v :: vs, l :: ls => PlOk K cn o H (.sub n k) v l ∧ PlAll n (k + 1) vs ls
  | _, _, _ => False
def BoxOk (n : Nat) (p : Addr) : Box → Prop
  | .stm cells left count mix => ∃ q, H p = some (.lst [.ref q, .int left, .int count, .int mix]) ∧ o.tg q = some (.sub n 0) ∧ H q = some (.lst (cells.map V.int))
  | .obj c ns vs => ∃ dx fs, H p = some (.ins (cn c) dx fs) ∧ ns = fs.map (·.1) ∧ PlAll K cn o H n 0 (fs.map (·.2)) vs
  | .row vs => ∃ xs, H p = some (.lst xs) ∧ PlAll K cn o H n 0 xs vs
structure RelG (g : List Box) : Prop where
  boxes : ∀ (n : Nat) (b : Box), g[n]? = some b → o.tg (o.bx n) = some (.box n) ∧ BoxOk K cn o H n (o.bx n) b
  trk : ∀ a t, o.tg a = some t → ∃ u, H a = some u ∧ NE u
  nt : ∀ a ps, H a = some (.tbl ps) → o.tg a = some .tbl
  tabs : ∀ q ∈ cn.T, o.tg q.1 = some .tbl ∧ LamX.TabS H q.1 q.2
def SlotOk (σ : St) (i : Nat) : LV → Prop
  | .fz d => ∃ v, σ[i]? = some (some v) ∧ Dr K cn o H v d
  | .ow d => ∃ p, σ[i]? = some (some (.ref p)) ∧ o.tg p = some (.slot i) ∧ Cont K cn o H p d
structure Rel (es : ES) (σ : St) : Prop where
  len : σ.length = es.env.length
  slots : ∀ (i : Nat) (l : LV), es.env[i]? = some (some l) → SlotOk K cn o H σ i l
  g : RelG K cn o H es.g
end

/-- a step: what nobody may change, and what others own, stands -/
structure Ext (o : Own) (H : Hp) (o' : Own) (H' : Hp) : Prop where
  fz : ∀ a u, H a = some u → o.tg a = none → o'.tg a = none ∧ H' a = some u
  oth : ∀ a u, H a = some u → o.tg a = some .oth → o'.tg a = some .oth ∧ H' a = some u
  bx : ∀ n, o.tg (o.bx n) = some (.box n) → o'.bx n = o.bx n ∧ o'.tg (o.bx n) = some (.box n)
  trk : ∀ a u, H a = some u → ∃ u', H' a = some u'
section
variable {K : PySem.W.Frag} {cn : Wd} {o o1 o2 o' : Own} {H H1 H2 H' : Hp} {es es' : ES} {σ : St} {a p : Addr} {v : V} {d : D} {u : HO}
theorem Ext.refl : Ext o H o H := ⟨fun _ _ h t => ⟨t, h⟩, fun _ _ h t => ⟨t, h⟩, fun _ h => ⟨rfl, h⟩, fun _ u h => ⟨u, h⟩⟩
theorem Ext.trans (x : Ext o H o1 H1) (y : Ext o1 H1 o2 H2) : Ext o H o2 H2 where
  fz := fun a u h t => let ⟨t1, h1⟩ := x.fz a u h t; y.fz a u h1 t1
  oth := fun a u h t => let ⟨t1, h1⟩ := x.oth a u h t; y.oth a u h1 t1
  bx := fun n t => by
    obtain ⟨e1, t1⟩ := x.bx n t
    obtain ⟨e2, t2⟩ := y.bx n (by rw [e1]; exact t1)
    rw [e1] at e2 t2
    exact ⟨e2, t2⟩
  trk := fun a u h => let ⟨u1, h1⟩ := x.trk a u h; y.trk a u1 h1
theorem Ext.rd (x : Ext o H o' H') {u : HO} (h : H a = some u) (t : o.tg a = none) : H' a = some u ∧ o'.tg a = none := ⟨(x.fz a _ h t).2, (x.fz a _ h t).1⟩
mutual
theorem Dr.ext (x : Ext o H o' H') : ∀ {v d}, Dr K cn o H v d → Dr K cn o' H' v d
  | _, _, .non => .non
  | _, _, .bl b => .bl b
  | _, _, .int b => .int b
  | _, _, .str b h => .str b h
  | _, _, .lst h t => .lst ⟨x.rd h.1.1 h.1.2, h.2⟩ (DrAll.ext x t)
  | _, _, .tup h t => .tup ⟨x.rd h.1.1 h.1.2, h.2⟩ (DrAll.ext x t)
  | _, _, .dk h l t e r => .dk (x.rd h t).1 l (x.rd h t).2 e (DrAll.ext x r)
  | _, _, .dt h l t e r => .dt (x.rd h t).1 l (x.rd h t).2 e (DrAll.ext x r)
  | _, _, .ins h t e r => .ins (x.fz _ _ h t).2 (x.fz _ _ h t).1 e (DrAll.ext x r)
  | _, _, .box n h => by
    obtain ⟨e, t⟩ := x.bx n h
    rw [← e]
    exact .box n (by rw [e]; exact t)
theorem DrAll.ext (x : Ext o H o' H') : ∀ {vs ds}, DrAll K cn o H vs ds → DrAll K cn o' H' vs ds
  | _, _, .nil => .nil
  | _, _, .cons h t => .cons (Dr.ext x h) (DrAll.ext x t)
end
theorem DrAll.length : ∀ {vs ds}, DrAll K cn o H vs ds → vs.length = ds.length
  | _, _, .nil => rfl
  | _, _, .cons _ t => by simp [DrAll.length t]
theorem DrAll.append : ∀ {vs ds ws es}, DrAll K cn o H vs ds → DrAll K cn o H ws es → DrAll K cn o H (vs ++ ws) (ds ++ es)
  | _, _, _, _, .nil, r => r
  | _, _, _, _, .cons h t, r => .cons h (DrAll.append t r)
theorem DrAll.get : ∀ {vs ds} {i : Nat} {v : V}, DrAll K cn o H vs ds → vs[i]? = some v → ∃ d, ds[i]? = some d ∧ Dr K cn o H v d
  | _, _, _, _, .nil, e => by simp at e
  | _, _, 0, _, .cons h t, e => by simp at e; subst e; exact ⟨_, rfl, h⟩
  | _, _, i + 1, _, .cons h t, e => by simpa using DrAll.get t (i := i) (by simpa using e)
theorem DrAll.getD : ∀ {vs ds} {i : Nat} {d : D}, DrAll K cn o H vs ds → ds[i]? = some d → ∃ v, vs[i]? = some v ∧ Dr K cn o H v d
  | _, _, _, _, .nil, e => by simp at e
  | _, _, 0, _, .cons h t, e => by simp at e; subst e; exact ⟨_, rfl, h⟩
  | _, _, i + 1, _, .cons h t, e => by simpa using DrAll.getD t (i := i) (by simpa using e)
theorem DrAll.take : ∀ {vs ds} (n : Nat), DrAll K cn o H vs ds → DrAll K cn o H (vs.take n) (ds.take n)
  | _, _, 0, _ => .nil
  | _, _, _ + 1, .nil => .nil
  | _, _, n + 1, .cons h t => .cons h (DrAll.take n t)
theorem DrAll.drop : ∀ {vs ds} (n : Nat), DrAll K cn o H vs ds → DrAll K cn o H (vs.drop n) (ds.drop n)
  | _, _, 0, h => h
  | _, _, _ + 1, .nil => .nil
  | _, _, n + 1, .cons h t => DrAll.drop n t
/-- what is read stands through objects that nobody owns: another owning of the others -/
structure Own.Less (o o' : Own) : Prop where
  fz : ∀ a, o.tg a = none → o'.tg a = none
  bx : ∀ n, o.tg (o.bx n) = some (.box n) → o'.bx n = o.bx n ∧ o'.tg (o.bx n) = some (.box n)
mutual
theorem Dr.less (x : Own.Less o o') : ∀ {v d}, Dr K cn o H v d → Dr K cn o' H v d
  | _, _, .non => .non
  | _, _, .bl b => .bl b
  | _, _, .int b => .int b
  | _, _, .str b h => .str b h
  | _, _, .lst h t => .lst ⟨⟨h.1.1, x.fz _ h.1.2⟩, h.2⟩ (DrAll.less x t)
  | _, _, .tup h t => .tup ⟨⟨h.1.1, x.fz _ h.1.2⟩, h.2⟩ (DrAll.less x t)
  | _, _, .dk h l t e r => .dk h l (x.fz _ t) e (DrAll.less x r)
  | _, _, .dt h l t e r => .dt h l (x.fz _ t) e (DrAll.less x r)
  | _, _, .ins h t e r => .ins h (x.fz _ t) e (DrAll.less x r)
  | _, _, .box n h => by
    obtain ⟨e, t⟩ := x.bx n h
    rw [← e]
    exact .box n (by rw [e]; exact t)
theorem DrAll.less (x : Own.Less o o') : ∀ {vs ds}, DrAll K cn o H vs ds → DrAll K cn o' H vs ds
  | _, _, .nil => .nil
  | _, _, .cons h t => .cons (Dr.less x h) (DrAll.less x t)
end
end
end Dl
end
section
set_option Elab.async false
set_option linter.all false
set_option maxRecDepth 100000
set_option maxHeartbeats 2000000
/-! DlB: steps of owning and heap; results; the judgements DE, DT, DA, DS. -/
namespace Dl
open PySem PySem.Spec PyProof.Rows L2

/-- an exception of an own class: its class, its own fields -/
structure Ex where
  c : Str
  ns : List Str
  vs : List D
inductive Res (α : Type) where
  | ok (a : α) (es : ES)
  | ex (x : Ex) (es : ES)
abbrev M (α : Type) := ES → Option (Res α)
def M.ret {α : Type} (a : α) : M α := fun es => some (.ok a es)
def M.bind {α β : Type} (m : M α) (k : α → M β) : M β := fun es =>
  match m es with
  | none => none
  | some (.ex x es1) => some (.ex x es1)
  | some (.ok a es1) => k a es1
def M.lift {α : Type} (a : Option α) : M α := fun es => a.map fun a => .ok a es
theorem M.bind_some {α β : Type} {m : M α} {k : α → M β} {es : ES} {r : Res β} (h : M.bind m k es = some r) :
    (∃ x es1, m es = some (.ex x es1) ∧ r = .ex x es1) ∨ ∃ a es1, m es = some (.ok a es1) ∧ k a es1 = some r := by
  unfold M.bind at h
  cases e : m es with
  | none => rw [e] at h; cases h
  | some q =>
    rw [e] at h
    cases q with
    | ex x es1 => cases h; exact .inl ⟨x, es1, rfl, rfl⟩
    | ok a es1 => exact .inr ⟨a, es1, rfl, h⟩
/-- what an expression hands on: plain data; a new list or dict that nobody holds; what the slot holds -/
inductive RV where
  | fz (d : D) | fr (d : D) | sl (i : Nat)
def isSeqD : D → Bool
  | .lst _ => true
  | .dct _ _ _ => true
  | _ => false
/-- the data, read -/
def peek : RV → M D
  | .fz d => M.ret d
  | .fr d => M.ret d
  | .sl i => fun es => match es.env[i]? with
    | some (some (.fz d)) => some (.ok d es)
    | some (some (.ow d)) => some (.ok d es)
    | _ => none
/-- the data, handed on: nobody may change it any more -/
def leak : RV → M D
  | .fz d => M.ret d
  | .fr d => M.ret d
  | .sl i => fun es => match es.env[i]? with
    | some (some (.fz d)) => some (.ok d es)
    | some (some (.ow d)) => some (.ok d { es with env := es.env.set i (some (.fz d)) })
    | _ => none

section
variable (K : PySem.W.Frag) (cn : Wd) (H0 : Hp) (o : Own) (H : Hp)
def RvOk (σ : St) (v : V) : RV → Prop
  | .fz d => Dr K cn o H v d
  | .fr d => ∃ p, v = .ref p ∧ H0 p = none ∧ o.tg p = some .oth ∧ Cont K cn o H p d
  | .sl i => σ[i]? = some (some v)
def ExOk (cls : Value) (d : Option Addr) (x : Ex) : Prop :=
  cls = .ref (cn x.c) ∧ ((x.ns = [] ∧ x.vs = []) ∨ ∃ dx fs, d = some dx ∧ H dx = some (.xd fs) ∧ x.ns = fs.map (·.1) ∧ DrAll K cn o H (fs.map (·.2)) x.vs)
end

/-- what is read -/
inductive Pk (K : PySem.W.Frag) (cn : Wd) (o : Own) (H : Hp) : V → D → Prop
  | fz {v d} : Dr K cn o H v d → Pk K cn o H v d
  | ow {p d} : Cont K cn o H p d → Pk K cn o H (.ref p) d
section
variable {K : PySem.W.Frag} {cn : Wd} {o o1 o2 o' : Own} {H H0 H1 H2 H' : Hp} {es es' es1 : ES} {σ : St} {a p : Addr} {v : V} {d : D} {u : HO} {t : Option Tag} {g : List Box}
theorem RelG.untag (R : RelG K cn o H g) (hp : H p = none) : o.tg p = none := by
  cases e : o.tg p with
  | none => rfl
  | some t => obtain ⟨u, hu, _⟩ := R.trk p t e; rw [hp] at hu; cases hu
theorem Rel.untag (R : Rel K cn o H es σ) (hp : H p = none) : o.tg p = none := R.g.untag hp

/-- what a part of the state leans on stands -/
theorem Cont.ext (x : Ext o H o' H') (e : H' p = H p) (h : Cont K cn o H p d) : Cont K cn o' H' p d := by
  cases d with
  | lst ds => obtain ⟨xs, h1, hl, h2⟩ := h; exact ⟨xs, e.trans h1, hl, h2.ext x⟩
  | dct t ks vs =>
    rcases h with ⟨kvs, h1, hl, h2, h3⟩ | ⟨kvs, h1, hl, h2, h3⟩
    · exact .inl ⟨kvs, e.trans h1, hl, h2, h3.ext x⟩
    · exact .inr ⟨kvs, e.trans h1, hl, h2, h3.ext x⟩
  | _ => exact h.elim
theorem Cont.less (x : Own.Less o o') (h : Cont K cn o H p d) : Cont K cn o' H p d := by
  cases d with
  | lst ds => obtain ⟨xs, h1, hl, h2⟩ := h; exact ⟨xs, h1, hl, h2.less x⟩
  | dct t ks vs =>
    rcases h with ⟨kvs, h1, hl, h2, h3⟩ | ⟨kvs, h1, hl, h2, h3⟩
    · exact .inl ⟨kvs, h1, hl, h2, h3.less x⟩
    · exact .inr ⟨kvs, h1, hl, h2, h3.less x⟩
  | _ => exact h.elim
theorem Cont.frozen (h : Cont K cn o H p d) (ht : o.tg p = none) : Dr K cn o H (.ref p) d := by
  cases d with
  | lst ds => obtain ⟨xs, h1, hl, h2⟩ := h; exact .lst ⟨⟨h1, ht⟩, hl⟩ h2
  | dct t ks vs =>
    rcases h with ⟨kvs, h1, hl, h2, h3⟩ | ⟨kvs, h1, hl, h2, h3⟩
    · exact .dk h1 hl ht h2 h3
    · exact .dt h1 hl ht h2 h3
  | _ => exact h.elim
theorem Cont.at (h : Cont K cn o H p d) : ∃ u, H p = some u ∧ NE u := by
  cases d with
  | lst ds => obtain ⟨xs, h1, _⟩ := h; exact ⟨_, h1, trivial⟩
  | dct t ks vs =>
    rcases h with ⟨kvs, h1, _⟩ | ⟨kvs, h1, _⟩
    · exact ⟨_, h1, trivial⟩
    · exact ⟨_, h1, trivial⟩
  | _ => exact h.elim
/-- a step that leaves boxes' own objects as they are -/
structure Keep (o : Own) (H : Hp) (o' : Own) (H' : Hp) (T : Tag → Prop) : Prop where
  ext : Ext o H o' H'
  st : ∀ a t, T t → o.tg a = some t → o'.tg a = some t ∧ H' a = H a
theorem PlOk.keep {T : Tag → Prop} {t : Tag} {l : LV} (k : Keep o H o' H' T) (ht : T t) (h : PlOk K cn o H t v l) : PlOk K cn o' H' t v l := by
  cases l with
  | fz d => exact Dr.ext k.ext h
  | ow d =>
    obtain ⟨p, e, h1, h2⟩ := h
    obtain ⟨k1, k2⟩ := k.st p t ht h1
    exact ⟨p, e, k1, h2.ext k.ext k2⟩
theorem PlAll.keep {T : Tag → Prop} {n : Nat} (k : Keep o H o' H' T) (ht : ∀ j, T (.sub n j)) : ∀ {j vs ls}, PlAll K cn o H n j vs ls → PlAll K cn o' H' n j vs ls
  | _, [], [], _ => trivial
  | _, v :: vs, l :: ls, h => ⟨PlOk.keep k (ht _) h.1, PlAll.keep k ht h.2⟩
  | _, [], _ :: _, h => h.elim
  | _, _ :: _, [], h => h.elim
theorem BoxOk.keep {T : Tag → Prop} {n : Nat} {b : Box} (k : Keep o H o' H' T) (ht : ∀ j, T (.sub n j)) (e : H' p = H p) (h : BoxOk K cn o H n p b) : BoxOk K cn o' H' n p b := by
  cases b with
  | stm c l m x =>
    obtain ⟨q, h1, h2, h3⟩ := h
    obtain ⟨k1, k2⟩ := k.st q _ (ht 0) h2
    exact ⟨q, e.trans h1, k1, k2.trans h3⟩
  | obj c ns vs =>
    obtain ⟨dx, fs, h1, h2, h3⟩ := h
    exact ⟨dx, fs, e.trans h1, h2, h3.keep k ht⟩
  | row vs =>
    obtain ⟨xs, h1, h3⟩ := h
    exact ⟨xs, e.trans h1, h3.keep k ht⟩
def isBoxT : Tag → Prop
  | .box _ => True
  | .sub _ _ => True
  | .tbl => True
  | _ => False
theorem RelG.code {c : Addr} {nm : Str} (R : RelG K cn o H g) (h : H c = some (LamX.CodeO c nm)) : o.tg c = none := by
  cases e : o.tg c with
  | none => rfl
  | some t =>
    obtain ⟨u, hu, n⟩ := R.trk c t e
    rw [h] at hu
    cases hu; exact (show False from n).elim
theorem RelG.keep (k : Keep o H o' H' isBoxT) (trk : ∀ a t, o'.tg a = some t → ∃ u, H' a = some u ∧ NE u) (nt : ∀ a ps, H' a = some (.tbl ps) → o'.tg a = some .tbl) (R : RelG K cn o H g) : RelG K cn o' H' g := by
  refine ⟨fun n b hb => ?_, trk, nt, fun q hq => ?_⟩
  rotate_left
  · obtain ⟨h1, ps, h2, h3, h4⟩ := R.tabs q hq
    obtain ⟨t1, e1⟩ := k.st _ _ (show isBoxT .tbl from trivial) h1
    refine ⟨t1, ps, e1.trans h2, h3, fun pos cv hc => ?_⟩
    obtain ⟨c, rfl, hc'⟩ := h4 pos cv hc
    exact ⟨c, rfl, (k.ext.fz _ _ hc' (R.code hc')).2⟩
  obtain ⟨h1, h2⟩ := R.boxes n b hb
  obtain ⟨e, ht⟩ := k.ext.bx n h1
  have := (k.st _ _ (show isBoxT (.box n) from trivial) h1).2
  rw [e]
  exact ⟨ht, h2.keep k (fun j => trivial) this⟩
theorem SlotOk.keep {T : Tag → Prop} {i : Nat} {l : LV} (k : Keep o H o' H' T) (ht : T (.slot i)) (h : SlotOk K cn o H σ i l) : SlotOk K cn o' H' σ i l := by
  cases l with
  | fz d => obtain ⟨v, e, h⟩ := h; exact ⟨v, e, h.ext k.ext⟩
  | ow d =>
    obtain ⟨p, e, h1, h2⟩ := h
    obtain ⟨k1, k2⟩ := k.st p _ ht h1
    exact ⟨p, e, k1, h2.ext k.ext k2⟩
theorem Rel.keep (k : Keep o H o' H' fun t => t ≠ .oth) (trk : ∀ a t, o'.tg a = some t → ∃ u, H' a = some u ∧ NE u) (nt : ∀ a ps, H' a = some (.tbl ps) → o'.tg a = some .tbl) (R : Rel K cn o H es σ) : Rel K cn o' H' es σ :=
  ⟨R.len, fun i l h => (R.slots i l h).keep k (by simp), R.g.keep ⟨k.ext, fun a t ht => k.st a t (by cases t <;> first | exact ht.elim | simp)⟩ trk nt⟩

/-- a new object, frozen from the start -/
theorem keep_new (R : RelG K cn o H g) (hp : H p = none) : Keep o H o (upd H p u) fun _ => True :=
  ⟨⟨fun a w h t => ⟨t, by rw [upd_ne (ne_of_none h hp)]; exact h⟩, fun a w h t => ⟨t, by rw [upd_ne (ne_of_none h hp)]; exact h⟩, fun _ h => ⟨rfl, h⟩,
    fun a w h => ⟨w, by rw [upd_ne (ne_of_none h hp)]; exact h⟩⟩, fun a t _ ht => ⟨ht, by
      obtain ⟨w, hw, _⟩ := R.trk a t ht
      rw [upd_ne (ne_of_none hw hp)]⟩⟩
theorem Rel.new (R : Rel K cn o H es σ) (hp : H p = none) (hn : NT u := by intro _ z; cases z) : Rel K cn o (upd H p u) es σ ∧ Ext o H o (upd H p u) := by
  have k := keep_new (u := u) R.g hp
  refine ⟨R.keep ⟨k.ext, fun a t _ => k.st a t trivial⟩ (fun a t ht => ?_) (fun a ps h => ?_), k.ext⟩
  · obtain ⟨w, hw, n⟩ := R.g.trk a t ht
    exact ⟨w, by rw [upd_ne (ne_of_none hw hp)]; exact hw, n⟩
  · by_cases e : a = p
    · subst e; rw [upd_same] at h; exact (hn ps (Option.some.inj h)).elim
    · rw [upd_ne e] at h; exact R.g.nt a ps h
/-- a new object, held by nobody yet -/
theorem Rel.newT (R : Rel K cn o H es σ) (hp : H p = none) (hu : NE u) (hn : NT u := by intro _ z; cases z) : Rel K cn (o.put p (some .oth)) (upd H p u) es σ ∧ Ext o H (o.put p (some .oth)) (upd H p u) := by
  have hut := R.untag hp
  have nt : ∀ a t, o.tg a = some t → a ≠ p := fun a t ht e => by rw [e, hut] at ht; cases ht
  have ex : Ext o H (o.put p (some .oth)) (upd H p u) :=
    ⟨fun a w h t => by have := ne_of_none h hp; rw [put_ne this, upd_ne this]; exact ⟨t, h⟩, fun a w h t => by have := ne_of_none h hp; rw [put_ne this, upd_ne this]; exact ⟨t, h⟩,
      fun n h => ⟨rfl, by show (o.put p _).tg (o.bx n) = _; rw [put_ne (nt _ _ h)]; exact h⟩, fun a w h => ⟨w, by rw [upd_ne (ne_of_none h hp)]; exact h⟩⟩
  refine ⟨R.keep ⟨ex, fun a t _ ht => ?_⟩ (fun a t ht => ?_) (fun a ps h => ?_), ex⟩
  · rw [put_ne (nt a t ht), upd_ne (nt a t ht)]; exact ⟨ht, rfl⟩
  · by_cases e : a = p
    · subst e; exact ⟨_, upd_same, hu⟩
    · rw [put_ne e] at ht
      obtain ⟨w, hw, n⟩ := R.g.trk a t ht
      exact ⟨w, by rw [upd_ne e]; exact hw, n⟩
  · by_cases e : a = p
    · subst e; rw [upd_same] at h; exact (hn ps (Option.some.inj h)).elim
    · rw [upd_ne e] at h; rw [put_ne e]; exact R.g.nt a ps h
/-- let go: nobody may change it any more -/
theorem less_put (h : ∀ n, o.tg p ≠ some (.box n)) : Own.Less o (o.put p none) :=
  ⟨fun a e => by by_cases q : a = p; subst q; exact put_same; rw [put_ne q]; exact e, fun n e => ⟨rfl, by
    show (o.put p none).tg (o.bx n) = _
    rw [put_ne (fun q : o.bx n = p => h n (by rw [← q]; exact e))]; exact e⟩⟩
theorem Ext.freezeT (x : Ext o H o1 H1) (h0 : H p = none) (ht : ∀ n, o1.tg p ≠ some (.box n)) : Ext o H (o1.put p none) H1 where
  fz := fun a u h t => by
    obtain ⟨t1, h1⟩ := x.fz a u h t
    exact ⟨(less_put ht).fz a t1, h1⟩
  oth := fun a u h t => by
    obtain ⟨t1, h1⟩ := x.oth a u h t
    rw [put_ne (ne_of_none h h0)]; exact ⟨t1, h1⟩
  bx := fun n t => by
    obtain ⟨e1, t1⟩ := x.bx n t
    refine ⟨e1, ?_⟩
    rw [put_ne (fun q => ht n (by rw [← q]; exact t1))]; exact t1
  trk := x.trk
theorem Rel.freezeT (R : Rel K cn o H es σ) (ht : o.tg p = some .oth) : Rel K cn (o.put p none) H es σ := by
  have L := less_put (o := o) (p := p) (fun n => by rw [ht]; simp)
  have nt : ∀ a t, t ≠ .oth → o.tg a = some t → a ≠ p := fun a t hn h e => by subst e; rw [ht] at h; cases h; exact hn rfl
  refine ⟨R.len, fun i l h => ?_, ⟨fun n b hb => ?_, fun a t h => ?_, fun a ps h => by rw [put_ne (nt _ _ (by simp) (R.g.nt a ps h))]; exact R.g.nt a ps h, fun q hq => ⟨by rw [put_ne (nt _ _ (by simp) (R.g.tabs q hq).1)]; exact (R.g.tabs q hq).1, (R.g.tabs q hq).2⟩⟩⟩
  · have q := R.slots i l h
    cases l with
    | fz d => obtain ⟨v, e, h⟩ := q; exact ⟨v, e, h.less L⟩
    | ow d => obtain ⟨p', e, h1, h2⟩ := q; exact ⟨p', e, by rw [put_ne (nt _ _ (by simp) h1)]; exact h1, h2.less L⟩
  · obtain ⟨h1, h2⟩ := R.g.boxes n b hb
    refine ⟨by show (o.put p none).tg (o.bx n) = _; rw [put_ne (nt _ _ (by simp) h1)]; exact h1, ?_⟩
    show BoxOk K cn (o.put p none) H n (o.bx n) b
    have pl : ∀ {k v l}, PlOk K cn o H (.sub n k) v l → PlOk K cn (o.put p none) H (.sub n k) v l := fun {k v l} q => by
      cases l with
      | fz d => exact Dr.less L q
      | ow d => obtain ⟨p', e, h1, h2⟩ := q; exact ⟨p', e, by rw [put_ne (nt _ _ (by simp) h1)]; exact h1, h2.less L⟩
    have pa : ∀ {vs ls k}, PlAll K cn o H n k vs ls → PlAll K cn (o.put p none) H n k vs ls := by
      intro vs
      induction vs with
      | nil => intro ls k q; cases ls with | nil => trivial | cons _ _ => exact q.elim
      | cons v vs ih => intro ls k q; cases ls with | nil => exact q.elim | cons l ls => exact ⟨pl q.1, ih q.2⟩
    cases b with
    | stm c l m x => obtain ⟨q, a1, a2, a3⟩ := h2; exact ⟨q, a1, by rw [put_ne (nt _ _ (by simp) a2)]; exact a2, a3⟩
    | obj c ns vs => obtain ⟨dx, fs, a1, a2, a3⟩ := h2; exact ⟨dx, fs, a1, a2, pa a3⟩
    | row vs => obtain ⟨xs, a1, a3⟩ := h2; exact ⟨xs, a1, pa a3⟩
  · by_cases e : a = p
    · subst e; rw [put_same] at h; cases h
    · rw [put_ne e] at h; exact R.g.trk a t h
/-- the slot's own object is let go -/
theorem Rel.freezeS {i : Nat} (R : Rel K cn o H es σ) (he : es.env[i]? = some (some (.ow d))) (hs : σ[i]? = some (some (.ref p))) :
    Rel K cn (o.put p none) H { es with env := es.env.set i (some (.fz d)) } σ ∧ Ext o H (o.put p none) H ∧ Dr K cn (o.put p none) H (.ref p) d := by
  obtain ⟨p', e, ht, hc⟩ := R.slots i _ he
  rw [hs] at e; cases e
  have L := less_put (o := o) (p := p) (fun n => by rw [ht]; simp)
  have nt : ∀ a t, t ≠ .slot i → o.tg a = some t → a ≠ p := fun a t hn h e => by subst e; rw [ht] at h; cases h; exact hn rfl
  have hil : i < es.env.length := (List.getElem?_eq_some_iff.mp he).1
  have hd := (hc.less L).frozen put_same
  refine ⟨⟨by rw [List.length_set]; exact R.len, fun j l h => ?_, ⟨fun n b hb => ?_, fun a t h => ?_, fun a ps h => by rw [put_ne (nt _ _ (by simp) (R.g.nt a ps h))]; exact R.g.nt a ps h, fun q hq => ⟨by rw [put_ne (nt _ _ (by simp) (R.g.tabs q hq).1)]; exact (R.g.tabs q hq).1, (R.g.tabs q hq).2⟩⟩⟩, ?_, hd⟩
  · by_cases hj : i = j
    · subst hj
      rw [List.getElem?_set_self hil] at h
      cases h
      exact ⟨_, hs, hd⟩
    · rw [List.getElem?_set_ne hj] at h
      have q := R.slots j l h
      cases l with
      | fz d => obtain ⟨v, e, h⟩ := q; exact ⟨v, e, h.less L⟩
      | ow d => obtain ⟨p', e, h1, h2⟩ := q; exact ⟨p', e, by rw [put_ne (nt _ _ (by simp; exact fun z => hj z.symm) h1)]; exact h1, h2.less L⟩
  · obtain ⟨h1, h2⟩ := R.g.boxes n b hb
    refine ⟨by show (o.put p none).tg (o.bx n) = _; rw [put_ne (nt _ _ (by simp) h1)]; exact h1, ?_⟩
    show BoxOk K cn (o.put p none) H n (o.bx n) b
    have pl : ∀ {k v l}, PlOk K cn o H (.sub n k) v l → PlOk K cn (o.put p none) H (.sub n k) v l := fun {k v l} q => by
      cases l with
      | fz d => exact Dr.less L q
      | ow d => obtain ⟨p', e, h1, h2⟩ := q; exact ⟨p', e, by rw [put_ne (nt _ _ (by simp) h1)]; exact h1, h2.less L⟩
    have pa : ∀ {vs ls k}, PlAll K cn o H n k vs ls → PlAll K cn (o.put p none) H n k vs ls := by
      intro vs
      induction vs with
      | nil => intro ls k q; cases ls with | nil => trivial | cons _ _ => exact q.elim
      | cons v vs ih => intro ls k q; cases ls with | nil => exact q.elim | cons l ls => exact ⟨pl q.1, ih q.2⟩
    cases b with
    | stm c l m x => obtain ⟨q, a1, a2, a3⟩ := h2; exact ⟨q, a1, by rw [put_ne (nt _ _ (by simp) a2)]; exact a2, a3⟩
    | obj c ns vs => obtain ⟨dx, fs, a1, a2, a3⟩ := h2; exact ⟨dx, fs, a1, a2, pa a3⟩
    | row vs => obtain ⟨xs, a1, a3⟩ := h2; exact ⟨xs, a1, pa a3⟩
  · by_cases e : a = p
    · subst e; rw [put_same] at h; cases h
    · rw [put_ne e] at h; exact R.g.trk a t h
  · exact ⟨fun a u h t => ⟨L.fz a t, h⟩, fun a u h t => ⟨by rw [put_ne (nt _ _ (by simp) t)]; exact t, h⟩, L.bx, fun a u h => ⟨u, h⟩⟩

/-! ### reading and handing on -/
theorem RvOk.ext {rv : RV} (x : Ext o1 H1 o2 H2) (h : RvOk K cn H0 o1 H1 σ v rv) : RvOk K cn H0 o2 H2 σ v rv := by
  cases rv with
  | fz d => exact Dr.ext x h
  | fr d =>
    obtain ⟨p, e, h0, ht, hc⟩ := h
    obtain ⟨u, hu, _⟩ := hc.at
    obtain ⟨t2, h2⟩ := x.oth p u hu ht
    exact ⟨p, e, h0, t2, hc.ext x (h2.trans hu.symm)⟩
  | sl i => exact h
theorem RvOk.back {rv : RV} (x : Ext o H o0 H0) (h : RvOk K cn H0 o1 H1 σ v rv) : RvOk K cn H o1 H1 σ v rv := by
  cases rv with
  | fz d => exact h
  | fr d =>
    obtain ⟨p, e, h0, ht, hc⟩ := h
    refine ⟨p, e, ?_, ht, hc⟩
    cases q : H p with
    | none => rfl
    | some u => obtain ⟨u', h'⟩ := x.trk p u q; rw [h0] at h'; cases h'
  | sl i => exact h
theorem peek_ok {rv : RV} (R : Rel K cn o H es σ) (h : RvOk K cn H0 o H σ v rv) {r : Res D} (hp : peek rv es = some r) : ∃ d, r = .ok d es ∧ Pk K cn o H v d := by
  cases rv with
  | fz d => cases hp; exact ⟨d, rfl, .fz h⟩
  | fr d => cases hp; obtain ⟨p, rfl, _, _, hc⟩ := h; exact ⟨d, rfl, .ow hc⟩
  | sl i =>
    have h : σ[i]? = some (some v) := h
    rcases e : es.env[i]? with _ | _ | (d | d) <;> simp only [peek, e] at hp <;> first | cases hp | skip
    · obtain ⟨v', e', hd⟩ := R.slots i _ e
      rw [h] at e'; cases e'
      exact ⟨d, rfl, .fz hd⟩
    · obtain ⟨p, e', ht, hc⟩ := R.slots i _ e
      rw [h] at e'; cases e'
      exact ⟨d, rfl, .ow hc⟩
theorem leak_ok {rv : RV} {o0 : Own} (x : Ext o0 H0 o H) (R : Rel K cn o H es σ) (h : RvOk K cn H0 o H σ v rv) {r : Res D} (hp : leak rv es = some r) :
    ∃ d es' o', r = .ok d es' ∧ Rel K cn o' H es' σ ∧ Ext o0 H0 o' H ∧ Dr K cn o' H v d := by
  cases rv with
  | fz d => cases hp; exact ⟨d, es, o, rfl, R, x, h⟩
  | fr d =>
    cases hp
    obtain ⟨p, rfl, h0, ht, hc⟩ := h
    have nb : ∀ n, o.tg p ≠ some (.box n) := fun n => by rw [ht]; simp
    exact ⟨d, es, o.put p none, rfl, R.freezeT ht, x.freezeT h0 nb, (hc.less (less_put nb)).frozen put_same⟩
  | sl i =>
    have h : σ[i]? = some (some v) := h
    rcases e : es.env[i]? with _ | _ | (d | d) <;> simp only [leak, e] at hp <;> first | cases hp | skip
    · obtain ⟨v', e', hd⟩ := R.slots i _ e
      rw [h] at e'; cases e'
      exact ⟨d, es, o, rfl, R, x, hd⟩
    · obtain ⟨p, e', ht, hc⟩ := R.slots i _ e
      rw [h] at e'; cases e'
      obtain ⟨a1, a2, a3⟩ := R.freezeS e h
      exact ⟨d, _, _, rfl, a1, x.trans a2, a3⟩
end
end Dl
end
section
set_option Elab.async false
set_option linter.all false
set_option maxRecDepth 100000
set_option maxHeartbeats 2000000
/-! DlC: the judgements and their first rules. -/
namespace Dl
open PySem PySem.Spec PyProof.Rows L2

section
variable (K : PySem.W.Frag) (cn : Wd) (Wx : WX) (o : Own) (H : Hp) (σ : St)
/-- what is wanted of an exception -/
def PostX (x : Ex) (es' : ES) : Prop := ∀ o' H' cls dx, Ext o H o' H' → Rel K cn o' H' es' σ → ExOk K cn o' H' cls dx x → Wx cls dx σ H'
def Post {α : Type} (P : α → ES → Prop) : Res α → Prop
  | .ok a es' => P a es'
  | .ex x es' => PostX K cn Wx o H σ x es'
def PE_ (Q : VK) (rv : RV) (es' : ES) : Prop := ∀ o' H' v, Ext o H o' H' → Rel K cn o' H' es' σ → RvOk K cn H o' H' σ v rv → Q v H'
def PT_ (Q : Bool → Hp → Prop) (b : Bool) (es' : ES) : Prop := ∀ o' H', Ext o H o' H' → Rel K cn o' H' es' σ → Q b H'
inductive RvsOk (H0 : Hp) (o : Own) (H : Hp) : List V → List RV → Prop
  | nil : RvsOk H0 o H [] []
  | cons {v vs rv rvs} : RvOk K cn H0 o H σ v rv → RvsOk H0 o H vs rvs → RvsOk H0 o H (v :: vs) (rv :: rvs)
def PA_ (Q : List V → Hp → Prop) (rvs : List RV) (es' : ES) : Prop := ∀ o' H' vs, Ext o H o' H' → Rel K cn o' H' es' σ → RvsOk K cn σ H o' H' vs rvs → Q vs H'
end
def tE (K : PySem.W.Frag) (cn : Wd) (Wx : WX) (f : M RV) : TE := fun σ H Q => ∃ o es r, Rel K cn o H es σ ∧ f es = some r ∧ Post K cn Wx o H σ (PE_ K cn o H σ Q) r
def tT (K : PySem.W.Frag) (cn : Wd) (Wx : WX) (f : M Bool) : TT := fun σ H Q => ∃ o es r, Rel K cn o H es σ ∧ f es = some r ∧ Post K cn Wx o H σ (PT_ K cn o H σ Q) r
def tA (K : PySem.W.Frag) (cn : Wd) (Wx : WX) (f : M (List RV)) : TA := fun σ H Q => ∃ o es r, Rel K cn o H es σ ∧ f es = some r ∧ Post K cn Wx o H σ (PA_ K cn o H σ Q) r
def DE (X : Cx) (cn : Wd) (e : Expr) (f : M RV) : Prop := ∀ Wx, Takes X Wx → PE X e (tE X.K cn Wx f)
def DT (X : Cx) (cn : Wd) (e : Expr) (f : M Bool) : Prop := ∀ Wx, Takes X Wx → PT X e (tT X.K cn Wx f)
def DA (X : Cx) (cn : Wd) (es : List Expr) (f : M (List RV)) : Prop := ∀ Wx, Takes X Wx → PA X es (tA X.K cn Wx f)
theorem pe_i {X : Cx} {e : Expr} {t t' : TE} (h : PE X e t) (i : ∀ σ H Q, t' σ H Q → t σ H Q) : PE X e t' := ⟨fun p s σ H Q I q => h.run p s σ H Q I (i σ H Q q)⟩
theorem pt_i {X : Cx} {e : Expr} {t t' : TT} (h : PT X e t) (i : ∀ σ H Q, t' σ H Q → t σ H Q) : PT X e t' := ⟨fun p s σ H Q I q => h.run p s σ H Q I (i σ H Q q)⟩
theorem pa_i {X : Cx} {e : List Expr} {t t' : TA} (h : PA X e t) (i : ∀ σ H Q, t' σ H Q → t σ H Q) : PA X e t' := ⟨fun q p s σ H Q I z => h.run q p s σ H Q I (i σ H Q z)⟩
theorem ps_i {X : Cx} {e : Stmt} {t t' : TS} (h : PS X e t) (i : ∀ D σ H, t' D σ H → t D σ H) : PS X e t' := ⟨fun p s σ H D I q => h.run p s σ H D I (i D σ H q)⟩
theorem pss_i {X : Cx} {e : List Stmt} {t t' : TS} (h : PSs X e t) (i : ∀ D σ H, t' D σ H → t D σ H) : PSs X e t' := ⟨fun p s σ H D I q => h.run p s σ H D I (i D σ H q)⟩

section
variable {K : PySem.W.Frag} {cn : Wd} {Wx : WX} {o o1 o' : Own} {H H1 H' : Hp} {σ : St} {es es' es1 : ES}
theorem PostX.mono {x : Ex} (e : Ext o H o1 H1) (h : PostX K cn Wx o H σ x es') : PostX K cn Wx o1 H1 σ x es' := fun o' H' cls dx e' => h o' H' cls dx (e.trans e')
theorem RvsOk.ext {H0 o1 H1 o2 H2} (x : Ext o1 H1 o2 H2) : ∀ {vs rvs}, RvsOk K cn σ H0 o1 H1 vs rvs → RvsOk K cn σ H0 o2 H2 vs rvs
  | _, _, .nil => .nil
  | _, _, .cons h t => .cons (h.ext x) (RvsOk.ext x t)
theorem RvsOk.back {H0 o0 o1 H1 o H} (x : Ext o H o0 H0) : ∀ {vs rvs}, RvsOk K cn σ H0 o1 H1 vs rvs → RvsOk K cn σ H o1 H1 vs rvs
  | _, _, .nil => .nil
  | _, _, .cons h t => .cons (h.back x) (RvsOk.back x t)
/-- one step of an evaluation: the expression, then what goes on with it -/
theorem tE_step {β : Type} {f : M RV} {k : RV → M β} {r : Res β} {Z : VK} (R : Rel K cn o H es σ) (h : M.bind f k es = some r) (hx : ∀ x es', r = .ex x es' → PostX K cn Wx o H σ x es')
    (hk : ∀ rv es1 o1 H1 v, Ext o H o1 H1 → Rel K cn o1 H1 es1 σ → RvOk K cn H o1 H1 σ v rv → k rv es1 = some r → Z v H1) : tE K cn Wx f σ H Z := by
  rcases M.bind_some h with ⟨x, es1, e, rfl⟩ | ⟨a, es1, e, hk'⟩
  · exact ⟨o, es, _, R, e, hx x es1 rfl⟩
  · exact ⟨o, es, _, R, e, fun o' H' v x R' V => hk a es1 o' H' v x R' V hk'⟩
theorem tT_step {β : Type} {f : M Bool} {k : Bool → M β} {r : Res β} {Z : Bool → Hp → Prop} (R : Rel K cn o H es σ) (h : M.bind f k es = some r) (hx : ∀ x es', r = .ex x es' → PostX K cn Wx o H σ x es')
    (hk : ∀ b es1 o1 H1, Ext o H o1 H1 → Rel K cn o1 H1 es1 σ → k b es1 = some r → Z b H1) : tT K cn Wx f σ H Z := by
  rcases M.bind_some h with ⟨x, es1, e, rfl⟩ | ⟨a, es1, e, hk'⟩
  · exact ⟨o, es, _, R, e, hx x es1 rfl⟩
  · exact ⟨o, es, _, R, e, fun o' H' x R' => hk a es1 o' H' x R' hk'⟩
theorem tA_step {β : Type} {f : M (List RV)} {k : List RV → M β} {r : Res β} {Z : List V → Hp → Prop} (R : Rel K cn o H es σ) (h : M.bind f k es = some r) (hx : ∀ x es', r = .ex x es' → PostX K cn Wx o H σ x es')
    (hk : ∀ rvs es1 o1 H1 vs, Ext o H o1 H1 → Rel K cn o1 H1 es1 σ → RvsOk K cn σ H o1 H1 vs rvs → k rvs es1 = some r → Z vs H1) : tA K cn Wx f σ H Z := by
  rcases M.bind_some h with ⟨x, es1, e, rfl⟩ | ⟨a, es1, e, hk'⟩
  · exact ⟨o, es, _, R, e, hx x es1 rfl⟩
  · exact ⟨o, es, _, R, e, fun o' H' v x R' V => hk a es1 o' H' v x R' V hk'⟩
/-- the last step -/
theorem tE_last {f : M RV} {r : Res RV} {Q : VK} {o0 : Own} {H0 : Hp} (x : Ext o0 H0 o H) (R : Rel K cn o H es σ) (h : f es = some r) (hp : Post K cn Wx o0 H0 σ (PE_ K cn o0 H0 σ Q) r) : tE K cn Wx f σ H Q := by
  refine ⟨o, es, r, R, h, ?_⟩
  cases r with
  | ex y es' => exact PostX.mono x hp
  | ok rv es' => exact fun o' H' v x' R' V => hp o' H' v (x.trans x') R' (V.back x)
theorem tT_last {f : M Bool} {r : Res Bool} {Q : Bool → Hp → Prop} {o0 : Own} {H0 : Hp} (x : Ext o0 H0 o H) (R : Rel K cn o H es σ) (h : f es = some r) (hp : Post K cn Wx o0 H0 σ (PT_ K cn o0 H0 σ Q) r) : tT K cn Wx f σ H Q := by
  refine ⟨o, es, r, R, h, ?_⟩
  cases r with
  | ex y es' => exact PostX.mono x hp
  | ok rv es' => exact fun o' H' x' R' => hp o' H' (x.trans x') R'
theorem tA_last {f : M (List RV)} {r : Res (List RV)} {Q : List V → Hp → Prop} {o0 : Own} {H0 : Hp} (x : Ext o0 H0 o H) (R : Rel K cn o H es σ) (h : f es = some r) (hp : Post K cn Wx o0 H0 σ (PA_ K cn o0 H0 σ Q) r) : tA K cn Wx f σ H Q := by
  refine ⟨o, es, r, R, h, ?_⟩
  cases r with
  | ex y es' => exact PostX.mono x hp
  | ok rv es' => exact fun o' H' v x' R' V => hp o' H' v (x.trans x') R' (V.back x)
theorem post_ex {α : Type} {P : α → ES → Prop} {r : Res α} (hp : Post K cn Wx o H σ P r) : ∀ x es', r = .ex x es' → PostX K cn Wx o H σ x es' := fun x es' e => by subst e; exact hp
end

/-! ### what an operation does with data -/
/-- two values in, one out; r: the layer's reading, g: the data -/
def Sem2 (r : PySem.W.Frag → R2) (g : D → D → Option RV) : Prop :=
  ∀ (K : PySem.W.Frag) (cn : Wd) (o : Own) (es : ES) (σ : St) (H : Hp) (x y : V) (dx dy : D) (rv : RV) (Q : VK), Rel K cn o H es σ → Pk K cn o H x dx → Pk K cn o H y dy → g dx dy = some rv → PE_ K cn o H σ Q rv es → r K x y H Q
def SemN (r : PySem.W.Frag → List V → Hp → VK → Prop) (g : List D → Option RV) : Prop :=
  ∀ (K : PySem.W.Frag) (cn : Wd) (o : Own) (es : ES) (σ : St) (H : Hp) (xs : List V) (ds : List D) (rv : RV) (Q : VK), Rel K cn o H es σ → Paired (Pk K cn o H) xs ds → g ds = some rv → PE_ K cn o H σ Q rv es → r K xs H Q
def SemB (r : PySem.W.Frag → V → Hp → Bool → Prop) (g : D → Option Bool) : Prop :=
  ∀ (K : PySem.W.Frag) (cn : Wd) (o : Own) (H : Hp) (x : V) (d : D) (b : Bool), Pk K cn o H x d → g d = some b → r K x H b
theorem Pk.ext {K cn o H o' H' v d} (x : Ext o H o' H') (e : ∀ p, v = .ref p → o.tg p ≠ none → H' p = H p) (h : Pk K cn o H v d) : Pk K cn o' H' v d := by
  cases h with
  | fz h => exact .fz (h.ext x)
  | ow h =>
    rename_i p
    by_cases ht : o.tg p = none
    · exact .fz ((h.frozen ht).ext x)
    · exact .ow (h.ext x (e p rfl ht))
/-- peeks, one after another, change nothing -/
def peeks : List RV → M (List D)
  | [] => M.ret []
  | r :: rs => M.bind (peek r) fun d => M.bind (peeks rs) fun ds => M.ret (d :: ds)
section
variable {K : PySem.W.Frag} {cn : Wd} {o : Own} {H H0 : Hp} {σ : St} {es : ES}
theorem peeks_ok (R : Rel K cn o H es σ) : ∀ {vs rvs} {r : Res (List D)}, RvsOk K cn σ H0 o H vs rvs → peeks rvs es = some r → ∃ ds, r = .ok ds es ∧ Paired (Pk K cn o H) vs ds
  | _, _, _, .nil, h => by cases h; exact ⟨[], rfl, .nil⟩
  | _, _, _, .cons hv t, h => by
    rcases M.bind_some h with ⟨x, es1, e, _⟩ | ⟨d, es1, e, h⟩
    · obtain ⟨d, e', _⟩ := peek_ok R hv e; cases e'
    · obtain ⟨d', e', p⟩ := peek_ok R hv e
      cases e'
      rcases M.bind_some h with ⟨x, es1, e, _⟩ | ⟨ds, es1, e, h⟩
      · obtain ⟨ds, e', _⟩ := peeks_ok R t e; cases e'
      · obtain ⟨ds', e', ps⟩ := peeks_ok R t e
        cases e'
        cases h
        exact ⟨_, rfl, .cons p ps⟩
end

/-! ### rules -/
section
variable {X : Cx} {cn : Wd} {a b c e : Expr} {fa fb fc f : M RV} {pos : Pos}
theorem DE.name {i : Nat} {x : Str} (hN : X.N[i]? = some x) (hv : Vis X.env.scope x) (hd : (x == ("__debug__" : Str)) = false) (hcd : (x == ("__classdict__" : Str)) = false) :
    DE X cn (.Name x pos) fun es => match es.env[i]? with | some (some _) => some (.ok (.sl i) es) | _ => none := by
  intro Wx tk
  refine pe_i (pe_var hN hv hd hcd) fun σ H Q h => ?_
  obtain ⟨o, es, r, R, h, hp⟩ := h
  rcases e : es.env[i]? with _ | _ | l <;> simp only [e] at h <;> first | cases h | skip
  have q := R.slots i l e
  obtain ⟨v, hv⟩ : ∃ v, σ[i]? = some (some v) := by
    cases l with
    | fz d => obtain ⟨v, e, _⟩ := q; exact ⟨v, e⟩
    | ow d => obtain ⟨p, e, _⟩ := q; exact ⟨_, e⟩
  exact ⟨v, hv, hp o H v Ext.refl R hv⟩
theorem DE.const {v : V} {d : D} (h : PE X e (tC v)) (hd : ∀ K o H, Dr K cn o H v d) : DE X cn e (M.ret (.fz d)) := by
  intro Wx tk
  refine pe_i h fun σ H Q h => ?_
  obtain ⟨o, es, r, R, h, hp⟩ := h
  cases h
  exact hp o H v Ext.refl R (hd _ _ _)
def bin2 (fa fb : M RV) (g : D → D → Option RV) : M RV := M.bind fa fun ra => M.bind fb fun rb => M.bind (peek ra) fun da => M.bind (peek rb) fun db => M.lift (g da db)
theorem tOp_of {K : PySem.W.Frag} {Wx : WX} {r : PySem.W.Frag → R2} {g : D → D → Option RV} (hg : Sem2 r g) {σ : St} {H : Hp} {Q : VK} (h : tE K cn Wx (bin2 fa fb g) σ H Q) : tOp (r K) (tE K cn Wx fa) (tE K cn Wx fb) σ H Q := by
  obtain ⟨o, es, r, R, h, hp⟩ := h
  refine tE_step R h (post_ex hp) fun ra es1 o1 H1 v x1 R1 V1 h => ?_
  refine tE_step R1 h (fun y es' e => (post_ex hp y es' e).mono x1) fun rb es2 o2 H2 u x2 R2 V2 h => ?_
  rcases M.bind_some h with ⟨y, es3, e, _⟩ | ⟨da, es3, e, h⟩
  · obtain ⟨d, e', _⟩ := peek_ok R2 (V1.ext x2) e; cases e'
  obtain ⟨da', e', pa⟩ := peek_ok R2 (V1.ext x2) e
  cases e'
  rcases M.bind_some h with ⟨y, es3, e, _⟩ | ⟨db, es3, e, h⟩
  · obtain ⟨d, e', _⟩ := peek_ok R2 V2 e; cases e'
  obtain ⟨db', e', pb⟩ := peek_ok R2 V2 e
  cases e'
  cases eg : g da db with
  | none => simp [M.lift, eg] at h
  | some rv =>
    simp [M.lift, eg] at h
    subst h
    exact hg K cn o2 es2 σ H2 v u da db rv Q R2 pa pb eg fun o' H' w x' R' V => hp o' H' w (x1.trans (x2.trans x')) R' (V.back (x1.trans x2))
theorem DE.bin {op : Operator} {r : PySem.W.Frag → R2} {g : D → D → Option RV} (ho : OpR X (binaryOp op) (r X.K)) (hg : Sem2 r g) (ha : DE X cn a fa) (hb : DE X cn b fb) : DE X cn (.BinOp a op b pos) (bin2 fa fb g) :=
  fun Wx tk => pe_i (pe_op ho (ha Wx tk) (hb Wx tk)) fun _ _ _ h => tOp_of hg h
theorem DE.cmp {op : CmpOp} {r : PySem.W.Frag → R2} {g : D → D → Option RV} (ho : OpR X (compareOp op) (r X.K)) (hg : Sem2 r g) (ha : DE X cn a fa) (hb : DE X cn b fb) (hm : behindInMarks op b = false) : DE X cn (.Compare a [op] [b] pos) (bin2 fa fb g) :=
  fun Wx tk => pe_i (pe_cmpR ho (ha Wx tk) (hb Wx tk) hm) fun _ _ _ h => tOp_of hg h
theorem DE.ix {r : PySem.W.Frag → R2} {g : D → D → Option RV} (ho : IxR X (r X.K)) (hg : Sem2 r g) (ha : DE X cn a fa) (hb : DE X cn b fb) (hs : PlainIx b) : DE X cn (.Subscript a b pos) (bin2 fa fb g) :=
  fun Wx tk => pe_i (pe_ix ho (ha Wx tk) (hb Wx tk) hs) fun _ _ _ h => tOp_of hg h
/-- a value that is a truth, as a test -/
def boolOf : D → Option Bool
  | .bl b => some b
  | _ => none
def asB (f : M RV) : M Bool := M.bind f fun r => M.bind (peek r) fun d => M.lift (boolOf d)
theorem tTest_of {K : PySem.W.Frag} {Wx : WX} {t : TE} {σ : St} {H : Hp} {Q : Bool → Hp → Prop} (h : tT K cn Wx (asB f) σ H Q) (ht : ∀ Q, tE K cn Wx f σ H Q → t σ H Q) : tTest t σ H Q := by
  obtain ⟨o, es, r, R, h, hp⟩ := h
  refine ht _ (tE_step R h (post_ex hp) fun ra es1 o1 H1 v x1 R1 V1 h => ?_)
  rcases M.bind_some h with ⟨y, es3, e, _⟩ | ⟨da, es3, e, h⟩
  · obtain ⟨d, e', _⟩ := peek_ok R1 V1 e; cases e'
  obtain ⟨da', e', pa⟩ := peek_ok R1 V1 e
  cases e'
  cases da <;> simp [M.lift, boolOf] at h
  subst h
  cases pa with
  | ow h => exact h.elim
  | fz h => cases h; exact ⟨_, rfl, hp o1 H1 x1 R1⟩
theorem DT.cmp {op : CmpOp} {r : PySem.W.Frag → R2} {g : D → D → Option RV} (ho : OpR X (compareOp op) (r X.K)) (hg : Sem2 r g) (ha : DE X cn a fa) (hb : DE X cn b fb) (hm : behindInMarks op b = false) : DT X cn (.Compare a [op] [b] pos) (asB (bin2 fa fb g)) :=
  fun Wx tk => pt_i (pt_cmpR ho (ha Wx tk) (hb Wx tk) hm) fun _ _ _ h => tTest_of h fun _ h => tOp_of hg h
/-- truth of any data -/
def truthD : D → Bool
  | .non => false
  | .bl b => b
  | .int i => i != 0
  | .str x => (x.length : Int) != 0
  | .tup xs => !xs.isEmpty
  | .lst xs => !xs.isEmpty
  | .dct _ ks _ => !ks.isEmpty
  | .ins _ _ _ => true
  | .box _ => true
end
end Dl
end
section
set_option Elab.async false
set_option linter.all false
set_option maxRecDepth 100000
set_option maxHeartbeats 2000000
/-! DlD: tests, and | or | not, displays, arguments, calls. -/
namespace Dl
open PySem PySem.Spec PyProof.Rows L2

section
variable (K : PySem.W.Frag) (cn : Wd) (o : Own) (H : Hp) (σ : St)
def PL_ (Q : VK) (d : D) (es' : ES) : Prop := ∀ o' H' v, Ext o H o' H' → Rel K cn o' H' es' σ → Dr K cn o' H' v d → Q v H'
def PD_ (Q : List V → Hp → Prop) (ds : List D) (es' : ES) : Prop := ∀ o' H' vs, Ext o H o' H' → Rel K cn o' H' es' σ → DrAll K cn o' H' vs ds → Q vs H'
end
/-- handed-on data -/
def tL (K : PySem.W.Frag) (cn : Wd) (Wx : WX) (f : M D) : TE := fun σ H Q => ∃ o es r, Rel K cn o H es σ ∧ f es = some r ∧ Post K cn Wx o H σ (PL_ K cn o H σ Q) r
def tD (K : PySem.W.Frag) (cn : Wd) (Wx : WX) (f : M (List D)) : TA := fun σ H Q => ∃ o es r, Rel K cn o H es σ ∧ f es = some r ∧ Post K cn Wx o H σ (PD_ K cn o H σ Q) r
def DL (X : Cx) (cn : Wd) (e : Expr) (f : M D) : Prop := ∀ Wx, Takes X Wx → PE X e (tL X.K cn Wx f)
def DD (X : Cx) (cn : Wd) (es : List Expr) (f : M (List D)) : Prop := ∀ Wx, Takes X Wx → PA X es (tD X.K cn Wx f)
def DW (X : Cx) (cn : Wd) (e : Expr) (f : M Bool) : Prop := ∀ Wx, Takes X Wx → PW X e (tT X.K cn Wx f)
def lk (f : M RV) : M D := M.bind f leak
def pk (f : M RV) : M D := M.bind f peek
section
variable {K : PySem.W.Frag} {cn : Wd} {Wx : WX} {o o1 o' : Own} {H H1 H' : Hp} {σ : St} {es es' es1 : ES}
theorem tL_of {f : M RV} {Q : VK} (h : tL K cn Wx (lk f) σ H Q) : tE K cn Wx f σ H Q := by
  obtain ⟨o, es, r, R, h, hp⟩ := h
  refine tE_step R h (post_ex hp) fun rv es1 o1 H1 v x1 R1 V1 h => ?_
  obtain ⟨d, es', o', e, R', x', dr⟩ := leak_ok x1 R1 V1 h
  subst e
  exact hp o' H1 v x' R' dr
theorem tL_step {β : Type} {f : M D} {k : D → M β} {r : Res β} {Z : VK} (R : Rel K cn o H es σ) (h : M.bind f k es = some r) (hx : ∀ x es', r = .ex x es' → PostX K cn Wx o H σ x es')
    (hk : ∀ d es1 o1 H1 v, Ext o H o1 H1 → Rel K cn o1 H1 es1 σ → Dr K cn o1 H1 v d → k d es1 = some r → Z v H1) : tL K cn Wx f σ H Z := by
  rcases M.bind_some h with ⟨x, es1, e, rfl⟩ | ⟨a, es1, e, hk'⟩
  · exact ⟨o, es, _, R, e, hx x es1 rfl⟩
  · exact ⟨o, es, _, R, e, fun o' H' v x R' V => hk a es1 o' H' v x R' V hk'⟩
theorem tD_step {β : Type} {f : M (List D)} {k : List D → M β} {r : Res β} {Z : List V → Hp → Prop} (R : Rel K cn o H es σ) (h : M.bind f k es = some r) (hx : ∀ x es', r = .ex x es' → PostX K cn Wx o H σ x es')
    (hk : ∀ ds es1 o1 H1 vs, Ext o H o1 H1 → Rel K cn o1 H1 es1 σ → DrAll K cn o1 H1 vs ds → k ds es1 = some r → Z vs H1) : tD K cn Wx f σ H Z := by
  rcases M.bind_some h with ⟨x, es1, e, rfl⟩ | ⟨a, es1, e, hk'⟩
  · exact ⟨o, es, _, R, e, hx x es1 rfl⟩
  · exact ⟨o, es, _, R, e, fun o' H' v x R' V => hk a es1 o' H' v x R' V hk'⟩
theorem PL_.last {r : Res D} {Q : VK} {o0 : Own} {H0 : Hp} (x : Ext o0 H0 o H) (hp : Post K cn Wx o0 H0 σ (PL_ K cn o0 H0 σ Q) r) : Post K cn Wx o H σ (PL_ K cn o H σ Q) r := by
  cases r with
  | ex y es' => exact PostX.mono x hp
  | ok rv es' => exact fun o' H' v x' R' V => hp o' H' v (x.trans x') R' V
theorem tL_last {f : M D} {r : Res D} {Q : VK} {o0 : Own} {H0 : Hp} (x : Ext o0 H0 o H) (R : Rel K cn o H es σ) (h : f es = some r) (hp : Post K cn Wx o0 H0 σ (PL_ K cn o0 H0 σ Q) r) : tL K cn Wx f σ H Q :=
  ⟨o, es, r, R, h, PL_.last x hp⟩
theorem tD_last {f : M (List D)} {r : Res (List D)} {Q : List V → Hp → Prop} {o0 : Own} {H0 : Hp} (x : Ext o0 H0 o H) (R : Rel K cn o H es σ) (h : f es = some r) (hp : Post K cn Wx o0 H0 σ (PD_ K cn o0 H0 σ Q) r) : tD K cn Wx f σ H Q := by
  refine ⟨o, es, r, R, h, ?_⟩
  cases r with
  | ex y es' => exact PostX.mono x hp
  | ok rv es' => exact fun o' H' v x' R' V => hp o' H' v (x.trans x') R' V
end
section
variable {X : Cx} {cn : Wd} {a b c e : Expr} {fa fb fc f : M RV} {ga gb gc : M Bool} {es rest : List Expr} {pos : Pos}
theorem DL.of (h : DE X cn e f) : DL X cn e (lk f) := fun Wx tk => pe_i (h Wx tk) fun _ _ _ h => tL_of h
theorem DE.of {g : M D} (h : DL X cn e g) : DE X cn e (M.bind g fun d => M.ret (.fz d)) := by
  intro Wx tk
  refine pe_i (h Wx tk) fun σ H Q h => ?_
  obtain ⟨o, es, r, R, h, hp⟩ := h
  refine tL_step R h (post_ex hp) fun d es1 o1 H1 v x1 R1 V1 h => ?_
  cases h
  exact hp o1 H1 v x1 R1 V1
/-! ### tests -/
/-- truth, of what has one here -/
def truD : D → Option Bool
  | .ins _ _ _ => none
  | .box _ => none
  | .dct _ _ _ => none
  | d => some (truthD d)
def tru (f : M RV) : M Bool := M.bind f fun r => M.bind (peek r) fun d => M.lift (truD d)
theorem isEmpty_dr {K o H vs} {ds : List D} (h : DrAll K cn o H vs ds) : ds.isEmpty = vs.isEmpty := by cases h <;> rfl
theorem truV_of {K o H v d} {b : Bool} (h : Pk K cn o H v d) (e : truD d = some b) : TruV K v H b := by
  cases h with
  | fz h =>
    cases h with
    | str x hx => cases e; exact ⟨hx, rfl⟩
    | lst h t => cases e; exact .inl ⟨_, h.sq, by show (!_) = _; rw [isEmpty_dr t]⟩
    | tup h t => cases e; exact .inr (.inl ⟨_, h.sq, by show (!_) = _; rw [isEmpty_dr t]⟩)
    | dk _ _ _ _ _ => cases e
    | dt _ _ _ _ _ => cases e
    | ins _ _ _ _ => cases e
    | box _ _ => cases e
    | _ => cases e; rfl
  | ow h =>
    cases d with
    | lst ds => obtain ⟨xs, h1, _, h2⟩ := h; cases e; exact .inl ⟨xs, SqL.of h1, by show (!_) = _; rw [isEmpty_dr h2]⟩
    | dct _ _ _ => cases e
    | _ => exact h.elim
theorem DT.tru (h : DE X cn e f) (he : ∀ whole, isTrue e X.env whole = (do let v ← whole; standAt e.pos; holding [v] (truthy v))) : DT X cn e (tru f) := by
  intro Wx tk
  refine pt_i (pt_truth (h Wx tk) he) fun σ H Q h => ?_
  obtain ⟨o, es, r, R, h, hp⟩ := h
  refine tE_step R h (post_ex hp) fun rv es1 o1 H1 v x1 R1 V1 h => ?_
  rcases M.bind_some h with ⟨y, es3, e, _⟩ | ⟨da, es3, e, h⟩
  · obtain ⟨d, e', _⟩ := peek_ok R1 V1 e; cases e'
  obtain ⟨da', e', pa⟩ := peek_ok R1 V1 e
  cases e'
  cases eb : truD da with
  | none => simp [M.lift, eb] at h
  | some b =>
    simp [M.lift, eb] at h
    subst h
    exact ⟨b, truV_of pa eb, hp o1 H1 x1 R1⟩
def notB (g : M Bool) : M Bool := M.bind g fun b => M.ret (!b)
theorem DT.not (h : DT X cn a ga) : DT X cn (.UnaryOp .Not a pos) (notB ga) := by
  intro Wx tk
  refine pt_i (pt_not (h Wx tk)) fun σ H Q h => ?_
  obtain ⟨o, es, r, R, h, hp⟩ := h
  refine tT_step R h (post_ex hp) fun b es1 o1 H1 x1 R1 h => ?_
  cases h
  exact hp o1 H1 x1 R1
theorem DE.not (h : DE X cn a fa) : DE X cn (.UnaryOp .Not a pos) (M.bind (tru fa) fun b => M.ret (.fz (.bl (!b)))) := by
  intro Wx tk
  refine pe_i (pe_notT (h Wx tk)) fun σ H Q h => ?_
  obtain ⟨o, es, r, R, h, hp⟩ := h
  rcases M.bind_some h with ⟨y, es3, e, rfl⟩ | ⟨b0, es3, e, h⟩
  · refine tE_step R e (fun x es' q => by cases q; exact hp) fun rv es1 o1 H1 v x1 R1 V1 h => ?_
    rcases M.bind_some h with ⟨y, es3, e, _⟩ | ⟨da, es3, e, h⟩
    · obtain ⟨d, e', _⟩ := peek_ok R1 V1 e; cases e'
    · cases eb : truD da <;> simp [M.lift, eb] at h
  · refine tE_step R e (fun x es' q => by cases q) fun rv es1 o1 H1 v x1 R1 V1 h2 => ?_
    rcases M.bind_some h2 with ⟨y, es3, e, _⟩ | ⟨da, es4, e2, h2⟩
    · obtain ⟨d, e', _⟩ := peek_ok R1 V1 e; cases e'
    obtain ⟨da', e', pa⟩ := peek_ok R1 V1 e2
    cases e'
    cases eb : truD da with
    | none => simp [M.lift, eb] at h2
    | some b =>
      simp [M.lift, eb] at h2
      obtain ⟨rfl, rfl⟩ := h2
      cases h
      exact ⟨b, truV_of pa eb, hp o1 H1 _ x1 R1 (.bl _)⟩
def andB (g k : M Bool) : M Bool := M.bind g fun b => if b = true then k else M.ret false
def orB (g k : M Bool) : M Bool := M.bind g fun b => if b = true then M.ret true else k
theorem DW.one_and (h : DT X cn a ga) : DW X cn (.BoolOp .And [a] pos) ga := fun Wx tk => pw_and1 (h Wx tk)
theorem DW.one_or (h : DT X cn a ga) : DW X cn (.BoolOp .Or [a] pos) ga := fun Wx tk => pw_or1 (h Wx tk)
theorem pw_i {e : Expr} {t t' : TT} (h : PW X e t) (i : ∀ σ H Q, t' σ H Q → t σ H Q) : PW X e t' := ⟨fun w p s σ H Q I q => h.run w p s σ H Q I (i σ H Q q)⟩
theorem DW.and (h : DT X cn a ga) (k : DW X cn (.BoolOp .And (b :: rest) pos) gb) : DW X cn (.BoolOp .And (a :: b :: rest) pos) (andB ga gb) := by
  intro Wx tk
  refine pw_i (pw_and (h Wx tk) (k Wx tk)) fun σ H Q h => ?_
  obtain ⟨o, es, r, R, h, hp⟩ := h
  refine tT_step R h (post_ex hp) fun b es1 o1 H1 x1 R1 h => ?_
  cases b with
  | true => exact tT_last x1 R1 h hp
  | false => cases h; exact hp o1 H1 x1 R1
theorem DW.or (h : DT X cn a ga) (k : DW X cn (.BoolOp .Or (b :: rest) pos) gb) : DW X cn (.BoolOp .Or (a :: b :: rest) pos) (orB ga gb) := by
  intro Wx tk
  refine pw_i (pw_or (h Wx tk) (k Wx tk)) fun σ H Q h => ?_
  obtain ⟨o, es, r, R, h, hp⟩ := h
  refine tT_step R h (post_ex hp) fun b es1 o1 H1 x1 R1 h => ?_
  cases b with
  | false => exact tT_last x1 R1 h hp
  | true => cases h; exact hp o1 H1 x1 R1
theorem DT.ofW (h : DW X cn e ga) : DT X cn e ga := fun Wx tk => (h Wx tk).pt
/-- x and y, x or y as values -/
def andV (f k : M RV) : M RV := M.bind f fun r => M.bind (peek r) fun d => M.bind (M.lift (truD d)) fun b => if b = true then k else M.ret r
def orV (f k : M RV) : M RV := M.bind f fun r => M.bind (peek r) fun d => M.bind (M.lift (truD d)) fun b => if b = true then M.ret r else k
theorem DE.one {op : PySem.BoolOp} (h : DE X cn a f) : DE X cn (.BoolOp op [a] pos) f := fun Wx tk => pe_one (h Wx tk)
theorem tru_split {K : PySem.W.Frag} {o : Own} {H H0 : Hp} {σ : St} {es : ES} {v : V} {rv : RV} {β : Type} {k : Bool → M β} {r : Res β} (R : Rel K cn o H es σ) (V1 : RvOk K cn H0 o H σ v rv) (h : M.bind (peek rv) (fun d => M.bind (M.lift (truD d)) k) es = some r) :
    ∃ b, TruV K v H b ∧ k b es = some r := by
  rcases M.bind_some h with ⟨y, es3, e, _⟩ | ⟨da, es3, e, h⟩
  · obtain ⟨d, e', _⟩ := peek_ok R V1 e; cases e'
  obtain ⟨da', e', pa⟩ := peek_ok R V1 e
  cases e'
  rcases M.bind_some h with ⟨y, es3, e, _⟩ | ⟨b, es3, e, h⟩
  · cases eb : truD da <;> simp [M.lift, eb] at e
  cases eb : truD da with
  | none => simp [M.lift, eb] at e
  | some b' =>
    simp [M.lift, eb] at e
    obtain ⟨rfl, rfl⟩ := e
    exact ⟨_, truV_of pa eb, h⟩
theorem DE.and (h : DE X cn a fa) (k : DE X cn (.BoolOp .And (b :: rest) pos) fb) : DE X cn (.BoolOp .And (a :: b :: rest) pos) (andV fa fb) := by
  intro Wx tk
  refine pe_i (pe_andT (h Wx tk) (k Wx tk)) fun σ H Q h => ?_
  obtain ⟨o, es, r, R, h, hp⟩ := h
  refine tE_step R h (post_ex hp) fun rv es1 o1 H1 v x1 R1 V1 h => ?_
  obtain ⟨b, tv, h⟩ := tru_split R1 V1 h
  refine ⟨b, tv, ?_⟩
  cases b with
  | true => exact tE_last x1 R1 h hp
  | false => cases h; exact hp o1 H1 v x1 R1 V1
theorem DE.or (h : DE X cn a fa) (k : DE X cn (.BoolOp .Or (b :: rest) pos) fb) : DE X cn (.BoolOp .Or (a :: b :: rest) pos) (orV fa fb) := by
  intro Wx tk
  refine pe_i (pe_orT (h Wx tk) (k Wx tk)) fun σ H Q h => ?_
  obtain ⟨o, es, r, R, h, hp⟩ := h
  refine tE_step R h (post_ex hp) fun rv es1 o1 H1 v x1 R1 V1 h => ?_
  obtain ⟨b, tv, h⟩ := tru_split R1 V1 h
  refine ⟨b, tv, ?_⟩
  cases b with
  | false => exact tE_last x1 R1 h hp
  | true => cases h; exact hp o1 H1 v x1 R1 V1
def iteV (g : M Bool) (f k : M RV) : M RV := M.bind g fun b => if b = true then f else k
theorem DE.ite (hc : DT X cn c gc) (ha : DE X cn a fa) (hb : DE X cn b fb) : DE X cn (.IfExp c a b pos) (iteV gc fa fb) := by
  intro Wx tk
  refine pe_i (pe_ifExp (hc Wx tk) (ha Wx tk) (hb Wx tk)) fun σ H Q h => ?_
  obtain ⟨o, es, r, R, h, hp⟩ := h
  refine tT_step R h (post_ex hp) fun b es1 o1 H1 x1 R1 h => ?_
  cases b with
  | true => exact tE_last x1 R1 h hp
  | false => exact tE_last x1 R1 h hp
/-! ### arguments -/
theorem DA.nil : DA X cn [] (M.ret []) := by
  intro Wx tk
  refine pa_i pa_nil fun σ H Q h => ?_
  obtain ⟨o, es, r, R, h, hp⟩ := h
  cases h
  exact hp o H [] Ext.refl R .nil
def consR (f : M RV) (k : M (List RV)) : M (List RV) := M.bind f fun r => M.bind k fun rs => M.ret (r :: rs)
theorem DA.cons {k : M (List RV)} (h : DE X cn e f) (t : DA X cn es k) (hs : starEach (e :: es) X.env = (false, eval e X.env) :: starEach es X.env) : DA X cn (e :: es) (consR f k) := by
  intro Wx tk
  refine pa_i (pa_cons (h Wx tk) (t Wx tk) hs) fun σ H Q h => ?_
  obtain ⟨o, es, r, R, h, hp⟩ := h
  refine tE_step R h (post_ex hp) fun rv es1 o1 H1 v x1 R1 V1 h => ?_
  refine tA_step R1 h (fun y es' e => (post_ex hp y es' e).mono x1) fun rvs es2 o2 H2 vs x2 R2 V2 h => ?_
  cases h
  exact hp o2 H2 _ (x1.trans x2) R2 (.cons (V1.ext x2) (V2.back x1))
theorem DD.nil : DD X cn [] (M.ret []) := by
  intro Wx tk
  refine pa_i pa_nil fun σ H Q h => ?_
  obtain ⟨o, es, r, R, h, hp⟩ := h
  cases h
  exact hp o H [] Ext.refl R .nil
def consD (f : M D) (k : M (List D)) : M (List D) := M.bind f fun r => M.bind k fun rs => M.ret (r :: rs)
theorem DD.cons {g : M D} {k : M (List D)} (h : DL X cn e g) (t : DD X cn es k) (hs : starEach (e :: es) X.env = (false, eval e X.env) :: starEach es X.env) : DD X cn (e :: es) (consD g k) := by
  intro Wx tk
  refine pa_i (pa_cons (h Wx tk) (t Wx tk) hs) fun σ H Q h => ?_
  obtain ⟨o, es, r, R, h, hp⟩ := h
  refine tL_step R h (post_ex hp) fun rv es1 o1 H1 v x1 R1 V1 h => ?_
  refine tD_step R1 h (fun y es' e => (post_ex hp y es' e).mono x1) fun rvs es2 o2 H2 vs x2 R2 V2 h => ?_
  cases h
  exact hp o2 H2 _ (x1.trans x2) R2 (.cons (V1.ext x2) V2)
/-! ### displays -/
def tupM (k : M (List D)) : M RV := M.bind k fun ds => M.lift (if ds.length ≤ 16777216 then some (.fz (.tup ds)) else none)
def lstM (k : M (List D)) : M RV := M.bind k fun ds => M.lift (if ds.length ≤ 16777216 then some (.fr (.lst ds)) else none)
theorem line_eq : sizeLine = 16777216 := sizeLine_eq
theorem new_tup {K : PySem.W.Frag} {o : Own} {H : Hp} {es : ES} {σ : St} {xs : List V} {ds : List D} {p : Addr} (R : Rel K cn o H es σ) (hp : H p = none) (dr : DrAll K cn o H xs ds) (hl : xs.length ≤ sizeLine) :
    Rel K cn o (upd H p (.tup xs)) es σ ∧ Ext o H o (upd H p (.tup xs)) ∧ Dr K cn o (upd H p (.tup xs)) (.ref p) (.tup ds) := by
  obtain ⟨R1, x1⟩ := R.new (u := .tup xs) hp
  exact ⟨R1, x1, .tup ⟨⟨upd_same, R.untag hp⟩, hl⟩ (dr.ext x1)⟩
theorem new_lst {K : PySem.W.Frag} {o : Own} {H : Hp} {es : ES} {σ : St} {xs : List V} {ds : List D} {p : Addr} (R : Rel K cn o H es σ) (hp : H p = none) (dr : DrAll K cn o H xs ds) (hl : xs.length ≤ sizeLine) :
    Rel K cn (o.put p (some .oth)) (upd H p (.lst xs)) es σ ∧ Ext o H (o.put p (some .oth)) (upd H p (.lst xs)) ∧ RvOk K cn H (o.put p (some .oth)) (upd H p (.lst xs)) σ (.ref p) (.fr (.lst ds)) := by
  obtain ⟨R1, x1⟩ := R.newT (u := .lst xs) hp trivial
  exact ⟨R1, x1, p, rfl, hp, put_same, _, upd_same, hl, dr.ext x1⟩
theorem DE.tup {k : M (List D)} {j} (h : DD X cn es k) : DE X cn (.Tuple es j pos) (tupM k) := by
  intro Wx tk
  refine pe_i (pe_tup (h Wx tk)) fun σ H Q h => ?_
  obtain ⟨o, es, r, R, h, hp⟩ := h
  refine tD_step R h (post_ex hp) fun ds es1 o1 H1 vs x1 R1 V1 h => ?_
  by_cases hl : ds.length ≤ 16777216
  · simp only [M.lift, if_pos hl, Option.map_some, Option.some.injEq] at h
    subst h
    have hl' : vs.length ≤ sizeLine := by rw [V1.length, line_eq]; exact hl
    refine ⟨hl', fun p np => ?_⟩
    obtain ⟨R2, x2, d2⟩ := new_tup R1 np V1 hl'
    exact hp _ _ _ (x1.trans x2) R2 d2
  · simp [M.lift, if_neg hl] at h
theorem DE.lst {k : M (List D)} (h : DD X cn es k) : DE X cn (.List es pos) (lstM k) := by
  intro Wx tk
  refine pe_i (pe_lst (h Wx tk)) fun σ H Q h => ?_
  obtain ⟨o, es, r, R, h, hp⟩ := h
  refine tD_step R h (post_ex hp) fun ds es1 o1 H1 vs x1 R1 V1 h => ?_
  by_cases hl : ds.length ≤ 16777216
  · simp only [M.lift, if_pos hl, Option.map_some, Option.some.injEq] at h
    subst h
    have hl' : vs.length ≤ sizeLine := by rw [V1.length, line_eq]; exact hl
    refine ⟨hl', fun p np => ?_⟩
    obtain ⟨R2, x2, d2⟩ := new_lst (σ := σ) R1 np V1 hl'
    exact hp _ _ _ (x1.trans x2) R2 (d2.back x1)
  · simp [M.lift, if_neg hl] at h
/-! ### calls of built-ins by their values -/
def callN (k : M (List RV)) (g : List D → Option RV) : M RV := M.bind k fun rs => M.bind (peeks rs) fun ds => M.lift (g ds)
theorem tCB_of {K : PySem.W.Frag} {Wx : WX} {r : PySem.W.Frag → List V → Hp → VK → Prop} {g : List D → Option RV} {k : M (List RV)} (hg : SemN r g) {σ : St} {H : Hp} {Q : VK} (h : tE K cn Wx (callN k g) σ H Q) : tCB (r K) (tA K cn Wx k) σ H Q := by
  obtain ⟨o, es, r, R, h, hp⟩ := h
  refine tA_step R h (post_ex hp) fun rs es1 o1 H1 vs x1 R1 V1 h => ?_
  rcases M.bind_some h with ⟨y, es3, e, _⟩ | ⟨ds, es3, e, h⟩
  · obtain ⟨d, e', _⟩ := peeks_ok R1 V1 e; cases e'
  obtain ⟨ds', e', ps⟩ := peeks_ok R1 V1 e
  cases e'
  cases eg : g ds with
  | none => simp [M.lift, eg] at h
  | some rv =>
    simp [M.lift, eg] at h
    subst h
    exact hg K cn o1 es1 σ H1 vs ds rv Q R1 ps eg fun o' H' w x' R' V => hp o' H' w (x1.trans x') R' (V.back x1)
theorem DE.callB {id : String} {x : Str} {p : Pos} {r : PySem.W.Frag → List V → Hp → VK → Prop} {g : List D → Option RV} {k : M (List RV)} (hc : CallR X (.builtin id) (r X.K)) (hsem : SemN r g) (hg : Gl X x) (hm : X.mg x = none) (hv : bootBuiltins x = some (.builtin id)) (ha : DA X cn (e :: es) k)
    (hn : x ≠ "__name__") (hdb : (x == ("__debug__" : Str)) = false) (he : starEach (e :: es) X.env = (false, eval e X.env) :: starEach es X.env) (hpl : (backTo pos (starEach es X.env)).any (·.1) = false) : DE X cn (.Call (.Name x p) (e :: es) [] pos) (callN k g) :=
  fun Wx tk => pe_i (pe_callB hc hg hm hv (ha Wx tk) hn hdb he hpl) fun _ _ _ h => tCB_of hsem h
theorem DE.callTy {T : String} {x : Str} {p : Pos} {r : PySem.W.Frag → List V → Hp → VK → Prop} {g : List D → Option RV} {k : M (List RV)} (hc : CallR X (.type T) (r X.K)) (hsem : SemN r g) (hg : Gl X x) (hm : X.mg x = none) (hv : bootBuiltins x = some (.type T)) (ha : DA X cn (e :: es) k)
    (hn : x ≠ "__name__") (hdb : (x == ("__debug__" : Str)) = false) (he : starEach (e :: es) X.env = (false, eval e X.env) :: starEach es X.env) (hpl : (backTo pos (starEach es X.env)).any (·.1) = false) : DE X cn (.Call (.Name x p) (e :: es) [] pos) (callN k g) :=
  fun Wx tk => pe_i (pe_callTy hc hg hm hv (ha Wx tk) hn hdb he hpl) fun _ _ _ h => tCB_of hsem h
end
end Dl
end
section
set_option Elab.async false
set_option linter.all false
set_option maxRecDepth 100000
set_option maxHeartbeats 2000000
/-! DlE: statements. -/
namespace Dl
open PySem PySem.Spec PyProof.Rows L2

inductive SR where
  | nx (es : ES) | rt (d : D) (es : ES) | bk (es : ES) | ct (es : ES) | ex (x : Ex) (es : ES)
abbrev S := ES → Option SR
section
variable (K : PySem.W.Frag) (cn : Wd) (Wx : WX) (o : Own) (H : Hp)
def PN_ (P : St → Hp → Prop) (es' : ES) : Prop := ∀ o' H' σ', Ext o H o' H' → Rel K cn o' H' es' σ' → P σ' H'
def PR_ (P : VK) (d : D) (es' : ES) : Prop := ∀ o' H' v, Ext o H o' H' → RelG K cn o' H' es'.g → Dr K cn o' H' v d → P v H'
def PostXs (x : Ex) (es' : ES) : Prop := ∀ o' H' σ' cls dx, Ext o H o' H' → Rel K cn o' H' es' σ' → ExOk K cn o' H' cls dx x → Wx cls dx σ' H'
def PostS (Dn : Ends) : SR → Prop
  | .nx es' => PN_ K cn o H Dn.nx es'
  | .rt d es' => PR_ K cn o H Dn.rt d es'
  | .bk es' => PN_ K cn o H Dn.bk es'
  | .ct es' => PN_ K cn o H Dn.ct es'
  | .ex x es' => PostXs K cn Wx o H x es'
end
def tS (K : PySem.W.Frag) (cn : Wd) (Wx : WX) (f : S) : TS := fun Dn σ H => ∃ o es r, Rel K cn o H es σ ∧ f es = some r ∧ PostS K cn Wx o H Dn r
def DS (X : Cx) (cn : Wd) (st : Stmt) (f : S) : Prop := ∀ Wx, Takes X Wx → PS X st (tS X.K cn Wx f)
def DSs (X : Cx) (cn : Wd) (st : List Stmt) (f : S) : Prop := ∀ Wx, Takes X Wx → PSs X st (tS X.K cn Wx f)

section
variable {K : PySem.W.Frag} {cn : Wd} {Wx : WX} {o o0 o1 o2 o' : Own} {H H0 H1 H2 H' : Hp} {es es' es1 : ES} {σ σ' : St} {a p : Addr} {v : V} {d : D} {u : HO} {t : Option Tag} {g : List Box}
theorem PostS.mono {Dn : Ends} {r : SR} (x : Ext o H o1 H1) (h : PostS K cn Wx o H Dn r) : PostS K cn Wx o1 H1 Dn r := by
  cases r with
  | rt d es' => exact fun o' H' v e => h o' H' v (x.trans e)
  | ex y es' => exact fun o' H' σ' cls dx e => h o' H' σ' cls dx (x.trans e)
  | _ => exact fun o' H' σ' e => h o' H' σ' (x.trans e)
/-! ### another owning of the same heap -/
theorem PlOk.tr {l : LV} {t : Tag} (L : Own.Less o o') (st : ∀ a, o.tg a = some t → o'.tg a = some t) (h : PlOk K cn o H t v l) : PlOk K cn o' H t v l := by
  cases l with
  | fz d => exact Dr.less L h
  | ow d => obtain ⟨p', e, h1, h2⟩ := h; exact ⟨p', e, st _ h1, h2.less L⟩
theorem PlAll.tr {n : Nat} (L : Own.Less o o') (st : ∀ a j, o.tg a = some (.sub n j) → o'.tg a = some (.sub n j)) : ∀ {j vs ls}, PlAll K cn o H n j vs ls → PlAll K cn o' H n j vs ls
  | _, [], [], _ => trivial
  | _, v :: vs, l :: ls, h => ⟨PlOk.tr L (fun a => st a _) h.1, PlAll.tr L st h.2⟩
  | _, [], _ :: _, h => h.elim
  | _, _ :: _, [], h => h.elim
theorem BoxOk.tr {n : Nat} {b : Box} (L : Own.Less o o') (st : ∀ a j, o.tg a = some (.sub n j) → o'.tg a = some (.sub n j)) (h : BoxOk K cn o H n p b) : BoxOk K cn o' H n p b := by
  cases b with
  | stm c l m x => obtain ⟨q, a1, a2, a3⟩ := h; exact ⟨q, a1, st _ _ a2, a3⟩
  | obj c ns vs => obtain ⟨dx, fs, a1, a2, a3⟩ := h; exact ⟨dx, fs, a1, a2, a3.tr L st⟩
  | row vs => obtain ⟨xs, a1, a3⟩ := h; exact ⟨xs, a1, a3.tr L st⟩
theorem RelG.tr (L : Own.Less o o') (st : ∀ a t, isBoxT t → o.tg a = some t → o'.tg a = some t) (trk : ∀ a t, o'.tg a = some t → ∃ u, H a = some u ∧ NE u) (R : RelG K cn o H g) : RelG K cn o' H g := by
  refine ⟨fun n b hb => ?_, trk, fun a ps h => st _ _ trivial (R.nt a ps h), fun q hq => ⟨st _ _ trivial (R.tabs q hq).1, (R.tabs q hq).2⟩⟩
  obtain ⟨h1, h2⟩ := R.boxes n b hb
  obtain ⟨e, ht⟩ := L.bx n h1
  rw [e]
  exact ⟨ht, h2.tr L fun a j => st a _ trivial⟩
theorem SlotOk.tr {i : Nat} {l : LV} (L : Own.Less o o') (st : ∀ a, o.tg a = some (.slot i) → o'.tg a = some (.slot i)) (h : SlotOk K cn o H σ i l) : SlotOk K cn o' H σ i l := by
  cases l with
  | fz d => obtain ⟨v, e, h⟩ := h; exact ⟨v, e, h.less L⟩
  | ow d => obtain ⟨p', e, h1, h2⟩ := h; exact ⟨p', e, st _ h1, h2.less L⟩
theorem less_retag (h : o.tg p = some .oth) : Own.Less o (o.put p t) :=
  ⟨fun a e => by rw [put_ne (fun q : a = p => by rw [q, h] at e; cases e)]; exact e, fun n e => ⟨rfl, by
    show (o.put p t).tg (o.bx n) = _
    rw [put_ne (fun q : o.bx n = p => by rw [q, h] at e; cases e)]; exact e⟩⟩
theorem Ext.retag (x : Ext o H o1 H1) (h0 : H p = none) (ht : o1.tg p = some .oth) : Ext o H (o1.put p t) H1 where
  fz := fun a u h t => by
    obtain ⟨t1, h1⟩ := x.fz a u h t
    rw [put_ne (ne_of_none h h0)]; exact ⟨t1, h1⟩
  oth := fun a u h t => by
    obtain ⟨t1, h1⟩ := x.oth a u h t
    rw [put_ne (ne_of_none h h0)]; exact ⟨t1, h1⟩
  bx := fun n t => by
    obtain ⟨e1, t1⟩ := x.bx n t
    refine ⟨e1, ?_⟩
    rw [put_ne (fun q : o.bx n = p => by rw [q, ht] at t1; cases t1)]; exact t1
  trk := x.trk
theorem Rel.set_fz {i : Nat} (R : Rel K cn o H es σ) (hi : i < σ.length) (h : Dr K cn o H v d) : Rel K cn o H { es with env := es.env.set i (some (.fz d)) } (σ.set i (some v)) := by
  refine ⟨by rw [List.length_set, List.length_set]; exact R.len, fun j l e => ?_, R.g⟩
  by_cases hj : i = j
  · subst hj
    rw [List.getElem?_set_self (by rw [← R.len]; exact hi)] at e
    cases e
    exact ⟨v, List.getElem?_set_self hi, h⟩
  · rw [List.getElem?_set_ne hj] at e
    have q := R.slots j l e
    cases l with
    | fz d => obtain ⟨v, e, h⟩ := q; exact ⟨v, by rw [List.getElem?_set_ne hj]; exact e, h⟩
    | ow d => obtain ⟨p', e, h1, h2⟩ := q; exact ⟨p', by rw [List.getElem?_set_ne hj]; exact e, h1, h2⟩
theorem Rel.set_ow {i : Nat} (R : Rel K cn o H es σ) (hi : i < σ.length) (ht : o.tg p = some .oth) (hc : Cont K cn o H p d) : Rel K cn (o.put p (some (.slot i))) H { es with env := es.env.set i (some (.ow d)) } (σ.set i (some (.ref p))) := by
  have L := less_retag (t := some (.slot i)) ht
  refine ⟨by rw [List.length_set, List.length_set]; exact R.len, fun j l e => ?_, R.g.tr L (fun a t hb h => ?_) (fun a t h => ?_)⟩
  · by_cases hj : i = j
    · subst hj
      rw [List.getElem?_set_self (by rw [← R.len]; exact hi)] at e
      cases e
      exact ⟨p, List.getElem?_set_self hi, put_same, hc.less L⟩
    · rw [List.getElem?_set_ne hj] at e
      have q := (R.slots j l e).tr L fun a h => by rw [put_ne (fun q : a = p => by rw [q, ht] at h; cases h)]; exact h
      cases l with
      | fz d => obtain ⟨v, e, h⟩ := q; exact ⟨v, by rw [List.getElem?_set_ne hj]; exact e, h⟩
      | ow d => obtain ⟨p', e, h1, h2⟩ := q; exact ⟨p', by rw [List.getElem?_set_ne hj]; exact e, h1, h2⟩
  · rw [put_ne (fun q : a = p => by rw [q, ht] at h; cases h; exact hb.elim)]; exact h
  · by_cases e : a = p
    · subst e; exact hc.at
    · rw [put_ne e] at h; exact R.g.trk a t h
/-- a name gets what an expression hands on -/
def setEnv (i : Nat) : RV → S
  | .fz d => fun es => some (.nx { es with env := es.env.set i (some (.fz d)) })
  | .fr d => fun es => some (.nx { es with env := es.env.set i (some (.ow d)) })
  | .sl j => fun es => match leak (.sl j) es with
    | some (.ok d es1) => some (.nx { es1 with env := es1.env.set i (some (.fz d)) })
    | _ => none
theorem setEnv_ok {i : Nat} {rv : RV} {r : SR} (x : Ext o0 H0 o H) (R : Rel K cn o H es σ) (hi : i < σ.length) (h : RvOk K cn H0 o H σ v rv) (e : setEnv i rv es = some r) :
    ∃ es' o', r = .nx es' ∧ Rel K cn o' H es' (σ.set i (some v)) ∧ Ext o0 H0 o' H := by
  cases rv with
  | fz d => cases e; exact ⟨_, o, rfl, R.set_fz hi h, x⟩
  | fr d =>
    cases e
    obtain ⟨p, rfl, h0, ht, hc⟩ := h
    exact ⟨_, _, rfl, R.set_ow hi ht hc, x.retag h0 ht⟩
  | sl j =>
    cases q : leak (.sl j) es with
    | none => simp [setEnv, q] at e
    | some r' =>
      obtain ⟨d, es1, o1, rfl, R1, x1, dr⟩ := leak_ok x R h q
      simp [setEnv, q] at e
      subst e
      exact ⟨_, o1, rfl, R1.set_fz hi dr, x1⟩
end

/-! ### semantics of statements from those of expressions -/
def S.of {α : Type} (m : M α) (k : α → S) : S := fun es => match m es with
  | none => none
  | some (.ex x es1) => some (.ex x es1)
  | some (.ok a es1) => k a es1
theorem S.of_some {α : Type} {m : M α} {k : α → S} {es : ES} {r : SR} (h : S.of m k es = some r) :
    (∃ x es1, m es = some (.ex x es1) ∧ r = .ex x es1) ∨ ∃ a es1, m es = some (.ok a es1) ∧ k a es1 = some r := by
  unfold S.of at h
  cases e : m es with
  | none => rw [e] at h; cases h
  | some q =>
    rw [e] at h
    cases q with
    | ex x es1 => cases h; exact .inl ⟨x, es1, rfl, rfl⟩
    | ok a es1 => exact .inr ⟨a, es1, rfl, h⟩
def S.seq (f k : S) : S := fun es => match f es with
  | some (.nx es1) => k es1
  | r => r
section
variable {K : PySem.W.Frag} {cn : Wd} {Wx : WX} {o o1 : Own} {H H1 : Hp} {es es1 : ES} {σ : St} {Dn : Ends}
theorem postS_ex {r : SR} (hp : PostS K cn Wx o H Dn r) : ∀ x es', r = .ex x es' → PostX K cn Wx o H σ x es' := fun x es' e => by
  subst e
  exact fun o' H' cls dx e' R' h => hp o' H' σ cls dx e' R' h
theorem sE_step {f : M RV} {k : RV → S} {r : SR} {Z : VK} (R : Rel K cn o H es σ) (h : S.of f k es = some r) (hp : PostS K cn Wx o H Dn r)
    (hk : ∀ rv es1 o1 H1 v, Ext o H o1 H1 → Rel K cn o1 H1 es1 σ → RvOk K cn H o1 H1 σ v rv → k rv es1 = some r → Z v H1) : tE K cn Wx f σ H Z := by
  rcases S.of_some h with ⟨x, es1, e, rfl⟩ | ⟨a, es1, e, hk'⟩
  · exact ⟨o, es, _, R, e, postS_ex hp x es1 rfl⟩
  · exact ⟨o, es, _, R, e, fun o' H' v x R' V => hk a es1 o' H' v x R' V hk'⟩
theorem sL_step {f : M D} {k : D → S} {r : SR} {Z : VK} (R : Rel K cn o H es σ) (h : S.of f k es = some r) (hp : PostS K cn Wx o H Dn r)
    (hk : ∀ d es1 o1 H1 v, Ext o H o1 H1 → Rel K cn o1 H1 es1 σ → Dr K cn o1 H1 v d → k d es1 = some r → Z v H1) : tL K cn Wx f σ H Z := by
  rcases S.of_some h with ⟨x, es1, e, rfl⟩ | ⟨a, es1, e, hk'⟩
  · exact ⟨o, es, _, R, e, postS_ex hp x es1 rfl⟩
  · exact ⟨o, es, _, R, e, fun o' H' v x R' V => hk a es1 o' H' v x R' V hk'⟩
theorem sT_step {f : M Bool} {k : Bool → S} {r : SR} {Z : Bool → Hp → Prop} (R : Rel K cn o H es σ) (h : S.of f k es = some r) (hp : PostS K cn Wx o H Dn r)
    (hk : ∀ b es1 o1 H1, Ext o H o1 H1 → Rel K cn o1 H1 es1 σ → k b es1 = some r → Z b H1) : tT K cn Wx f σ H Z := by
  rcases S.of_some h with ⟨x, es1, e, rfl⟩ | ⟨a, es1, e, hk'⟩
  · exact ⟨o, es, _, R, e, postS_ex hp x es1 rfl⟩
  · exact ⟨o, es, _, R, e, fun o' H' x R' => hk a es1 o' H' x R' hk'⟩
theorem tS_last {f : S} {r : SR} (x : Ext o1 H1 o H) (R : Rel K cn o H es σ) (h : f es = some r) (hp : PostS K cn Wx o1 H1 Dn r) : tS K cn Wx f Dn σ H := ⟨o, es, r, R, h, hp.mono x⟩
end
section
variable {X : Cx} {cn : Wd} {a b c e : Expr} {fa fb fc f : M RV} {ga gb gc : M Bool} {st : Stmt} {body rest ebody : List Stmt} {pos : Pos} {fs gs : S}
def S.skip : S := fun es => some (.nx es)
theorem DSs.nil : DSs X cn [] S.skip := by
  intro Wx tk
  refine pss_i pss_nil fun Dn σ H h => ?_
  obtain ⟨o, es, r, R, h, hp⟩ := h
  cases h
  exact hp o H σ Ext.refl R
theorem DSs.cons (h : DS X cn st fs) (k : DSs X cn rest gs) : DSs X cn (st :: rest) (S.seq fs gs) := by
  intro Wx tk
  refine pss_i (pss_cons (h Wx tk) (k Wx tk)) fun Dn σ H h => ?_
  obtain ⟨o, es, r, R, h, hp⟩ := h
  unfold S.seq at h
  cases e : fs es with
  | none => rw [e] at h; cases h
  | some q =>
    rw [e] at h
    refine ⟨o, es, q, R, e, ?_⟩
    cases q with
    | nx es1 => exact fun o' H' σ' x R' => tS_last x R' h hp
    | rt d es1 => cases h; exact hp
    | bk es1 => cases h; exact hp
    | ct es1 => cases h; exact hp
    | ex x es1 => cases h; exact hp
theorem DSs.one (h : DS X cn st fs) : DSs X cn [st] (S.seq fs S.skip) := DSs.cons h DSs.nil
theorem DS.ret {g : M D} (h : DL X cn e g) : DS X cn (.Return (some e) pos) (S.of g fun d es => some (.rt d es)) := by
  intro Wx tk
  refine ps_i (ps_ret (h Wx tk)) fun Dn σ H h => ?_
  obtain ⟨o, es, r, R, h, hp⟩ := h
  refine sL_step R h hp fun d es1 o1 H1 v x1 R1 V1 h => ?_
  cases h
  exact hp o1 H1 v x1 R1.g V1
theorem DS.retN : DS X cn (.Return none pos) (fun es => some (.rt .non es)) := by
  intro Wx tk
  refine ps_i ps_retN fun Dn σ H h => ?_
  obtain ⟨o, es, r, R, h, hp⟩ := h
  cases h
  exact hp o H _ Ext.refl R.g .non
theorem DS.expr {f : M RV} (h : DE X cn e f) (hs : swapsWith e none pos.line X.env = pure false) : DS X cn (.Expr e pos) (S.of f fun _ es => some (.nx es)) := by
  intro Wx tk
  refine ps_i (ps_expr (h Wx tk) hs) fun Dn σ H h => ?_
  obtain ⟨o, es, r, R, h, hp⟩ := h
  refine sE_step R h hp fun d es1 o1 H1 v x1 R1 V1 h => ?_
  cases h
  exact hp o1 H1 σ x1 R1
theorem DS.brk : DS X cn (.Break pos) (fun es => some (.bk es)) := by
  intro Wx tk
  refine ps_i ps_break fun Dn σ H h => ?_
  obtain ⟨o, es, r, R, h, hp⟩ := h
  cases h
  exact hp o H σ Ext.refl R
theorem DS.cnt : DS X cn (.Continue pos) (fun es => some (.ct es)) := by
  intro Wx tk
  refine ps_i ps_continue fun Dn σ H h => ?_
  obtain ⟨o, es, r, R, h, hp⟩ := h
  cases h
  exact hp o H σ Ext.refl R
def iteS (g : M Bool) (f k : S) : S := S.of g fun b => if b = true then f else k
theorem DS.ite (hc : DT X cn c gc) (ha : DSs X cn body fs) (hb : DSs X cn ebody gs) : DS X cn (.If c body ebody pos) (iteS gc fs gs) := by
  intro Wx tk
  refine ps_i (ps_if (hc Wx tk) (ha Wx tk) (hb Wx tk)) fun Dn σ H h => ?_
  obtain ⟨o, es, r, R, h, hp⟩ := h
  refine sT_step R h hp fun b es1 o1 H1 x1 R1 h => ?_
  cases b with
  | true => exact tS_last x1 R1 h hp
  | false => exact tS_last x1 R1 h hp
theorem DS.setv {i : Nat} {x : Str} {pos' : Pos} (hN : X.N.Nodup) (hi : X.N[i]? = some x) (hx : Loc X.env.scope x) (he : DE X cn e f) (hs : swapsWith e (some (.Name x pos')) pos.line X.env = pure false)
    (hf : X.fn x = true ∨ X.env.scope.names.lookup x = some .local) : DS X cn (.Assign [.Name x pos'] e pos) (S.of f fun rv es => if i < es.env.length then setEnv i rv es else none) := by
  intro Wx tk
  refine ps_i (ps_set hN hi hx (he Wx tk) hs hf) fun Dn σ H h => ?_
  obtain ⟨o, es, r, R, h, hp⟩ := h
  refine sE_step R h hp fun rv es1 o1 H1 v x1 R1 V1 h => ?_
  by_cases hil : i < es1.env.length
  · rw [if_pos hil] at h
    obtain ⟨es', o', rfl, R2, x2⟩ := setEnv_ok x1 R1 (by rw [R1.len]; exact hil) V1 h
    exact hp o' H1 _ x2 R2
  · rw [if_neg hil] at h; cases h
end
end Dl
end
section
set_option Elab.async false
set_option linter.all false
set_option maxRecDepth 100000
set_option maxHeartbeats 2000000
/-! DlF: iterators over lists and tuples alike: enumerate with a start, zip. -/
namespace Dl
open PySem PySem.Spec PyProof.Rows L2

def SqK (k : Bool) (K : PySem.W.Frag) (H : Hp) (a : Addr) (xs : List V) : Prop := if k = true then SqL K H a xs else SqT K H a xs
def ItAt (k : Bool) (h : Heap) (it a : Addr) (i : Nat) : Prop := if k = true then h.IsListIter it a i else h.IsTupleIter it a i
def SqAt (k : Bool) (h : Heap) (a : Addr) (its : Array Value) : Prop := if k = true then h.IsList a its else h.IsTuple a its
section
variable {X : Cx} {pins : List (Addr × Obj)} {σ : St} {H : Hp} {s : Shared} {K : PySem.W.Frag} {a it : Addr} {xs ys : List V} {k : Bool} {h h' : Heap} {i : Nat}
theorem sq_at (I : Inv X pins σ H s) (h : SqK k X.K H a xs) : ∃ its : List Value, Vals xs its ∧ SqAt k s.heap a its.toArray ∧ xs.length ≤ sizeLine ∧ a < s.heap.objs.size := by
  cases k with
  | true => obtain ⟨its, r, p, z⟩ := I.list h; exact ⟨its, r, p.isList, z, p.lt⟩
  | false => obtain ⟨its, r, p, z⟩ := I.tuple h; exact ⟨its, r, p, z, p.lt⟩
theorem sq_inj (I : Inv X pins σ H s) (h : SqK k X.K H a xs) (h' : SqK k X.K H a ys) : xs = ys := by
  cases k with
  | true => exact I.list_inj h h'
  | false => exact I.tuple_inj h h'
theorem itAt_at (x : ItAt k h it a i) (e : ∀ o, h.get? it = some o → h'.get? it = some o) : ItAt k h' it a i := by
  cases k with
  | true => exact Heap.IsListIter.at x e
  | false => exact Heap.IsTupleIter.at x e
theorem itAt_obj (x : ItAt k h it a i) : ∃ o vs, h.get? it = some o ∧ o.data = .fields vs := by
  cases k with
  | true => obtain ⟨o, e, _, d⟩ := (show h.IsListIter it a i from x); exact ⟨o, _, e, d⟩
  | false => obtain ⟨o, e, _, d⟩ := (show h.IsTupleIter it a i from x); exact ⟨o, _, e, d⟩
theorem draws_k {prog : Program} {w : World} {A : Around} (hh : A.handled = none) (it a : Addr) (hne : a ≠ it) (its : Array Value) :
    Draws prog w A it [it, a] its.size (fun i v => its[i]? = some v) (fun i h => ItAt k h it a i ∧ SqAt k h a its) := by
  cases k with
  | true => exact Draws.list hh it a hne its
  | false => exact Draws.tuple hh it a hne its
def iterObj (k : Bool) (a : Addr) : Obj := if k = true then { cls := .type "list_iterator", data := .fields #[.ref a, .int 0 0] } else { cls := .type "tuple_iterator", data := .fields #[.ref a, .int 0 0] }
theorem begins_k (k : Bool) (a : Addr) (its : Array Value) : Begins (.ref a) (iterObj k a) fun h => SqAt k h a its := by
  cases k with
  | true => exact begins_list a its
  | false => exact begins_tuple a its
theorem itAt_new {h : Heap} (e : h.get? it = some (iterObj k a)) : ItAt k h it a 0 := by
  cases k with
  | true => exact ⟨_, e, rfl, rfl⟩
  | false => exact ⟨_, e, rfl, rfl⟩
end
/-! ### enumerate(.., k0) -/
def IteK (k : Bool) (K : PySem.W.Frag) (k0 : Int) (a : Addr) : It :=
  ⟨fun i H => ∃ (xs : List V) (x : V), SqK k K H a xs ∧ xs[i]? = some x, fun i H v H' => ∃ T x, v = .ref T ∧ H T = none ∧ H' = upd H T (.tup [.int (k0 + (i : Nat)), x]) ∧ ∀ xs, SqK k K H a xs → xs[i]? = some x, fun i H => ∃ xs : List V, SqK k K H a xs ∧ xs.length = i⟩
theorem turn_enumK {P : Program} {w : World} {K : PySem.W.Frag} {elts : List Expr} {kk : Nat} {tpos : Pos} (k : Bool) (k0 : Int) (a e it : Addr) (hae : a ≠ e) (hai : a ≠ it) :
    Turn P w K (.Tuple elts kk tpos) (IteK k K k0 a) [e, it] e (fun i h => (∃ old, IsEnum h e it (k0 + (i : Int)) old) ∧ ItAt k h it a i ∧ e ≠ it) where
  mem := by simp
  obj := fun i h st b hb => by
    obtain ⟨⟨old, he⟩, hit, _⟩ := st
    obtain ⟨o, vs, ho, hd⟩ := itAt_obj hit
    have e' : b = e ∨ b = it := by simpa using hb
    rcases e' with z | z
    · rw [z]; exact ⟨_, he, fun v q => nomatch q⟩
    · rw [z]; exact ⟨o, ho, fun v q => by rw [hd] at q; cases q⟩
  keep := fun i h h' st k => let ⟨⟨old, he⟩, hi, hne⟩ := st; ⟨⟨old, k e (by simp) _ he⟩, itAt_at hi fun o q => k it (by simp) o q, hne⟩
  item := by
    intro X hP hw hK hc i pins s σ H E I hf st hg
    subst hP hw hK
    obtain ⟨⟨old, he⟩, hit, hne⟩ := st
    obtain ⟨xs, x, hq, hx⟩ := hg
    obtain ⟨its, rv, p, hz, _⟩ := sq_at I hq
    obtain ⟨u, hu, ru⟩ := rv.get hx
    have hil : i < its.toArray.size := by
      have := (List.getElem?_eq_some_iff.mp hu).1
      simpa using this
    have hd : X.A.in1.handled = none := I.ok.hd hc
    have G := GoesN.enumFrom (prog := X.prog) (w := X.w) (A := X.A) (elts := elts) (x1 := kk) (pos := tpos) k0 (draws_k (prog := X.prog) (w := X.w) (k := k) hd it a hai its.toArray) e hne (by simp; exact ⟨hne, fun z => hae z.symm⟩) (by simp)
    refine G.goes i s _ E hil ⟨⟨old, he⟩, hit, p⟩ fun v h' tk hY st' hk htk => ?_
    obtain ⟨T, t, x', rfl, hT, hx', hIT⟩ := hY
    have ex : x' = u := by
      have q : its[i]? = some x' := by simpa using hx'
      rw [hu] at q; exact (Option.some.inj q).symm
    subst ex
    have new : ObjOk X.prog X.w (upd H T (.tup [.int (k0 + (i : Nat)), x])) h' T (.tup [.int (k0 + (i : Nat)), x]) :=
      ⟨by show 2 ≤ sizeLine; decide, [.int (k0 + (i : Nat)) t, x'], .cons ⟨_, rfl⟩ (.cons ru .nil), hIT⟩
    have I1 : Inv X pins σ (upd H T (.tup [.int (k0 + (i : Nat)), x])) { s with heap := h', toks := tk } :=
      I.turnedNew (ch := [e, it]) (fun b ob hb q => hk b ob hb q) hf hT new
    refine ⟨.ref T, _, I1, rfl, ⟨T, x, rfl, I.hok.fresh hT, rfl, fun ys hy => by rw [sq_inj I hy hq]; exact hx⟩, ⟨st'.1, st'.2.1, hne⟩, fun b hb => ?_⟩
    have hb' : b < s.heap.objs.size := by
      obtain ⟨o, vs, ho, _⟩ := itAt_obj hit
      have e' : b = e ∨ b = it := by simpa using hb
      rcases e' with z | z
      · rw [z]; exact Heap.lt_size he
      · rw [z]; exact Heap.lt_size ho
    rw [upd_ne (Nat.ne_of_lt (Nat.lt_of_lt_of_le hb' hT))]
    exact (hf b hb).1
  done := by
    intro X hP hw hK hc i pins s σ H E I hf st hg
    subst hP hw hK
    obtain ⟨⟨old, he⟩, hit, hne⟩ := st
    obtain ⟨xs, hq, hx⟩ := hg
    obtain ⟨its, rv, p, hz, _⟩ := sq_at I hq
    have hl := rv.length
    have ei : its.toArray.size = i := by simp; omega
    have hd : X.A.in1.handled = none := I.ok.hd hc
    have G := GoesN.enumFrom (prog := X.prog) (w := X.w) (A := X.A) (elts := elts) (x1 := kk) (pos := tpos) k0 (draws_k (prog := X.prog) (w := X.w) (k := k) hd it a hai its.toArray) e hne (by simp; exact ⟨hne, fun z => hae z.symm⟩) (by simp)
    refine thn (G.stops s (fun s1 => Inv X pins σ H s1) E ⟨⟨old, by rw [ei]; exact he⟩, by rw [ei]; exact hit, p⟩ fun h' tk hk htk => I.turnedL (t' := tk) (ch := [e, it]) (fun b o hb q => hk b o hb q) hf) fun r s1 h => h
  self := fun A i s Q E st h => let ⟨⟨_, he⟩, _⟩ := st; wpAny_pyIter_enum he h
/-- enumerate(..) has come -/
theorem enum_come {X : Cx} {pins : List (Addr × Obj)} {σ : St} {H : Hp} {s : Shared} {k : Bool} {a : Addr} {xs : List V} {k0 : Int} {t : Tok} {elts : List Expr} {kk : Nat} {tpos : Pos} {R : It → Hp → Prop} (I : Inv X pins σ H s) (hq : SqK k X.K H a xs) (h0 : -(2 ^ 63) ≤ k0) (h1 : k0 < 2 ^ 63) (h : R (IteK k X.K k0 a) H) :
    wpAny (model X.prog X.w) X.A (call (.type "enumerate") [.ref a, .int k0 t]) (fun v s1 => wpAny (model X.prog X.w) X.A (pyIter v) (PIE X pins σ (.Tuple elts kk tpos) R) X.xe s1) X.xe s := by
  obtain ⟨its, rv, p, hz, hlt⟩ := sq_at I hq
  refine enum_begins (begins_k k a its.toArray) p h0 h1 fun h' he hio hsz hk => ?_
  refine wpAny_pyIter_enum (s := { s with heap := h' }) he ?_
  have I2 : Inv X pins σ H { s with heap := h' } := I.kept (t' := s.toks) hk
  refine ⟨s.heap.objs.size + 1, [s.heap.objs.size + 1, s.heap.objs.size], _, _, H, rfl, I2, turn_enumK k k0 a (s.heap.objs.size + 1) s.heap.objs.size (Nat.ne_of_lt (Nat.lt_succ_of_lt hlt)) (Nat.ne_of_lt hlt), ⟨⟨.none, by simpa using he⟩, itAt_new hio, Nat.succ_ne_self _⟩, fun b hb => ?_, h⟩
  have e' : b = s.heap.objs.size + 1 ∨ b = s.heap.objs.size := by simpa using hb
  have hle : s.heap.objs.size ≤ b := by
    rcases e' with z | z
    · rw [z]; exact Nat.le_add_right _ _
    · rw [z]; exact Nat.le_refl _
  exact I.fpOk hle (I.hok.fresh hle)

theorem meets_enumerate_new1B {v : Value} {o : Obj} {H : Heap → Prop} (B : Begins v o H) :
    Meets (Builtin.«enumerate.__new__» ⟨[.type "enumerate", v], []⟩) (fun _ R s => H s.heap ∧
      R (.ok (.ret (.ref (s.heap.push o).objs.size))) { s with heap := (s.heap.push o).push { cls := .type "enumerate", data := .fields #[.none, .bool false, .ref s.heap.objs.size, rawInt 0, .none, .none] } }) :=
  .of_wp fun prog w A R s h => by
    obtain ⟨hp, g, d, tk, os⟩ := s; obtain ⟨h1, h⟩ := h
    have hsub := sub_enumerate
    have q1 : ∀ {A' : Around} {E : Value → Shared → Prop} {Q : Value → Shared → Prop}, Q (.ref hp.objs.size) ⟨hp.push o, g, d, tk, os⟩ → wpAny (model prog w) A' (pyIter v) Q E ⟨hp, g, d, tk, os⟩ :=
      fun q => B.iter prog w _ _ ⟨hp, g, d, tk, os⟩ _ h1 q
    wp_walk using q1
    refine wpAny_stack_any fun st => wpAny_pure ?_
    split
    · rename_i c _ _ _ _ _
      cases (c == Value.type "enumerate")
      · wp_walk using q1
        exact ⟨_, rfl, h⟩
      · wp_walk using q1
        exact ⟨_, rfl, h⟩
    · wp_walk using q1
      exact ⟨_, rfl, h⟩
/-- enumerate(v): its two new cells -/
theorem enum_begins1 {prog : Program} {w : World} {A : Around} {E : Value → Shared → Prop} {s : Shared} {v : Value} {o : Obj} {H : Heap → Prop} {Q : Value → Shared → Prop} (B : Begins v o H) (h1 : H s.heap)
    (h : ∀ h', IsEnum h' (s.heap.objs.size + 1) s.heap.objs.size 0 .none → h'.get? s.heap.objs.size = some o → h'.objs.size = s.heap.objs.size + 2 →
      (∀ b o, s.heap.get? b = some o → h'.get? b = some o) → Q (.ref (s.heap.objs.size + 1)) { s with heap := h' }) :
    wpAny (model prog w) A (call (.type "enumerate") [v]) Q E s := by
  refine callType_new F.called_enumerate (by decide) (F.typeCall_enumerate_1 _) (F.newCall_enumerate_1 _) (fun obj => F.args_object_init_2 obj _) F.entry_enumerate_new
    (meets_enumerate_new1B B) ⟨h1, ?_⟩
  have hz : (s.heap.push o).objs.size = s.heap.objs.size + 1 := Heap.size_push ..
  show _ ∧ _
  rw [hz]
  have he : IsEnum ((s.heap.push o).push { cls := .type "enumerate", data := .fields #[.none, .bool false, .ref s.heap.objs.size, rawInt 0, .none, .none] }) (s.heap.objs.size + 1) s.heap.objs.size 0 .none := by
    have := Heap.get?_push_size (s.heap.push o) (o := { cls := .type "enumerate", data := .fields #[.none, .bool false, .ref s.heap.objs.size, rawInt 0, .none, .none] }) rfl
    rw [hz] at this; exact this
  refine ⟨⟨_, he, rfl⟩, h _ he (Heap.get?_push_of_some _ (Heap.get?_push_size _ B.free)) (by rw [Heap.size_push, hz]) fun b o x => Heap.get?_push_of_some _ (Heap.get?_push_of_some _ x)⟩
theorem enum_come1 {X : Cx} {pins : List (Addr × Obj)} {σ : St} {H : Hp} {s : Shared} {k : Bool} {a : Addr} {xs : List V} {elts : List Expr} {kk : Nat} {tpos : Pos} {R : It → Hp → Prop} (I : Inv X pins σ H s) (hq : SqK k X.K H a xs) (h : R (IteK k X.K 0 a) H) :
    wpAny (model X.prog X.w) X.A (call (.type "enumerate") [.ref a]) (fun v s1 => wpAny (model X.prog X.w) X.A (pyIter v) (PIE X pins σ (.Tuple elts kk tpos) R) X.xe s1) X.xe s := by
  obtain ⟨its, rv, p, hz, hlt⟩ := sq_at I hq
  refine enum_begins1 (begins_k k a its.toArray) p fun h' he hio hsz hk => ?_
  refine wpAny_pyIter_enum (s := { s with heap := h' }) he ?_
  have I2 : Inv X pins σ H { s with heap := h' } := I.kept (t' := s.toks) hk
  refine ⟨s.heap.objs.size + 1, [s.heap.objs.size + 1, s.heap.objs.size], _, _, H, rfl, I2, turn_enumK k 0 a (s.heap.objs.size + 1) s.heap.objs.size (Nat.ne_of_lt (Nat.lt_succ_of_lt hlt)) (Nat.ne_of_lt hlt), ⟨⟨.none, by simpa using he⟩, itAt_new hio, Nat.succ_ne_self _⟩, fun b hb => ?_, h⟩
  have e' : b = s.heap.objs.size + 1 ∨ b = s.heap.objs.size := by simpa using hb
  have hle : s.heap.objs.size ≤ b := by
    rcases e' with z | z
    · rw [z]; exact Nat.le_add_right _ _
    · rw [z]; exact Nat.le_refl _
  exact I.fpOk hle (I.hok.fresh hle)
/-! ### zip -/
def ItzK (k1 k2 : Bool) (K : PySem.W.Frag) (a b : Addr) : It :=
  ⟨fun i H => ∃ (xs ys : List V) (x y : V), SqK k1 K H a xs ∧ SqK k2 K H b ys ∧ xs[i]? = some x ∧ ys[i]? = some y,
    fun i H v H' => ∃ T x y, v = .ref T ∧ H T = none ∧ H' = upd H T (.tup [x, y]) ∧ (∀ xs, SqK k1 K H a xs → xs[i]? = some x) ∧ ∀ ys, SqK k2 K H b ys → ys[i]? = some y,
    fun i H => ∃ xs ys : List V, SqK k1 K H a xs ∧ SqK k2 K H b ys ∧ min xs.length ys.length = i⟩
theorem turn_zipK {P : Program} {w : World} {K : PySem.W.Frag} {elts : List Expr} {kk : Nat} {tpos : Pos} {k1 k2 : Bool} {a b N : Addr} (ha : a < N) (hb : b < N) :
    Turn P w K (.Tuple elts kk tpos) (ItzK k1 k2 K a b) [N + 4, N + 2, N + 3, N, N + 1] (N + 4) (fun i h => IsZip h (N + 4) (N + 2) (N + 3) .none ∧ IsTupOf2 h (N + 2) (.ref N) (.ref (N + 1)) ∧ (∃ x y, IsTupOf2 h (N + 3) x y) ∧ ItAt k1 h N a i ∧ ItAt k2 h (N + 1) b i) where
  mem := by simp
  obj := fun i h st c hc => by
    obtain ⟨hz, hTI, ⟨x, y, hTO⟩, i1, i2⟩ := st
    obtain ⟨o1, vs1, e1, d1⟩ := itAt_obj i1
    obtain ⟨o2, vs2, e2, d2⟩ := itAt_obj i2
    have e' : c = N + 4 ∨ c = N + 2 ∨ c = N + 3 ∨ c = N ∨ c = N + 1 := by simpa using hc
    rcases e' with q | q | q | q | q
    · rw [q]; exact ⟨_, hz, fun v q => nomatch q⟩
    · rw [q]; exact ⟨_, hTI, fun v q => nomatch q⟩
    · rw [q]; exact ⟨_, hTO, fun v q => nomatch q⟩
    · rw [q]; exact ⟨o1, e1, fun v q => by rw [d1] at q; cases q⟩
    · rw [q]; exact ⟨o2, e2, fun v q => by rw [d2] at q; cases q⟩
  keep := fun i h h' st k => by
    obtain ⟨hz, hTI, ⟨x, y, hTO⟩, h1, h2⟩ := st
    exact ⟨k _ (by simp) _ hz, k _ (by simp) _ hTI, ⟨x, y, k _ (by simp) _ hTO⟩, itAt_at h1 fun o q => k _ (by simp) o q, itAt_at h2 fun o q => k _ (by simp) o q⟩
  item := by
    intro X hP hw hK hc i pins s σ H E I hf st hg
    subst hP hw hK
    obtain ⟨hz, hTI, hTO, h1, h2⟩ := st
    obtain ⟨xs, ys, x, y, hqx, hqy, hx, hy⟩ := hg
    obtain ⟨its, rv, p, _⟩ := sq_at I hqx
    obtain ⟨its2, rv2, p2, _⟩ := sq_at I hqy
    obtain ⟨u, hu, ru⟩ := rv.get hx
    obtain ⟨u2, hu2, ru2⟩ := rv2.get hy
    have l1 : i < its.toArray.size := by have := (List.getElem?_eq_some_iff.mp hu).1; simpa using this
    have l2 : i < its2.toArray.size := by have := (List.getElem?_eq_some_iff.mp hu2).1; simpa using this
    have hd : X.A.in1.handled = none := I.ok.hd hc
    have S := zip_sep2 (N := N) (fp1 := [a]) (fp2 := [b]) (by simpa using ha) (by simpa using hb)
    have G := GoesN.zip2 (elts := elts) (x1 := kk) (pos := tpos) S (draws_k (prog := X.prog) (w := X.w) (k := k1) hd N a (Nat.ne_of_lt ha) its.toArray) (draws_k (prog := X.prog) (w := X.w) (k := k2) hd (N + 1) b (Nat.ne_of_lt (Nat.lt_succ_of_lt hb)) its2.toArray)
    refine G.goes i s _ E (by omega) ⟨hz, hTI, hTO, ⟨h1, p⟩, h2, p2⟩ fun v h' tk hY st' hk htk => ?_
    obtain ⟨T, x', y', rfl, hT, hx', hy', hIT⟩ := hY
    have ex : x' = u := by
      have q : its[i]? = some x' := by simpa using hx'
      rw [hu] at q; exact (Option.some.inj q).symm
    have ey : y' = u2 := by
      have q : its2[i]? = some y' := by simpa using hy'
      rw [hu2] at q; exact (Option.some.inj q).symm
    subst ex ey
    have new : ObjOk X.prog X.w (upd H T (.tup [x, y])) h' T (.tup [x, y]) := ⟨by show 2 ≤ sizeLine; decide, [x', y'], .cons ru (.cons ru2 .nil), hIT⟩
    have I1 : Inv X pins σ (upd H T (.tup [x, y])) { s with heap := h', toks := tk } :=
      I.turnedNew (ch := [N + 4, N + 2, N + 3, N, N + 1]) (fun c o hc q => hk c o (fun q' => hc (by
        have e' : c = N + 4 ∨ c = N + 3 ∨ c = N ∨ c = N + 1 := by simpa using q'
        simp; rcases e' with z | z | z | z <;> simp [z])) q) hf hT new
    refine ⟨.ref T, _, I1, rfl, ⟨T, x, y, rfl, I.hok.fresh hT, rfl, fun l hl => by rw [sq_inj I hl hqx]; exact hx, fun l hl => by rw [sq_inj I hl hqy]; exact hy⟩, ⟨st'.1, st'.2.1, st'.2.2.1, st'.2.2.2.1.1, st'.2.2.2.2.1⟩, fun c hcm => ?_⟩
    obtain ⟨hTO0, hTO1, hTO⟩ := hTO
    obtain ⟨o1, vs1, e1, _⟩ := itAt_obj h1
    obtain ⟨o2, vs2, e2, _⟩ := itAt_obj h2
    have hlt : c < s.heap.objs.size := by
      have e' : c = N + 4 ∨ c = N + 2 ∨ c = N + 3 ∨ c = N ∨ c = N + 1 := by simpa using hcm
      rcases e' with q | q | q | q | q
      · rw [q]; exact Heap.lt_size hz
      · rw [q]; exact Heap.lt_size hTI
      · rw [q]; exact Heap.lt_size hTO
      · rw [q]; exact Heap.lt_size e1
      · rw [q]; exact Heap.lt_size e2
    rw [upd_ne (Nat.ne_of_lt (Nat.lt_of_lt_of_le hlt hT))]
    exact (hf c hcm).1
  done := by
    intro X hP hw hK hc i pins s σ H E I hf st hg
    subst hP hw hK
    obtain ⟨hz, hTI, hTO, h1, h2⟩ := st
    obtain ⟨xs, ys, hqx, hqy, hend⟩ := hg
    obtain ⟨its, rv, p, _⟩ := sq_at I hqx
    obtain ⟨its2, rv2, p2, _⟩ := sq_at I hqy
    have l1 := rv.length
    have l2 := rv2.length
    have en : min its.toArray.size its2.toArray.size = i := by simp; omega
    have hd : X.A.in1.handled = none := I.ok.hd hc
    have S := zip_sep2 (N := N) (fp1 := [a]) (fp2 := [b]) (by simpa using ha) (by simpa using hb)
    have G := GoesN.zip2 (elts := elts) (x1 := kk) (pos := tpos) S (draws_k (prog := X.prog) (w := X.w) (k := k1) hd N a (Nat.ne_of_lt ha) its.toArray) (draws_k (prog := X.prog) (w := X.w) (k := k2) hd (N + 1) b (Nat.ne_of_lt (Nat.lt_succ_of_lt hb)) its2.toArray)
    exact thn (G.stops s (fun s1 => Inv X pins σ H s1) E (by rw [en]; exact ⟨hz, hTI, hTO, ⟨h1, p⟩, h2, p2⟩) fun h' tk hk htk => I.turnedL (t' := tk) (ch := [N + 4, N + 2, N + 3, N, N + 1]) (fun c o hc q => hk c o (fun q' => hc (by
        have e' : c = N + 4 ∨ c = N + 3 ∨ c = N ∨ c = N + 1 := by simpa using q'
        simp; rcases e' with z | z | z | z <;> simp [z])) q) hf) fun r s1 h => h
  self := fun A i s Q E st h => wpAny_pyIter_zip st.1 h
theorem zip_come {X : Cx} {pins : List (Addr × Obj)} {σ : St} {H : Hp} {s : Shared} {k1 k2 : Bool} {a b : Addr} {xs ys : List V} {elts : List Expr} {kk : Nat} {tpos : Pos} {R : It → Hp → Prop} (I : Inv X pins σ H s) (hq : SqK k1 X.K H a xs) (hq2 : SqK k2 X.K H b ys) (h : R (ItzK k1 k2 X.K a b) H) :
    wpAny (model X.prog X.w) X.A (call (.type "zip") [.ref a, .ref b]) (fun v s1 => wpAny (model X.prog X.w) X.A (pyIter v) (PIE X pins σ (.Tuple elts kk tpos) R) X.xe s1) X.xe s := by
  obtain ⟨its, rv, p, hz, hlt⟩ := sq_at I hq
  obtain ⟨its2, rv2, p2, hz2, hlt2⟩ := sq_at I hq2
  refine zip_begins2 (begins_k k1 a its.toArray) (begins_k k2 b its2.toArray) p p2 fun h' hz hTI hTO hi1 hi2 hsz hk => ?_
  refine wpAny_pyIter_zip (s := { s with heap := h' }) hz ?_
  have I2 : Inv X pins σ H { s with heap := h' } := I.kept (t' := s.toks) hk
  refine ⟨s.heap.objs.size + 4, [s.heap.objs.size + 4, s.heap.objs.size + 2, s.heap.objs.size + 3, s.heap.objs.size, s.heap.objs.size + 1], _, _, H, rfl, I2, turn_zipK hlt hlt2, ⟨hz, hTI, ⟨_, _, hTO⟩, itAt_new hi1, itAt_new hi2⟩, fun c hcm => ?_, h⟩
  have e' : c = s.heap.objs.size + 4 ∨ c = s.heap.objs.size + 2 ∨ c = s.heap.objs.size + 3 ∨ c = s.heap.objs.size ∨ c = s.heap.objs.size + 1 := by simpa using hcm
  have hle : s.heap.objs.size ≤ c := by
    rcases e' with z | z | z | z | z
    · rw [z]; exact Nat.le_add_right _ _
    · rw [z]; exact Nat.le_add_right _ _
    · rw [z]; exact Nat.le_add_right _ _
    · rw [z]; exact Nat.le_refl _
    · rw [z]; exact Nat.le_add_right _ _
  exact I.fpOk hle (I.hok.fresh hle)
end Dl
end
section
set_option Elab.async false
set_option linter.all false
set_option maxRecDepth 100000
set_option maxHeartbeats 2000000
/-! DlG: what is walked (DI), targets (DG), for, while, list comprehensions. -/
namespace Dl
open PySem PySem.Spec PyProof.Rows L2

/-- the iterator J hands out the data ds, one by one, whatever is done meanwhile -/
def ItOk (K : PySem.W.Frag) (cn : Wd) (o0 : Own) (H0 : Hp) (J : It) (ds : List D) : Prop :=
  ∀ (o : Own) (H : Hp) (es : ES) (σ : St), Ext o0 H0 o H → Rel K cn o H es σ →
    (∀ i d, ds[i]? = some d → J.go i H ∧ ∀ x H', J.yld i H x H' → Dr K cn o H' x d ∧ Ext o H o H' ∧ (∀ es σ, Rel K cn o H es σ → Rel K cn o H' es σ) ∧ ∀ a u, H a = some u → H' a = some u) ∧ J.stop ds.length H
def PI_ (K : PySem.W.Frag) (cn : Wd) (o : Own) (H : Hp) (σ : St) (R : It → Hp → Prop) (ds : List D) (es' : ES) : Prop :=
  ∀ o' H' J, Ext o H o' H' → Rel K cn o' H' es' σ → ds.length ≤ sizeLine → ItOk K cn o' H' J ds → R J H'
def tI (K : PySem.W.Frag) (cn : Wd) (Wx : WX) (f : M (List D)) : TI := fun σ H R => ∃ o es r, Rel K cn o H es σ ∧ f es = some r ∧ Post K cn Wx o H σ (PI_ K cn o H σ R) r
def DI (X : Cx) (cn : Wd) (tg iter : Expr) (f : M (List D)) : Prop := ∀ Wx, Takes X Wx → PI X tg iter (tI X.K cn Wx f)
/-- a target: its slots, what it does with data -/
def DG (X : Cx) (cn : Wd) (tg : Expr) (vs : List Nat) (gm : D → ES → Option ES) (g : TG) : Prop :=
  PG X tg g ∧ ∀ (o : Own) (H : Hp) (es es' : ES) (σ : St) (v : V) (d : D) (Q : St → Hp → Prop), Rel X.K cn o H es σ → Dr X.K cn o H v d → gm d es = some es' →
    (∀ σ', wipe σ' vs = wipe σ vs → Rel X.K cn o H es' σ' → Q σ' H) → g v σ H Q
def setG (i : Nat) (d : D) (es : ES) : Option ES := if i < es.env.length then some { es with env := es.env.set i (some (.fz d)) } else none
theorem wipe_get (σ : St) : ∀ (vs : List Nat) (j : Nat), (wipe σ vs)[j]? = if j ∈ vs then (if j < σ.length then some none else none) else σ[j]?
  | [], j => by simp [wipe]
  | v :: vs, j => by
    unfold wipe
    by_cases h : v = j
    · subst h
      rw [if_pos List.mem_cons_self]
      by_cases hl : v < σ.length
      · rw [if_pos hl, List.getElem?_set_self (by rw [wipe_length]; exact hl)]
      · rw [if_neg hl, List.getElem?_eq_none (by rw [List.length_set, wipe_length]; omega)]
    · rw [List.getElem?_set_ne h, wipe_get σ vs j]
      have : j ∈ v :: vs ↔ j ∈ vs := by simp; exact fun e => absurd e.symm h
      simp [this]
theorem wipe_ext {σ τ : St} {vs : List Nat} (hl : σ.length = τ.length) (h : ∀ j, j ∉ vs → σ[j]? = τ[j]?) : wipe σ vs = wipe τ vs := by
  apply List.ext_getElem?
  intro j
  rw [wipe_get, wipe_get]
  by_cases hj : j ∈ vs
  · simp [hj, hl]
  · simp [hj, h j hj]
theorem wipe_len_eq {σ τ : St} {vs : List Nat} (h : wipe σ vs = wipe τ vs) : σ.length = τ.length := by
  have := congrArg List.length h
  simpa [wipe_length] using this
theorem wipe_at {σ τ : St} {vs : List Nat} (h : wipe σ vs = wipe τ vs) {j : Nat} (hj : j ∉ vs) : σ[j]? = τ[j]? := by
  have q := congrArg (fun l => l[j]?) h
  simp only [wipe_get, if_neg hj] at q
  exact q
section
variable {X : Cx} {cn : Wd} {e tg : Expr} {f : M RV} {pos : Pos}
theorem DG.name {i : Nat} {x : Str} (hN : X.N.Nodup) (hi : X.N[i]? = some x) (hx : Loc X.env.scope x) (hf : X.fn x = true ∨ X.env.scope.names.lookup x = some .local) : DG X cn (.Name x pos) [i] (setG i) (gName i) := by
  refine ⟨pg_name hN hi hx hf, fun o H es es' σ v d Q R hd h hq => ?_⟩
  unfold setG at h
  by_cases hl : i < es.env.length
  · rw [if_pos hl] at h
    cases h
    refine hq _ (wipe_ext (by simp) fun j hj => List.getElem?_set_ne (by simpa using fun z : i = j => hj (by simp [z]))) (R.set_fz (by rw [R.len]; exact hl) hd)
  · rw [if_neg hl] at h; cases h
/-- several targets -/
def DGs (X : Cx) (cn : Wd) (ts : List Expr) (vs : List Nat) (gm : List D → ES → Option ES) (g : TGs) : Prop :=
  PGs X ts g ∧ ∀ (o : Own) (H : Hp) (es es' : ES) (σ : St) (xs : List V) (ds : List D) (Q : St → Hp → Prop), Rel X.K cn o H es σ → DrAll X.K cn o H xs ds → gm ds es = some es' →
    (∀ σ', wipe σ' vs = wipe σ vs → Rel X.K cn o H es' σ' → Q σ' H) → g xs σ H Q
def gsNil : List D → ES → Option ES
  | [], es => some es
  | _, _ => none
def gsCons (g : D → ES → Option ES) (gs : List D → ES → Option ES) : List D → ES → Option ES
  | d :: ds, es => (g d es).bind (gs ds)
  | [], _ => none
theorem DGs.nil : DGs X cn [] [] gsNil gNil := by
  refine ⟨pgs_nil, fun o H es es' σ xs ds Q R hd h hq => ?_⟩
  cases hd with
  | nil => cases h; exact ⟨rfl, hq σ rfl R⟩
  | cons _ _ => cases h
theorem wipe_app (σ : St) : ∀ (vs ws : List Nat) (j : Nat), (wipe σ (vs ++ ws))[j]? = (wipe (wipe σ ws) vs)[j]? := by
  intro vs ws j
  rw [wipe_get, wipe_get, wipe_length, wipe_get]
  by_cases h1 : j ∈ vs <;> by_cases h2 : j ∈ ws <;> simp [h1, h2]
theorem wipe_more {σ τ : St} {vs ws : List Nat} (h : wipe σ vs = wipe τ vs) (hs : ∀ i ∈ vs, i ∈ ws) : wipe σ ws = wipe τ ws :=
  wipe_ext (wipe_len_eq h) fun j hj => wipe_at h fun z => hj (hs j z)
theorem DGs.cons {t : Expr} {ts : List Expr} {vs ws : List Nat} {g gs g1 g2} (h : DG X cn t vs g g1) (k : DGs X cn ts ws gs g2) (hs : (assignEach (t :: ts) X.env).map (·.2) = assign t X.env :: (assignEach ts X.env).map (·.2)) : DGs X cn (t :: ts) (vs ++ ws) (gsCons g gs) (gCons g1 g2) := by
  obtain ⟨p1, q1⟩ := h
  obtain ⟨p2, q2⟩ := k
  refine ⟨pgs_cons p1 p2 hs, fun o H es es' σ xs ds Q R hd h hq => ?_⟩
  cases hd with
  | nil => cases h
  | cons hv ht =>
    rename_i v0 vs0 d0 ds0
    cases e1 : g d0 es with
    | none => simp [gsCons, e1] at h
    | some es1 =>
      simp [gsCons, e1] at h
      refine ⟨_, _, rfl, q1 o H es es1 σ _ _ _ R hv e1 fun σ1 w1 R1 => ?_⟩
      exact q2 o H es1 es' σ1 _ _ Q R1 ht h fun σ2 w2 R2 => hq σ2 ((wipe_more w2 (by simp +contextual)).trans (wipe_more w1 (by simp +contextual))) R2
def tupG (n : Nat) (gs : List D → ES → Option ES) : D → ES → Option ES
  | .tup ds, es => if ds.length = n then gs ds es else none
  | _, _ => none
theorem DG.tup {ts : List Expr} {k n : Nat} {vs : List Nat} {gs g} (hc : X.calm = true) (h : DGs X cn ts vs gs g) (hn : (assignEach ts X.env).length = n) (hst : (assignEach ts X.env).findIdx? (·.1) = none) : DG X cn (.Tuple ts k pos) vs (tupG n gs) (gTup X.K n g) := by
  obtain ⟨p, q⟩ := h
  refine ⟨pg_tup hc p hn hst, fun o H es es' σ v d Q R hd h hq => ?_⟩
  cases hd with
  | tup h1 h2 =>
    rename_i a xs ds
    have h : (if ds.length = n then gs ds es else none) = some es' := h
    by_cases hl : ds.length = n
    · rw [if_pos hl] at h
      exact ⟨_, _, rfl, h1.sq, by rw [h2.length]; exact hl, q o H es es' σ _ _ Q R h2 h hq⟩
    · rw [if_neg hl] at h; cases h
  | _ => cases h
/-! ### for, while -/
def loopS (gm : D → ES → Option ES) (body : S) : List D → S
  | [], es => some (.nx es)
  | d :: ds, es => match gm d es with
    | none => none
    | some es1 => match body es1 with
      | none => none
      | some (.nx es2) => loopS gm body ds es2
      | some (.ct es2) => loopS gm body ds es2
      | some (.bk es2) => some (.nx es2)
      | some (.rt d es2) => some (.rt d es2)
      | some (.ex x es2) => some (.ex x es2)
theorem DS.loop {iter : Expr} {body : List Stmt} {fi : M (List D)} {vs : List Nat} {gm g} {fb : S} (hp : PassesOwn (model X.prog X.w) X.A X.env X.xe) (hc : X.calm = true) (hi : DI X cn tg iter fi) (hg : DG X cn tg vs gm g) (hb : DSs X cn body fb)
    (hs : ∀ x, foldedSetIterable iter X.env x = pure x) : DS X cn (.For tg iter body [] pos) (S.of fi fun ds => loopS gm fb ds) := by
  intro Wx tk
  obtain ⟨pg, qg⟩ := hg
  refine ps_i (ps_for hp hc (hi Wx tk) pg (hb Wx tk) hs) fun Dn σ H h => ?_
  obtain ⟨o, es, r, R, h, hpost⟩ := h
  rcases S.of_some h with ⟨x, es1, e, rfl⟩ | ⟨ds, es1, e, h⟩
  · exact ⟨o, es, _, R, e, postS_ex hpost x es1 rfl⟩
  refine ⟨o, es, _, R, e, fun o1 H1 J x1 R1 _ it => ?_⟩
  refine ⟨fun i m σ H => m = ds.length - i ∧ i ≤ ds.length ∧ ∃ o es, Ext o1 H1 o H ∧ Rel X.K cn o H es σ ∧ loopS gm fb (ds.drop i) es = some r, ⟨ds.length, by simp, Nat.zero_le _, o1, es1, Ext.refl, R1, h⟩, ?_⟩
  rintro i m σ' H' ⟨rfl, hil, o', es', x', R', hl⟩
  obtain ⟨go, stop⟩ := it o' H' es' σ' x' R'
  by_cases hlt : i < ds.length
  · have ed : ds[i]? = some ds[i] := List.getElem?_eq_getElem hlt
    obtain ⟨g1, y1⟩ := go i _ ed
    rw [List.drop_eq_getElem_cons hlt] at hl
    refine .inr ⟨g1, fun σ2 H2 => ∃ o2 es2, Ext o1 H1 o2 H2 ∧ Rel X.K cn o2 H2 es2 σ2 ∧ loopS gm fb (ds.drop (i + 1)) es2 = some r, fun σ2 H2 q => ⟨ds.length - (i + 1), by omega, rfl, hlt, q⟩, fun v H2 hy => ?_⟩
    obtain ⟨dr, x2, k2, _⟩ := y1 v H2 hy
    unfold loopS at hl
    cases e1 : gm ds[i] es' with
    | none => rw [e1] at hl; cases hl
    | some es2 =>
      rw [e1] at hl
      refine qg o' H2 es' es2 σ' v _ _ (k2 _ _ R') dr e1 fun σ2 _ R2 => ?_
      cases e2 : fb es2 with
      | none => simp only [e2] at hl; cases hl
      | some rb =>
        simp only [e2] at hl
        refine ⟨o', es2, rb, R2, e2, ?_⟩
        have hpost' := hpost.mono (x1.trans (x'.trans x2))
        cases rb with
        | nx es3 => exact fun o3 H3 σ3 x3 R3 => ⟨o3, es3, (x'.trans x2).trans x3, R3, hl⟩
        | ct es3 => exact fun o3 H3 σ3 x3 R3 => ⟨o3, es3, (x'.trans x2).trans x3, R3, hl⟩
        | bk es3 => cases hl; exact hpost'
        | rt d es3 => cases hl; exact hpost'
        | ex x es3 => cases hl; exact hpost'
  · have ei : i = ds.length := by omega
    subst ei
    rw [List.drop_length] at hl
    cases hl
    exact .inl ⟨stop, hpost _ _ _ (x1.trans x') R'⟩
def whileS (g : M Bool) (body : S) : Nat → S
  | 0, _ => none
  | n + 1, es => S.of g (fun b es1 => if b = true then (match body es1 with
      | none => none
      | some (.nx es2) => whileS g body n es2
      | some (.ct es2) => whileS g body n es2
      | some (.bk es2) => some (.nx es2)
      | some (.rt d es2) => some (.rt d es2)
      | some (.ex x es2) => some (.ex x es2)) else some (.nx es1)) es
theorem DS.while {c : Expr} {body : List Stmt} {g : M Bool} {fb : S} {n : Nat} (hp : PassesOwn (model X.prog X.w) X.A X.env X.xe) (hc : DT X cn c g) (hb : DSs X cn body fb) : DS X cn (.While c body [] pos) (whileS g fb n) := by
  intro Wx tk
  refine ps_i (ps_while hp (hc Wx tk) (hb Wx tk)) fun Dn σ H h => ?_
  obtain ⟨o, es, r, R, h, hpost⟩ := h
  refine ⟨fun m σ' H' => ∃ o' es', Ext o H o' H' ∧ Rel X.K cn o' H' es' σ' ∧ whileS g fb m es' = some r, ⟨n, o, es, Ext.refl, R, h⟩, ?_⟩
  rintro m σ' H' ⟨o', es', x', R', hw⟩
  cases m with
  | zero => cases hw
  | succ m =>
    unfold whileS at hw
    refine sT_step R' hw (hpost.mono x') fun b es1 o1 H1 x1 R1 hw => ?_
    cases b with
    | false => cases hw; exact hpost _ _ _ (x'.trans x1) R1
    | true =>
      simp only [if_true] at hw
      refine ⟨fun σ2 H2 => ∃ o2 es2, Ext o H o2 H2 ∧ Rel X.K cn o2 H2 es2 σ2 ∧ whileS g fb m es2 = some r, fun σ2 H2 q => ⟨m, Nat.lt_succ_self _, q⟩, ?_⟩
      cases e2 : fb es1 with
      | none => simp only [e2] at hw; cases hw
      | some rb =>
        simp only [e2] at hw
        refine ⟨o1, es1, rb, R1, e2, ?_⟩
        have hpost' := hpost.mono (x'.trans x1)
        cases rb with
        | nx es3 => exact fun o3 H3 σ3 x3 R3 => ⟨o3, es3, (x'.trans x1).trans x3, R3, hw⟩
        | ct es3 => exact fun o3 H3 σ3 x3 R3 => ⟨o3, es3, (x'.trans x1).trans x3, R3, hw⟩
        | bk es3 => cases hw; exact hpost'
        | rt d es3 => cases hw; exact hpost'
        | ex x es3 => cases hw; exact hpost'
end
/-! ### list comprehensions -/
/-- the block's own names forgotten -/
def wipeE (env : List (Option LV)) : List Nat → List (Option LV)
  | [] => env
  | v :: vs => (wipeE env vs).set v none
theorem wipeE_length (env : List (Option LV)) : ∀ vs, (wipeE env vs).length = env.length
  | [] => rfl
  | v :: vs => by unfold wipeE; rw [List.length_set, wipeE_length env vs]
theorem wipeE_get (env : List (Option LV)) : ∀ (vs : List Nat) (j : Nat), (wipeE env vs)[j]? = if j ∈ vs then (if j < env.length then some none else none) else env[j]?
  | [], j => by simp [wipeE]
  | v :: vs, j => by
    unfold wipeE
    by_cases h : v = j
    · subst h
      rw [if_pos List.mem_cons_self]
      by_cases hl : v < env.length
      · rw [if_pos hl, List.getElem?_set_self (by rw [wipeE_length]; exact hl)]
      · rw [if_neg hl, List.getElem?_eq_none (by rw [List.length_set, wipeE_length]; omega)]
    · rw [List.getElem?_set_ne h, wipeE_get env vs j]
      have : j ∈ v :: vs ↔ j ∈ vs := by simp; exact fun e => absurd e.symm h
      simp [this]
/-- behind the comprehension: its own names are the frame's again -/
def backE (vs : List Nat) (env0 env1 : List (Option LV)) : List (Option LV) :=
  env1.mapIdx fun j l => if j ∈ vs then (match env0[j]? with | some (some (.fz d)) => some (.fz d) | _ => none) else l
def lcLoop (vs : List Nat) (gm : D → ES → Option ES) (tst : M Bool) (elt : M D) : List D → List D → ES → Option (List D × ES)
  | [], acc, es => some (acc, es)
  | d :: ds, acc, es => match gm d { es with env := wipeE es.env vs } with
    | none => none
    | some es1 => match tst es1 with
      | some (.ok true es2) => match elt es2 with
        | some (.ok y es3) => lcLoop vs gm tst elt ds (acc ++ [y]) es3
        | _ => none
      | some (.ok false es2) => lcLoop vs gm tst elt ds acc es2
      | _ => none
def lcM (vs : List Nat) (fi : M (List D)) (gm : D → ES → Option ES) (tst : M Bool) (elt : M D) : M RV := M.bind fi fun ds es =>
  (lcLoop vs gm tst elt ds [] es).map fun p => .ok (.fr (.lst p.1)) { p.2 with env := backE vs es.env p.2.env }
section
variable {K : PySem.W.Frag} {cn : Wd} {o o' : Own} {H H' : Hp} {es es' : ES} {σ σ' : St} {p : Addr} {u : HO}
theorem Rel.wipe {vs : List Nat} (R : Rel K cn o H es σ) : Rel K cn o H { es with env := wipeE es.env vs } (wipe σ vs) := by
  refine ⟨by rw [wipe_length, wipeE_length]; exact R.len, fun i l h => ?_, R.g⟩
  rw [wipeE_get] at h
  by_cases hi : i ∈ vs
  · rw [if_pos hi] at h; split at h <;> cases h
  · rw [if_neg hi] at h
    have q := R.slots i l h
    have e : (L2.wipe σ vs)[i]? = σ[i]? := by rw [wipe_get, if_neg hi]
    cases l with
    | fz d => obtain ⟨v, e1, h1⟩ := q; exact ⟨v, e.trans e1, h1⟩
    | ow d => obtain ⟨v, e1, h1⟩ := q; exact ⟨v, e.trans e1, h1⟩
theorem Rel.back {vs : List Nat} (x : Ext o H o' H') (R : Rel K cn o H es σ) (hw : L2.wipe σ' vs = L2.wipe σ vs) (R' : Rel K cn o' H' es' σ') : Rel K cn o' H' { es' with env := backE vs es.env es'.env } σ := by
  refine ⟨by show σ.length = (backE vs es.env es'.env).length; unfold backE; rw [List.length_mapIdx, ← R'.len]; exact (wipe_len_eq hw).symm, fun i l h => ?_, R'.g⟩
  have h : (backE vs es.env es'.env)[i]? = some (some l) := h
  unfold backE at h
  rw [List.getElem?_mapIdx] at h
  cases e1 : es'.env[i]? with
  | none => rw [e1] at h; cases h
  | some l1 =>
    rw [e1] at h
    simp only [Option.map_some, Option.some.injEq] at h
    by_cases hi : i ∈ vs
    · rw [if_pos hi] at h
      cases e2 : es.env[i]? with
      | none => rw [e2] at h; cases h
      | some l2 =>
        cases l2 with
        | none => rw [e2] at h; cases h
        | some l2 =>
          cases l2 with
          | ow d => rw [e2] at h; cases h
          | fz d =>
            rw [e2] at h
            cases h
            obtain ⟨v, e3, h3⟩ := R.slots i _ e2
            exact ⟨v, e3, h3.ext x⟩
    · rw [if_neg hi] at h
      subst h
      have q := R'.slots i l e1
      have e : σ'[i]? = σ[i]? := wipe_at hw hi
      cases l with
      | fz d => obtain ⟨v, e1, h1⟩ := q; exact ⟨v, e.symm.trans e1, h1⟩
      | ow d => obtain ⟨v, e1, h1⟩ := q; exact ⟨v, e.symm.trans e1, h1⟩
/-- what nobody holds yet is written -/
theorem Dr.writeT {c : HO} {v : V} {d : D} (ht : o.tg p = some .oth) (h : Dr K cn o H v d) : Dr K cn o (upd H p c) v d := by
  have hx : Ext (o.put p (some (.slot 0))) H o (upd H p c) := ⟨fun a u h t => by
      have ne : a ≠ p := fun e => by subst e; rw [put_same] at t; cases t
      rw [put_ne ne] at t; rw [upd_ne ne]; exact ⟨t, h⟩,
    fun a u h t => by
      have ne : a ≠ p := fun e => by subst e; rw [put_same] at t; cases t
      rw [put_ne ne] at t; rw [upd_ne ne]; exact ⟨t, h⟩,
    fun n t => by
      have ne : o.bx n ≠ p := fun e => by
        have t : (o.put p (some (.slot 0))).tg (o.bx n) = some (.box n) := t
        rw [e, put_same] at t; cases t
      have t : (o.put p (some (.slot 0))).tg (o.bx n) = some (.box n) := t
      rw [put_ne ne] at t
      exact ⟨rfl, t⟩,
    fun a u h => by
      by_cases e : a = p
      · subst e; exact ⟨_, upd_same⟩
      · exact ⟨u, by rw [upd_ne e]; exact h⟩⟩
  exact (h.less (less_retag ht)).ext hx
theorem DrAll.writeT {c : HO} (ht : o.tg p = some .oth) : ∀ {vs ds}, DrAll K cn o H vs ds → DrAll K cn o (upd H p c) vs ds
  | _, _, .nil => .nil
  | _, _, .cons a b => .cons (a.writeT ht) (DrAll.writeT ht b)
theorem Rel.writeT {c : HO} (R : Rel K cn o H es σ) (ht : o.tg p = some .oth) (hc : NE c) (hn : NT c := by intro _ z; cases z) : Rel K cn o (upd H p c) es σ := by
  have k : ∀ {v d}, Dr K cn o H v d → Dr K cn o (upd H p c) v d := fun h => h.writeT ht
  have ka : ∀ {vs ds}, DrAll K cn o H vs ds → DrAll K cn o (upd H p c) vs ds := fun h => h.writeT ht
  have nt : ∀ a t, t ≠ .oth → o.tg a = some t → a ≠ p := fun a t hn h e => by subst e; rw [ht] at h; cases h; exact hn rfl
  have kc : ∀ {q d}, q ≠ p → Cont K cn o H q d → Cont K cn o (upd H p c) q d := by
    intro q d hq h
    cases d with
    | lst ds => obtain ⟨xs, h1, hl, h2⟩ := h; exact ⟨xs, by rw [upd_ne hq]; exact h1, hl, ka h2⟩
    | dct t ks vs =>
      rcases h with ⟨kvs, h1, hl, h2, h3⟩ | ⟨kvs, h1, hl, h2, h3⟩
      · exact .inl ⟨kvs, by rw [upd_ne hq]; exact h1, hl, h2, ka h3⟩
      · exact .inr ⟨kvs, by rw [upd_ne hq]; exact h1, hl, h2, ka h3⟩
    | _ => exact h.elim
  have pl : ∀ {n k' v l}, PlOk K cn o H (.sub n k') v l → PlOk K cn o (upd H p c) (.sub n k') v l := fun {n k' v l} q => by
    cases l with
    | fz d => exact k q
    | ow d => obtain ⟨p', e, h1, h2⟩ := q; exact ⟨p', e, h1, kc (nt _ _ (by simp) h1) h2⟩
  have pa : ∀ {n vs ls k'}, PlAll K cn o H n k' vs ls → PlAll K cn o (upd H p c) n k' vs ls := by
    intro n vs
    induction vs with
    | nil => intro ls k' q; cases ls with | nil => trivial | cons _ _ => exact q.elim
    | cons v vs ih => intro ls k' q; cases ls with | nil => exact q.elim | cons l ls => exact ⟨pl q.1, ih q.2⟩
  refine ⟨R.len, fun i l h => ?_, ⟨fun n b hb => ?_, fun a t h => ?_, fun a ps h => ?_, fun q hq => ?_⟩⟩
  · have q := R.slots i l h
    cases l with
    | fz d => obtain ⟨v, e, h⟩ := q; exact ⟨v, e, k h⟩
    | ow d => obtain ⟨p', e, h1, h2⟩ := q; exact ⟨p', e, h1, kc (nt _ _ (by simp) h1) h2⟩
  · obtain ⟨h1, h2⟩ := R.g.boxes n b hb
    refine ⟨h1, ?_⟩
    have ne := nt _ _ (by simp) h1
    cases b with
    | stm c l m x => obtain ⟨q, a1, a2, a3⟩ := h2; exact ⟨q, by rw [upd_ne ne]; exact a1, a2, by rw [upd_ne (nt _ _ (by simp) a2)]; exact a3⟩
    | obj c ns vs => obtain ⟨dx, fs, a1, a2, a3⟩ := h2; exact ⟨dx, fs, by rw [upd_ne ne]; exact a1, a2, pa a3⟩
    | row vs => obtain ⟨xs, a1, a3⟩ := h2; exact ⟨xs, by rw [upd_ne ne]; exact a1, pa a3⟩
  · by_cases e : a = p
    · subst e; exact ⟨_, upd_same, hc⟩
    · obtain ⟨u, hu, n⟩ := R.g.trk a t h
      exact ⟨u, by rw [upd_ne e]; exact hu, n⟩
  · by_cases e : a = p
    · subst e; rw [upd_same] at h; exact (hn ps (Option.some.inj h)).elim
    · rw [upd_ne e] at h; exact R.g.nt a ps h
  · obtain ⟨h1, ps, h2, h3, h4⟩ := R.g.tabs q hq
    refine ⟨h1, ps, by rw [upd_ne (nt _ _ (by simp) h1)]; exact h2, h3, fun pos cv hcv => ?_⟩
    obtain ⟨c', rfl, hc'⟩ := h4 pos cv hcv
    have hn := R.g.code hc'
    exact ⟨c', rfl, by rw [upd_ne (fun z => by rw [z, ht] at hn; cases hn)]; exact hc'⟩
theorem Ext.writeT {o0 : Own} {H0 : Hp} {c : HO} (x : Ext o0 H0 o H) (h0 : H0 p = none) : Ext o0 H0 o (upd H p c) :=
  ⟨fun a u h t => by obtain ⟨t1, h1⟩ := x.fz a u h t; rw [upd_ne (ne_of_none h h0)]; exact ⟨t1, h1⟩, fun a u h t => by obtain ⟨t1, h1⟩ := x.oth a u h t; rw [upd_ne (ne_of_none h h0)]; exact ⟨t1, h1⟩, x.bx,
    fun a u h => by rw [upd_ne (ne_of_none h h0)]; exact x.trk a u h⟩
end

def DTs (X : Cx) (cn : Wd) (ifs : List Expr) (f : M Bool) : Prop := ∀ Wx, Takes X Wx → PTs X ifs (tT X.K cn Wx f)
section
variable {X : Cx} {cn : Wd} {e tg : Expr} {f : M RV} {pos : Pos}
theorem DTs.nil : DTs X cn [] (M.ret true) := by
  intro Wx tk
  refine ⟨fun pins s σ H Q I h => pts_nil.run pins s σ H Q I ?_⟩
  obtain ⟨o, es, r, R, h, hp⟩ := h
  cases h
  exact hp o H Ext.refl R
theorem DTs.one {c : Expr} {g : M Bool} (h : DT X cn c g) : DTs X cn [c] g := fun Wx tk => pts_one (h Wx tk)
theorem takesF {X : Cx} : Takes X (fun _ _ _ _ => False) := fun _ _ x => by
  obtain ⟨_, _, _, _, _, _, _, _, _, _, _, _, _, _, _, _, z⟩ := x
  exact z.elim
theorem tLc_of {K : PySem.W.Frag} {Wx : WX} {fi : M (List D)} {gm : D → ES → Option ES} {g : TG} {tst : M Bool} {elt : M D} {vs : List Nat} {σ : St} {H : Hp} {Q : VK}
    (qg : ∀ (o : Own) (H : Hp) (es es' : ES) (σ : St) (v : V) (d : D) (Q : St → Hp → Prop), Rel K cn o H es σ → Dr K cn o H v d → gm d es = some es' → (∀ σ', L2.wipe σ' vs = L2.wipe σ vs → Rel K cn o H es' σ' → Q σ' H) → g v σ H Q)
    (h : tE K cn Wx (lcM vs fi gm tst elt) σ H Q) : tLc (tI K cn Wx fi) g (tT K cn (fun _ _ _ _ => False) tst) (tL K cn (fun _ _ _ _ => False) elt) vs σ H Q := by
  obtain ⟨o, es, r, R, h, hpost⟩ := h
  rcases M.bind_some h with ⟨x, es1, e, rfl⟩ | ⟨ds, es1, e, h⟩
  · exact ⟨o, es, _, R, e, hpost⟩
  refine ⟨o, es, _, R, e, fun o1 H1 J x1 R1 hlen it Da nD => ?_⟩
  cases eL : lcLoop vs gm tst elt ds [] es1 with
  | none => rw [eL] at h; cases h
  | some p =>
    obtain ⟨accE, esE⟩ := p
    rw [eL] at h
    cases h
    obtain ⟨RD, xD⟩ := R1.newT (u := .lst []) nD trivial
    have nD0 : H Da = none := by
      cases q : H Da with
      | none => rfl
      | some u => obtain ⟨u', h'⟩ := x1.trk _ u q; rw [nD] at h'; cases h'
    refine ⟨fun i m H => m = ds.length - i ∧ i ≤ ds.length ∧ ∃ o es σi acc accD, Ext o1 H1 o H ∧ L2.wipe σi vs = L2.wipe σ vs ∧ Rel K cn o H es σi ∧ o.tg Da = some .oth ∧ H Da = some (.lst acc) ∧ DrAll K cn o H acc accD ∧ accD.length ≤ i ∧
        lcLoop vs gm tst elt (ds.drop i) accD es = some (accE, esE), ⟨ds.length, by simp, Nat.zero_le _, _, es1, σ, [], [], xD, rfl, RD, put_same, upd_same, .nil, Nat.le_refl _, eL⟩, ?_⟩
    rintro i m H' ⟨rfl, hil, o', es', σi, acc, accD, x', hw, R', ht, hD, hacc, hal, hl⟩
    obtain ⟨go, stop⟩ := it o' H' es' σi x' R'
    by_cases hlt : i < ds.length
    · have ed : ds[i]? = some ds[i] := List.getElem?_eq_getElem hlt
      obtain ⟨g1, y1⟩ := go i _ ed
      rw [List.drop_eq_getElem_cons hlt] at hl
      refine .inr ⟨g1, fun H2 => ∃ o es σi acc accD, Ext o1 H1 o H2 ∧ L2.wipe σi vs = L2.wipe σ vs ∧ Rel K cn o H2 es σi ∧ o.tg Da = some .oth ∧ H2 Da = some (.lst acc) ∧ DrAll K cn o H2 acc accD ∧ accD.length ≤ i + 1 ∧
        lcLoop vs gm tst elt (ds.drop (i + 1)) accD es = some (accE, esE), fun H2 q => ⟨ds.length - (i + 1), by omega, rfl, hlt, q⟩, fun v H2 hy => ?_⟩
      obtain ⟨dr, x2, k2, keep2⟩ := y1 v H2 hy
      unfold lcLoop at hl
      cases e1 : gm ds[i] { es' with env := wipeE es'.env vs } with
      | none => rw [e1] at hl; cases hl
      | some es2 =>
        rw [e1] at hl
        have Rw := (k2 _ _ R').wipe (vs := vs)
        rw [hw] at Rw
        refine qg o' H2 _ es2 _ v _ _ Rw dr e1 fun σ2 w2 R2 => ⟨?_, ?_⟩
        · rw [w2]
          exact wipe_ext (by rw [wipe_length]) fun j hj => by rw [wipe_get, if_neg hj]
        have w2' : L2.wipe σ2 vs = L2.wipe σ vs := by
          rw [w2]
          exact wipe_ext (by rw [wipe_length]) fun j hj => by rw [wipe_get, if_neg hj]
        cases e2 : tst es2 with
        | none => simp only [e2] at hl; cases hl
        | some rb =>
          cases rb with
          | ex x es3 => simp only [e2] at hl; cases hl
          | ok b es3 =>
            refine ⟨o', es2, _, R2, e2, fun o3 H3 x3 R3 => ?_⟩
            have hD2 : H2 Da = some (.lst acc) := keep2 _ _ hD
            obtain ⟨ht3, hD3⟩ := x3.oth Da _ hD2 ht
            have x13 := (x'.trans x2).trans x3
            have hacc3 := (hacc.ext x2).ext x3
            cases b with
            | false =>
              simp only [e2] at hl
              refine iteF ?_
              exact ⟨o3, es3, σ2, acc, accD, x13, w2', R3, ht3, hD3, hacc3, by omega, hl⟩
            | true =>
              simp only [e2] at hl
              refine iteT ?_
              cases e3 : elt es3 with
              | none => simp only [e3] at hl; cases hl
              | some ry =>
                cases ry with
                | ex x es4 => simp only [e3] at hl; cases hl
                | ok y es4 =>
                  simp only [e3] at hl
                  refine ⟨o3, es3, _, R3, e3, fun o4 H4 w x4 R4 dw => ?_⟩
                  obtain ⟨ht4, hD4⟩ := x4.oth Da _ hD3 ht3
                  have hacc4 := hacc3.ext x4
                  refine ⟨acc, hD4, by rw [hacc4.length]; omega, o4, es4, σ2, acc ++ [w], accD ++ [y], (x13.trans x4).writeT nD, w2', R4.writeT ht4 trivial, ht4, upd_same, (hacc4.append (.cons dw .nil)).writeT ht4, by simp; omega, hl⟩
    · have ei : i = ds.length := by omega
      subst ei
      rw [List.drop_length] at hl
      cases hl
      refine .inl ⟨stop, hpost o' H' (.ref Da) (x1.trans x') (R1.back x' hw R') ⟨Da, rfl, nD0, ht, acc, hD, by rw [hacc.length]; omega, hacc⟩⟩
theorem DE.lc {iter elt : Expr} {ifs : List Expr} {scope : Scope} {own : List (Str × Nat)} {fi : M (List D)} {gm : D → ES → Option ES} {g : TG} {tst : M Bool} {fe : M D} (hc : X.calm = true) (hN : X.N.Nodup) (hi : DI X cn tg iter fi) (ok : BlkOk X.N X.env.scope scope own)
    (hg : ∀ (s : Shared) (H : Hp) (C : Addr) (cl : List (Str × Addr)) (fp : List Addr), DG (X.blk s H scope (compEnvC scope cl C X.env) fp) cn tg (own.map (·.2)) gm g)
    (ht : ∀ (s : Shared) (H : Hp) (C : Addr) (cl : List (Str × Addr)) (fp : List Addr), DTs (X.blk s H scope (compEnvC scope cl C X.env) fp) cn ifs tst)
    (he : ∀ (s : Shared) (H : Hp) (C : Addr) (cl : List (Str × Addr)) (fp : List Addr), DL (X.blk s H scope (compEnvC scope cl C X.env) fp) cn elt fe)
    (hs : ∀ x, foldedSetIterable iter X.env x = pure x) : DE X cn (.ListComp elt [⟨tg, iter, ifs, 0⟩] scope pos) (lcM (own.map (·.2)) fi gm tst fe) := by
  intro Wx tk
  refine ⟨fun pins s σ H Q I h => (pe_lc (tt := tT X.K cn (fun _ _ _ _ => False) tst) (te := tL X.K cn (fun _ _ _ _ => False) fe) hc hN (hi Wx tk) ok (fun s H C cl fp => (hg s H C cl fp).1) (fun s H C cl fp => ht s H C cl fp _ takesF) (fun s H C cl fp => he s H C cl fp _ takesF) hs).run pins s σ H Q I ?_⟩
  exact tLc_of (hg s H 0 [] []).2 h
end
end Dl
end
section
set_option Elab.async false
set_option linter.all false
set_option maxRecDepth 100000
set_option maxHeartbeats 2000000
/-! DlH: sources of loops: lists, tuples, texts, range, enumerate, zip; calls of the program's own defs. -/
namespace Dl
open PySem PySem.Spec PyProof.Rows L2

section
variable {K : PySem.W.Frag} {cn : Wd} {o o' : Own} {H H' : Hp} {es : ES} {σ : St} {a : Addr} {xs : List V} {ds : List D} {v : V} {d : D}
theorem FzL.ext (x : Ext o H o' H') (h : FzL K o H a xs) : FzL K o' H' a xs := ⟨x.rd h.1.1 h.1.2, h.2⟩
theorem FzT.ext (x : Ext o H o' H') (h : FzT K o H a xs) : FzT K o' H' a xs := ⟨x.rd h.1.1 h.1.2, h.2⟩
/-- a frozen list or tuple -/
def FzK (k : Bool) (K : PySem.W.Frag) (o : Own) (H : Hp) (a : Addr) (xs : List V) : Prop := if k = true then FzL K o H a xs else FzT K o H a xs
theorem FzK.ext {k : Bool} (x : Ext o H o' H') (h : FzK k K o H a xs) : FzK k K o' H' a xs := by cases k; exact FzT.ext (K := K) x h; exact FzL.ext (K := K) x h
theorem FzK.sq {k : Bool} (h : FzK k K o H a xs) : SqK k K H a xs := by cases k; exact FzT.sq h; exact FzL.sq h
theorem FzK.le {k : Bool} (h : FzK k K o H a xs) : xs.length ≤ sizeLine := by cases k; exact h.2; exact h.2
/-- the data of a sequence -/
def seqD : D → Option (List D)
  | .lst ds => some ds
  | .tup ds => some ds
  | .str x => some (x.cps.toList.map fun c => D.str ⟨#[c]⟩)
  | _ => none
def seqLT : D → Option (List D)
  | .lst ds => some ds
  | .tup ds => some ds
  | _ => none
theorem seqLT_of (h : Dr K cn o H v d) (e : seqLT d = some ds) : ∃ k a xs, v = .ref a ∧ FzK k K o H a xs ∧ DrAll K cn o H xs ds := by
  cases h with
  | lst h t => cases e; exact ⟨true, _, _, rfl, h, t⟩
  | tup h t => cases e; exact ⟨false, _, _, rfl, h, t⟩
  | _ => cases e
theorem itOk_same {J : It} (n : ∀ o H es σ, Ext o' H' o H → Rel K cn o H es σ → (∀ i d, ds[i]? = some d → J.go i H ∧ ∀ x H2, J.yld i H x H2 → H2 = H ∧ Dr K cn o H x d) ∧ J.stop ds.length H) : ItOk K cn o' H' J ds := by
  intro o H es σ x R
  obtain ⟨g, s⟩ := n o H es σ x R
  refine ⟨fun i d hd => ⟨(g i d hd).1, fun y H2 hy => ?_⟩, s⟩
  obtain ⟨rfl, dr⟩ := (g i d hd).2 y H2 hy
  exact ⟨dr, Ext.refl, fun _ _ R => R, fun _ _ h => h⟩
theorem itOk_list (h : FzL K o' H' a xs) (t : DrAll K cn o' H' xs ds) : ItOk K cn o' H' (Itl K a) ds := by
  refine itOk_same fun o H es σ x R => ⟨fun i d hd => ?_, xs, (h.ext x).sq, by rw [t.length]; exact Nat.le_refl _⟩
  obtain ⟨v, hv, dv⟩ := (t.ext x).getD hd
  refine ⟨⟨xs, v, (h.ext x).sq, hv⟩, fun y H2 hy => ?_⟩
  obtain ⟨e, hy⟩ := hy
  have e2 := hy xs (h.ext x).sq
  rw [hv] at e2
  cases e2
  exact ⟨e, dv⟩
theorem itOk_tup (h : FzT K o' H' a xs) (t : DrAll K cn o' H' xs ds) : ItOk K cn o' H' (Itt K a) ds := by
  refine itOk_same fun o H es σ x R => ⟨fun i d hd => ?_, xs, (h.ext x).sq, by rw [t.length]; exact Nat.le_refl _⟩
  obtain ⟨v, hv, dv⟩ := (t.ext x).getD hd
  refine ⟨⟨xs, v, (h.ext x).sq, hv⟩, fun y H2 hy => ?_⟩
  obtain ⟨e, hy⟩ := hy
  have e2 := hy xs (h.ext x).sq
  rw [hv] at e2
  cases e2
  exact ⟨e, dv⟩
theorem itOk_str (x : Str) : ItOk K cn o' H' (Its x) (x.cps.toList.map fun c => D.str ⟨#[c]⟩) := by
  refine itOk_same fun o H es σ _ R => ⟨fun i d hd => ?_, by show x.cps.size ≤ _; simp⟩
  rw [List.getElem?_map] at hd
  cases ec : x.cps.toList[i]? with
  | none => rw [ec] at hd; cases hd
  | some c =>
    rw [ec] at hd
    cases hd
    refine ⟨by show i < x.cps.size; have := (List.getElem?_eq_some_iff.mp ec).1; simpa using this, fun y H2 hy => ?_⟩
    obtain ⟨e, c', hc', rfl⟩ := hy
    have : x.cps.toList[i]? = some c' := by simpa using hc'
    rw [ec] at this
    cases this
    exact ⟨e, .str _ (by show 1 ≤ sizeLine; decide)⟩
theorem itOk_range (lo : Int) (n : Nat) : ItOk K cn o' H' (Itr lo n) ((List.range n).map fun i => D.int (lo + (i : Nat))) := by
  refine itOk_same fun o H es σ _ R => ⟨fun i d hd => ?_, by show n ≤ _; simp⟩
  rw [List.getElem?_map] at hd
  by_cases hi : i < n
  · rw [List.getElem?_range hi] at hd
    cases hd
    refine ⟨hi, fun y H2 hy => ?_⟩
    obtain ⟨e, rfl⟩ := hy
    exact ⟨e, .int _⟩
  · rw [List.getElem?_eq_none (by simp; omega)] at hd; cases hd
def enumD (k0 : Int) (ds : List D) : List D := ds.mapIdx fun i d => .tup [.int (k0 + (i : Nat)), d]
theorem itOk_enum {k : Bool} {k0 : Int} (h : FzK k K o' H' a xs) (t : DrAll K cn o' H' xs ds) : ItOk K cn o' H' (IteK k K k0 a) (enumD k0 ds) := by
  intro o H es σ x R
  refine ⟨fun i d hd => ?_, xs, (h.ext x).sq, by unfold enumD; rw [List.length_mapIdx]; exact t.length⟩
  unfold enumD at hd
  rw [List.getElem?_mapIdx] at hd
  cases ed : ds[i]? with
  | none => rw [ed] at hd; cases hd
  | some d0 =>
    rw [ed] at hd
    cases hd
    obtain ⟨v, hv, dv⟩ := (t.ext x).getD ed
    refine ⟨⟨xs, v, (h.ext x).sq, hv⟩, fun y H2 hy => ?_⟩
    obtain ⟨T, y', rfl, nT, rfl, hy⟩ := hy
    have e2 := hy xs (h.ext x).sq
    rw [hv] at e2
    cases e2
    have hl : [V.int (k0 + (i : Nat)), v].length ≤ sizeLine := by show 2 ≤ sizeLine; decide
    obtain ⟨R1, x1, d1⟩ := new_tup (ds := [.int (k0 + (i : Nat)), d0]) R nT (.cons (.int _) (.cons dv .nil)) hl
    exact ⟨d1, x1, fun _ _ R => (R.new nT).1, fun b u hb => by rw [upd_ne (ne_of_none hb nT)]; exact hb⟩
def zipD (as bs : List D) : List D := (as.zip bs).map fun p => .tup [p.1, p.2]
theorem itOk_zip {k1 k2 : Bool} {b : Addr} {ys : List V} {es' : List D} (h : FzK k1 K o' H' a xs) (t : DrAll K cn o' H' xs ds) (h2 : FzK k2 K o' H' b ys) (t2 : DrAll K cn o' H' ys es') : ItOk K cn o' H' (ItzK k1 k2 K a b) (zipD ds es') := by
  intro o H es σ x R
  refine ⟨fun i d hd => ?_, xs, ys, (h.ext x).sq, (h2.ext x).sq, by unfold zipD; simp [t.length, t2.length]⟩
  unfold zipD at hd
  rw [List.getElem?_map] at hd
  cases ed : (ds.zip es')[i]? with
  | none => rw [ed] at hd; cases hd
  | some p =>
    rw [ed] at hd
    cases hd
    obtain ⟨e1, e2⟩ := List.getElem?_zip_eq_some.mp ed
    obtain ⟨v, hv, dv⟩ := (t.ext x).getD e1
    obtain ⟨w, hw, dw⟩ := (t2.ext x).getD e2
    refine ⟨⟨xs, ys, v, w, (h.ext x).sq, (h2.ext x).sq, hv, hw⟩, fun y H2 hy => ?_⟩
    obtain ⟨T, y1, y2, rfl, nT, rfl, hy1, hy2⟩ := hy
    have q1 := hy1 xs (h.ext x).sq
    have q2 := hy2 ys (h2.ext x).sq
    rw [hv] at q1
    rw [hw] at q2
    cases q1
    cases q2
    have hl : [v, w].length ≤ sizeLine := by show 2 ≤ sizeLine; decide
    obtain ⟨R1, x1, d1⟩ := new_tup (ds := [p.1, p.2]) R nT (.cons dv (.cons dw .nil)) hl
    exact ⟨d1, x1, fun _ _ R => (R.new nT).1, fun b u hb => by rw [upd_ne (ne_of_none hb nT)]; exact hb⟩
end
section
variable {X : Cx} {cn : Wd} {e e2 tg : Expr} {f f2 : M RV} {pos p : Pos}
/-- a list, a tuple, a text -/
theorem pi_any {l : Expr} {tl : TE} (hl : PE X l tl) : PI X tg l (fun σ H R => tl σ H fun x H1 => (∃ a, x = .ref a ∧ (∃ xs, SqL X.K H1 a xs) ∧ R (Itl X.K a) H1) ∨ (∃ a, x = .ref a ∧ (∃ xs, SqT X.K H1 a xs) ∧ R (Itt X.K a) H1) ∨ ∃ z, x = .str z ∧ R (Its z) H1) := by
  refine ⟨fun pins s σ H R I h => ?_⟩
  refine thn (hl.run pins s σ H _ I h) fun v s1 ⟨x, H1, I1, r1, q1⟩ => ?_
  rcases q1 with ⟨a, e, ⟨xs, hq⟩, q⟩ | ⟨a, e, ⟨xs, hq⟩, q⟩ | ⟨z, e, q⟩
  · subst e
    cases r1
    obtain ⟨its, rv, p, hz⟩ := I1.list hq
    refine wpAny_pyIter_list p.isList ?_
    refine ⟨s1.heap.objs.size, [s1.heap.objs.size], _, _, H1, rfl, I1.kept (t' := s1.toks) fun b o e => Heap.get?_push_of_some _ e, turn_list a _, ⟨_, Heap.get?_push_size _ rfl, rfl, rfl⟩, fun b hb => ?_, q⟩
    have e : b = s1.heap.objs.size := by simpa using hb
    subst e
    exact I1.fpOk (Nat.le_refl _) (I1.hok.fresh (Nat.le_refl _))
  · subst e
    cases r1
    obtain ⟨its, rv, p, hz⟩ := I1.tuple hq
    refine wpAny_pyIter_tuple (show s1.heap.IsTuple a its.toArray from p) ?_
    refine ⟨s1.heap.objs.size, [s1.heap.objs.size], _, _, H1, rfl, I1.kept (t' := s1.toks) fun b o e => Heap.get?_push_of_some _ e, turn_tuple a _, ⟨_, Heap.get?_push_size _ rfl, rfl, rfl⟩, fun b hb => ?_, q⟩
    have e : b = s1.heap.objs.size := by simpa using hb
    subst e
    exact I1.fpOk (Nat.le_refl _) (I1.hok.fresh (Nat.le_refl _))
  · subst e
    obtain ⟨t, rfl⟩ := r1
    cases ha : z.cps.all (· < 128)
    · exact wpAny_pyIter_wide ha (pi_one (tk := s1.toks) I1 _ (turn_str _ z t "str_iterator" (.inr rfl)) ⟨_, Heap.get?_push_size _ rfl, rfl, rfl⟩ q)
    · exact wpAny_pyIter_ascii ha (pi_one (tk := s1.toks) I1 _ (turn_str _ z t "str_ascii_iterator" (.inl rfl)) ⟨_, Heap.get?_push_size _ rfl, rfl, rfl⟩ q)
theorem pi_i {tg iter : Expr} {w w' : TI} (h : PI X tg iter w) (i : ∀ σ H R, w' σ H R → w σ H R) : PI X tg iter w' := ⟨fun p s σ H R I q => h.run p s σ H R I (i σ H R q)⟩
def seqM (g : M D) : M (List D) := M.bind g fun d => M.lift (seqD d)
theorem M.lift_some {α : Type} {a : Option α} {es : ES} {r : Res α} (h : M.lift a es = some r) : ∃ x, a = some x ∧ r = .ok x es := by
  cases a with
  | none => cases h
  | some x => cases h; exact ⟨x, rfl, rfl⟩
theorem DI.seq {g : M D} (h : DL X cn e g) : DI X cn tg e (seqM g) := by
  intro Wx tk
  refine pi_i (pi_any (h Wx tk)) fun σ H R h => ?_
  obtain ⟨o, es, r, R0, h, hp⟩ := h
  refine tL_step R0 h (post_ex hp) fun d es1 o1 H1 v x1 R1 V1 h => ?_
  obtain ⟨ds, ed, rfl⟩ := M.lift_some h
  cases V1 with
  | lst hq t => cases ed; exact .inl ⟨_, rfl, ⟨_, hq.sq⟩, hp _ _ _ x1 R1 (by rw [← t.length]; exact hq.2) (itOk_list hq t)⟩
  | tup hq t => cases ed; exact .inr (.inl ⟨_, rfl, ⟨_, hq.sq⟩, hp _ _ _ x1 R1 (by rw [← t.length]; exact hq.2) (itOk_tup hq t)⟩)
  | str x hx => cases ed; exact .inr (.inr ⟨_, rfl, hp _ _ _ x1 R1 (by simp only [List.length_map, Array.length_toList]; exact hx) (itOk_str x)⟩)
  | _ => cases ed
/-! ### range -/
def rngD (lo : Int) (n : Nat) : List D := (List.range n).map fun i => D.int (lo + (i : Nat))
def rng1 : List D → Option (List D)
  | [.int j] => if j ≤ 16777216 ∧ -16777216 ≤ j then some (rngD 0 j.toNat) else none
  | _ => none
def rng2 : List D → Option (List D)
  | [.int i, .int j] => if (j ≤ 16777216 ∧ -16777216 ≤ j) ∧ (i ≤ 16777216 ∧ 0 ≤ i) then some (rngD i (j - i).toNat) else none
  | _ => none
theorem pk_int {K o H v} {i : Int} (h : Pk K cn o H v (.int i)) : v = .int i := by
  cases h with
  | fz h => cases h; rfl
  | ow h => exact h.elim
theorem DI.range1 {a : Expr} {k : M (List RV)} (hg : Gl X "range") (hm : X.mg "range" = none) (ha : DA X cn [a] k) (hs : starEach [a] X.env = [(false, eval a X.env)]) :
    DI X cn tg (.Call (.Name "range" p) [a] [] pos) (M.bind k fun rs => M.bind (peeks rs) fun ds => M.lift (rng1 ds)) := by
  intro Wx tk
  refine pi_i (pi_range1 hg hm (ha Wx tk) hs) fun σ H R h => ?_
  obtain ⟨o, es, r, R0, h, hp⟩ := h
  refine tA_step R0 h (post_ex hp) fun rs es1 o1 H1 vs x1 R1 V1 h => ?_
  rcases M.bind_some h with ⟨y, es3, e, _⟩ | ⟨ds, es3, e, h⟩
  · obtain ⟨d, e', _⟩ := peeks_ok R1 V1 e; cases e'
  obtain ⟨ds', e', ps⟩ := peeks_ok R1 V1 e
  cases e'
  obtain ⟨zs, ez, rfl⟩ := M.lift_some h
  unfold rng1 at ez
  split at ez
  · rename_i j
    cases ps with
    | cons pj pt =>
      cases pt
      cases pk_int pj
      split at ez
      · rename_i hj
        cases ez
        refine ⟨j, rfl, by omega, by omega, hp _ _ _ x1 R1 (by unfold rngD; rw [line_eq]; simp; omega) ?_⟩
        exact itOk_range 0 j.toNat
      · cases ez
  · cases ez
theorem DI.range2 {a b : Expr} {k : M (List RV)} (hg : Gl X "range") (hm : X.mg "range" = none) (ha : DA X cn [a, b] k) (hs : starEach [a, b] X.env = [(false, eval a X.env), (false, eval b X.env)]) (hs2 : starEach [b] X.env = [(false, eval b X.env)]) :
    DI X cn tg (.Call (.Name "range" p) [a, b] [] pos) (M.bind k fun rs => M.bind (peeks rs) fun ds => M.lift (rng2 ds)) := by
  intro Wx tk
  refine pi_i (pi_range2 hg hm (ha Wx tk) hs hs2) fun σ H R h => ?_
  obtain ⟨o, es, r, R0, h, hp⟩ := h
  refine tA_step R0 h (post_ex hp) fun rs es1 o1 H1 vs x1 R1 V1 h => ?_
  rcases M.bind_some h with ⟨y, es3, e, _⟩ | ⟨ds, es3, e, h⟩
  · obtain ⟨d, e', _⟩ := peeks_ok R1 V1 e; cases e'
  obtain ⟨ds', e', ps⟩ := peeks_ok R1 V1 e
  cases e'
  obtain ⟨zs, ez, rfl⟩ := M.lift_some h
  unfold rng2 at ez
  split at ez
  · rename_i i j
    cases ps with
    | cons pi pt =>
      cases pt with
      | cons pj pt =>
        cases pt
        cases pk_int pi
        cases pk_int pj
        split at ez
        · rename_i hj
          cases ez
          refine ⟨i, j, rfl, ⟨by omega, by omega, by omega, by omega⟩, hp _ _ _ x1 R1 (by unfold rngD; rw [line_eq]; simp; omega) ?_⟩
          exact itOk_range i (j - i).toNat
        · cases ez
  · cases ez
/-! ### enumerate, zip -/
theorem DI.enum1 {elts : List Expr} {kk : Nat} {tpos : Pos} {k : M (List D)} (hg : Gl X "enumerate") (hm : X.mg "enumerate" = none) (ha : DD X cn [e] k) (hs : starEach [e] X.env = [(false, eval e X.env)]) :
    DI X cn (.Tuple elts kk tpos) (.Call (.Name "enumerate" p) [e] [] pos) (M.bind k fun ds => M.lift (match ds with | [d] => (seqLT d).map (enumD 0) | _ => none)) := by
  intro Wx tk
  refine ⟨fun pins s σ H R I h => ?_⟩
  refine Call_ (ld_blt I hg hm boot_enumerate (PyProof.Rows.callWith_type1 (thn ((ha Wx tk).run pos pins s σ H (fun vs H1 => ∃ k a xs, vs = [.ref a] ∧ SqK k X.K H1 a xs ∧ R (IteK k X.K 0 a) H1) I ?_) fun us s1 ⟨vs, H1, I1, r1, q1⟩ => ?_) hs rfl))
  · obtain ⟨o, es, r, R0, h, hp⟩ := h
    refine tD_step R0 h (post_ex hp) fun ds es1 o1 H1 vs x1 R1 V1 h => ?_
    obtain ⟨zs, ez, rfl⟩ := M.lift_some h
    split at ez
    · rename_i d
      cases V1 with
      | cons hv ht =>
        cases ht
        cases el : seqLT d with
        | none => rw [el] at ez; cases ez
        | some es2 =>
          rw [el] at ez
          cases ez
          obtain ⟨k', a, xs, rfl, hq, t⟩ := seqLT_of hv el
          exact ⟨k', a, xs, rfl, hq.sq, hp _ _ _ x1 R1 (by unfold enumD; rw [List.length_mapIdx, ← t.length]; exact hq.le) (itOk_enum hq t)⟩
    · cases ez
  · obtain ⟨k', a, xs, rfl, hq, q⟩ := q1
    cases r1 with
    | cons r rr =>
      cases rr
      cases r
      exact enum_come1 I1 hq q
theorem DI.enum2 {elts : List Expr} {kk : Nat} {tpos : Pos} {k : M (List D)} (hg : Gl X "enumerate") (hm : X.mg "enumerate" = none) (ha : DD X cn [e, e2] k) (hs : starEach [e, e2] X.env = (false, eval e X.env) :: starEach [e2] X.env) (hpl : (backTo pos (starEach [e2] X.env)).any (·.1) = false) :
    DI X cn (.Tuple elts kk tpos) (.Call (.Name "enumerate" p) [e, e2] [] pos) (M.bind k fun ds => M.lift (match ds with | [d, .int j] => if -16777216 ≤ j ∧ j ≤ 16777216 then (seqLT d).map (enumD j) else none | _ => none)) := by
  intro Wx tk
  refine ⟨fun pins s σ H R I h => ?_⟩
  refine Call_ (ld_blt I hg hm boot_enumerate (PyProof.Rows.callWith_type1 (thn ((ha Wx tk).run pos pins s σ H (fun vs H1 => ∃ k a xs j, vs = [.ref a, .int j] ∧ SqK k X.K H1 a xs ∧ (-(2 ^ 63) ≤ j ∧ j < 2 ^ 63) ∧ R (IteK k X.K j a) H1) I ?_) fun us s1 ⟨vs, H1, I1, r1, q1⟩ => ?_) hs hpl))
  · obtain ⟨o, es, r, R0, h, hp⟩ := h
    refine tD_step R0 h (post_ex hp) fun ds es1 o1 H1 vs x1 R1 V1 h => ?_
    obtain ⟨zs, ez, rfl⟩ := M.lift_some h
    split at ez
    · rename_i d j
      cases V1 with
      | cons hv ht =>
        cases ht with
        | cons hj ht =>
          cases ht
          cases hj
          split at ez
          · rename_i hb
            cases el : seqLT d with
            | none => rw [el] at ez; cases ez
            | some es2 =>
              rw [el] at ez
              cases ez
              obtain ⟨k', a, xs, rfl, hq, t⟩ := seqLT_of hv el
              exact ⟨k', a, xs, j, rfl, hq.sq, by omega, hp _ _ _ x1 R1 (by unfold enumD; rw [List.length_mapIdx, ← t.length]; exact hq.le) (itOk_enum hq t)⟩
          · cases ez
    · cases ez
  · obtain ⟨k', a, xs, j, rfl, hq, hj, q⟩ := q1
    cases r1 with
    | cons r rr =>
      cases rr with
      | cons r' rr =>
        cases rr
        cases r
        obtain ⟨t, rfl⟩ := r'
        exact enum_come I1 hq hj.1 hj.2 q
theorem DI.zip {elts : List Expr} {kk : Nat} {tpos : Pos} {k : M (List D)} (hg : Gl X "zip") (hm : X.mg "zip" = none) (ha : DD X cn [e, e2] k) (hs : starEach [e, e2] X.env = (false, eval e X.env) :: starEach [e2] X.env) (hpl : (backTo pos (starEach [e2] X.env)).any (·.1) = false) :
    DI X cn (.Tuple elts kk tpos) (.Call (.Name "zip" p) [e, e2] [] pos) (M.bind k fun ds => M.lift (match ds with | [d, d'] => (seqLT d).bind fun as => (seqLT d').map fun bs => zipD as bs | _ => none)) := by
  intro Wx tk
  refine ⟨fun pins s σ H R I h => ?_⟩
  refine Call_ (ld_blt I hg hm PyProof.Rows.boot_zip (PyProof.Rows.callWith_type1 (thn ((ha Wx tk).run pos pins s σ H (fun vs H1 => ∃ k1 k2 a b xs ys, vs = [.ref a, .ref b] ∧ SqK k1 X.K H1 a xs ∧ SqK k2 X.K H1 b ys ∧ R (ItzK k1 k2 X.K a b) H1) I ?_) fun us s1 ⟨vs, H1, I1, r1, q1⟩ => ?_) hs hpl))
  · obtain ⟨o, es, r, R0, h, hp⟩ := h
    refine tD_step R0 h (post_ex hp) fun ds es1 o1 H1 vs x1 R1 V1 h => ?_
    obtain ⟨zs, ez, rfl⟩ := M.lift_some h
    split at ez
    · rename_i d d'
      cases V1 with
      | cons hv ht =>
        cases ht with
        | cons hw ht =>
          cases ht
          cases el : seqLT d with
          | none => rw [el] at ez; cases ez
          | some as =>
            cases el2 : seqLT d' with
            | none => rw [el, el2] at ez; cases ez
            | some bs =>
              rw [el, el2] at ez
              cases ez
              obtain ⟨k1, a, xs, rfl, hq, t⟩ := seqLT_of hv el
              obtain ⟨k2, b, ys, rfl, hq2, t2⟩ := seqLT_of hw el2
              have l1 := hq.le
              exact ⟨k1, k2, a, b, xs, ys, rfl, hq.sq, hq2.sq, hp _ _ _ x1 R1 (by unfold zipD; simp [← t.length]; omega) (itOk_zip hq t hq2 t2)⟩
    · cases ez
  · obtain ⟨k1, k2, a, b, xs, ys, rfl, hq, hq2, q⟩ := q1
    cases r1 with
    | cons r rr =>
      cases rr with
      | cons r' rr =>
        cases rr
        cases r
        cases r'
        exact zip_come I1 hq hq2 q
end
end Dl
end
section
set_option Elab.async false
set_option linter.all false
set_option maxRecDepth 100000
set_option maxHeartbeats 2000000
/-! DlI: defs called, their bodies; own errors raised; try with several clauses. -/
namespace Dl
open PySem PySem.Spec PyProof.Rows L2

/-- what a def does with data -/
inductive FR where
  | ok (d : D) (g : List Box) | ex (x : Ex) (g : List Box)
abbrev F := List D → List Box → Option FR
section
variable (K : PySem.W.Frag) (cn : Wd) (o : Own) (H : Hp) (Q : VK) (E : XK)
def PostF : FR → Prop
  | .ok d g' => ∀ o' H' v, Ext o H o' H' → RelG K cn o' H' g' → Dr K cn o' H' v d → Q v H'
  | .ex x g' => ∀ o' H' cls dx, Ext o H o' H' → RelG K cn o' H' g' → ExOk K cn o' H' cls dx x → E cls dx H'
end
def spD (K : PySem.W.Frag) (cn : Wd) (n : Nat) (f : F) : Sp := fun vs H Q E => ∃ o ds g r, RelG K cn o H g ∧ DrAll K cn o H vs ds ∧ ds.length = n ∧ f ds g = some r ∧ PostF K cn o H Q E r
theorem spD_len {K cn n f vs H Q E} (h : spD K cn n f vs H Q E) : vs.length = n := by obtain ⟨o, ds, g, r, _, h1, h2, _⟩ := h; rw [h1.length]; exact h2
/-- the owning as a callee sees it, and back -/
def Own.callee (o : Own) : Own := ⟨fun a => match o.tg a with | some (.slot _) => some .oth | t => t, o.bx⟩
def Own.merge (o o' : Own) : Own := ⟨fun a => match o.tg a with | some (.slot i) => some (.slot i) | _ => o'.tg a, o'.bx⟩
section
variable {K : PySem.W.Frag} {cn : Wd} {o o' o1 : Own} {H H' H1 : Hp} {es : ES} {σ : St} {g g' : List Box}
theorem less_callee : Own.Less o o.callee := ⟨fun a e => by show (match o.tg a with | some (.slot _) => some Tag.oth | t => t) = none; rw [e], fun n e => ⟨rfl, by show (match o.tg (o.bx n) with | some (.slot _) => some Tag.oth | t => t) = _; rw [e]⟩⟩
theorem callee_g (R : RelG K cn o H g) : RelG K cn o.callee H g := by
  refine R.tr less_callee (fun a t hb e => ?_) (fun a t e => ?_)
  · show (match o.tg a with | some (.slot _) => some Tag.oth | t => t) = _
    rw [e]
    cases t <;> first | rfl | exact hb.elim
  · have e : (match o.tg a with | some (.slot _) => some Tag.oth | t => t) = some t := e
    cases q : o.tg a with
    | none => rw [q] at e; cases e
    | some t' => exact R.trk a t' q
theorem merge_ok (R : Rel K cn o H es σ) (x : Ext o.callee H o' H') (G : RelG K cn o' H' g') :
    Ext o H (o.merge o') H' ∧ Rel K cn (o.merge o') H' { es with g := g' } σ ∧ Own.Less o' (o.merge o') := by
  have c_slot : ∀ {a i}, o.tg a = some (.slot i) → o.callee.tg a = some .oth := fun {a i} e => by show (match o.tg a with | some (.slot _) => some Tag.oth | t => t) = _; rw [e]
  have c_else : ∀ {a t}, (∀ i, t ≠ some (.slot i)) → o.tg a = t → o.callee.tg a = t := fun {a t} n e => by
    show (match o.tg a with | some (.slot _) => some Tag.oth | t => t) = _
    rw [e]
    cases t with
    | none => rfl
    | some t => cases t <;> first | rfl | exact absurd rfl (n _)
  have m_slot : ∀ {a i}, o.tg a = some (.slot i) → (o.merge o').tg a = some (.slot i) := fun {a i} e => by show (match o.tg a with | some (.slot i) => some (Tag.slot i) | _ => o'.tg a) = _; rw [e]
  have m_else : ∀ {a}, (∀ i, o.tg a ≠ some (.slot i)) → (o.merge o').tg a = o'.tg a := fun {a} n => by
    show (match o.tg a with | some (.slot i) => some (Tag.slot i) | _ => o'.tg a) = _
    cases e : o.tg a with
    | none => rfl
    | some t => cases t <;> first | rfl | exact absurd e (n _)
  have s_oth : ∀ {a i}, o.tg a = some (.slot i) → ∃ u, H a = some u ∧ o'.tg a = some .oth ∧ H' a = some u ∧ NE u := fun {a i} e => by
    obtain ⟨u, hu, n⟩ := R.g.trk a _ e
    obtain ⟨t, h⟩ := x.oth a u hu (c_slot e)
    exact ⟨u, hu, t, h, n⟩
  have n_slot : ∀ {a t}, o'.tg a = t → t ≠ some .oth → ∀ i, o.tg a ≠ some (.slot i) := fun {a t} e n i q => by
    obtain ⟨_, _, t', _, _⟩ := s_oth q
    rw [e] at t'
    exact n t'
  have L : Own.Less o' (o.merge o') := ⟨fun a e => (m_else (n_slot e (by simp))).trans e, fun n e => ⟨rfl, (m_else (n_slot e (by simp))).trans e⟩⟩
  have ex : Ext o H (o.merge o') H' :=
    ⟨fun a u h t => by
        obtain ⟨t1, h1⟩ := x.fz a u h (c_else (by simp) t)
        exact ⟨(m_else (fun i q => by rw [t] at q; cases q)).trans t1, h1⟩,
      fun a u h t => by
        obtain ⟨t1, h1⟩ := x.oth a u h (c_else (by simp) t)
        exact ⟨(m_else (fun i q => by rw [t] at q; cases q)).trans t1, h1⟩,
      fun n t => by
        obtain ⟨e1, t1⟩ := x.bx n (c_else (by simp) t)
        exact ⟨e1, (m_else (fun i q => by
          have t : o.tg (o.bx n) = some (.box n) := t
          have q : o.tg (o.bx n) = some (.slot i) := q
          rw [t] at q; cases q)).trans t1⟩,
      x.trk⟩
  refine ⟨ex, ⟨R.len, fun i l h => ?_, G.tr L (fun a t hb e => (m_else (n_slot e (by cases t <;> first | exact hb.elim | simp))).trans e) (fun a t e => ?_)⟩, L⟩
  · have q := R.slots i l h
    cases l with
    | fz d => obtain ⟨v, e, h⟩ := q; exact ⟨v, e, h.ext ex⟩
    | ow d =>
      obtain ⟨p, e, h1, h2⟩ := q
      obtain ⟨u, hu, _, hu', _⟩ := s_oth h1
      exact ⟨p, e, m_slot h1, h2.ext ex (hu'.trans hu.symm)⟩
  · by_cases hs : ∃ i, o.tg a = some (.slot i)
    · obtain ⟨i, hs⟩ := hs
      obtain ⟨u, _, _, hu', n⟩ := s_oth hs
      exact ⟨u, hu', n⟩
    · rw [m_else fun i q => hs ⟨i, q⟩] at e
      exact G.trk a t e
theorem ExOk.less {cls : Value} {d : Option Addr} {x : Ex} (L : Own.Less o o') (h : ExOk K cn o H cls d x) : ExOk K cn o' H cls d x := by
  obtain ⟨h1, h2⟩ := h
  refine ⟨h1, h2.imp id fun ⟨dx, fs, e1, e2, e3, e4⟩ => ⟨dx, fs, e1, e2, e3, e4.less L⟩⟩
end
/-- f(e, ..), by what f does with data -/
def runF (f : F) (ds : List D) : M D := fun es => match f ds es.g with
  | none => none
  | some (.ok d g') => some (.ok d { es with g := g' })
  | some (.ex x g') => some (.ex x { es with g := g' })
def callF (k : M (List D)) (f : F) : M D := M.bind k fun ds => runF f ds
theorem runF_ok {K : PySem.W.Frag} {cn : Wd} {Wx : WX} {o0 o : Own} {H0 H : Hp} {es : ES} {σ : St} {vs : List V} {ds : List D} {f : F} {n : Nat} {r : Res D} {Q : VK} (x1 : Ext o0 H0 o H) (R1 : Rel K cn o H es σ) (V1 : DrAll K cn o H vs ds) (hn : ∀ ds g r, f ds g = some r → ds.length = n)
    (h : runF f ds es = some r) (hp : Post K cn Wx o0 H0 σ (PL_ K cn o0 H0 σ Q) r) : spD K cn n f vs H Q (fun cls d H' => Wx cls d σ H') := by
  unfold runF at h
  cases e : f ds es.g with
  | none => rw [e] at h; cases h
  | some fr =>
    rw [e] at h
    refine ⟨o.callee, ds, es.g, fr, callee_g R1.g, V1.less less_callee, hn _ _ _ e, e, ?_⟩
    cases fr with
    | ok d g' =>
      cases h
      intro o' H' v x G dr
      obtain ⟨a1, a2, a3⟩ := merge_ok R1 x G
      exact hp _ H' v (x1.trans a1) a2 (dr.less a3)
    | ex y g' =>
      cases h
      intro o' H' cls dx x G dr
      obtain ⟨a1, a2, a3⟩ := merge_ok R1 x G
      exact hp _ H' cls dx (x1.trans a1) a2 (dr.less a3)
section
variable {X : Cx} {cn : Wd} {e : Expr} {es : List Expr} {pos p : Pos}
theorem DL.call {k n : Nat} {fa : Addr} {fd : FuncData} {ps : List Str} {f : F} {x : Str} {km : M (List D)} (FO : FnOk X.prog X.w X.K X.mg X.base (L2.CX X.prog X.w) k fa fd ps (spD X.K cn n f)) (hn : ∀ ds g r, f ds g = some r → ds.length = n) (hr : Room k X.A) (hg : Gl X x) (hm : X.mg x = some (.ref fa)) (hk : PySem.W.keepIn X.K (.ref fa) = true) (hb : Binds X.K fd ps [])
    (ha : DD X cn (e :: es) km) (hdb : (x == ("__debug__" : Str)) = false) (he : starEach (e :: es) X.env = (false, eval e X.env) :: starEach es X.env) (hpl : (backTo pos (starEach es X.env)).any (·.1) = false) : DL X cn (.Call (.Name x p) (e :: es) [] pos) (callF km f) := by
  intro Wx tk
  refine pe_i (pe_callSD (E := WE Wx) FO hr hg hm hk hb .nil (fun σ => passAt tk σ) (ha Wx tk) hdb he hpl) fun σ H Q h => ?_
  obtain ⟨o, es, r, R, h, hp⟩ := h
  refine tD_step R h (post_ex hp) fun ds es1 o1 H1 vs x1 R1 V1 h => ?_
  rw [List.append_nil]
  exact runF_ok x1 R1 V1 hn h hp
end
/-! ### a def's body -/
def startE (n : Nat) (ds : List D) (g : List Box) : ES := ⟨ds.map (fun d => some (.fz d)) ++ List.replicate (n - ds.length) none, g⟩
theorem start_rel {K : PySem.W.Frag} {cn : Wd} {o : Own} {H : Hp} {g : List Box} {vs : List V} {ds : List D} {N : List Str} (G : RelG K cn o H g) (dr : DrAll K cn o H vs ds) : Rel K cn o H (startE N.length ds g) (L2.start N vs) := by
  have hl := dr.length
  refine ⟨by unfold L2.start startE; simp [hl], fun i l h => ?_, G⟩
  unfold startE at h
  have h : (ds.map (fun d => some (LV.fz d)) ++ List.replicate (N.length - ds.length) none)[i]? = some (some l) := h
  by_cases hi : i < ds.length
  · rw [List.getElem?_append_left (by simpa using hi), List.getElem?_map] at h
    cases e : ds[i]? with
    | none => rw [e] at h; cases h
    | some d =>
      rw [e] at h
      cases h
      obtain ⟨v, hv, dv⟩ := dr.getD e
      refine ⟨v, ?_, dv⟩
      unfold L2.start
      rw [List.getElem?_append_left (by simp; omega), List.getElem?_map, hv]
      rfl
  · rw [List.getElem?_append_right (by simp; omega), List.getElem?_replicate] at h
    split at h <;> cases h
def toFR : SR → Option FR
  | .nx es => some (.ok .non es.g)
  | .rt d es => some (.ok d es.g)
  | .ex x es => some (.ex x es.g)
  | _ => none
/-- what a def does: its body's meaning, from its parameters -/
def bodyF (N : Nat) (n : Nat) (fb : S) : F := fun ds g => if ds.length = n then (fb (startE N ds g)).bind toFR else none
theorem bodyF_len {N n fb ds g r} (h : bodyF N n fb ds g = some r) : ds.length = n := by
  unfold bodyF at h
  split at h
  · assumption
  · cases h
section
variable {P : Program} {w : World} {K : PySem.W.Frag} {mg : Str → Option Value} {base : Heap} {cn : Wd}
theorem fn_D {x qual : Str} {st : Stmt} {f : Addr} {fd : FuncData} {N ps : List Str} {k : Nat} {fb : S} (FU : Fun K x qual st f fd) (Sc : FnScope N ps (defScope st))
    (hb : ∀ (cdv : Value) (A : Around) (outer : List Env) (s : Shared) (H : Hp) (E : XK), Room k (A.deeper (envOfC qual (defScope st) s.heap.objs.size f cdv)) → DSs (cxOf (L2.CX P w) P w K mg base N qual (defScope st) f cdv A outer s H E) cn (defBody st) fb) :
    FnOk P w K mg base (L2.CX P w) (k + 1) f fd ps (spD K cn ps.length (bodyF N.length ps.length fb)) := by
  refine FU.okX Sc (fun vs H Q E h => spD_len h) (fun cdv A outer s H vs Q E hr h => ?_)
  refine ⟨_, hb cdv A outer s H E hr (fun cls d _ H => E cls d H) (takes_of rfl rfl rfl rfl), ?_⟩
  obtain ⟨o, ds, g, r, G, dr, hl, hf, hp⟩ := h
  unfold bodyF at hf
  rw [if_pos hl] at hf
  cases e : fb (startE N.length ds g) with
  | none => rw [e] at hf; cases hf
  | some sr =>
    rw [e] at hf
    refine ⟨o, _, sr, start_rel G dr, e, ?_⟩
    cases sr with
    | nx es => cases hf; exact fun o' H' σ' x R' => hp o' H' .non x R'.g .non
    | rt d es => cases hf; exact fun o' H' v x G' dv => hp o' H' v x G' dv
    | ex y es => cases hf; exact fun o' H' σ' cls dx x R' ex => hp o' H' cls dx x R'.g ex
    | bk es => cases hf
    | ct es => cases hf
/-- a def told by another function on data that says as much -/
theorem fn_imp {k n : Nat} {f : Addr} {fd : FuncData} {ps : List Str} {f1 f2 : F} (FO : FnOk P w K mg base (L2.CX P w) k f fd ps (spD K cn n f1)) (h : ∀ ds g r, ds.length = n → f2 ds g = some r → f1 ds g = some r) : FnOk P w K mg base (L2.CX P w) k f fd ps (spD K cn n f2) :=
  FO.imp fun vs H Q E ⟨o, ds, g, r, G, dr, hl, hf, hp⟩ => ⟨o, ds, g, r, G, dr, hl, h ds g r hl hf, hp⟩
end
/-! ### raise X(e), X an own class whose __init__ stores its one argument -/
def spIni (C : Addr) (f : Str) : Sp := fun vs H Q _ => ∃ (a : Addr) (y : V), vs = [.ref a, y] ∧ H a = some (exo a C none) ∧ ∀ dx, H dx = none → dx ≠ a → Q .non (upd (upd H dx (exd dx [(f, y)])) a (exo a C (some dx)))
section
variable {X : Cx} {cn : Wd} {e : Expr} {pos pos2 p : Pos}
theorem DS.raise {x f : Str} {C fI : Addr} {k : Nat} {fd : FuncData} {ps : List Str} {km : M (List D)} (hc : X.calm = true) (T : OexC X.K C) (iC : PySem.W.findIn X.K (.ref C) "__init__" = some (some (.ref fI))) (tI : PySem.W.typeIn X.K (.ref fI) = some (.type "function"))
    (F1 : FnOk X.prog X.w X.K X.mg X.base (L2.CX X.prog X.w) k fI fd ps (spIni C f)) (hr : Room (k + 1) X.A) (hb : Binds X.K fd ps []) (hg : Gl X x) (hm : X.mg x = some (.ref C)) (hC : cn x = C) (ha : DD X cn [e] km)
    (hdb : (x == ("__debug__" : Str)) = false) (he : starEach [e] X.env = [(false, eval e X.env)]) : DS X cn (.Raise (some (.Call (.Name x p) [e] [] pos)) none pos2) (S.of km fun ds es => match ds with | [d] => some (.ex ⟨x, [f], [d]⟩ es) | _ => none) := by
  intro Wx tk
  have hx : Passes (L2.CX X.prog X.w) X (fun _ _ _ => False) := fun pins σ H s e s' I c => by
    obtain ⟨_, _, _, _, _, _, _, _, _, _, _, _, z⟩ := c
    exact z.elim
  refine ps_i (ps_raise hc tk (pmk_oex T iC tI F1 hr hb .nil hx hg hm (ha Wx tk) hdb (by rw [he]; rfl) rfl)) fun Dn σ H h => ?_
  obtain ⟨o, es, r, R, h, hp⟩ := h
  show tD X.K cn Wx km σ H _
  rcases S.of_some h with ⟨y, es1, e1, rfl⟩ | ⟨ds, es1, e1, h⟩
  · exact ⟨o, es, _, R, e1, postS_ex hp y es1 rfl⟩
  refine ⟨o, es, _, R, e1, fun o1 H1 vs x1 R1 V1 => ?_⟩
  split at h
  · rename_i d
    cases h
    cases V1 with
    | cons hv ht =>
      cases ht
      rename_i v
      refine ⟨by show 1 ≤ 1000; decide, fun a na => ⟨a, v, rfl, upd_same, fun dx nd ne => ⟨rfl, dx, [(f, v)], upd_same, by rw [upd_ne ne, upd_same], ?_, ?_⟩⟩⟩
      · rw [upd_ne ne] at nd; exact nd
      · have nd1 : H1 dx = none := by rw [upd_ne ne] at nd; exact nd
        have eH : upd (del (upd (upd (upd H1 a (exo a C none)) dx (exd dx [(f, v)])) a (exo a C (some dx))) a) dx (.xd [(f, v)]) = upd H1 dx (.xd [(f, v)]) := by
          funext b
          by_cases hb : b = dx
          · subst hb; rw [upd_same, upd_same]
          · rw [upd_ne hb, upd_ne hb]
            by_cases ha' : b = a
            · subst ha'; rw [del_same, na]
            · rw [del_ne ha', upd_ne ha', upd_ne hb, upd_ne ha']
        rw [eH]
        obtain ⟨R2, x2⟩ := R1.new (u := .xd [(f, v)]) nd1
        exact hp o1 _ σ _ _ (x1.trans x2) R2 ⟨by rw [hC], .inr ⟨dx, [(f, v)], rfl, upd_same, rfl, .cons (hv.ext x2) .nil⟩⟩
  · cases h
end
end Dl
end
section
set_option Elab.async false
set_option linter.all false
set_option maxRecDepth 100000
set_option maxHeartbeats 4000000
/-! DlJ: try with several clauses that name what they catch; a lambda handed to a def that calls it in a try. -/
namespace Dl
open PySem PySem.Spec PyProof.Rows L2

abbrev TSa := Addr → Value → Option Addr → TS
def wManyA (K : PySem.W.Frag) (Wout : WX) (D : Ends) (i : Nat) : List (Value × TSa) → WX
  | [] => Wout
  | (c, ts) :: r => fun cls d σ H => ∃ b, PySem.W.exmOne K cls c = some b ∧
      (b = true → ∀ a, H a = none → ts a cls d { nx := fun σ' H' => D.nx (σ'.set i none) H', rt := D.rt, bk := fun σ' H' => D.bk (σ'.set i none) H', ct := fun σ' H' => D.ct (σ'.set i none) H' } (σ.set i (some (.ref a))) H) ∧
      (b = false → wManyA K Wout D i r cls d σ H)
inductive HdsA (X : Cx) (n : Str) : List ExceptHandler → List (Value × TSa) → Prop
  | nil : HdsA X n [] []
  | cons {x : Str} {c : Value} {ts : TSa} {b₀ : Stmt} {suite : List Stmt} {np pos' : Pos} {hds : List ExceptHandler} {l : List (Value × TSa)} (hc : Names X x c)
      (hsu : ∀ (a : Addr) (oe : Obj) (cls : Value) (d : Option Addr) (pn : List (Addr × Obj)), Zc cls d oe → (∃ vs, oe.data = .fields vs) → PSs (X.suite a ((a, oe) :: pn)) (b₀ :: suite) (ts a cls d)) (r : HdsA X n hds l) :
      HdsA X n (.ExceptHandler (some (.Name x np)) (some n) (b₀ :: suite) pos' :: hds) ((c, ts) :: l)
section
variable {X : Cx} {n : Str} {i : Nat} {body : List Stmt} {h₀ : ExceptHandler} {hds : List ExceptHandler} {l : List (Value × TSa)} {pos : Pos} {tb : WX → TS} {Wout : WX}
theorem ps_try_manyA (hs : X.stack = X.env :: X.outer) (hf : X.env.frame = some X.env.locals) (hN : X.N.Nodup) (hi : X.N[i]? = some n) (hln : X.env.kindOf n = some .local) (tk : Takes X Wout)
    (hb : ∀ (W : WX) (pn : List (Addr × Obj)) (xe : Value → Shared → Prop), Takes (X.tr pn xe) W → PassesOwn (model X.prog X.w) X.A X.env xe → PSs (X.tr pn xe) body (tb W))
    (hh : HdsA X n (h₀ :: hds) l) : PS X (.Try body (h₀ :: hds) [] [] pos) (fun D σ H => tb (wManyA X.K Wout D i l) D σ H) := by
  refine ⟨fun pins s σ H D I h => ?_⟩
  have ok := I.ok
  have hfr : X.A.frames = some (X.env :: X.outer) := by rw [ok.frames, hs]
  have hloc : Loc X.env.scope n := .inl hln
  refine wpAny_Try_except (wpAny_mono ((hb (wManyA X.K Wout D i l) (X.pn ++ pins) (fun e s₁ => wpAny (model X.prog X.w) X.A (noteFrame e X.env) (fun _ s₂ => wpAny (model X.prog X.w) X.A (setFlight e none) (fun _ s₃ =>
    wpAny (model X.prog X.w) X.A (handleBy e X.env (h₀ :: hds)) (SP X pins D) X.xe s₃) X.xe s₂) X.xe s₁) (fun u s' xx => ?_) PassesOwn.looking).run [] s σ H D (I.toTry _) h) (fun f s1 hsp => ?_) (fun e s1 he => he))
  · obtain ⟨a, B, sI, pins', σ', H', cls, d, rfl, J', nb, up, sky, na, os, ag, w⟩ := xx
    have J : Inv X pins σ' H' sI := J'.ofTry ok
    have sky' : Sky B (X.env :: X.outer) a (Zc cls d) X.env.locals s'.heap := by rw [← hs]; exact sky
    show wpAny (model X.prog X.w) X.A (noteFrame (.ref a) X.env) _ _ _
    refine Sky.land Zc.steady hfr hf sky' fun h3 fl3 up3 => ?_
    have J3 : Inv X pins σ' H' { s' with heap := h3 } := J.landed nb fl3.1 (up.trans up3) os ag
    obtain ⟨oe3, vs3, he3, hz3, hd3⟩ := fl3.there
    have nfr : a ∉ frs (X.env :: X.outer) := fun hm => by
      obtain ⟨_, o', e', hnf⟩ := fl3.2.2.1.mem hm
      rw [he3] at e'; cases e'
      exact hnf _ hd3
    have nL : a ≠ X.env.locals := fun z => nfr (List.mem_filterMap.mpr ⟨X.env, List.mem_cons_self, by rw [hf, z]⟩)
    have nF : a ∉ X.fs := fun hm => by
      obtain ⟨e, he, q⟩ := List.mem_filterMap.mp hm
      exact nfr (List.mem_filterMap.mpr ⟨e, List.mem_cons_of_mem _ he, q⟩)
    have S3 := J3.suite he3 hd3 na nL nF
    have LT : PySem.W.Looks (model X.prog X.w) h3 (typeOf (.ref a)) cls := fun A Q E s k q => wpAny_typeOf_ref (k _ _ he3) (by rw [hz3.1]; exact q)
    have go : ∀ {hds' : List ExceptHandler} {l' : List (Value × TSa)}, HdsA X n hds' l' → wManyA X.K Wout D i l' cls d σ' H' →
        wpAny (model X.prog X.w) X.A (handleBy (.ref a) X.env hds') (SP X pins D) X.xe { s' with heap := h3 } := by
      intro hds' l' hk
      induction hk with
      | nil =>
        intro w
        refine wpAny_handleBy_nil ?_
        obtain ⟨_, _, _, oe, vs, T, oT, ts', he, _, hd, h1, _⟩ := id fl3
        unfold PySem.passOn
        refine wpAny_bind (wpAny_field he hd h1 ?_)
        rw [if_neg (show ¬ ((Value.ref T == Value.none) = true) from by simp)]
        have fin : wpAny (model X.prog X.w) X.A (setFlight (.ref a) X.env.frame) (fun _ s4 => wpAny (model X.prog X.w) X.A (throw (.ref a) : Sem Flow) (SP X pins D) X.xe s4) X.xe { s' with heap := h3 } := by
          rw [hf]
          exact HandSPX.setFlight_upZ fl3 fun h4 hh4 up4 => wpAny_throw (tk _ _ ⟨a, B, sI, pins, σ', H', cls, d, rfl, J, nb, (up.trans up3).trans up4, .inr (.inr (by rw [hs]; exact hh4)), na, os, ag, w⟩)
        first
          | exact wpAny_bind (wpAny_pure (wpAny_bind fin))
          | exact wpAny_bind fin
      | @cons x c ts b₀ suite np pos' hds2 l2 hc hsu r ih =>
        intro w
        obtain ⟨b, hb1, hyes, hno⟩ := w
        refine wpAny_handleBy_cons (codeAny_handlers_test ?_) (by intro q; cases q)
        have LM := PySem.W.exm_one (M := model X.prog X.w) (J3.kIn) LT hb1
        have test : ∀ {Q : Value → Shared → Prop} {E : Value → Shared → Prop}, Q c { s' with heap := h3 } → wpAny (model X.prog X.w) (X.A.mark (some (.ref a))) (eval (.Name x np) X.env) Q E { s' with heap := h3 } := fun {Q E} q => by
          obtain ⟨hg, hdbg, hm | ⟨hm, hv, hnn⟩⟩ := hc
          · exact ld_glob (X := X.suite a ((a, oe3) :: (X.pn ++ pins))) S3 hg hm q hdbg
          · exact ld_blt (X := X.suite a ((a, oe3) :: (X.pn ++ pins))) S3 hg hm hv q hnn hdbg
        refine test (LM.here ?_)
        cases b with
        | false => exact ih (hno rfl)
        | true =>
          refine codeAny_handlers_suite_as (HandSPX.lands_againZ fl3 fun h4 fl4 up4 => ?_)
          have J4 : Inv X pins σ' H' { s' with heap := h4 } := J.landed nb fl4.1 ((up.trans up3).trans up4) os ag
          obtain ⟨oe4, vs4, he4, hz4, hd4⟩ := fl4.there
          have S4 := J4.suite he4 hd4 na nL nF
          refine store_ok (X := X.suite a ((a, oe4) :: (X.pn ++ pins))) (v := .ref a) S4 hN hi hloc rfl (fun s5 S5 => ?_) (.inr hln)
          refine wpAny_mono ((hsu a oe4 cls d (X.pn ++ pins) hz4 ⟨_, hd4⟩).run [] s5 _ H' _ S5 (hyes rfl a na)) (fun f s6 hsp => ?_) (fun _ _ z => False.elim z)
          have over : ∀ {σ6 : St} {H6 : Hp} {Q : Shared → Prop}, Inv (X.suite a ((a, oe4) :: (X.pn ++ pins))) [] σ6 H6 s6 → (∀ s7, Inv X pins (σ6.set i none) H6 s7 → Q s7) →
              wpAny (model X.prog X.w) X.A (do bindName X.env n .none; unbindBehindTheSuite X.env n pos') (fun _ s7 => Q s7) X.xe s6 := fun {σ6 H6 Q} S6 hq => gone_ok (S6.unsuite ok) hN hi hln hq
          cases f with
          | next => obtain ⟨_, _, S6, q6⟩ := hsp; exact over S6 fun s7 J7 => ⟨_, _, J7, q6⟩
          | brk => obtain ⟨_, _, S6, q6⟩ := hsp; exact over S6 fun s7 J7 => ⟨_, _, J7, q6⟩
          | cont => obtain ⟨_, _, S6, q6⟩ := hsp; exact over S6 fun s7 J7 => ⟨_, _, J7, q6⟩
          | ret u => obtain ⟨_, _, _, S6, r6, q6⟩ := hsp; exact over S6 fun s7 J7 => ⟨_, _, _, J7, r6, q6⟩
    exact go hh w
  · cases f with
    | next => obtain ⟨_, _, J', q⟩ := hsp; exact wpAny_execs_nil ⟨_, _, J'.ofTry ok, q⟩
    | brk => obtain ⟨_, _, J', q⟩ := hsp; exact ⟨_, _, J'.ofTry ok, q⟩
    | cont => obtain ⟨_, _, J', q⟩ := hsp; exact ⟨_, _, J'.ofTry ok, q⟩
    | ret u => obtain ⟨_, _, _, J', r, q⟩ := hsp; exact ⟨_, _, _, J'.ofTry ok, r, q⟩
end
/-! ### an own error's __init__ -/
section
variable {P : Program} {w : World} {K : PySem.W.Frag} {mg : Str → Option Value} {base : Heap}
theorem ini_ok {fld qual : Str} {st : Stmt} {C fI : Addr} {fd : FuncData} {q1 q2 q3 q4 : Pos} (FU : Fun K "__init__" qual st fI fd) (Sc : FnScope ["self", fld] ["self", fld] (defScope st)) (hbody : defBody st = [.Assign [.Attribute (.Name "self" q1) fld q2] (.Name fld q3) q4]) (T : OexC K C)
    (hno : PySem.W.findIn K (.ref C) fld = some none) (hd : (fld == ("__debug__" : Str)) = false) (hcd : (fld == ("__classdict__" : Str)) = false) : FnOk P w K mg base (L2.CX P w) 1 fI fd ["self", fld] (spIni C fld) := by
  refine FU.okX Sc (fun vs H Q E h => by obtain ⟨a, y, rfl, _⟩ := h; rfl) (fun cdv A outer s H vs Q E hr h => ?_)
  obtain ⟨a, y, rfl, ha, hq⟩ := h
  have vis : ∀ x ∈ (["self", fld] : List Str), Vis (defScope st) x := fun x hx => by
    rcases Sc.par x hx with q | q
    · exact .inl q
    · exact .inr (.inl q)
  rw [hbody]
  refine ⟨_, pss_one (ps_ost (pe_var (i := 0) rfl (vis _ (by simp))) (pe_var (i := 1) rfl (vis _ (by simp)) hd hcd)), ?_⟩
  exact ⟨y, rfl, _, rfl, a, C, rfl, T, hno, .inl ⟨ha, fun dx nd ne => hq dx nd ne⟩⟩
end

/-! ### g(lambda: body), g: try: return (t0, a()) / except X1 as e: return (t1, e.f1) / .. -/
/-- a clause: the class's name, the text that is told, the field -/
structure Cl where
  c : Str
  t : Str
  f : Str
/-- what the clauses make of an exception -/
def clsX : List Cl → Ex → Option D
  | [], _ => none
  | k :: ks, x => if x.c = k.c then (if x.ns = [k.f] then (match x.vs with | [d] => some (.tup [.str k.t, d]) | _ => none) else none) else clsX ks x
def catchM (t0 : Str) (ks : List Cl) (f : M D) : M D := fun es => match f es with
  | none => none
  | some (.ok d es') => some (.ok (.tup [.str t0, d]) es')
  | some (.ex x es') => (clsX ks x).map fun d => .ok d es'
/-- what the written part tells of the clauses' classes -/
def ClsFacts (K : PySem.W.Frag) (cn : Wd) (k : Cl) : Prop := XfC K (cn k.c) ∧ PySem.W.findIn K (.ref (cn k.c)) k.f = some none
def wCatch (K : PySem.W.Frag) (cn : Wd) (Q : VK) : List Cl → XK
  | [] => fun _ _ _ => False
  | k :: ks => fun cls d H => ∃ b, PySem.W.exmOne K cls (.ref (cn k.c)) = some b ∧
      (b = true → cls = .ref (cn k.c) ∧ ∃ (dd : Addr) (fs : List (Str × V)) (v : V), d = some dd ∧ H dd = some (.xd fs) ∧ fs.lookup k.f = some v ∧ ∀ p, H p = none → Q (.ref p) (upd H p (.tup [.str k.t, v]))) ∧ (b = false → wCatch K cn Q ks cls d H)
def TTc (K : PySem.W.Frag) (cn : Wd) (t0 : Str) (ks : List Cl) : (XK → Hp → VK → Prop) → Hp → VK → Prop := fun tl H Q =>
  tl (wCatch K cn Q ks) H fun v H' => [V.str t0, v].length ≤ sizeLine ∧ ∀ p, H' p = none → Q (.ref p) (upd H' p (.tup [.str t0, v]))
/-- the clauses' syntax -/
inductive HdSyn (n : Str) : List ExceptHandler → List Cl → Prop
  | nil : HdSyn n [] []
  | cons {k : Cl} {hds : List ExceptHandler} {ks : List Cl} {np p1 p2 p3 p4 p5 p6 : Pos} {j jj : Nat} (r : HdSyn n hds ks) :
      HdSyn n (.ExceptHandler (some (.Name k.c np)) (some n) [.Return (some (.Tuple [.Constant (.str k.t) j p1, .Attribute (.Name n p2) k.f p3] jj p4)) p5] p6 :: hds) (k :: ks)
section
variable {X : Cx} {cn : Wd}
theorem suite_tup {i : Nat} {n : Str} {k : Cl} {p1 p2 p3 p4 p5 : Pos} {j jj : Nat} (T : ClsFacts X.K cn k) (hi : X.N[i]? = some n) (hv : Vis X.env.scope n) (hd : (n == ("__debug__" : Str)) = false) (hcd : (n == ("__classdict__" : Str)) = false)
    {a : Addr} {oe : Obj} {cls : Value} {d : Option Addr} {pn : List (Addr × Obj)} (hz : Zc cls d oe) (hf : ∃ vs, oe.data = .fields vs) :
    PSs (X.suite a ((a, oe) :: pn)) [.Return (some (.Tuple [.Constant (.str k.t) j p1, .Attribute (.Name n p2) k.f p3] jj p4)) p5]
      (fun D σ H => σ[i]? = some (some (.ref a)) ∧ cls = .ref (cn k.c) ∧ ∃ (dd : Addr) (fs : List (Str × V)) (v : V), d = some dd ∧ H dd = some (.xd fs) ∧ fs.lookup k.f = some v ∧ ∀ p, H p = none → D.rt (.ref p) (upd H p (.tup [.str k.t, v]))) := by
  have q := pss_one (ps_ret (pos := p5) (pe_tup (x1 := jj) (pos := p4) (pa_cons (pe_str (X := X.suite a ((a, oe) :: pn)) (x := k.t) (j := j) (pos := p1)) (pa_cons (pe_xf (pos := p3) T.1 T.2 hz hf (pe_var (X := X.suite a ((a, oe) :: pn)) (pos := p2) hi hv hd hcd)) pa_nil))))
  refine pss_i q fun D σ H h => ?_
  obtain ⟨h1, h2, dd, fs, v, h3, h4, h5, h6⟩ := h
  exact ⟨_, h1, rfl, h2, dd, fs, v, h3, h4, h5, by show 2 ≤ sizeLine; decide, fun p np => h6 p np⟩
theorem hds_of {i : Nat} {n : Str} {hds : List ExceptHandler} {ks : List Cl} (hs : HdSyn n hds ks) (hi : X.N[i]? = some n) (hv : Vis X.env.scope n) (hd : (n == ("__debug__" : Str)) = false) (hcd : (n == ("__classdict__" : Str)) = false)
    (hk : ∀ k ∈ ks, ClsFacts X.K cn k ∧ Names X k.c (.ref (cn k.c))) : HdsA X n hds (ks.map fun k => (Value.ref (cn k.c), fun a cls d => fun D σ H => σ[i]? = some (some (.ref a)) ∧ cls = .ref (cn k.c) ∧ ∃ (dd : Addr) (fs : List (Str × V)) (v : V), d = some dd ∧ H dd = some (.xd fs) ∧ fs.lookup k.f = some v ∧ ∀ p, H p = none → D.rt (.ref p) (upd H p (.tup [.str k.t, v])))) := by
  induction hs with
  | nil => exact .nil
  | cons r ih =>
    exact .cons (hk _ List.mem_cons_self).2 (fun a oe cls d pn hz hf => suite_tup (hk _ List.mem_cons_self).1 hi hv hd hcd hz hf) (ih fun k hk' => hk k (List.mem_cons_of_mem _ hk'))
theorem takes_len {X : Cx} {W : WX} (tk : Takes X W) : Takes X (fun cls d σ H => σ.length = X.N.length → W cls d σ H) := fun u s' ⟨a, B, sI, pins, σ, H, cls, d, e, I, nb, up, sky, na, os, ag, w⟩ =>
  tk u s' ⟨a, B, sI, pins, σ, H, cls, d, e, I, nb, up, sky, na, os, ag, w I.len⟩
theorem catch_gives {Ng : List Str} {x a q t0 n : Str} {sg : Scope} {g : Addr} {cdg : Value} {i j jj : Nat} {hds : List ExceptHandler} {h₀ : ExceptHandler} {ks : List Cl} {p0 p1 p2 p3 p4 p5 : Pos} (hN : Ng.Nodup) (hi : Ng[i]? = some n) (hln : sg.names.lookup n = some .local) (hd : (n == ("__debug__" : Str)) = false) (hcd : (n == ("__classdict__" : Str)) = false)
    (hs : HdSyn n (h₀ :: hds) ks) (hk : ∀ k ∈ ks, ClsFacts X.K cn k ∧ sg.names.lookup k.c = some .globalImplicit ∧ (k.c == ("__debug__" : Str)) = false ∧ X.mg k.c = some (.ref (cn k.c))) (h0 : ∀ f : Addr, (L2.start Ng [V.ref f])[0]? = some (some (V.ref f))) :
    LamX.GivesTo X Ng x sg g cdg [.Try [.Return (some (.Tuple [.Constant (.str t0) j p0, .Call (.Name a p1) [] [] p2] jj p3)) p4] (h₀ :: hds) [] [] p5] a q (TTc X.K cn t0 ks) := by
  intro f c' s H Q tl act hc h
  have HA := hds_of (X := (cxOf C8.CX0 X.prog X.w X.K X.mg X.base Ng x sg g cdg X.A X.stack s H C8.E0).nox) (cn := cn) hs hi (.inl hln) hd hcd (fun k hk' => ⟨(hk k hk').1, (hk k hk').2.1, (hk k hk').2.2.1, .inl (hk k hk').2.2.2⟩)
  refine ⟨_, pss_one (ps_try_manyA (X := (cxOf C8.CX0 X.prog X.w X.K X.mg X.base Ng x sg g cdg X.A X.stack s H C8.E0).nox)
      (tb := fun W D σ H => ∃ Ech : XK, (∀ cls d σ' H', σ'.length = Ng.length → Ech cls d H' → W cls d σ' H') ∧ σ[0]? = some (some (.ref f)) ∧ H c' = some (LamX.CodeO c' q) ∧ tl Ech H fun v H' => [V.str t0, v].length ≤ sizeLine ∧ ∀ p, H' p = none → D.rt (.ref p) (upd H' p (.tup [.str t0, v])))
      rfl rfl hN hi hln LamX.takes0 (fun W pn xe tk _ => ?_) HA), ?_⟩
  · refine ⟨fun pins s' σ H' D I h' => ?_⟩
    obtain ⟨Ech, hW, h1, h2, h3⟩ := h'
    have hp := act _ pn xe Ech p1 p2 (takes_len tk) (fun cls d σ' H' he hl => hW cls d σ' H' hl he)
    have hq := pss_one (ps_ret (pos := p4) (pe_tup (x1 := jj) (pos := p3) (pa_cons (pe_str (x := t0) (j := j) (pos := p0)) (pa_cons hp pa_nil))))
    exact hq.run pins s' σ H' D I ⟨h1, h2, h3⟩
  · refine ⟨wCatch X.K cn Q ks, ?_, h0 f, hc, h⟩
    intro cls d σ' H' hl
    have hlen : i < σ'.length := by rw [hl]; exact (List.getElem?_eq_some_iff.mp hi).1
    clear hs hk HA act h
    induction ks with
    | nil => exact fun z => z.elim
    | cons k ks ih =>
      rintro ⟨b, h1, h2, h3⟩
      refine ⟨b, h1, fun hb a na => ?_, fun hb => ih (h3 hb)⟩
      obtain ⟨e1, dd, fs, v, e2, e3, e4, e5⟩ := h2 hb
      exact ⟨List.getElem?_set_self hlen, e1, dd, fs, v, e2, e3, e4, e5⟩
end

section
variable {K : PySem.W.Frag} {cn : Wd} {o : Own} {H H1 : Hp} {es : ES} {σ : St}
/-- behind the making of a lambda: tables alone changed -/
theorem Rel.lam (R : Rel K cn o H es σ) (x : LamX.ExtN H H1) (hT : LamX.Tabs cn.T H1) (hk : ∀ a ps, H a = some (.tbl ps) → ∃ q, H1 a = some (.tbl q)) (hn : ∀ a ps, H1 a = some (.tbl ps) → ∃ q, H a = some (.tbl q)) : Rel K cn o H1 es σ ∧ Ext o H o H1 := by
  have un : ∀ a u, H a = some u → o.tg a ≠ some .tbl → H1 a = some u := fun a u h n => x a u h fun ps z => n (R.g.nt a ps (z ▸ h))
  have trk : ∀ a u, H a = some u → ∃ u', H1 a = some u' := fun a u h => by
    by_cases n : o.tg a = some .tbl
    · cases u with
      | tbl ps => obtain ⟨q, hq⟩ := hk a ps h; exact ⟨_, hq⟩
      | _ => exact ⟨_, x a _ h fun ps z => by cases z⟩
    · exact ⟨u, un a u h n⟩
  have ex : Ext o H o H1 := ⟨fun a u h t => ⟨t, un a u h (by rw [t]; simp)⟩, fun a u h t => ⟨t, un a u h (by rw [t]; simp)⟩, fun n h => ⟨rfl, h⟩, trk⟩
  have st : ∀ a t, t ≠ .tbl → o.tg a = some t → H1 a = H a := fun a t n h => by
    obtain ⟨u, hu, _⟩ := R.g.trk a t h
    rw [hu]; exact un a u hu (by rw [h]; simpa using n)
  have pl : ∀ {n k v l}, PlOk K cn o H (.sub n k) v l → PlOk K cn o H1 (.sub n k) v l := fun {n k v l} q => by
    cases l with
    | fz d => exact Dr.ext ex q
    | ow d => obtain ⟨p', e, h1, h2⟩ := q; exact ⟨p', e, h1, h2.ext ex (st _ _ (by simp) h1)⟩
  have pa : ∀ {n vs ls k}, PlAll K cn o H n k vs ls → PlAll K cn o H1 n k vs ls := by
    intro n vs
    induction vs with
    | nil => intro ls k q; cases ls with | nil => trivial | cons _ _ => exact q.elim
    | cons v vs ih => intro ls k q; cases ls with | nil => exact q.elim | cons l ls => exact ⟨pl q.1, ih q.2⟩
  refine ⟨⟨R.len, fun i l h => ?_, ⟨fun n b hb => ?_, fun a t h => ?_, fun a ps h => ?_, fun q hq => ⟨(R.g.tabs q hq).1, hT q hq⟩⟩⟩, ex⟩
  · have q := R.slots i l h
    cases l with
    | fz d => obtain ⟨v, e, h⟩ := q; exact ⟨v, e, h.ext ex⟩
    | ow d => obtain ⟨p', e, h1, h2⟩ := q; exact ⟨p', e, h1, h2.ext ex (st _ _ (by simp) h1)⟩
  · obtain ⟨h1, h2⟩ := R.g.boxes n b hb
    refine ⟨h1, ?_⟩
    have e := st _ _ (by simp) h1
    cases b with
    | stm c l m x => obtain ⟨q, a1, a2, a3⟩ := h2; exact ⟨q, e.trans a1, a2, (st _ _ (by simp) a2).trans a3⟩
    | obj c ns vs => obtain ⟨dx, fs, a1, a2, a3⟩ := h2; exact ⟨dx, fs, e.trans a1, a2, pa a3⟩
    | row vs => obtain ⟨xs, a1, a3⟩ := h2; exact ⟨xs, e.trans a1, pa a3⟩
  · obtain ⟨u, hu, n⟩ := R.g.trk a t h
    by_cases ht : t = .tbl
    · cases u with
      | tbl ps => obtain ⟨q, hq⟩ := hk a ps hu; exact ⟨_, hq, trivial⟩
      | ext φ => exact (show False from n).elim
      | _ => exact ⟨_, x a _ hu (fun ps z => by cases z), n⟩
    · exact ⟨u, (st a t ht h).trans hu, n⟩
  · obtain ⟨q, hq⟩ := hn a ps h
    exact R.g.nt a q hq
end

open LamX in
/-- the lambda's making, the heap behind it told -/
def LamH (P : Addr) (q : Str) (H H1 : Hp) : Prop := H1 = H ∨ ∃ (ps more : Array Value) (c : Addr), H P = some (.tbl ps) ∧ H c = none ∧ H1 = upd (upd H P (.tbl (ps ++ more))) c (CodeO c q)
theorem LamH.tabs {P : Addr} {q : Str} {H H1 : Hp} (h : LamH P q H H1) : (∀ a ps, H a = some (.tbl ps) → ∃ q, H1 a = some (.tbl q)) ∧ ∀ a ps, H1 a = some (.tbl ps) → ∃ q, H a = some (.tbl q) := by
  rcases h with rfl | ⟨ps, more, c, hP, hc, rfl⟩
  · exact ⟨fun _ ps h => ⟨ps, h⟩, fun _ ps h => ⟨ps, h⟩⟩
  · refine ⟨fun a qs h => ?_, fun a qs h => ?_⟩
    · rw [upd_ne (ne_of_none h hc)]
      by_cases e : a = P
      · subst e; exact ⟨_, upd_same⟩
      · exact ⟨qs, by rw [upd_ne e]; exact h⟩
    · by_cases e : a = c
      · subst e; rw [upd_same] at h; exact (LamX.codeO_ne qs (Option.some.inj h)).elim
      · rw [upd_ne e] at h
        by_cases e2 : a = P
        · subst e2; exact ⟨ps, hP⟩
        · rw [upd_ne e2] at h; exact ⟨qs, h⟩
section
open LamX
variable {X : Cx} {pins : List (Addr × Obj)} {σ : L2.St} {H : Hp} {s : Shared}
theorem lam_made {T : List (Addr × Str)} {c P : Addr} {params : Arguments} {body : Expr} {scope : Scope} {pos : Pos} {E : Value → Shared → Prop} {Q : Value → Shared → Prop} (I : Inv X pins σ H s) (TB : TabB X.base X.mg c P) (hcode : X.env.code = .ref c)
    (hm : (P, X.env.qual ++ "<lambda>") ∈ T) (hu : ∀ p ∈ T, p.1 = P → p.2 = X.env.qual ++ "<lambda>") (hT : Tabs T H) (hdef : defaultsOf params X.env = ([], [])) (hfree : ∀ y ∈ scope.names, y.2 = .free → ∃ c, X.env.cells.lookup y.1 = some c)
    (h : ∀ (f c' : Addr) (pm ctv : Value) (H1 : Hp) (s' : Shared), Inv X pins σ H1 s' → ExtN H H1 → Tabs T H1 → LamH P (X.env.qual ++ "<lambda>") H H1 →
      s'.heap.get? f = some (PySem.W.kla_obj "<lambda>" (X.env.qual ++ "<lambda>") params body scope (cloFrom X.env.cells scope.names []) pm c' ctv) → H1 f = none → f ∉ frs X.stack → H1 c' = some (CodeO c' (X.env.qual ++ "<lambda>")) → Q (.ref f) s') :
    wpAny (model X.prog X.w) X.A (eval (.Lambda params body scope pos) X.env) Q E s := by
  obtain ⟨ps, hP, ht, ha⟩ := hT _ hm
  have bP : s.heap.BuiltinsAt X.mg P := TB.bm.keeps I.bk
  have hP' : s.heap.get? P = some { cls := .none, data := .fields ps } := I.hok P _ hP
  have young : ∀ f, s.heap.objs.size ≤ f → f ∉ frs X.stack := fun f hf z =>
    (List.mem_cons.mp (I.stkSub _ z)).elim (fun e => absurd (e ▸ I.lt : f < s.heap.objs.size) (Nat.not_lt_of_le hf)) (I.nofs hf)
  refine PySem.W.kla_eval hdef ?_
  cases hc : codeAmong pos ps.toList with
  | some cv =>
    obtain ⟨c', rfl, hco⟩ := ha pos cv hc
    refine PySem.W.kla_makeFunctionHit (mg := X.mg) (c := c) (P := P) (ps := ps) (closure_ok hfree) I.ok.glob (I.mod.glob.keeps I.bk) hcode (TB.code.keeps I.bk) hP' ht hc bP fun ctv h' tk hx hsz => ?_
    have I1 := I.kept (h' := h'.push (PySem.W.kla_obj "<lambda>" (X.env.qual ++ "<lambda>") params body scope (cloFrom X.env.cells scope.names []) ((X.mg "__name__").getD .none) c' ctv)) (t' := tk) fun b o e => Heap.get?_push_of_some _ (hx b o e)
    exact h _ c' ((X.mg "__name__").getD .none) ctv H _ I1 (ExtN.refl H) hT (.inl rfl) (Heap.get?_push_size _ rfl) (I.hok.fresh hsz) (young _ hsz) hco
  | none =>
    refine PySem.W.kla_makeFunction (mg := X.mg) (c := c) (P := P) (ps := ps) (closure_ok hfree) I.ok.glob (I.mod.glob.keeps I.bk) hcode (TB.code.keeps I.bk) hP' ht hc TB.gP bP fun c' ctv h' tk hx hge hlt hrec htb => ?_
    obtain ⟨c9, oc, vs, t, e9, hoc, hd, hv⟩ := hrec
    cases e9
    have hsz : s.heap.objs.size ≤ h'.objs.size := Nat.le_trans hge (Nat.le_of_lt hlt)
    have nC : H c' = none := I.hok.fresh hge
    have I1 := inv_table (t' := tk) (more := #[rawInt pos.line, rawInt pos.col, .ref c']) (h' := h'.push (PySem.W.kla_obj "<lambda>" (X.env.qual ++ "<lambda>") params body scope (cloFrom X.env.cells scope.names []) ((X.mg "__name__").getD .none) c' ctv)) I hP
      (fun b o hb e => Heap.get?_push_of_some _ (hx b o hb e)) (Heap.get?_push_of_some _ htb) hge ⟨oc, vs, t, Heap.get?_push_of_some _ hoc, hd, hv⟩
    have hE : ExtN H (upd (upd H P (.tbl (ps ++ #[rawInt pos.line, rawInt pos.col, .ref c']))) c' (CodeO c' (X.env.qual ++ "<lambda>"))) := fun b o e n => by
      rw [upd_ne (ne_of_none e nC), upd_ne (fun z : b = P => n ps (Option.some.inj (e.symm.trans (by rw [z]; exact hP))))]; exact e
    have hT1 : Tabs T (upd (upd H P (.tbl (ps ++ #[rawInt pos.line, rawInt pos.col, .ref c']))) c' (CodeO c' (X.env.qual ++ "<lambda>"))) := fun p hp => by
      by_cases hb : p.1 = P
      · rw [hu p hp hb, hb]
        refine ⟨_, by rw [upd_ne (ne_of_none hP nC), upd_same], by rw [Array.toList_append]; exact PySem.TriplesOk_snoc _ _ _ _ ht, fun p' cv hcv => ?_⟩
        rw [Array.toList_append] at hcv
        rcases among_app _ ht hcv with z | z
        · obtain ⟨c0, e1, e2⟩ := ha p' cv z
          exact ⟨c0, e1, hE _ _ e2 codeO_ne⟩
        · exact ⟨c', z, upd_same⟩
      · obtain ⟨ps', a1, a2, a3⟩ := hT p hp
        refine ⟨ps', by rw [upd_ne (ne_of_none a1 nC), upd_ne hb]; exact a1, a2, fun pos cv hcv => ?_⟩
        obtain ⟨c0, e1, e2⟩ := a3 pos cv hcv
        exact ⟨c0, e1, hE _ _ e2 codeO_ne⟩
    refine h h'.objs.size c' ((X.mg "__name__").getD .none) ctv _ _ I1 hE hT1 (.inr ⟨ps, _, c', hP, nC, rfl⟩) (Heap.get?_push_size _ rfl) ?_ (young _ hsz) upd_same
    rw [upd_ne (Nat.ne_of_gt hlt), upd_ne (Nat.ne_of_gt (Nat.lt_of_lt_of_le (Heap.lt_size hP') hsz))]
    exact I.hok.fresh hsz
end

theorem clsX_mem : ∀ {ks : List Cl} {y : Ex} {d : D}, clsX ks y = some d → ∃ k ∈ ks, k.c = y.c
  | [], _, _, h => by cases h
  | k :: ks, y, d, h => by
    unfold clsX at h
    by_cases e : y.c = k.c
    · exact ⟨k, List.mem_cons_self, e.symm⟩
    · rw [if_neg e] at h
      obtain ⟨k', hk, e'⟩ := clsX_mem h
      exact ⟨k', List.mem_cons_of_mem _ hk, e'⟩
theorem wCatch_of {K : PySem.W.Frag} {cn : Wd} {o : Own} {H : Hp} {cls : Value} {dx : Option Addr} {y : Ex} {d : D} {Q : VK} : ∀ {ks : List Cl}, (∀ k ∈ ks, ∀ k' ∈ ks, PySem.W.exmOne K (.ref (cn k'.c)) (.ref (cn k.c)) = some (decide (k'.c = k.c))) → (∀ k ∈ ks, k.t.length ≤ sizeLine) → clsX ks y = some d → ExOk K cn o H cls dx y →
    (∀ (v : V) (d0 : D) (t : Str), t.length ≤ sizeLine → Dr K cn o H v d0 → D.tup [.str t, d0] = d → ∀ p, H p = none → Q (.ref p) (upd H p (.tup [.str t, v]))) → wCatch K cn Q ks cls dx H
  | [], _, _, h, _, _ => by cases h
  | k :: ks, hex, htk, h, hy, hq => by
    obtain ⟨k', hk', ek⟩ := clsX_mem h
    obtain ⟨rfl, hd⟩ := id hy
    refine ⟨decide (y.c = k.c), by rw [← ek]; exact hex k List.mem_cons_self k' hk', fun hb => ?_, fun hb => ?_⟩
    · have e : y.c = k.c := of_decide_eq_true hb
      refine ⟨by rw [e], ?_⟩
      unfold clsX at h
      rw [if_pos e] at h
      split at h
      · rename_i hns
        split at h
        · rename_i d0 hvs
          cases h
          rcases hd with ⟨h1, _⟩ | ⟨dd, fs, e1, e2, e3, e4⟩
          · rw [hns] at h1; cases h1
          · rw [hns] at e3
            rw [hvs] at e4
            match fs, e2, e3, e4 with
            | [(f, v)], e2, e3, .cons dv .nil =>
              have ef : k.f = f := by simpa using e3
              subst ef
              exact ⟨dd, _, v, e1, e2, by simp [List.lookup], fun p np => hq v d0 k.t (htk k List.mem_cons_self) dv rfl p np⟩
        · cases h
      · cases h
    · have e : ¬ y.c = k.c := of_decide_eq_false hb
      unfold clsX at h
      rw [if_neg e] at h
      exact wCatch_of (fun a ha b hb => hex a (List.mem_cons_of_mem _ ha) b (List.mem_cons_of_mem _ hb)) (fun a ha => htk a (List.mem_cons_of_mem _ ha)) h hy hq
section
open LamX
variable {X : Cx} {cn : Wd}
/-- x(lambda: body), x catching what the clauses name -/
theorem DL.lam {ks : List Cl} {t0 : Str} {fl : M D} {x a : Str} {g c P : Addr} {k : Nat} {pg : Arguments} {bg : List Stmt} {sg : Scope} {dV kV doc pm cdv ct oc : Value} {an od : Option Addr} {osl : Array (Option Value)} {Ng : List Str}
    {params : Arguments} {body : Expr} {scope : Scope} {p lpos pos : Pos} (hg : Gl X x) (hm : X.mg x = some (.ref g)) (hk : PySem.W.keepIn X.K (.ref g) = true)
    (lk : X.K.lookup g = some ⟨oc, od, .func (PySem.W.fnOf x x pg bg sg dV kV doc pm an cdv ct), osl⟩) (hcg : PySem.W.codeIn X.K cdv x = true) (hb : L2.Binds X.K (PySem.W.fnOf x x pg bg sg dV kV doc pm an cdv ct) [a] []) (Sg : FnScope Ng [a] sg) (hNg : Ng[0]? = some a) (hva : Vis sg a)
    (hG : GivesTo X Ng x sg g cdv bg a (X.env.qual ++ "<lambda>") (TTc X.K cn t0 ks)) (hex : ∀ k ∈ ks, ∀ k' ∈ ks, PySem.W.exmOne X.K (.ref (cn k'.c)) (.ref (cn k.c)) = some (decide (k'.c = k.c))) (ht0 : t0.length ≤ sizeLine) (htk : ∀ k ∈ ks, k.t.length ≤ sizeLine)
    (TB : TabB X.base X.mg c P) (hcode : X.env.code = .ref c) (hmT : (P, X.env.qual ++ "<lambda>") ∈ cn.T) (hu : ∀ p ∈ cn.T, p.1 = P → p.2 = X.env.qual ++ "<lambda>") (hr : Room (k + 2) X.A) (L : LamS X.env.scope scope) (hdef : defaultsOf params X.env = ([], []))
    (hbind : ∀ (q : Str) (cl : List (Str × Addr)) (pm cv ctv : Value), bindArgs (PySem.W.kla_fn "<lambda>" q params body scope cl pm cv ctv) ⟨[], []⟩ = pure [])
    (hbody : ∀ (A : Around) (outer : List Env) (s : Shared) (H : Hp) (E : XK) (f c' : Addr), Room k (A.deeper (lamEnv X scope s.heap.objs.size f c')) → DL (lamCx X A outer s H E scope f c') cn body fl)
    (hdb : (x == ("__debug__" : Str)) = false) (hd : (a == ("__debug__" : Str)) = false) (hcd : (a == ("__classdict__" : Str)) = false) :
    DL X cn (.Call (.Name x p) [.Lambda params body scope lpos] [] pos) (catchM t0 ks fl) := by
  intro Wx tk
  refine ⟨fun pins s σ H Q I h => ?_⟩
  obtain ⟨o, es, r, R, h, hp⟩ := h
  refine wpAny_Call_Name_kw (ld_glob I hg hm ?_ hdb)
  refine PySem.W.callWith_K (h₀ := X.base) I.ok.mod.kin hk ?_ (by rfl) (by rfl)
  show wpAny _ _ (spliced ((false, eval (.Lambda params body scope lpos) X.env) :: backTo pos (starEach [] X.env))) _ _ s
  refine Calls.spliced_cons (lam_made I TB hcode hmT hu (fun p hp => (R.g.tabs p hp).2) hdef (L.has I.ok) fun f c' pm' ctv H1 s' I1 eN T1 lh hf hfn hfr hco => ?_)
  refine Calls.spliced_nil ⟨I1.kIn, ?_⟩
  obtain ⟨R1, x1⟩ := R.lam eN T1 lh.tabs.1 lh.tabs.2
  have hTT : TTc X.K cn t0 ks (fun E H' Q' => tL X.K cn (fun cls d _ H => E cls d H) fl σ H' Q') H1 Q := by
    unfold catchM at h
    cases e : fl es with
    | none => rw [e] at h; cases h
    | some q =>
      rw [e] at h
      refine ⟨o, es, q, R1, e, ?_⟩
      cases q with
      | ok d es' =>
        cases h
        refine fun o' H' v x2 R2 dv => ⟨by show 2 ≤ sizeLine; decide, fun p np => ?_⟩
        have hl : [V.str t0, v].length ≤ sizeLine := by show 2 ≤ sizeLine; decide
        obtain ⟨R3, x3, d3⟩ := new_tup (xs := [V.str t0, v]) (ds := [.str t0, d]) R2 np (.cons (.str _ ht0) (.cons dv .nil)) hl
        exact hp _ _ _ (x1.trans (x2.trans x3)) R3 d3
      | ex y es' =>
        cases e2 : clsX ks y with
        | none => simp only [e2] at h; cases h
        | some d =>
          simp only [e2, Option.map_some, Option.some.injEq] at h
          subst h
          intro o' H' cls dx x2 R2 hy
          exact wCatch_of hex htk e2 hy fun v d0 t htl dv ed p np => by
            have hl : [V.str t, v].length ≤ sizeLine := by show 2 ≤ sizeLine; decide
            obtain ⟨R3, x3, d3⟩ := new_tup (xs := [V.str t, v]) (ds := [.str t, d0]) R2 np (.cons (.str _ htl) (.cons dv .nil)) hl
            exact hp _ _ _ (x1.trans (x2.trans x3)) R3 (ed ▸ d3)
  have rc : codeAny (model X.prog X.w) X.A (.call (.ref g) ⟨[.ref f], []⟩) (CR C8.CX0 X.stack X.prog X.w H1 s' Q C8.E0) s' := by
    refine run_ofS (N := Ng) (ps := [a]) (us := [.ref f]) (vs := [.ref f]) lk hcg Sg hr I1.env0 (hb s' [.ref f] I1.kIn rfl) (.cons rfl .nil) rfl fun hr' => ?_
    obtain ⟨t', ht', hq'⟩ := hG f c' s' H1 Q (fun E H' Q' => tL X.K cn (fun cls d _ H => E cls d H) fl σ H' Q') (fun W pn xe E p1 p2 tk hW => pe_act (i := 0) (tb := tL X.K cn (fun cls d _ H => E cls d H) fl) I1 L hf hfn hfr (hbind _ _ _ _ _) tk hW hr'
      (fun A outer s H hr2 => hbody A outer s H E f c' hr2 _ (takes_of rfl rfl rfl rfl)) hNg hva hd hcd) hco hTT
    exact ⟨t', ht'.nox, hq'⟩
  refine wpAny_call (codeAny_mono rc fun r s2 hq => ?_)
  cases r with
  | error e => exact (show False from hq).elim
  | ok fl =>
    cases fl with
    | ret u => exact I1.after hq
    | next => exact False.elim hq
    | brk => exact False.elim hq
    | cont => exact False.elim hq
end
end Dl
end
section
set_option Elab.async false
set_option linter.all false
set_option maxRecDepth 100000
set_option maxHeartbeats 2000000
/-! DlK: what operators do with data. -/
namespace Dl
open PySem PySem.Spec PyProof.Rows L2

section
variable {K : PySem.W.Frag} {cn : Wd} {o : Own} {H : Hp} {v : V} {es : ES} {σ : St}
theorem pk_str {x : Str} (h : Pk K cn o H v (.str x)) : v = .str x ∧ x.length ≤ sizeLine := by
  cases h with
  | fz h => cases h with | str _ h => exact ⟨rfl, h⟩
  | ow h => exact h.elim
theorem pk_bl {x : Bool} (h : Pk K cn o H v (.bl x)) : v = .bl x := by
  cases h with
  | fz h => cases h; rfl
  | ow h => exact h.elim
theorem pk_non (h : Pk K cn o H v .non) : v = .non := by
  cases h with
  | fz h => cases h; rfl
  | ow h => exact h.elim
theorem pk_lst {ds : List D} (h : Pk K cn o H v (.lst ds)) : ∃ a xs, v = .ref a ∧ H a = some (.lst xs) ∧ xs.length ≤ sizeLine ∧ DrAll K cn o H xs ds := by
  cases h with
  | fz h => cases h with | lst h t => exact ⟨_, _, rfl, h.1.1, h.2, t⟩
  | ow h => obtain ⟨xs, h1, h2, h3⟩ := h; exact ⟨_, xs, rfl, h1, h2, h3⟩
theorem pk_tup {ds : List D} (h : Pk K cn o H v (.tup ds)) : ∃ a xs, v = .ref a ∧ FzT K o H a xs ∧ DrAll K cn o H xs ds := by
  cases h with
  | fz h => cases h with | tup h t => exact ⟨_, _, rfl, h, t⟩
  | ow h => exact h.elim
theorem pk_fz {d : D} (h : Pk K cn o H v d) (n : isSeqD d = false) : Dr K cn o H v d := by
  cases h with
  | fz h => exact h
  | ow h => cases d <;> first | exact h.elim | cases n
end
/-! ### operators with data -/
abbrev G2 := D → D → Option RV
def OpD (X : Cx) (f : Value → Value → Sem Value) (g : G2) : Prop := ∃ r : PySem.W.Frag → R2, OpR X f (r X.K) ∧ Sem2 r g
section
variable {X : Cx} {f : Value → Value → Sem Value} {g g1 g2 : G2}
theorem OpD.or (h1 : OpD X f g1) (h2 : OpD X f g2) : OpD X f (fun x y => (g1 x y).or (g2 x y)) := by
  obtain ⟨r1, a1, b1⟩ := h1
  obtain ⟨r2, a2, b2⟩ := h2
  refine ⟨fun K x y H Q => r1 K x y H Q ∨ r2 K x y H Q, a1.or a2, fun K cn o es σ H x y dx dy rv Q R px py e p => ?_⟩
  dsimp only at e
  cases e1 : g1 dx dy with
  | some z => rw [e1] at e; cases e; exact .inl (b1 K cn o es σ H x y dx dy _ Q R px py e1 p)
  | none => rw [e1] at e; exact .inr (b2 K cn o es σ H x y dx dy _ Q R px py e p)
theorem OpD.le (h : OpD X f g) (i : ∀ x y r, g1 x y = some r → g x y = some r) : OpD X f g1 := by
  obtain ⟨r, a, b⟩ := h
  exact ⟨r, a, fun K cn o es σ H x y dx dy rv Q R px py e p => b K cn o es σ H x y dx dy rv Q R px py (i _ _ _ e) p⟩
theorem OpD.none : OpD X f (fun _ _ => none) := ⟨fun _ _ _ _ _ => False, fun _ _ _ _ _ _ _ _ _ _ _ _ h => h.elim, fun _ _ _ _ _ _ _ _ _ _ _ _ _ _ _ e => by cases e⟩
/-- ints in, what is known of two ints out -/
def gI (c : Int → Int → Bool) (k : Int → Int → D) : G2
  | .int i, .int j => if c i j = true then some (.fz (k i j)) else none
  | _, _ => none
theorem OpD.int {C : Int → Int → Prop} {kv : Int → Int → V} {c : Int → Int → Bool} {k : Int → Int → D} (h : OpR X f (rI C kv)) (hc : ∀ i j, c i j = true → C i j) (hk : ∀ K cn o H i j, Dr K cn o H (kv i j) (k i j)) : OpD X f (gI c k) := by
  refine ⟨fun _ => rI C kv, h, fun K cn o es σ H x y dx dy rv Q R px py e p => ?_⟩
  unfold gI at e
  split at e
  · rename_i i j
    split at e
    · rename_i hcij
      cases e
      exact ⟨i, j, pk_int px, pk_int py, hc i j hcij, p o H _ Ext.refl R (hk K cn o H i j)⟩
    · cases e
  · cases e
theorem OpD.int0 {kv : Int → Int → V} {k : Int → Int → D} (h : OpR X f (rI0 kv)) (hk : ∀ K cn o H i j, Dr K cn o H (kv i j) (k i j)) : OpD X f (gI (fun _ _ => true) k) := by
  refine ⟨fun _ => rI0 kv, h, fun K cn o es σ H x y dx dy rv Q R px py e p => ?_⟩
  unfold gI at e
  split at e
  · rename_i i j
    cases e
    exact ⟨i, j, pk_int px, pk_int py, p o H _ Ext.refl R (hk K cn o H i j)⟩
  · cases e
/-- texts in -/
def gS (c : Str → Str → Bool) (k : Str → Str → D) : G2
  | .str i, .str j => if c i j = true then some (.fz (k i j)) else none
  | _, _ => none
theorem OpD.str {C : Str → Str → Prop} {kv : Str → Str → V} {c : Str → Str → Bool} {k : Str → Str → D} (h : OpR X f (fun x y H Q => ∃ i j, x = .str i ∧ y = .str j ∧ C i j ∧ Q (kv i j) H)) (hc : ∀ i j, i.length ≤ sizeLine → j.length ≤ sizeLine → c i j = true → C i j) (hk : ∀ K cn o H i j, C i j → Dr K cn o H (kv i j) (k i j)) : OpD X f (gS c k) := by
  refine ⟨fun _ x y H Q => ∃ i j, x = .str i ∧ y = .str j ∧ C i j ∧ Q (kv i j) H, h, fun K cn o es σ H x y dx dy rv Q R px py e p => ?_⟩
  unfold gS at e
  split at e
  · rename_i i j
    split at e
    · rename_i hcij
      cases e
      have hC := hc i j (pk_str px).2 (pk_str py).2 hcij
      exact ⟨i, j, (pk_str px).1, (pk_str py).1, hC, p o H _ Ext.refl R (hk K cn o H i j hC)⟩
    · cases e
  · cases e
theorem opr_true {r : Str → Str → V} (h : OpR X f (fun x y H Q => ∃ i j, x = .str i ∧ y = .str j ∧ Q (r i j) H)) : OpR X f (fun x y H Q => ∃ i j, x = .str i ∧ y = .str j ∧ True ∧ Q (r i j) H) :=
  fun pins s σ H x y v u Q I rx ry ⟨i, j, e1, e2, _, q⟩ => h pins s σ H x y v u Q I rx ry ⟨i, j, e1, e2, q⟩
/-! ### + - * // % -/
def catLD : G2
  | .lst a, .lst b => if a.length + b.length ≤ 16777216 then some (.fr (.lst (a ++ b))) else none
  | .tup a, .tup b => if a.length + b.length ≤ 16777216 then some (.fz (.tup (a ++ b))) else none
  | _, _ => none
theorem str_len_app (a b : Str) : (a ++ b).length = a.length + b.length := by
  show (a.cps ++ b.cps).size = _
  rw [Array.size_append]; rfl
theorem sem_cat : OpD X (binaryOp .Add) catLD := by
  refine ⟨fun K x y H Q => rCat x y H Q ∨ rCatA K x y H Q, op_cat.or op_catA, fun K cn o es σ H x y dx dy rv Q R px py e p => ?_⟩
  unfold catLD at e
  split at e
  · rename_i a b
    split at e
    · rename_i hl
      cases e
      obtain ⟨pa, xs, rfl, la, _, da⟩ := pk_lst px
      obtain ⟨pb, ys, rfl, lb, _, db⟩ := pk_lst py
      have e1 := da.length
      have e2 := db.length
      refine .inl ⟨pa, pb, xs, ys, rfl, rfl, la, lb, by rw [line_eq]; omega, fun q nq => ?_⟩
      obtain ⟨R1, x1, v1⟩ := new_lst R nq (da.append db) (by rw [List.length_append, line_eq]; omega)
      exact p _ _ _ x1 R1 v1
    · cases e
  · rename_i a b
    split at e
    · rename_i hl
      cases e
      obtain ⟨pa, xs, rfl, la, da⟩ := pk_tup px
      obtain ⟨pb, ys, rfl, lb, db⟩ := pk_tup py
      have e1 := da.length
      have e2 := db.length
      refine .inr ⟨pa, pb, xs, ys, rfl, rfl, la.sq, lb.sq, by rw [line_eq]; omega, fun hx => ?_, fun _ hy => ?_, fun hx hy q nq => ?_⟩
      · subst hx
        cases da
        exact p o H _ Ext.refl R (.tup lb db)
      · subst hy
        cases db
        refine p o H _ Ext.refl R ?_
        rw [List.append_nil]
        exact .tup la da
      · obtain ⟨R1, x1, v1⟩ := new_tup R nq (da.append db) (by rw [List.length_append, line_eq]; omega)
        exact p _ _ _ x1 R1 v1
    · cases e
  · cases e
def addD : G2
  | .int i, .int j => some (.fz (.int (i + j)))
  | .str a, .str b => if a.length + b.length ≤ 16777216 then some (.fz (.str (a ++ b))) else none
  | .lst a, .lst b => if a.length + b.length ≤ 16777216 then some (.fr (.lst (a ++ b))) else none
  | .tup a, .tup b => if a.length + b.length ≤ 16777216 then some (.fz (.tup (a ++ b))) else none
  | _, _ => none
theorem sem_add : OpD X (binaryOp .Add) addD := by
  refine ((OpD.int0 op_add (k := fun i j => .int (i + j)) fun _ _ _ _ _ _ => .int _).or ((OpD.str (C := fun i j => i.length + j.length ≤ sizeLine) (c := fun i j => decide (i.length + j.length ≤ 16777216)) (k := fun i j => .str (i ++ j)) op_add_str
    (fun i j _ _ h => by rw [line_eq]; simpa using h) (fun K cn o H i j h => .str _ (by rw [str_len_app]; exact h))).or sem_cat)).le fun x y r e => ?_
  unfold addD at e
  split at e <;> first | cases e; done | skip
  · cases e; rfl
  · split at e
    · rename_i h; cases e; simp [gI, gS, h]
    · cases e
  · exact e
  · exact e
def subD : G2
  | .int i, .int j => some (.fz (.int (i - j)))
  | _, _ => none
theorem sem_sub : OpD X (binaryOp .Sub) subD := (OpD.int0 op_sub (k := fun i j => .int (i - j)) fun _ _ _ _ _ _ => .int _).le fun x y r e => by
  unfold subD at e
  split at e
  · cases e; rfl
  · cases e
def mulD : G2 := gI (fun i j => decide (-(2 ^ 64) < i ∧ i < 2 ^ 64) || decide (-(2 ^ 64) < j ∧ j < 2 ^ 64)) fun i j => .int (i * j)
theorem sem_mul : OpD X (binaryOp .Mult) mulD := OpD.int op_mul (fun i j h => by simpa [CMul] using h) fun _ _ _ _ _ _ => .int _
def fdivD : G2 := gI (fun _ j => decide (j ≠ 0 ∧ j.natAbs < 1073741824)) fun i j => .int (i.fdiv j)
theorem sem_fdiv : OpD X (binaryOp .FloorDiv) fdivD := OpD.int op_fdivN (fun i j h => by simpa [CDivN] using h) fun _ _ _ _ _ _ => .int _
def modD : G2 := gI (fun _ j => decide (j ≠ 0)) fun i j => .int (i.fmod j)
theorem sem_mod : OpD X (binaryOp .Mod) modD := OpD.int op_modN (fun i j h => of_decide_eq_true h) fun _ _ _ _ _ _ => .int _
def powD : G2 := gI (fun i j => decide (0 ≤ j ∧ j ≤ 1000000 ∧ i.natAbs < 2 ^ 64)) fun i j => .int (i ^ j.toNat)
theorem sem_pow : OpD X (binaryOp .Pow) powD := OpD.int op_pow (fun i j h => by simpa [CPow] using h) fun _ _ _ _ _ _ => .int _
def binD : Operator → G2
  | .Add => addD
  | .Sub => subD
  | .Mult => mulD
  | .FloorDiv => fdivD
  | .Mod => modD
  | .Pow => powD
  | _ => fun _ _ => none
theorem sem_bin (op : Operator) : OpD X (binaryOp op) (binD op) := by
  cases op <;> first | exact sem_add | exact sem_sub | exact sem_mul | exact sem_fdiv | exact sem_mod | exact sem_pow | exact OpD.none
/-! ### == != -/
mutual
/-- as the kit's data -/
def toPD : D → Option PyData
  | .non => some .none
  | .bl b => some (.bool b)
  | .int i => some (.int i)
  | .str x => some (.str x)
  | .lst xs => (toPDs xs).map .list
  | .tup xs => (toPDs xs).map .tuple
  | _ => none
def toPDs : List D → Option (List PyData)
  | [] => some []
  | x :: xs => (toPD x).bind fun a => (toPDs xs).map fun b => a :: b
end
theorem toPD_lst {ds : List D} {p : PyData} (e : toPD (.lst ds) = some p) : ∃ ps, toPDs ds = some ps ∧ p = .list ps := by
  simp only [toPD] at e
  cases e2 : toPDs ds with
  | none => rw [e2] at e; cases e
  | some ps => rw [e2] at e; cases e; exact ⟨ps, rfl, rfl⟩
theorem toPD_tup {ds : List D} {p : PyData} (e : toPD (.tup ds) = some p) : ∃ ps, toPDs ds = some ps ∧ p = .tuple ps := by
  simp only [toPD] at e
  cases e2 : toPDs ds with
  | none => rw [e2] at e; cases e
  | some ps => rw [e2] at e; cases e; exact ⟨ps, rfl, rfl⟩
theorem toPDs_cons {d : D} {ds : List D} {ps : List PyData} (e : toPDs (d :: ds) = some ps) : ∃ q qs, toPD d = some q ∧ toPDs ds = some qs ∧ ps = q :: qs := by
  simp only [toPDs] at e
  cases e1 : toPD d with
  | none => rw [e1] at e; cases e
  | some p =>
    cases e2 : toPDs ds with
    | none => rw [e1, e2] at e; cases e
    | some ps => rw [e1, e2] at e; cases e; exact ⟨p, ps, rfl, rfl, rfl⟩
theorem toPDs_nil {ps : List PyData} (e : toPDs [] = some ps) : ps = [] := by simp only [toPDs] at e; cases e; rfl
mutual
theorem dp_of {K : PySem.W.Frag} {cn : Wd} {o : Own} {H : Hp} : ∀ {v : V} {d : D}, Dr K cn o H v d → ∀ p, toPD d = some p → Dp K H v p
  | _, _, .non => fun p e => by simp only [toPD] at e; cases e; exact .non
  | _, _, .bl b => fun p e => by simp only [toPD] at e; cases e; exact .bl b
  | _, _, .int b => fun p e => by simp only [toPD] at e; cases e; exact .int b
  | _, _, .str b _ => fun p e => by simp only [toPD] at e; cases e; exact .str b
  | _, _, .lst h t => fun p e => by
    obtain ⟨ps, e2, e3⟩ := toPD_lst e
    rw [e3]
    exact .lst h.sq (dps_of t ps e2)
  | _, _, .tup h t => fun p e => by
    obtain ⟨ps, e2, e3⟩ := toPD_tup e
    rw [e3]
    exact .tup h.sq (dps_of t ps e2)
  | _, _, .dk _ _ _ _ _ => fun p e => by simp only [toPD] at e; cases e
  | _, _, .dt _ _ _ _ _ => fun p e => by simp only [toPD] at e; cases e
  | _, _, .ins _ _ _ _ => fun p e => by simp only [toPD] at e; cases e
  | _, _, .box _ _ => fun p e => by simp only [toPD] at e; cases e
theorem dps_of {K : PySem.W.Frag} {cn : Wd} {o : Own} {H : Hp} : ∀ {vs : List V} {ds : List D}, DrAll K cn o H vs ds → ∀ ps, toPDs ds = some ps → DpAll K H vs ps
  | _, _, .nil => fun ps e => by rw [toPDs_nil e]; exact .nil
  | _, _, .cons h t => fun ps e => by
    obtain ⟨q, qs, e1, e2, e3⟩ := toPDs_cons e
    rw [e3]
    exact .cons (dp_of h q e1) (dps_of t qs e2)
end
theorem dp_pk {K : PySem.W.Frag} {cn : Wd} {o : Own} {H : Hp} {v : V} {d : D} {p : PyData} (h : Pk K cn o H v d) (e : toPD d = some p) : Dp K H v p := by
  cases h with
  | fz h => exact dp_of h p e
  | ow h =>
    cases d with
    | lst ds =>
      obtain ⟨xs, h1, h2, h3⟩ := h
      obtain ⟨ps, e2, e3⟩ := toPD_lst e
      rw [e3]
      exact .lst (.of h1) (dps_of h3 ps e2)
    | dct _ _ _ => simp only [toPD] at e; cases e
    | _ => exact h.elim
def scalD : D → D → Option Bool
  | .non, .non => some true
  | .non, .int _ => some false | .int _, .non => some false | .non, .bl _ => some false | .bl _, .non => some false | .non, .str _ => some false | .str _, .non => some false
  | .int i, .int j => some (decide (i = j))
  | .bl i, .bl j => some (decide (i = j))
  | .str i, .str j => some (decide (i = j))
  | .int _, .str _ => some false | .str _, .int _ => some false | .bl _, .str _ => some false | .str _, .bl _ => some false
  | _, _ => none
def deepD (x y : D) : Option Bool := (toPD x).bind fun p => (toPD y).bind fun q => if SeqAt.shaped p && SeqAt.shaped q then some (PyData.eqv p q) else none
def eqD (x y : D) : Option Bool := match scalD x y with
  | some b => some b
  | none => deepD x y
def bR (o : Option Bool) : Option RV := o.map fun b => .fz (.bl b)
theorem scal_ok {K : PySem.W.Frag} {cn : Wd} {o : Own} {H : Hp} {v u : V} {x y : D} {b : Bool} (h1 : Pk K cn o H v x) (h2 : Pk K cn o H u y) (e : scalD x y = some b) : scal v u = true ∧ decide (v = u) = b := by
  unfold scalD at e
  split at e <;> first | cases e; done | skip
  all_goals
    cases e
    first
      | cases pk_non h1
      | cases pk_int h1
      | cases pk_bl h1
      | cases (pk_str h1).1
    first
      | cases pk_non h2
      | cases pk_int h2
      | cases pk_bl h2
      | cases (pk_str h2).1
    refine ⟨rfl, ?_⟩
    simp
theorem deep_ok {K : PySem.W.Frag} {cn : Wd} {o : Own} {H : Hp} {v u : V} {x y : D} {b : Bool} (h1 : Pk K cn o H v x) (h2 : Pk K cn o H u y) (e : deepD x y = some b) : ∃ p q, Dp K H v p ∧ Dp K H u q ∧ SeqAt.shaped p = true ∧ SeqAt.shaped q = true ∧ PyData.eqv p q = b := by
  unfold deepD at e
  cases e1 : toPD x with
  | none => rw [e1] at e; cases e
  | some p =>
    cases e2 : toPD y with
    | none => rw [e1, e2] at e; cases e
    | some q =>
      rw [e1, e2] at e
      simp only [Option.bind_some] at e
      split at e
      · rename_i hs
        rw [Bool.and_eq_true] at hs
        cases e
        exact ⟨p, q, dp_pk h1 e1, dp_pk h2 e2, hs.1, hs.2, rfl⟩
      · cases e
theorem sem_eq (hu : X.A.units + 64 < cLine) : OpD X (compareOp .Eq) fun x y => bR (eqD x y) := by
  refine ⟨fun K x y H Q => rEq x y H Q ∨ rEqD K x y H Q, op_eq.or (op_eqD hu), fun K cn o es σ H x y dx dy rv Q R px py e p => ?_⟩
  dsimp only at e
  unfold eqD at e
  cases e1 : scalD dx dy with
  | some b =>
    rw [e1] at e
    cases e
    obtain ⟨a1, rfl⟩ := scal_ok px py e1
    exact .inl ⟨a1, p o H _ Ext.refl R (.bl _)⟩
  | none =>
    rw [e1] at e
    cases e2 : deepD dx dy with
    | none => simp only [e2] at e; cases e
    | some b =>
      simp only [e2] at e
      cases e
      obtain ⟨d, q, a1, a2, a3, a4, rfl⟩ := deep_ok px py e2
      exact .inr ⟨d, q, a1, a2, a3, a4, p o H _ Ext.refl R (.bl _)⟩
theorem sem_ne (hu : X.A.units + 64 < cLine) : OpD X (compareOp .NotEq) fun x y => bR ((eqD x y).map fun b => !b) := by
  refine ⟨fun K x y H Q => rNe x y H Q ∨ rNeD K x y H Q, op_ne.or (op_neD hu), fun K cn o es σ H x y dx dy rv Q R px py e p => ?_⟩
  dsimp only at e
  unfold eqD at e
  cases e1 : scalD dx dy with
  | some b =>
    rw [e1] at e
    cases e
    obtain ⟨a1, rfl⟩ := scal_ok px py e1
    exact .inl ⟨a1, p o H _ Ext.refl R (.bl _)⟩
  | none =>
    rw [e1] at e
    cases e2 : deepD dx dy with
    | none => simp only [e2] at e; cases e
    | some b =>
      simp only [e2] at e
      cases e
      obtain ⟨d, q, a1, a2, a3, a4, rfl⟩ := deep_ok px py e2
      exact .inr ⟨d, q, a1, a2, a3, a4, p o H _ Ext.refl R (.bl _)⟩
/-! ### < <= > >= -/
def cmpD (ci : Int → Int → Bool) (cs : Str → Str → Bool) : G2
  | .int i, .int j => some (.fz (.bl (ci i j)))
  | .str i, .str j => some (.fz (.bl (cs i j)))
  | _, _ => none
theorem sem_cmp {ci : Int → Int → Bool} {cs : Str → Str → Bool} (h1 : OpR X f (rI0 fun i j => .bl (ci i j))) (h2 : OpR X f (fun x y H Q => ∃ i j, x = .str i ∧ y = .str j ∧ Q (.bl (cs i j)) H)) : OpD X f (cmpD ci cs) := by
  refine ((OpD.int0 h1 (k := fun i j => .bl (ci i j)) fun _ _ _ _ _ _ => .bl _).or (OpD.str (C := fun _ _ => True) (c := fun _ _ => true) (k := fun i j => .bl (cs i j)) (opr_true h2) (fun _ _ _ _ _ => trivial) (fun _ _ _ _ _ _ _ => .bl _))).le fun x y r e => ?_
  unfold cmpD at e
  split at e <;> first | cases e; rfl | cases e
def strLt (i j : Str) : Bool := decide (i.cps.toList < j.cps.toList)
/-! ### is -/
def isD (neg : Bool) : G2
  | x, .non => (match x with
    | .non => some true
    | .box _ => some false
    | .ins _ _ _ => some false
    | _ => some false).map fun b => .fz (.bl (if neg then !b else b))
  | _, _ => none
theorem pk_is {K : PySem.W.Frag} {cn : Wd} {o : Own} {H : Hp} {v : V} {d : D} (h : Pk K cn o H v d) : decide (v = .non) = (match d with | .non => true | _ => false) := by
  cases h with
  | fz h => cases h <;> simp
  | ow h => cases d <;> first | exact h.elim | simp
theorem sem_is : OpD X (compareOp .Is) (isD false) := by
  refine ⟨fun _ x y H Q => y = .non ∧ Q (.bl (decide (x = .non))) H, op_isN, fun K cn o es σ H x y dx dy rv Q R px py e p => ?_⟩
  unfold isD at e
  split at e
  · have h := pk_is px
    refine ⟨pk_non py, ?_⟩
    rw [h]
    cases dx <;> cases e <;> exact p o H _ Ext.refl R (.bl _)
  · cases e
theorem sem_isnot : OpD X (compareOp .IsNot) (isD true) := by
  refine ⟨fun _ x y H Q => y = .non ∧ Q (.bl (!decide (x = .non))) H, op_notN, fun K cn o es σ H x y dx dy rv Q R px py e p => ?_⟩
  unfold isD at e
  split at e
  · have h := pk_is px
    refine ⟨pk_non py, ?_⟩
    rw [h]
    cases dx <;> cases e <;> exact p o H _ Ext.refl R (.bl _)
  · cases e
end
end Dl
end
section
set_option Elab.async false
set_option linter.all false
set_option maxRecDepth 100000
set_option maxHeartbeats 2000000
/-! DlL: dicts read, membership, index, slices, chains of comparisons. -/
namespace Dl
open PySem PySem.Spec PyProof.Rows L2

/-! ### keys -/
def keyF : D → Option Key
  | .int i => some (.inl i)
  | .str x => some (.inr x)
  | _ => none
def keysF : List D → Option (List Key)
  | [] => some []
  | d :: ds => (keyF d).bind fun k => (keysF ds).map fun ks => k :: ks
def isKeyD (k : Key) : D → Bool
  | .int i => (match k with | .inl j => decide (i = j) | _ => false)
  | .str x => (match k with | .inr y => decide (x = y) | _ => false)
  | _ => false
def areKeysD : List Key → List D → Bool
  | [], [] => true
  | k :: ks, d :: ds => isKeyD k d && areKeysD ks ds
  | _, _ => false
def isTupD (ks : List Key) : D → Bool
  | .tup ds => areKeysD ks ds
  | _ => false
def lkD (p : D → Bool) : List D → List D → Option D
  | k :: ks, v :: vs => if p k = true then some v else lkD p ks vs
  | _, _ => none
/-- which key is meant, in a dict of the kind -/
def selD (t : Bool) : D → Option (D → Bool)
  | .int i => if t = true then none else some (isKeyD (.inl i))
  | .str x => if t = true then none else some (isKeyD (.inr x))
  | .tup ds => if t = true then (keysF ds).map isTupD else none
  | _ => none
def dgetD (d k : D) : Option (Option D) := match d with
  | .dct t ks vs => (selD t k).map fun p => lkD p ks vs
  | _ => none
theorem isKeyD_key (k j : Key) : isKeyD k (keyD j) = decide (j = k) := by
  cases k <;> cases j <;> simp [keyD, isKeyD]
theorem areKeysD_keys : ∀ (ks js : List Key), areKeysD ks (js.map keyD) = decide (js = ks)
  | [], [] => rfl
  | [], _ :: _ => by simp [areKeysD]
  | _ :: _, [] => by simp [areKeysD]
  | k :: ks, j :: js => by
    simp only [List.map_cons, areKeysD, isKeyD_key, areKeysD_keys ks js]
    by_cases h1 : j = k <;> by_cases h2 : js = ks <;> simp [h1, h2]
/-- what is found, found by both -/
def FoundD (K : PySem.W.Frag) (cn : Wd) (o : Own) (H : Hp) : Option V → Option D → Prop
  | none, none => True
  | some v, some d => Dr K cn o H v d
  | _, _ => False
theorem lk_ok {κ : Type} [DecidableEq κ] {K : PySem.W.Frag} {cn : Wd} {o : Own} {H : Hp} {kd : κ → D} {p : D → Bool} {k : κ} (hp : ∀ j, p (kd j) = decide (j = k)) : ∀ {kvs : List (κ × V)} {vs : List D}, DrAll K cn o H (kvs.map (·.2)) vs → FoundD K cn o H (valV kvs k) (lkD p (kvs.map fun q => kd q.1) vs)
  | [], _, .nil => trivial
  | q :: kvs, _, .cons h t => by
    simp only [List.map_cons, lkD, hp]
    by_cases e : q.1 = k
    · rw [valV_pos e, decide_eq_true e]; exact h
    · rw [valV_neg e, decide_eq_false e]; exact lk_ok hp t
theorem key_V {K : PySem.W.Frag} {cn : Wd} {o : Own} {H : Hp} {v : V} {d : D} {k : Key} (h : Dr K cn o H v d) (e : keyF d = some k) : v = kV k := by
  cases h <;> simp only [keyF] at e <;> first | (cases e; rfl) | cases e
theorem keys_V {K : PySem.W.Frag} {cn : Wd} {o : Own} {H : Hp} : ∀ {vs : List V} {ds : List D} {ks : List Key}, DrAll K cn o H vs ds → keysF ds = some ks → vs = ks.map kV
  | _, _, _, .nil, e => by cases e; rfl
  | _, _, ks, .cons (d := d) (ds := ds) h t, e => by
    simp only [keysF] at e
    cases e1 : keyF d with
    | none => rw [e1] at e; cases e
    | some k =>
      cases e2 : keysF ds with
      | none => rw [e1, e2] at e; cases e
      | some js => rw [e1, e2] at e; cases e; rw [List.map_cons, ← key_V h e1, ← keys_V t e2]
theorem pk_dct {K : PySem.W.Frag} {cn : Wd} {o : Own} {H : Hp} {v : V} {t : Bool} {ks vs : List D} (h : Pk K cn o H v (.dct t ks vs)) : ∃ a, v = .ref a ∧
    ((∃ kvs : List (Key × V), H a = some (.dK kvs) ∧ kvs.length ≤ sizeLine ∧ (t = false ∧ ks = kvs.map (fun p => keyD p.1) ∧ ∀ p ∈ kvs, KeyOk p.1) ∧ DrAll K cn o H (kvs.map (·.2)) vs) ∨
      (∃ kvs : List (List Key × V), H a = some (.dT kvs) ∧ kvs.length ≤ sizeLine ∧ (t = true ∧ ks = kvs.map (fun p => D.tup (p.1.map keyD)) ∧ ∀ p ∈ kvs, p.1.length ≤ sizeLine ∧ ∀ k ∈ p.1, KeyOk k) ∧ DrAll K cn o H (kvs.map (·.2)) vs)) := by
  cases h with
  | fz h =>
    cases h with
    | dk h1 h2 h3 h4 h5 => exact ⟨_, rfl, .inl ⟨_, h1, h2, h4, h5⟩⟩
    | dt h1 h2 h3 h4 h5 => exact ⟨_, rfl, .inr ⟨_, h1, h2, h4, h5⟩⟩
  | ow h => exact ⟨_, rfl, h⟩
theorem dget_ok {K : PySem.W.Frag} {cn : Wd} {o : Own} {H : Hp} {v u : V} {d k : D} {r : Option D} (hv : Pk K cn o H v d) (hu : Pk K cn o H u k) (e : dgetD d k = some r) : ∃ a ov, v = .ref a ∧ DGet H a u ov ∧ FoundD K cn o H ov r := by
  unfold dgetD at e
  split at e
  · rename_i t ks vs
    obtain ⟨a, rfl, h⟩ := pk_dct hv
    cases es : selD t k with
    | none => rw [es] at e; cases e
    | some p =>
      rw [es] at e
      cases e
      rcases h with ⟨kvs, h1, h2, ⟨rfl, rfl, hk⟩, h4⟩ | ⟨kvs, h1, h2, ⟨rfl, rfl, hk⟩, h4⟩
      · unfold selD at es
        split at es
        · rename_i i
          cases es
          cases pk_int hu
          exact ⟨a, _, rfl, .inl ⟨kvs, .inl i, .of h1, rfl, rfl⟩, lk_ok (fun j => isKeyD_key _ j) h4⟩
        · rename_i x
          cases es
          cases (pk_str hu).1
          exact ⟨a, _, rfl, .inl ⟨kvs, .inr x, .of h1, rfl, rfl⟩, lk_ok (fun j => isKeyD_key _ j) h4⟩
        · cases es
        · cases es
      · unfold selD at es
        split at es
        · cases es
        · cases es
        · rename_i ds
          rw [if_pos rfl] at es
          cases e2 : keysF ds with
          | none => rw [e2] at es; cases es
          | some js =>
            rw [e2] at es
            cases es
            obtain ⟨b, xs, rfl, ft, dr⟩ := pk_tup hu
            have ex := keys_V dr e2
            subst ex
            exact ⟨a, _, rfl, .inr ⟨kvs, js, b, .of h1, rfl, ft.1.1, rfl⟩, lk_ok (kd := fun l : List Key => D.tup (l.map keyD)) (p := isTupD js) (k := js) (fun j => areKeysD_keys _ j) h4⟩
        · cases es
  · cases e
/-! ### the layer's rules of dicts by values -/
section
variable {X : Cx}
theorem ix_dget (hu : X.A.units + 1 < cLine) : IxR X (fun x y H Q => ∃ a v, x = .ref a ∧ DGet H a y (some v) ∧ Q v H) := by
  intro value slice pins s σ H x y v u Q I rx ry h hs
  obtain ⟨a, z, rfl, g, q⟩ := h
  obtain rfl : v = Value.ref a := rx
  exact tail_any (dict_typeIs I g) PySem.F.slot_dict_getitem.lookup (d_getItem hu I g ry fun w' s3 I3 rw' => ⟨z, H, I3, rw', q⟩) hs
theorem op_din (hu : X.A.units + 1 < cLine) : OpR X (compareOp .In) (fun x y H Q => ∃ a ov, y = .ref a ∧ DGet H a x ov ∧ Q (.bl ov.isSome) H) := by
  intro pins s σ H x y v u Q I rx ry h
  obtain ⟨a, ov, rfl, g, q⟩ := h
  obtain rfl : u = Value.ref a := ry
  exact d_in hu I g rx fun s3 I3 => ⟨.bl ov.isSome, H, I3, rfl, q⟩
theorem op_dnotin (hu : X.A.units + 1 < cLine) : OpR X (compareOp .NotIn) (fun x y H Q => ∃ a ov, y = .ref a ∧ DGet H a x ov ∧ Q (.bl (!ov.isSome)) H) := by
  intro pins s σ H x y v u Q I rx ry h
  obtain ⟨a, ov, rfl, g, q⟩ := h
  obtain rfl : u = Value.ref a := ry
  exact d_notIn hu I g rx fun s3 I3 => ⟨.bl (!ov.isSome), H, I3, rfl, q⟩
end
/-! ### x in y -/
def flatD : D → Bool
  | .non => true
  | .bl _ => true
  | .int _ => true
  | .str _ => true
  | _ => false
/-- == of flat data -/
def eqF : D → D → Bool
  | .non, .non => true
  | .bl a, .bl b => a == b
  | .bl a, .int b => (if a then 1 else 0) == b
  | .int a, .bl b => a == (if b then 1 else 0)
  | .int a, .int b => a == b
  | .str a, .str b => a == b
  | _, _ => false
def hasStr (i j : Str) : Bool := match i.cps with
  | ⟨[c]⟩ => decide (c ∈ j.cps.toList)
  | _ => !(Builtin.Str.occurrences j i 0 j.length 1).isEmpty
def inD : D → D → Option Bool
  | .str i, .str j => some (hasStr i j)
  | x, .lst ds => if flatD x && ds.all flatD then some (ds.any fun z => eqF z x) else
      (toPD x).bind fun p => (toPDs ds).bind fun qs => if SeqAt.shaped p && SeqAt.shaped (.list qs) then some (qs.any fun z => PyData.eqv z p) else none
  | x, .tup ds => if flatD x && ds.all flatD then some (ds.any fun z => eqF z x) else none
  | x, .dct t ks vs => (dgetD (.dct t ks vs) x).map Option.isSome
  | _, _ => none
section
variable {K : PySem.W.Frag} {cn : Wd} {o : Own} {H : Hp}
theorem flat_V {v : V} {d : D} (h : Dr K cn o H v d) : flatV v = flatD d := by cases h <;> rfl
theorem flats_V : ∀ {vs : List V} {ds : List D}, DrAll K cn o H vs ds → vs.all flatV = ds.all flatD
  | _, _, .nil => rfl
  | _, _, .cons h t => by rw [List.all_cons, List.all_cons, flat_V h, flats_V t]
theorem eqF_V {v u : V} {x y : D} (h : Dr K cn o H v x) (k : Dr K cn o H u y) : flatD x = true → flatD y = true → eqV v u = eqF x y := by
  cases h <;> cases k <;> intro a b <;> first | rfl | cases a | cases b
theorem inF_V {u : V} {x : D} (k : Dr K cn o H u x) (fx : flatD x = true) : ∀ {vs : List V} {ds : List D}, DrAll K cn o H vs ds → ds.all flatD = true → (vs.any fun y => eqV y u) = ds.any fun z => eqF z x
  | _, _, .nil, _ => rfl
  | _, _, .cons h t, f => by
    rw [List.all_cons, Bool.and_eq_true] at f
    rw [List.any_cons, List.any_cons, eqF_V h k f.1 fx, inF_V k fx t f.2]
theorem pk_flat {v : V} {d : D} (h : Pk K cn o H v d) (f : flatD d = true) : Dr K cn o H v d := by
  cases h with
  | fz h => exact h
  | ow h => cases d <;> first | exact h.elim | cases f
end
/-- the layer's reading of in -/
def rInAll (K : PySem.W.Frag) : R2 := fun x y H Q => rIn K false x y H Q ∨ rInD K x y H Q ∨ (∃ a ov, y = .ref a ∧ DGet H a x ov ∧ Q (.bl ov.isSome) H) ∨
  (∃ (c : Nat) (z : Str), x = .str ⟨#[c]⟩ ∧ y = .str z ∧ Q (.bl (decide (c ∈ z.cps.toList))) H) ∨ ∃ i j, x = .str i ∧ y = .str j ∧ Q (.bl (!(Builtin.Str.occurrences j i 0 j.length 1).isEmpty)) H
def rNotInAll (K : PySem.W.Frag) : R2 := fun x y H Q => rIn K true x y H Q ∨ rNotInD K x y H Q ∨ (∃ a ov, y = .ref a ∧ DGet H a x ov ∧ Q (.bl (!ov.isSome)) H) ∨
  (∃ (c : Nat) (z : Str), x = .str ⟨#[c]⟩ ∧ y = .str z ∧ Q (.bl (!decide (c ∈ z.cps.toList))) H) ∨ ∃ i j, x = .str i ∧ y = .str j ∧ Q (.bl (!(!(Builtin.Str.occurrences j i 0 j.length 1).isEmpty))) H
theorem in_ok {K : PySem.W.Frag} {cn : Wd} {o : Own} {H : Hp} {x y : V} {dx dy : D} {b : Bool} (px : Pk K cn o H x dx) (py : Pk K cn o H y dy) (e : inD dx dy = some b) :
    (∀ Q : VK, Q (.bl b) H → rInAll K x y H Q) ∧ ∀ Q : VK, Q (.bl (!b)) H → rNotInAll K x y H Q := by
  unfold inD at e
  split at e
  · rename_i i j
    cases (pk_str px).1
    cases (pk_str py).1
    cases e
    unfold hasStr
    split
    · rename_i c hc
      have ei : i = ⟨#[c]⟩ := by cases i; simp only at hc; rw [hc]
      subst ei
      exact ⟨fun Q q => .inr (.inr (.inr (.inl ⟨c, j, rfl, rfl, q⟩))), fun Q q => .inr (.inr (.inr (.inl ⟨c, j, rfl, rfl, q⟩)))⟩
    · exact ⟨fun Q q => .inr (.inr (.inr (.inr ⟨i, j, rfl, rfl, q⟩))), fun Q q => .inr (.inr (.inr (.inr ⟨i, j, rfl, rfl, q⟩)))⟩
  · rename_i ds
    split at e
    · rename_i hf
      rw [Bool.and_eq_true] at hf
      cases e
      obtain ⟨a, xs, rfl, h1, h2, h3⟩ := pk_lst py
      have dx' := pk_flat px hf.1
      have e1 := inF_V dx' hf.1 h3 hf.2
      refine ⟨fun Q q => .inl ⟨a, xs, rfl, .inl (.of h1), by rw [flat_V dx']; exact hf.1, by rw [flats_V h3]; exact hf.2, ?_⟩, fun Q q => .inl ⟨a, xs, rfl, .inl (.of h1), by rw [flat_V dx']; exact hf.1, by rw [flats_V h3]; exact hf.2, ?_⟩⟩
      · show Q (.bl (inV x xs)) H
        unfold inV; rw [e1]; exact q
      · show Q (.bl (!inV x xs)) H
        unfold inV; rw [e1]; exact q
    · cases e1 : toPD dx with
      | none => rw [e1] at e; cases e
      | some p =>
        cases e2 : toPDs ds with
        | none => rw [e1, e2] at e; cases e
        | some qs =>
          rw [e1, e2] at e
          simp only [Option.bind_some] at e
          split at e
          · rename_i hs
            rw [Bool.and_eq_true] at hs
            cases e
            have k := dp_pk py (d := .lst ds) (p := .list qs) (by simp only [toPD, e2]; rfl)
            exact ⟨fun Q q => .inr (.inl ⟨p, qs, dp_pk px e1, k, hs.1, hs.2, q⟩), fun Q q => .inr (.inl ⟨p, qs, dp_pk px e1, k, hs.1, hs.2, q⟩)⟩
          · cases e
  · rename_i ds
    split at e
    · rename_i hf
      rw [Bool.and_eq_true] at hf
      cases e
      obtain ⟨a, xs, rfl, h1, h3⟩ := pk_tup py
      have dx' := pk_flat px hf.1
      have e1 := inF_V dx' hf.1 h3 hf.2
      refine ⟨fun Q q => .inl ⟨a, xs, rfl, .inr h1.sq, by rw [flat_V dx']; exact hf.1, by rw [flats_V h3]; exact hf.2, ?_⟩, fun Q q => .inl ⟨a, xs, rfl, .inr h1.sq, by rw [flat_V dx']; exact hf.1, by rw [flats_V h3]; exact hf.2, ?_⟩⟩
      · show Q (.bl (inV x xs)) H
        unfold inV; rw [e1]; exact q
      · show Q (.bl (!inV x xs)) H
        unfold inV; rw [e1]; exact q
    · cases e
  · rename_i t ks vs
    cases e1 : dgetD (.dct t ks vs) dx with
    | none => rw [e1] at e; cases e
    | some r =>
      rw [e1] at e
      cases e
      obtain ⟨a, ov, rfl, g, f⟩ := dget_ok py px e1
      have e2 : ov.isSome = r.isSome := by cases ov <;> cases r <;> first | rfl | exact f.elim
      exact ⟨fun Q q => .inr (.inr (.inl ⟨a, ov, rfl, g, by rw [e2]; exact q⟩)), fun Q q => .inr (.inr (.inl ⟨a, ov, rfl, g, by rw [e2]; exact q⟩))⟩
  · cases e
section
variable {X : Cx}
theorem sem_in (hu : X.A.units + 65 < cLine) : OpD X (compareOp .In) fun x y => bR (inD x y) := by
  refine ⟨rInAll, op_in_seq.or ((op_inD hu).or ((op_din (by omega)).or (op_in_sign.or op_in_str))), fun K cn o es σ H x y dx dy rv Q R px py e p => ?_⟩
  dsimp only at e
  cases e1 : inD dx dy with
  | none => rw [e1] at e; cases e
  | some b => rw [e1] at e; cases e; exact (in_ok px py e1).1 Q (p o H _ Ext.refl R (.bl _))
theorem sem_notin (hu : X.A.units + 65 < cLine) : OpD X (compareOp .NotIn) fun x y => bR ((inD x y).map fun b => !b) := by
  refine ⟨rNotInAll, op_notIn_seq.or ((op_notInD hu).or ((op_dnotin (by omega)).or (op_notIn_sign.or op_notin_str))), fun K cn o es σ H x y dx dy rv Q R px py e p => ?_⟩
  dsimp only at e
  cases e1 : inD dx dy with
  | none => rw [e1] at e; cases e
  | some b => rw [e1] at e; cases e; exact (in_ok px py e1).2 Q (p o H _ Ext.refl R (.bl _))
def relD : CmpOp → G2
  | .Eq => fun x y => bR (eqD x y)
  | .NotEq => fun x y => bR ((eqD x y).map fun b => !b)
  | .Lt => cmpD (fun i j => decide (i < j)) strLt
  | .LtE => cmpD (fun i j => decide (i ≤ j)) fun i j => !strLt j i
  | .Gt => cmpD (fun i j => decide (j < i)) fun i j => strLt j i
  | .GtE => cmpD (fun i j => decide (j ≤ i)) fun i j => !strLt i j
  | .Is => isD false
  | .IsNot => isD true
  | .In => fun x y => bR (inD x y)
  | .NotIn => fun x y => bR ((inD x y).map fun b => !b)
theorem sem_rel (hu : X.A.units + 65 < cLine) (op : CmpOp) : OpD X (compareOp op) (relD op) := by
  cases op
  · exact sem_eq (by omega)
  · exact sem_ne (by omega)
  · exact sem_cmp op_lt op_lt_str
  · exact sem_cmp op_le op_le_str
  · exact sem_cmp op_gt op_gt_str
  · exact sem_cmp op_ge op_ge_str
  · exact sem_is
  · exact sem_isnot
  · exact sem_in hu
  · exact sem_notin hu
end
end Dl
end
section
set_option Elab.async false
set_option linter.all false
set_option maxRecDepth 100000
set_option maxHeartbeats 2000000
/-! DlM: index, slices, chains of comparisons, builtins called. -/
namespace Dl
open PySem PySem.Spec PyProof.Rows L2

/-! ### x[i] -/
def IxD (X : Cx) (g : G2) : Prop := ∃ r : PySem.W.Frag → R2, IxR X (r X.K) ∧ Sem2 r g
theorem DrAll.atI {K : PySem.W.Frag} {cn : Wd} {o : Own} {H : Hp} {vs : List V} {ds : List D} {i : Int} {d : D} (h : DrAll K cn o H vs ds) (e : L2.atI ds i = some d) : ∃ v, L2.atI vs i = some v ∧ Dr K cn o H v d := by
  unfold L2.atI at e ⊢
  rw [h.length]
  cases q : ixN ds.length i with
  | none => rw [q] at e; cases e
  | some j => rw [q] at e; exact h.getD e
def ixD : G2
  | .lst ds, .int i => (atI ds i).map .fz
  | .tup ds, .int i => (atI ds i).map .fz
  | .str z, .int i => (atI z.cps.toList i).map fun c => .fz (.str ⟨#[c]⟩)
  | .dct t ks vs, k => (match dgetD (.dct t ks vs) k with | some (some d) => some d | _ => none).map .fz
  | _, _ => none
section
variable {X : Cx}
theorem one_len (c : Nat) : Str.length ⟨#[c]⟩ ≤ sizeLine := by show 1 ≤ sizeLine; decide
theorem sem_ix (hu : X.A.units + 1 < cLine) : IxD X ixD := by
  refine ⟨fun K x y H Q => rIx K x y H Q ∨ ∃ a v, x = .ref a ∧ DGet H a y (some v) ∧ Q v H, ix_seq.or (ix_dget hu), fun K cn o es σ H x y dx dy rv Q R px py e p => ?_⟩
  unfold ixD at e
  split at e
  · rename_i ds i
    cases e1 : atI ds i with
    | none => rw [e1] at e; cases e
    | some d =>
      rw [e1] at e
      cases e
      obtain ⟨a, xs, rfl, h1, h2, h3⟩ := pk_lst px
      obtain ⟨v, hv, dv⟩ := h3.atI e1
      exact .inl (.inl ⟨a, xs, i, v, rfl, pk_int py, .of h1, hv, p o H _ Ext.refl R dv⟩)
  · rename_i ds i
    cases e1 : atI ds i with
    | none => rw [e1] at e; cases e
    | some d =>
      rw [e1] at e
      cases e
      obtain ⟨a, xs, rfl, h1, h3⟩ := pk_tup px
      obtain ⟨v, hv, dv⟩ := h3.atI e1
      exact .inl (.inr (.inl ⟨a, xs, i, v, rfl, pk_int py, h1.sq, hv, p o H _ Ext.refl R dv⟩))
  · rename_i z i
    cases e1 : atI z.cps.toList i with
    | none => rw [e1] at e; cases e
    | some c =>
      rw [e1] at e
      cases e
      exact .inl (.inr (.inr ⟨z, i, c, (pk_str px).1, pk_int py, (pk_str px).2, e1, p o H _ Ext.refl R (.str _ (one_len c))⟩))
  · rename_i t ks vs
    cases e1 : dgetD (.dct t ks vs) dy with
    | none => rw [e1] at e; cases e
    | some r =>
      cases r with
      | none => rw [e1] at e; cases e
      | some d =>
        rw [e1] at e
        cases e
        obtain ⟨a, ov, rfl, g, f⟩ := dget_ok px py e1
        cases ov with
        | none => exact f.elim
        | some v => exact .inr ⟨a, v, rfl, g, p o H _ Ext.refl R f⟩
  · cases e
end
/-! ### x[i:j] -/
def intO : D → Option (Option Int)
  | .int i => some (some i)
  | _ => none
def partM : Option (M RV) → M (Option Int)
  | none => M.ret none
  | some f => M.bind f fun r => M.bind (peek r) fun d => M.lift (intO d)
def cutL {α : Type} (xs : List α) (lo hi : Option Int) : List α := (xs.drop (HT.sIx xs.length 0 lo)).take (HT.sIx xs.length xs.length hi - HT.sIx xs.length 0 lo)
def slD (d : D) (lo hi : Option Int) : Option RV := match d with
  | .lst ds => some (.fr (.lst (cutL ds lo hi)))
  | .tup ds => some (.fz (.tup (cutL ds lo hi)))
  | .str z => some (.fz (.str (cutS z lo hi)))
  | _ => none
def sliceM (fe : M RV) (fl fh : M (Option Int)) : M RV := M.bind fe fun r => M.bind fl fun l => M.bind fh fun u => M.bind (peek r) fun d => M.lift (slD d l u)
section
variable (K : PySem.W.Frag) (cn : Wd) (o : Own) (H : Hp) (σ : St)
def PP_ (Q : Option Int → Hp → Prop) (b : Option Int) (es' : ES) : Prop := ∀ o' H', Ext o H o' H' → Rel K cn o' H' es' σ → Q b H'
end
def tP (K : PySem.W.Frag) (cn : Wd) (Wx : WX) (f : M (Option Int)) : TO := fun σ H Q => ∃ o es r, Rel K cn o H es σ ∧ f es = some r ∧ Post K cn Wx o H σ (PP_ K cn o H σ Q) r
def DP (X : Cx) (cn : Wd) (e : Option Expr) (f : M (Option Int)) : Prop := ∀ Wx, Takes X Wx → PO X e (tP X.K cn Wx f)
theorem po_i {X : Cx} {e : Option Expr} {t t' : TO} (h : PO X e t) (i : ∀ σ H Q, t' σ H Q → t σ H Q) : PO X e t' := ⟨fun p s σ H Q I q => h.run p s σ H Q I (i σ H Q q)⟩
theorem cutL_length {α : Type} (xs : List α) (lo hi : Option Int) : (cutL xs lo hi).length ≤ xs.length := by
  unfold cutL
  rw [List.length_take, List.length_drop]
  omega
theorem DrAll.cut {K : PySem.W.Frag} {cn : Wd} {o : Own} {H : Hp} {vs : List V} {ds : List D} {lo hi : Option Int} (h : DrAll K cn o H vs ds) : DrAll K cn o H (cutV vs lo hi) (cutL ds lo hi) := by
  unfold cutV cutL
  rw [h.length]
  exact (h.drop _).take _
theorem cutS_len (z : Str) (lo hi : Option Int) : (cutS z lo hi).length ≤ z.length := by
  unfold cutS Str.length
  simp only [List.size_toArray, List.length_take, List.length_drop, Array.length_toList]
  omega
theorem sIx_bound (n : Nat) (lo : Option Int) : HT.sIx n 0 lo ≤ n := HT.sIx_le _ _ (Nat.zero_le _) _
theorem cutL_whole {α : Type} {xs : List α} {lo hi : Option Int} (h : HT.sIx xs.length 0 lo = 0 ∧ HT.sIx xs.length xs.length hi = xs.length) : cutL xs lo hi = xs := by
  unfold cutL
  rw [h.1, h.2]
  simp
section
variable {X : Cx} {cn : Wd} {a b c e : Expr} {fa fb fc f : M RV} {pos p2 : Pos}
theorem DP.none : DP X cn none (partM none) := by
  intro Wx tk
  refine po_i po_none fun σ H Q h => ?_
  obtain ⟨o, es, r, R, h, hp⟩ := h
  cases h
  exact hp o H Ext.refl R
theorem DP.some (h : DE X cn e f) : DP X cn (some e) (partM (some f)) := by
  intro Wx tk
  refine po_i (po_some (h Wx tk)) fun σ H Q h => ?_
  obtain ⟨o, es, r, R, h, hp⟩ := h
  refine tE_step R h (post_ex hp) fun rv es1 o1 H1 v x1 R1 V1 h => ?_
  rcases M.bind_some h with ⟨y, es3, e, _⟩ | ⟨d, es3, e, h⟩
  · obtain ⟨d, e', _⟩ := peek_ok R1 V1 e; cases e'
  obtain ⟨d', e', ps⟩ := peek_ok R1 V1 e
  cases e'
  obtain ⟨z, ez, rfl⟩ := M.lift_some h
  unfold intO at ez
  split at ez
  · rename_i i
    cases ez
    cases pk_int ps
    exact ⟨i, rfl, hp o1 H1 x1 R1⟩
  · cases ez
def rSlAll (K : PySem.W.Frag) : V → Option Int → Option Int → Hp → VK → Prop := fun x lo hi H Q => rSlL K x lo hi H Q ∨ rSlA K x lo hi H Q ∨ rSlS x lo hi H Q
theorem DE.slice {lo hi : Option Expr} {fl fh : M (Option Int)} (he : DE X cn e f) (hl : DP X cn lo fl) (hh : DP X cn hi fh) : DE X cn (.Subscript e (.Slice lo hi none p2) pos) (sliceM f fl fh) := by
  intro Wx tk
  refine pe_i (pe_slice (sl_list.or (sl_tupA.or sl_str)) (he Wx tk) (hl Wx tk) (hh Wx tk)) fun σ H Q h => ?_
  obtain ⟨o, es, r, R, h, hp⟩ := h
  refine tE_step R h (post_ex hp) fun rv es1 o1 H1 v x1 R1 V1 h => ?_
  have step : ∀ {o1 H1 es1} {g : M (Option Int)} {k : Option Int → M RV} {Z : Option Int → Hp → Prop} (x1 : Ext o H o1 H1) (R1 : Rel X.K cn o1 H1 es1 σ) (h : M.bind g k es1 = some r)
      (hk : ∀ b es2 o2 H2, Ext o1 H1 o2 H2 → Rel X.K cn o2 H2 es2 σ → k b es2 = some r → Z b H2), tP X.K cn Wx g σ H1 Z := by
    intro o1 H1 es1 g k Z x1 R1 h hk
    rcases M.bind_some h with ⟨x, es2, e, rfl⟩ | ⟨b, es2, e, hk'⟩
    · exact ⟨o1, es1, _, R1, e, PostX.mono x1 hp⟩
    · exact ⟨o1, es1, _, R1, e, fun o' H' x R' => hk b es2 o' H' x R' hk'⟩
  refine step x1 R1 h fun l es2 o2 H2 x2 R2 h => ?_
  refine step (x1.trans x2) R2 h fun u es3 o3 H3 x3 R3 h => ?_
  have V3 := (V1.ext x2).ext x3
  have x13 := (x1.trans x2).trans x3
  rcases M.bind_some h with ⟨y, es4, e, _⟩ | ⟨d, es4, e, h⟩
  · obtain ⟨d, e', _⟩ := peek_ok R3 V3 e; cases e'
  obtain ⟨d', e', ps⟩ := peek_ok R3 V3 e
  cases e'
  obtain ⟨z, ez, rfl⟩ := M.lift_some h
  unfold slD at ez
  split at ez
  · rename_i ds
    cases ez
    obtain ⟨q, xs, rfl, h1, h2, h3⟩ := pk_lst ps
    refine .inl ⟨q, xs, rfl, .of h1, fun n nn => ?_⟩
    obtain ⟨R4, x4, v4⟩ := new_lst R3 nn (h3.cut (lo := l) (hi := u)) (Nat.le_trans (cutV_length _ _ _) h2)
    exact hp _ _ _ (x13.trans x4) R4 (v4.back x13)
  · rename_i ds
    cases ez
    obtain ⟨q, xs, rfl, h1, h3⟩ := pk_tup ps
    refine .inr (.inl ⟨q, xs, rfl, h1.sq, fun hw => ?_, fun hw n nn => ?_⟩)
    · have hw' : HT.sIx ds.length 0 l = 0 ∧ HT.sIx ds.length ds.length u = ds.length := by rw [← h3.length]; exact hw
      refine hp _ _ _ x13 R3 ?_
      rw [cutL_whole hw']
      exact .tup h1 h3
    · obtain ⟨R4, x4, v4⟩ := new_tup R3 nn (h3.cut (lo := l) (hi := u)) (Nat.le_trans (cutV_length _ _ _) h1.2)
      exact hp _ _ _ (x13.trans x4) R4 v4
  · rename_i z
    cases ez
    exact .inr (.inr ⟨z, (pk_str ps).1, (pk_str ps).2, hp _ _ _ x13 R3 (.str _ (Nat.le_trans (cutS_len _ _ _) (pk_str ps).2))⟩)
  · cases ez
/-! ### a op b op c -/
def chainM (fa fb fc : M RV) (g g' : G2) : M RV := M.bind fa fun ra => M.bind fb fun rb => M.bind (peek ra) fun da => M.bind (peek rb) fun db =>
  M.bind (M.lift (match g da db with | some (.fz (.bl k)) => some k | _ => none)) fun k =>
  if k = true then M.bind fc fun rc => M.bind (peek rb) fun db => M.bind (peek rc) fun dc => M.lift (g' db dc) else M.ret (.fz (.bl false))
theorem tChain_of {K : PySem.W.Frag} {Wx : WX} {r r' : PySem.W.Frag → R2} {g g' : G2} (hg : Sem2 r g) (hg' : Sem2 r' g') {σ : St} {H : Hp} {Q : VK} (h : tE K cn Wx (chainM fa fb fc g g') σ H Q) : tChain (r K) (r' K) (tE K cn Wx fa) (tE K cn Wx fb) (tE K cn Wx fc) σ H Q := by
  obtain ⟨o, es, res, R, h, hp⟩ := h
  refine tE_step R h (post_ex hp) fun ra es1 o1 H1 v x1 R1 V1 h => ?_
  refine tE_step R1 h (fun y es' e => (post_ex hp y es' e).mono x1) fun rb es2 o2 H2 u x2 R2 V2 h => ?_
  have x12 := x1.trans x2
  rcases M.bind_some h with ⟨y, es3, e, _⟩ | ⟨da, es3, e, h⟩
  · obtain ⟨d, e', _⟩ := peek_ok R2 (V1.ext x2) e; cases e'
  obtain ⟨da', e', pa⟩ := peek_ok R2 (V1.ext x2) e
  cases e'
  rcases M.bind_some h with ⟨y, es3, e, _⟩ | ⟨db, es3, e, h⟩
  · obtain ⟨d, e', _⟩ := peek_ok R2 V2 e; cases e'
  obtain ⟨db', e', pb⟩ := peek_ok R2 V2 e
  cases e'
  rcases M.bind_some h with ⟨y, es3, e, _⟩ | ⟨k, es3, e, h⟩
  · obtain ⟨_, _, e'⟩ := M.lift_some e; cases e'
  obtain ⟨k', ek, e'⟩ := M.lift_some e
  cases e'
  split at ek
  · rename_i k2 eg
    cases ek
    refine hg K cn o2 es2 σ H2 v u da db _ _ R2 pa pb eg fun o' H' w x' R' V => ?_
    cases (show Dr K cn o' H' w (.bl k) from V)
    refine ⟨k, rfl, ?_⟩
    cases k with
    | false => rw [if_neg (by simp)]; cases h; exact hp _ _ _ (x12.trans x') R' (.bl _)
    | true =>
      rw [if_pos rfl]
      rw [if_pos rfl] at h
      refine tE_step R' h (fun y es' e => (post_ex hp y es' e).mono (x12.trans x')) fun rc es4 o4 H4 z x4 R4 V4 h => ?_
      have V2' := (V2.ext x').ext x4
      rcases M.bind_some h with ⟨y, es3, e, _⟩ | ⟨db2, es3, e, h⟩
      · obtain ⟨d, e', _⟩ := peek_ok R4 V2' e; cases e'
      obtain ⟨db', e', pb2⟩ := peek_ok R4 V2' e
      cases e'
      rcases M.bind_some h with ⟨y, es3, e, _⟩ | ⟨dc, es3, e, h⟩
      · obtain ⟨d, e', _⟩ := peek_ok R4 V4 e; cases e'
      obtain ⟨dc', e', pc⟩ := peek_ok R4 V4 e
      cases e'
      obtain ⟨rv, eg', rfl⟩ := M.lift_some h
      exact hg' K cn o4 es4 σ H4 u z db2 dc rv Q R4 pb2 pc eg' fun o5 H5 w x5 R5 V5 => hp o5 H5 w ((x12.trans x').trans (x4.trans x5)) R5 (V5.back ((x12.trans x').trans x4))
  · cases ek
theorem DE.chain {op op' : CmpOp} {g g' : G2} (ho : OpD X (compareOp op) g) (ho' : OpD X (compareOp op') g') (ha : DE X cn a fa) (hb : DE X cn b fb) (hc : DE X cn c fc) (hm : lastMarks [op, op'] [b, c] = false) : DE X cn (.Compare a [op, op'] [b, c] pos) (chainM fa fb fc g g') := by
  obtain ⟨r, h1, h2⟩ := ho
  obtain ⟨r', h1', h2'⟩ := ho'
  exact fun Wx tk => pe_i (pe_chain h1 h1' (ha Wx tk) (hb Wx tk) (hc Wx tk) hm) fun _ _ _ h => tChain_of h2 h2' h
theorem DT.chain {op op' : CmpOp} {g g' : G2} (ho : OpD X (compareOp op) g) (ho' : OpD X (compareOp op') g') (ha : DE X cn a fa) (hb : DE X cn b fb) (hc : DE X cn c fc) (hm : lastMarks [op, op'] [b, c] = false) : DT X cn (.Compare a [op, op'] [b, c] pos) (asB (chainM fa fb fc g g')) := by
  obtain ⟨r, h1, h2⟩ := ho
  obtain ⟨r', h1', h2'⟩ := ho'
  exact fun Wx tk => pt_i (pt_chain h1 h1' (ha Wx tk) (hb Wx tk) (hc Wx tk) hm) fun _ _ _ h => tTest_of h fun _ h => tChain_of h2 h2' h
end
/-! ### builtins called -/
def CallD (X : Cx) (f : Value) (g : List D → Option RV) : Prop := ∃ r : PySem.W.Frag → List V → Hp → VK → Prop, CallR X f (r X.K) ∧ SemN r g
theorem pk1 {K : PySem.W.Frag} {cn : Wd} {o : Own} {H : Hp} {xs : List V} {d : D} (h : Paired (Pk K cn o H) xs [d]) : ∃ x, xs = [x] ∧ Pk K cn o H x d := by
  cases h with
  | cons h t => cases t; exact ⟨_, rfl, h⟩
theorem pk2 {K : PySem.W.Frag} {cn : Wd} {o : Own} {H : Hp} {xs : List V} {d d' : D} (h : Paired (Pk K cn o H) xs [d, d']) : ∃ x y, xs = [x, y] ∧ Pk K cn o H x d ∧ Pk K cn o H y d' := by
  cases h with
  | cons h t =>
    cases t with
    | cons h' t => cases t; exact ⟨_, _, rfl, h, h'⟩
section
variable {X : Cx}
theorem call_lenDK : CallR X (.builtin "len") (fun xs H Q => ∃ a kvs, xs = [V.ref a] ∧ H a = some (.dK kvs) ∧ Q (.int kvs.length) H) := by
  intro pins s σ H xs us Q I r h
  obtain ⟨a, kvs, rfl, e, q⟩ := h
  obtain ⟨u, rfl, ru⟩ := vals1 r
  cases ru
  exact d_len I (.of e) fun t s' I' => ⟨.int _, H, I', ⟨t, rfl⟩, q⟩
def lenD : List D → Option RV
  | [.str x] => some (.fz (.int x.length))
  | [.lst ds] => some (.fz (.int ds.length))
  | [.tup ds] => some (.fz (.int ds.length))
  | [.dct _ ks _] => some (.fz (.int ks.length))
  | _ => none
theorem sem_len : CallD X (.builtin "len") lenD := by
  refine ⟨fun K xs H Q => (∃ x n, xs = [x] ∧ LenV K x H n ∧ Q (.int n) H) ∨ (∃ a kvs, xs = [V.ref a] ∧ H a = some (.dK kvs) ∧ Q (.int kvs.length) H) ∨ rLenT xs H Q, CallR.or call_len (CallR.or call_lenDK call_len_dT), fun K cn o es σ H xs ds rv Q R px e p => ?_⟩
  unfold lenD at e
  split at e
  · rename_i z
    cases e
    obtain ⟨x, rfl, px'⟩ := pk1 px
    cases (pk_str px').1
    exact .inl ⟨_, z.length, rfl, ⟨(pk_str px').2, rfl⟩, p _ _ _ Ext.refl R (.int _)⟩
  · rename_i ds
    cases e
    obtain ⟨x, rfl, px'⟩ := pk1 px
    obtain ⟨a, ys, rfl, h1, h2, h3⟩ := pk_lst px'
    exact .inl ⟨_, ys.length, rfl, .inl ⟨ys, .of h1, rfl⟩, by rw [h3.length]; exact p _ _ _ Ext.refl R (.int _)⟩
  · rename_i ds
    cases e
    obtain ⟨x, rfl, px'⟩ := pk1 px
    obtain ⟨a, ys, rfl, h1, h3⟩ := pk_tup px'
    exact .inl ⟨_, ys.length, rfl, .inr ⟨ys, h1.sq, rfl⟩, by rw [h3.length]; exact p _ _ _ Ext.refl R (.int _)⟩
  · rename_i t ks vs
    cases e
    obtain ⟨x, rfl, px'⟩ := pk1 px
    obtain ⟨a, rfl, h | h⟩ := pk_dct px'
    · obtain ⟨kvs, h1, h2, ⟨rfl, rfl, hk⟩, h3⟩ := h
      exact .inr (.inl ⟨a, kvs, rfl, h1, p o H (.int kvs.length) Ext.refl R (show Dr K cn o H _ _ by rw [List.length_map]; exact .int _)⟩)
    · obtain ⟨kvs, h1, h2, ⟨rfl, rfl, hk⟩, h3⟩ := h
      exact .inr (.inr ⟨a, kvs, rfl, h1, p o H (.int kvs.length) Ext.refl R (show Dr K cn o H _ _ by rw [List.length_map]; exact .int _)⟩)
  · cases e
end
end Dl
end
section
set_option Elab.async false
set_option linter.all false
set_option maxRecDepth 100000
set_option maxHeartbeats 2000000
/-! DlN: list, tuple, int, str, bool, all, any, isinstance. -/
namespace Dl
open PySem PySem.Spec PyProof.Rows L2

section
variable {X : Cx}
/-- list(a text) -/
def rListS : List V → Hp → VK → Prop := fun xs H Q => ∃ z : Str, xs = [.str z] ∧ z.length ≤ sizeLine ∧ ∀ p, H p = none → Q (.ref p) (upd H p (.lst (z.cps.toList.map fun c => V.str ⟨#[c]⟩)))
theorem signs_at {x : Str} : ∀ {us : List Value} {cs : List Nat}, us.length = cs.length → (∀ (j : Nat) (v : Value), us[j]? = some v → ∃ c t, cs[j]? = some c ∧ v = Value.str ⟨#[c]⟩ t) → Vals (cs.map fun c => V.str ⟨#[c]⟩) us
  | [], [], _, _ => .nil
  | u :: us, c :: cs, hl, h => by
    obtain ⟨c', t, e1, e2⟩ := h 0 u rfl
    cases (Option.some.inj e1)
    exact .cons ⟨t, e2⟩ (signs_at (x := x) (by simpa using hl) fun j v e => by
      obtain ⟨c, t, a, b⟩ := h (j + 1) v (by simpa using e)
      exact ⟨c, t, by simpa using a, b⟩)
  | [], _ :: _, hl, _ => by simp at hl
  | _ :: _, [], hl, _ => by simp at hl
theorem call_listS (hc : X.calm = true) : CallR X (.type "list") rListS := by
  intro pins s σ H xs us Q I r h
  obtain ⟨z, rfl, hz, q⟩ := h
  obtain ⟨u, rfl, t, rfl⟩ := vals1 r
  refine PySem.call_list_str (I.ok.hd hc) z t (fun h' tk acc c' hk hS hacc => ?_) hz
  refine ⟨.ref s.heap.objs.size, _, I.laid (t' := tk) hk (Nat.le_refl _) (show ObjOk X.prog X.w _ _ _ (.lst (z.cps.toList.map fun c => V.str ⟨#[c]⟩)) from ⟨?_, acc.toList, c', signs_at (x := z) ?_ ?_, by simpa using hS⟩), rfl, q _ (I.hok.fresh (Nat.le_refl _))⟩
  · rw [List.length_map, Array.length_toList]; exact hz
  · rw [Array.length_toList, Array.length_toList, hacc.1]
  · intro j v e
    obtain ⟨c, t', e1, e2⟩ := hacc.2 j v (by rw [← Array.getElem?_toList]; exact e)
    exact ⟨c, t', by rw [Array.getElem?_toList]; exact e1, e2⟩
end
section
variable {K : PySem.W.Frag} {cn : Wd} {o : Own} {H : Hp} {es : ES} {σ : St} {g : List Box}
theorem dr_key {k : Key} (h : KeyOk k) : Dr K cn o H (kV k) (keyD k) := by
  cases k with
  | inl i => exact .int i
  | inr x => exact .str x h
theorem dr_keys : ∀ {ks : List Key}, (∀ k ∈ ks, KeyOk k) → DrAll K cn o H (ks.map kV) (ks.map keyD)
  | [], _ => .nil
  | k :: ks, h => .cons (dr_key (h k List.mem_cons_self)) (dr_keys fun k' hk => h k' (List.mem_cons_of_mem _ hk))
theorem RelG.tup_free {a : Addr} {xs : List V} (R : RelG K cn o H g) (h : H a = some (.tup xs)) : o.tg a = none := by
  cases e : o.tg a with
  | none => rfl
  | some t =>
    obtain ⟨u, hu, n⟩ := R.trk a t e
    rw [h] at hu
    cases hu
    exact (show False from n).elim
theorem dr_tkeys (R : RelG K cn o H g) : ∀ {kvs : List (List Key × V)} {bs : List Addr}, IsKeys H kvs bs → (∀ p ∈ kvs, p.1.length ≤ sizeLine ∧ ∀ k ∈ p.1, KeyOk k) → DrAll K cn o H (bs.map V.ref) (kvs.map fun p => D.tup (p.1.map keyD))
  | [], [], _, _ => .nil
  | p :: kvs, b :: bs, h, hk => by
    cases h with
    | cons h1 h2 =>
      obtain ⟨k1, k2⟩ := hk p List.mem_cons_self
      exact .cons (.tup ⟨⟨h1, R.tup_free h1⟩, by rw [List.length_map]; exact k1⟩ (dr_keys k2)) (dr_tkeys R h2 fun q hq => hk q (List.mem_cons_of_mem _ hq))
  | [], _ :: _, h, _ => by cases h
  | _ :: _, [], h, _ => by cases h
theorem keys_len {kvs : List (List Key × V)} {bs : List Addr} (h : IsKeys H kvs bs) : kvs.length = bs.length := by
  unfold IsKeys at h
  exact h.length
theorem dr_signs : ∀ cs : List Nat, DrAll K cn o H (cs.map fun c => V.str ⟨#[c]⟩) (cs.map fun c => D.str ⟨#[c]⟩)
  | [] => .nil
  | c :: cs => .cons (.str _ (one_len c)) (dr_signs cs)
end
section
variable {X : Cx}
/-- list(..) -/
def listD : List D → Option RV
  | [.str z] => some (.fr (.lst (z.cps.toList.map fun c => D.str ⟨#[c]⟩)))
  | [.lst ds] => some (.fr (.lst ds))
  | [.tup ds] => some (.fr (.lst ds))
  | [.dct _ ks _] => some (.fr (.lst ks))
  | _ => none
theorem sem_list (hc : X.calm = true) : CallD X (.type "list") listD := by
  refine ⟨fun K xs H Q => rListS xs H Q ∨ (∃ p ys, xs = [V.ref p] ∧ (SqL K H p ys ∨ SqT K H p ys) ∧ ∀ l, H l = none → Q (.ref l) (upd H l (.lst ys))) ∨ rListD xs H Q ∨ (∃ d kvs, xs = [V.ref d] ∧ Rd H d (.dT kvs) ∧ ∀ p bs, H p = none → IsKeys H kvs bs → Q (.ref p) (upd H p (.lst (bs.map V.ref)))),
    (call_listS hc).or (call_list_of.or ((call_list_dK hc).or (call_list_dT hc))), fun K cn o es σ H xs ds rv Q R px e p => ?_⟩
  unfold listD at e
  split at e
  · rename_i z
    cases e
    obtain ⟨x, rfl, px'⟩ := pk1 px
    cases (pk_str px').1
    refine .inl ⟨z, rfl, (pk_str px').2, fun q nq => ?_⟩
    obtain ⟨R1, x1, v1⟩ := new_lst R nq (dr_signs z.cps.toList) (by rw [List.length_map, Array.length_toList]; exact (pk_str px').2)
    exact p _ _ _ x1 R1 v1
  · rename_i ds
    cases e
    obtain ⟨x, rfl, px'⟩ := pk1 px
    obtain ⟨a, ys, rfl, h1, h2, h3⟩ := pk_lst px'
    refine .inr (.inl ⟨a, ys, rfl, .inl (.of h1), fun q nq => ?_⟩)
    obtain ⟨R1, x1, v1⟩ := new_lst R nq h3 h2
    exact p _ _ _ x1 R1 v1
  · rename_i ds
    cases e
    obtain ⟨x, rfl, px'⟩ := pk1 px
    obtain ⟨a, ys, rfl, h1, h3⟩ := pk_tup px'
    refine .inr (.inl ⟨a, ys, rfl, .inr h1.sq, fun q nq => ?_⟩)
    obtain ⟨R1, x1, v1⟩ := new_lst R nq h3 h1.2
    exact p _ _ _ x1 R1 v1
  · rename_i t ks vs
    cases e
    obtain ⟨x, rfl, px'⟩ := pk1 px
    obtain ⟨a, rfl, h | h⟩ := pk_dct px'
    · obtain ⟨kvs, h1, h2, ⟨rfl, rfl, hk⟩, h3⟩ := h
      refine .inr (.inr (.inl ⟨a, kvs, rfl, h1, fun q nq => ?_⟩))
      have e1 : kvs.map (fun kv => kV kv.1) = (kvs.map (·.1)).map kV := by rw [List.map_map]; rfl
      have e2 : kvs.map (fun kv => keyD kv.1) = (kvs.map (·.1)).map keyD := by rw [List.map_map]; rfl
      have dk : DrAll K cn o H (kvs.map fun kv => kV kv.1) (kvs.map fun kv => keyD kv.1) := by
        rw [e1, e2]
        exact dr_keys fun k hk' => by obtain ⟨q, hq, rfl⟩ := List.mem_map.mp hk'; exact hk q hq
      obtain ⟨R1, x1, v1⟩ := new_lst R nq dk (by rw [List.length_map]; exact h2)
      exact p _ _ _ x1 R1 v1
    · obtain ⟨kvs, h1, h2, ⟨rfl, rfl, hk⟩, h3⟩ := h
      refine .inr (.inr (.inr ⟨a, kvs, rfl, .of h1, fun q bs nq ik => ?_⟩))
      obtain ⟨R1, x1, v1⟩ := new_lst R nq (dr_tkeys R.g ik hk) (by rw [List.length_map, ← keys_len ik]; exact h2)
      exact p _ _ _ x1 R1 v1
  · cases e
/-- tuple(..) -/
def tupleD : List D → Option RV
  | [.lst ds] => some (.fz (.tup ds))
  | [.tup ds] => some (.fz (.tup ds))
  | _ => none
theorem sem_tuple : CallD X (.type "tuple") tupleD := by
  refine ⟨fun K xs H Q => ∃ p ys, xs = [V.ref p] ∧ ((SqL K H p ys ∧ ∀ l, H l = none → Q (.ref l) (upd H l (.tup ys))) ∨ (SqT K H p ys ∧ Q (.ref p) H)), call_tuple_of, fun K cn o es σ H xs ds rv Q R px e p => ?_⟩
  unfold tupleD at e
  split at e
  · rename_i ds
    cases e
    obtain ⟨x, rfl, px'⟩ := pk1 px
    obtain ⟨a, ys, rfl, h1, h2, h3⟩ := pk_lst px'
    refine ⟨a, ys, rfl, .inl ⟨.of h1, fun q nq => ?_⟩⟩
    obtain ⟨R1, x1, v1⟩ := new_tup R nq h3 h2
    exact p _ _ _ x1 R1 v1
  · rename_i ds
    cases e
    obtain ⟨x, rfl, px'⟩ := pk1 px
    obtain ⟨a, ys, rfl, h1, h3⟩ := pk_tup px'
    exact ⟨a, ys, rfl, .inr ⟨h1.sq, p _ _ _ Ext.refl R (.tup h1 h3)⟩⟩
  · cases e
/-- int(..) -/
def intD : List D → Option RV
  | [.int i] => some (.fz (.int i))
  | [.bl b] => some (.fz (.int (if b then 1 else 0)))
  | [.str x] => if x.length ≤ 640 then (PySem.intText? x).map fun n => .fz (.int n) else none
  | _ => none
theorem sem_int : CallD X (.type "int") intD := by
  refine ⟨fun _ xs H Q => ((∃ i, xs = [.int i] ∧ Q (.int i) H) ∨ ∃ k, xs = [.bl k] ∧ Q (.int (if k then 1 else 0)) H) ∨ ∃ a n, xs = [.str a] ∧ PySem.intText? a = some n ∧ a.length ≤ 640 ∧ Q (.int n) H, call_int1.or call_int_str, fun K cn o es σ H xs ds rv Q R px e p => ?_⟩
  unfold intD at e
  split at e
  · rename_i i
    cases e
    obtain ⟨x, rfl, px'⟩ := pk1 px
    cases pk_int px'
    exact .inl (.inl ⟨i, rfl, p _ _ _ Ext.refl R (.int _)⟩)
  · rename_i b
    cases e
    obtain ⟨x, rfl, px'⟩ := pk1 px
    cases pk_bl px'
    exact .inl (.inr ⟨b, rfl, p _ _ _ Ext.refl R (.int _)⟩)
  · rename_i z
    split at e
    · rename_i hz
      cases e1 : PySem.intText? z with
      | none => rw [e1] at e; cases e
      | some n =>
        rw [e1] at e
        cases e
        obtain ⟨x, rfl, px'⟩ := pk1 px
        cases (pk_str px').1
        exact .inr ⟨z, n, rfl, e1, hz, p _ _ _ Ext.refl R (.int _)⟩
    · cases e
  · cases e
/-- str(..) -/
def strD : List D → Option RV
  | [.int i] => if i.natAbs.log2 < 1920 ∧ (toString i : Str).length ≤ 16777216 then some (.fz (.str (toString i))) else none
  | [.str x] => some (.fz (.str x))
  | _ => none
theorem sem_str : CallD X (.type "str") strD := by
  refine ⟨fun _ xs H Q => (∃ i, xs = [.int i] ∧ i.natAbs.log2 < 1920 ∧ Q (.str (toString i)) H) ∨ ∃ a, xs = [.str a] ∧ Q (.str a) H, call_str_int.or SkE.call_str_str, fun K cn o es σ H xs ds rv Q R px e p => ?_⟩
  unfold strD at e
  split at e
  · rename_i i
    split at e
    · rename_i hi
      cases e
      obtain ⟨x, rfl, px'⟩ := pk1 px
      cases pk_int px'
      exact .inl ⟨i, rfl, hi.1, p _ _ _ Ext.refl R (.str _ (by rw [line_eq]; exact hi.2))⟩
    · cases e
  · rename_i z
    cases e
    obtain ⟨x, rfl, px'⟩ := pk1 px
    obtain ⟨e1, e2⟩ := pk_str px'
    cases e1
    exact .inr ⟨z, rfl, p _ _ _ Ext.refl R (.str _ e2)⟩
  · cases e
/-- bool(..) -/
def boolD : List D → Option RV
  | [.int i] => some (.fz (.bl (i != 0)))
  | [.bl b] => some (.fz (.bl b))
  | [.lst ds] => some (.fz (.bl (!ds.isEmpty)))
  | _ => none
theorem sem_bool : CallD X (.type "bool") boolD := by
  refine ⟨fun K xs H Q => ((∃ i, xs = [.int i] ∧ Q (.bl (i != 0)) H) ∨ ∃ k, xs = [.bl k] ∧ Q (.bl k) H) ∨ ∃ (a : Addr) (zs : List V), xs = [.ref a] ∧ SqL K H a zs ∧ Q (.bl (!zs.isEmpty)) H, call_bool1.or call_boolL, fun K cn o es σ H xs ds rv Q R px e p => ?_⟩
  unfold boolD at e
  split at e
  · rename_i i
    cases e
    obtain ⟨x, rfl, px'⟩ := pk1 px
    cases pk_int px'
    exact .inl (.inl ⟨i, rfl, p _ _ _ Ext.refl R (.bl _)⟩)
  · rename_i b
    cases e
    obtain ⟨x, rfl, px'⟩ := pk1 px
    cases pk_bl px'
    exact .inl (.inr ⟨b, rfl, p _ _ _ Ext.refl R (.bl _)⟩)
  · rename_i ds
    cases e
    obtain ⟨x, rfl, px'⟩ := pk1 px
    obtain ⟨a, ys, rfl, h1, h2, h3⟩ := pk_lst px'
    refine .inr ⟨a, ys, rfl, .of h1, ?_⟩
    rw [← isEmpty_dr h3]
    exact p _ _ _ Ext.refl R (.bl _)
  · cases e
/-- all(..), any(..) of a list of truths -/
def bools : List D → Option (List Bool)
  | [] => some []
  | .bl b :: ds => (bools ds).map fun bs => b :: bs
  | _ => none
theorem bools_V {K : PySem.W.Frag} {cn : Wd} {o : Own} {H : Hp} : ∀ {vs : List V} {ds : List D} {bs : List Bool}, DrAll K cn o H vs ds → bools ds = some bs → vs = bs.map V.bl
  | _, _, _, .nil, e => by cases e; rfl
  | _, _, bs, .cons (d := d) (ds := ds) h t, e => by
    cases h <;> simp only [bools] at e <;> first | cases e; done | skip
    cases e2 : bools ds with
    | none => rw [e2] at e; cases e
    | some js => rw [e2] at e; cases e; rw [List.map_cons, ← bools_V t e2]
def allD (f : List Bool → Bool) : List D → Option RV
  | [.lst ds] => (bools ds).map fun bs => .fz (.bl (f bs))
  | _ => none
theorem sem_all (hc : X.calm = true) : CallD X (.builtin "all") (allD fun bs => bs.all id) := by
  refine ⟨rAll, cr_all hc, fun K cn o es σ H xs ds rv Q R px e p => ?_⟩
  unfold allD at e
  split at e
  · rename_i ds
    cases e2 : bools ds with
    | none => rw [e2] at e; cases e
    | some bs =>
      rw [e2] at e
      cases e
      obtain ⟨x, rfl, px'⟩ := pk1 px
      obtain ⟨a, ys, rfl, h1, h2, h3⟩ := pk_lst px'
      cases bools_V h3 e2
      exact ⟨a, bs, rfl, .of h1, p _ _ _ Ext.refl R (.bl _)⟩
  · cases e
theorem sem_any (hc : X.calm = true) : CallD X (.builtin "any") (allD fun bs => bs.any id) := by
  refine ⟨rAny, cr_any hc, fun K cn o es σ H xs ds rv Q R px e p => ?_⟩
  unfold allD at e
  split at e
  · rename_i ds
    cases e2 : bools ds with
    | none => rw [e2] at e; cases e
    | some bs =>
      rw [e2] at e
      cases e
      obtain ⟨x, rfl, px'⟩ := pk1 px
      obtain ⟨a, ys, rfl, h1, h2, h3⟩ := pk_lst px'
      cases bools_V h3 e2
      exact ⟨a, bs, rfl, .of h1, p _ _ _ Ext.refl R (.bl _)⟩
  · cases e
/-- max(i, j), min(i, j) -/
def max2D : List D → Option RV
  | [.int i, .int j] => some (.fz (.int (if j > i then j else i)))
  | _ => none
theorem sem_max2 (hc : X.calm = true) : CallD X (.builtin "max") max2D := by
  refine ⟨fun _ xs H Q => ∃ i j, xs = [.int i, .int j] ∧ Q (.int (if j > i then j else i)) H, call_max2 hc, fun K cn o es σ H xs ds rv Q R px e p => ?_⟩
  unfold max2D at e
  split at e
  · cases e
    obtain ⟨x, y, rfl, p1, p2⟩ := pk2 px
    cases pk_int p1
    cases pk_int p2
    exact ⟨_, _, rfl, p _ _ _ Ext.refl R (.int _)⟩
  · cases e
def min2D : List D → Option RV
  | [.int i, .int j] => some (.fz (.int (if j < i then j else i)))
  | _ => none
theorem sem_min2 (hc : X.calm = true) : CallD X (.builtin "min") min2D := by
  refine ⟨fun _ xs H Q => ∃ i j, xs = [.int i, .int j] ∧ Q (.int (if j < i then j else i)) H, call_min2 hc, fun K cn o es σ H xs ds rv Q R px e p => ?_⟩
  unfold min2D at e
  split at e
  · cases e
    obtain ⟨x, y, rfl, p1, p2⟩ := pk2 px
    cases pk_int p1
    cases pk_int p2
    exact ⟨_, _, rfl, p _ _ _ Ext.refl R (.int _)⟩
  · cases e
end
/-! ### isinstance -/
def tyD : D → Option String
  | .non => some "NoneType"
  | .bl _ => some "bool"
  | .int _ => some "int"
  | .str _ => some "str"
  | .lst _ => some "list"
  | .tup _ => some "tuple"
  | .dct _ _ _ => some "dict"
  | _ => none
def subTy (t n : String) : Bool := t == n || (t == "bool" && n == "int")
def tyNames : List String := ["str", "int", "bool", "list", "tuple", "dict"]
theorem kit_sub : (["NoneType", "bool", "int", "str", "list", "tuple", "dict"].all fun t => tyNames.all fun n => decide (kitB t n = some (subTy t n))) = true := by decide +kernel
theorem tyD_mem {d : D} {t : String} (h : tyD d = some t) : t ∈ ["NoneType", "bool", "int", "str", "list", "tuple", "dict"] := by
  cases d <;> simp only [tyD] at h <;> first | (cases h; simp) | cases h
theorem kit_at {K : PySem.W.Frag} {d : D} {t n : String} (h : tyD d = some t) (hn : n ∈ tyNames) : PySem.W.kitOne K (.type t) (.type n) = some (subTy t n) :=
  kit_ty (of_decide_eq_true (List.all_eq_true.mp (List.all_eq_true.mp kit_sub t (tyD_mem h)) n hn))
theorem kit_any {K : PySem.W.Frag} {d : D} {t : String} (h : tyD d = some t) : ∀ {ns : List String}, (∀ n ∈ ns, n ∈ tyNames) → PySem.W.kitAny K (.type t) (ns.map Value.type) = some (ns.any (subTy t))
  | [], _ => rfl
  | n :: ns, hn => by
    rw [List.map_cons, List.any_cons]
    refine kitAny_cons (kit_at h (hn n List.mem_cons_self)) (fun e => ?_) fun e => by rw [e]; rfl
    rw [e, Bool.false_or]
    exact kit_any h fun m hm => hn m (List.mem_cons_of_mem _ hm)
theorem ty_of {K : PySem.W.Frag} {cn : Wd} {o : Own} {H : Hp} {v : V} {d : D} {t : String} (h : Pk K cn o H v d) (e : tyD d = some t) : TyX K H v (.type t) := by
  cases d with
  | non => cases pk_non h; cases e; exact .base .non
  | bl b => cases pk_bl h; cases e; exact .base (.bl b)
  | int b => cases pk_int h; cases e; exact .base (.int b)
  | str b => cases (pk_str h).1; cases e; exact .base (.str b)
  | lst ds => obtain ⟨a, xs, rfl, h1, _⟩ := pk_lst h; cases e; exact .base (.lst h1)
  | tup ds => obtain ⟨a, xs, rfl, h1, _⟩ := pk_tup h; cases e; exact .base (.tup h1.1.1)
  | dct t ks vs =>
    cases e
    obtain ⟨a, rfl, ⟨kvs, h1, _⟩ | ⟨kvs, h1, _⟩⟩ := pk_dct h
    · exact .base (.dK h1)
    · exact .base (.dT h1)
  | _ => cases e
def isiM (f : M RV) (ns : List String) : M RV := M.bind f fun r => M.bind (peek r) fun d => M.lift ((tyD d).map fun t => .fz (.bl (ns.any (subTy t))))
section
variable {X : Cx} {cn : Wd} {e : Expr} {f : M RV} {p pos tpos : Pos}
theorem pe_tyName {x : Str} {n : String} (hg : Gl X x) (hm : X.mg x = none) (hv : bootBuiltins x = some (.type n)) (hn : x ≠ "__name__") (hd : (x == ("__debug__" : Str)) = false) : PE X (.Name x pos) (tC (.ty n)) :=
  ⟨fun _ _ _ H _ I h => ld_blt I hg hm hv ⟨.ty n, H, I, rfl, h⟩ hn hd⟩
theorem isi_wish {K : PySem.W.Frag} {Wx : WX} {ns : List String} (hns : ∀ n ∈ ns, n ∈ tyNames) {σ : St} {H : Hp} {Q : VK} (h : tE K cn Wx (isiM f ns) σ H Q) : tE K cn Wx f σ H (fun x H1 => ∃ (t : Value) (b : Bool), TyX K H1 x t ∧ PySem.W.kitAny K t (ns.map Value.type) = some b ∧ (∀ c u, ns = [c] → u = Value.type c → PySem.W.kitOne K t u = some b) ∧ Q (.bl b) H1 ∧
    ∀ p w, H1 p = none → Q (.bl b) (upd H1 p (.tup w))) := by
  obtain ⟨o, es, r, R, h, hp⟩ := h
  refine tE_step R h (post_ex hp) fun rv es1 o1 H1 v x1 R1 V1 h => ?_
  rcases M.bind_some h with ⟨y, es3, e, _⟩ | ⟨d, es3, e, h⟩
  · obtain ⟨d, e', _⟩ := peek_ok R1 V1 e; cases e'
  obtain ⟨d', e', ps⟩ := peek_ok R1 V1 e
  cases e'
  obtain ⟨z, ez, rfl⟩ := M.lift_some h
  cases et : tyD d with
  | none => rw [et] at ez; cases ez
  | some t =>
    rw [et] at ez
    cases ez
    refine ⟨.type t, _, ty_of ps et, kit_any et hns, fun c u ec eu => ?_, hp o1 H1 _ x1 R1 (.bl _), fun p w np => ?_⟩
    · subst ec eu
      have := kit_at (K := K) et (hns c List.mem_cons_self)
      simpa using this
    · obtain ⟨R2, x2⟩ := R1.new (u := .tup w) np
      exact hp o1 _ _ (x1.trans x2) R2 (.bl _)
theorem DE.isi1 {x : Str} {n : String} {xp : Pos} (he : DE X cn e f) (hg : Gl X "isinstance") (hm : X.mg "isinstance" = none) (hgx : Gl X x) (hmx : X.mg x = none) (hvx : bootBuiltins x = some (.type n)) (hnx : x ≠ "__name__") (hdx : (x == ("__debug__" : Str)) = false) (hn : n ∈ tyNames)
    (hs1 : starEach [e, .Name x xp] X.env = (false, eval e X.env) :: starEach [.Name x xp] X.env) (hs2 : starEach [.Name x xp] X.env = [(false, eval (.Name x xp) X.env)]) :
    DE X cn (.Call (.Name "isinstance" p) [e, .Name x xp] [] pos) (isiM f [n]) := by
  intro Wx tk
  refine pe_i (pe_callB call_isi hg hm PyProof.Rows.boot_isinstance (pa_cons (he Wx tk) (pa_cons (pe_tyName hgx hmx hvx hnx hdx) pa_nil hs2) hs1) (by decide) (by decide) hs1 (by rw [hs2]; rfl)) fun σ H Q h => ?_
  have h := isi_wish (fun m hm => by rcases List.mem_singleton.mp hm with rfl; exact hn) h
  obtain ⟨o, es, r, R, h, hp⟩ := h
  refine ⟨o, es, r, R, h, ?_⟩
  cases r with
  | ex y es' => exact hp
  | ok rv es' =>
    intro o' H' v x' R' V
    obtain ⟨t, b, ty, ka, k1, q, _⟩ := hp o' H' v x' R' V
    exact ⟨v, .ty n, t, .type n, b, rfl, .ty n, ty, k1 n _ rfl rfl, q⟩
/-- names of builtin types -/
inductive TyEs (X : Cx) : List Expr → List String → Prop
  | nil : TyEs X [] []
  | cons {x : Str} {n : String} {xp : Pos} {es : List Expr} {ns : List String} : Gl X x → X.mg x = none → bootBuiltins x = some (.type n) → x ≠ "__name__" → (x == ("__debug__" : Str)) = false → n ∈ tyNames →
      starEach (.Name x xp :: es) X.env = (false, eval (.Name x xp) X.env) :: starEach es X.env → TyEs X es ns → TyEs X (.Name x xp :: es) (n :: ns)
theorem TyEs.pa {es : List Expr} {ns : List String} (h : TyEs X es ns) : PA X es (fun _ H Q => Q (ns.map V.ty) H) := by
  induction h with
  | nil => exact pa_i pa_nil fun σ H Q h => h
  | cons a b c d e f g _ ih => exact pa_i (pa_cons (pe_tyName a b c d e) ih g) fun σ H Q h => h
theorem TyEs.mem {es : List Expr} {ns : List String} (h : TyEs X es ns) : ∀ n ∈ ns, n ∈ tyNames := by
  induction h with
  | nil => intro n hn; cases hn
  | cons a b c d e f g _ ih =>
    intro n hn
    rcases List.mem_cons.mp hn with rfl | hn
    · exact f
    · exact ih n hn
theorem TyEs.len {es : List Expr} {ns : List String} (h : TyEs X es ns) : es.length = ns.length := by
  induction h with
  | nil => rfl
  | cons a b c d e f g _ ih => simp [ih]
theorem clsV_tys : ∀ ns : List String, Paired ClsV (ns.map V.ty) (ns.map Value.type)
  | [] => .nil
  | n :: ns => .cons (.ty n) (clsV_tys ns)
theorem DE.isiT {es : List Expr} {ns : List String} {k : Nat} (he : DE X cn e f) (hg : Gl X "isinstance") (hm : X.mg "isinstance" = none) (ht : TyEs X es ns) (hz : es.length ≤ 16)
    (hs1 : starEach [e, .Tuple es k tpos] X.env = (false, eval e X.env) :: starEach [.Tuple es k tpos] X.env) (hs2 : starEach [.Tuple es k tpos] X.env = [(false, eval (.Tuple es k tpos) X.env)]) :
    DE X cn (.Call (.Name "isinstance" p) [e, .Tuple es k tpos] [] pos) (isiM f ns) := by
  intro Wx tk
  refine pe_i (pe_callB call_isiT hg hm PyProof.Rows.boot_isinstance (pa_cons (he Wx tk) (pa_cons (pe_tup ht.pa) pa_nil hs2) hs1) (by decide) (by decide) hs1 (by rw [hs2]; rfl)) fun σ H Q h => ?_
  have h := isi_wish ht.mem h
  obtain ⟨o, es', r, R, h, hp⟩ := h
  refine ⟨o, es', r, R, h, ?_⟩
  cases r with
  | ex y es' => exact hp
  | ok rv es' =>
    intro o' H' v x' R' V
    obtain ⟨t, b, ty, ka, k1, q1, q⟩ := hp o' H' v x' R' V
    refine ⟨by rw [List.length_map, ← ht.len, line_eq]; omega, fun p np => ?_⟩
    refine ⟨v, p, ns.map L2.V.ty, t, ns.map Value.type, b, rfl, upd_same, clsV_tys ns, ?_, ka, q p _ np⟩
    have up : ∀ {a : Addr} {u : HO}, H' a = some u → upd H' p (.tup (ns.map L2.V.ty)) a = some u := fun {a u} e => by rw [upd_ne (ne_of_none e np)]; exact e
    cases ty with
    | base b => cases b with
      | non => exact .base .non
      | bl x => exact .base (.bl x)
      | int x => exact .base (.int x)
      | str x => exact .base (.str x)
      | flt x => exact .base (.flt x)
      | lst e => exact .base (.lst (up e))
      | frz e => exact .base (.frz (up e))
      | tup e => exact .base (.tup (up e))
      | dK e => exact .base (.dK (up e))
      | dT e => exact .base (.dT (up e))
      | ins e a b c d f => exact .base (.ins (up e) a b c d f)
    | byt x => exact .byt x
    | set e => exact .set (up e)
    | kList e c => exact .kList e c
    | kTuple e c => exact .kTuple e c
    | kDict e c => exact .kDict e c
    | fTuple e => exact .fTuple (up e)
    | fDict e => exact .fDict (up e)
end
end Dl
end
section
set_option Elab.async false
set_option linter.all false
set_option maxRecDepth 100000
set_option maxHeartbeats 2000000
/-! DlO: what is owned is written; methods. -/
namespace Dl
open PySem PySem.Spec PyProof.Rows L2

section
variable {K : PySem.W.Frag} {cn : Wd} {o : Own} {H : Hp} {es : ES} {σ : St} {p : Addr} {t : Tag} {c : HO} {g : List Box}
theorem tg_ne {a : Addr} {t' : Option Tag} (ht : o.tg p = some t) (h : o.tg a = t') (n : t' ≠ some t) : a ≠ p := fun e => n (by rw [← h, e]; exact ht)
mutual
theorem Dr.wr (ht : o.tg p = some t) : ∀ {v d}, Dr K cn o H v d → Dr K cn o (upd H p c) v d
  | _, _, .non => .non
  | _, _, .bl b => .bl b
  | _, _, .int b => .int b
  | _, _, .str b h => .str b h
  | _, _, .lst h k => .lst ⟨⟨by rw [upd_ne (tg_ne ht h.1.2 (by simp))]; exact h.1.1, h.1.2⟩, h.2⟩ (DrAll.wr ht k)
  | _, _, .tup h k => .tup ⟨⟨by rw [upd_ne (tg_ne ht h.1.2 (by simp))]; exact h.1.1, h.1.2⟩, h.2⟩ (DrAll.wr ht k)
  | _, _, .dk h l k e r => .dk (by rw [upd_ne (tg_ne ht k (by simp))]; exact h) l k e (DrAll.wr ht r)
  | _, _, .dt h l k e r => .dt (by rw [upd_ne (tg_ne ht k (by simp))]; exact h) l k e (DrAll.wr ht r)
  | _, _, .ins h k e r => .ins (by rw [upd_ne (tg_ne ht k (by simp))]; exact h) k e (DrAll.wr ht r)
  | _, _, .box n h => .box n h
theorem DrAll.wr (ht : o.tg p = some t) : ∀ {vs ds}, DrAll K cn o H vs ds → DrAll K cn o (upd H p c) vs ds
  | _, _, .nil => .nil
  | _, _, .cons h k => .cons (Dr.wr ht h) (DrAll.wr ht k)
end
theorem Cont.wr {q : Addr} {d : D} (ht : o.tg p = some t) (hq : q ≠ p) (h : Cont K cn o H q d) : Cont K cn o (upd H p c) q d := by
  cases d with
  | lst ds => obtain ⟨xs, h1, hl, h2⟩ := h; exact ⟨xs, by rw [upd_ne hq]; exact h1, hl, h2.wr ht⟩
  | dct _ ks vs =>
    rcases h with ⟨kvs, h1, hl, h2, h3⟩ | ⟨kvs, h1, hl, h2, h3⟩
    · exact .inl ⟨kvs, by rw [upd_ne hq]; exact h1, hl, h2, h3.wr ht⟩
    · exact .inr ⟨kvs, by rw [upd_ne hq]; exact h1, hl, h2, h3.wr ht⟩
  | _ => exact h.elim
theorem PlOk.wr {t' : Tag} {v : V} {l : LV} (ht : o.tg p = some t) (n : t' ≠ t) (h : PlOk K cn o H t' v l) : PlOk K cn o (upd H p c) t' v l := by
  cases l with
  | fz d => exact Dr.wr ht h
  | ow d => obtain ⟨p', e, h1, h2⟩ := h; exact ⟨p', e, h1, h2.wr ht (tg_ne ht h1 (by simpa using n))⟩
theorem PlAll.wr {m : Nat} (ht : o.tg p = some t) (n : ∀ j, Tag.sub m j ≠ t) : ∀ {vs ls k}, PlAll K cn o H m k vs ls → PlAll K cn o (upd H p c) m k vs ls
  | [], [], _, _ => trivial
  | v :: vs, l :: ls, _, h => ⟨h.1.wr ht (n _), PlAll.wr ht n h.2⟩
  | [], _ :: _, _, h => h.elim
  | _ :: _, [], _, h => h.elim
theorem SlotOk.wr {i : Nat} {l : LV} (ht : o.tg p = some t) (n : Tag.slot i ≠ t) (h : SlotOk K cn o H σ i l) : SlotOk K cn o (upd H p c) σ i l := by
  cases l with
  | fz d => obtain ⟨v, e, h⟩ := h; exact ⟨v, e, h.wr ht⟩
  | ow d => obtain ⟨p', e, h1, h2⟩ := h; exact ⟨p', e, h1, h2.wr ht (tg_ne ht h1 (by simpa using n))⟩
theorem BoxOk.wr {m : Nat} {b : Box} {q : Addr} (ht : o.tg p = some t) (hq : q ≠ p) (n : ∀ j, Tag.sub m j ≠ t) (h : BoxOk K cn o H m q b) : BoxOk K cn o (upd H p c) m q b := by
  cases b with
  | stm cs l k x => obtain ⟨r, a1, a2, a3⟩ := h; exact ⟨r, by rw [upd_ne hq]; exact a1, a2, by rw [upd_ne (tg_ne ht a2 (by simpa using n 0))]; exact a3⟩
  | obj c ns vs => obtain ⟨dx, fs, a1, a2, a3⟩ := h; exact ⟨dx, fs, by rw [upd_ne hq]; exact a1, a2, a3.wr ht n⟩
  | row vs => obtain ⟨xs, a1, a3⟩ := h; exact ⟨xs, by rw [upd_ne hq]; exact a1, a3.wr ht n⟩
/-- the boxes behind a write; what is written is told of its own box -/
theorem RelG.wr {g' : List Box} (R : RelG K cn o H g) (ht : o.tg p = some t) (nt : t ≠ .tbl) (hc : NE c) (hn : NT c) (hb : ∀ (m : Nat) (b : Box), g'[m]? = some b → (g[m]? = some b ∧ t ≠ .box m ∧ ∀ j, Tag.sub m j ≠ t) ∨ o.tg (o.bx m) = some (.box m) ∧ BoxOk K cn o (upd H p c) m (o.bx m) b) : RelG K cn o (upd H p c) g' := by
  refine ⟨fun m b e => ?_, fun a t' h => ?_, fun a ps h => ?_, fun q hq => ?_⟩
  · rcases hb m b e with ⟨h1, h2, h3⟩ | h
    · obtain ⟨q1, q2⟩ := R.boxes m b h1
      exact ⟨q1, q2.wr ht (tg_ne ht q1 (by simpa using fun z => h2 z.symm)) h3⟩
    · exact h
  · by_cases e : a = p
    · subst e; exact ⟨_, upd_same, hc⟩
    · obtain ⟨u, hu, n⟩ := R.trk a t' h
      exact ⟨u, by rw [upd_ne e]; exact hu, n⟩
  · by_cases e : a = p
    · subst e; rw [upd_same] at h; exact (hn ps (Option.some.inj h)).elim
    · rw [upd_ne e] at h; exact R.nt a ps h
  · obtain ⟨h1, ps, h2, h3, h4⟩ := R.tabs q hq
    refine ⟨h1, ps, by rw [upd_ne (tg_ne ht h1 (by simpa using fun z => nt z.symm))]; exact h2, h3, fun pos cv hcv => ?_⟩
    obtain ⟨c', rfl, hc'⟩ := h4 pos cv hcv
    exact ⟨c', rfl, by rw [upd_ne (tg_ne ht (R.code hc') (by simp))]; exact hc'⟩
theorem Ext.wr (ht : o.tg p = some t) (no : t ≠ .oth) : Ext o H o (upd H p c) :=
  ⟨fun a u h k => ⟨k, by rw [upd_ne (tg_ne ht k (by simp))]; exact h⟩, fun a u h k => ⟨k, by rw [upd_ne (tg_ne ht k (by simpa using fun z => no z.symm))]; exact h⟩, fun n h => ⟨rfl, h⟩,
    fun a u h => by
      by_cases e : a = p
      · subst e; exact ⟨_, upd_same⟩
      · exact ⟨u, by rw [upd_ne e]; exact h⟩⟩
/-- what a name holds is written -/
theorem Rel.writeS {i : Nat} {d d' : D} (R : Rel K cn o H es σ) (he : es.env[i]? = some (some (.ow d))) (hs : σ[i]? = some (some (.ref p))) (hc : NE c) (hn : NT c) (hd : Cont K cn o (upd H p c) p d') :
    Rel K cn o (upd H p c) { es with env := es.env.set i (some (.ow d')) } σ ∧ Ext o H o (upd H p c) := by
  obtain ⟨p', e, ht, h2⟩ := R.slots i _ he
  rw [hs] at e
  cases e
  have hil : i < es.env.length := (List.getElem?_eq_some_iff.mp he).1
  refine ⟨⟨by rw [List.length_set]; exact R.len, fun j l h => ?_, R.g.wr ht (by simp) hc hn fun m b hb => .inl ⟨hb, by simp, by simp⟩⟩, Ext.wr ht (by simp)⟩
  by_cases hj : i = j
  · subst hj
    rw [List.getElem?_set_self hil] at h
    cases h
    exact ⟨p, hs, ht, hd⟩
  · rw [List.getElem?_set_ne hj] at h
    exact (R.slots j l h).wr ht (by simpa using fun z => hj z.symm)
end

/-! ### methods that change what a name holds -/
/-- the slot's data -/
def owOf (i : Nat) (es : ES) : Option D := match es.env[i]? with
  | some (some (.ow d)) => some d
  | _ => none
def putOw (i : Nat) (d : D) (es : ES) : ES := { es with env := es.env.set i (some (.ow d)) }
/-- r.append(d) -/
def appendM (r : RV) (d : D) : M RV := fun es => match r with
  | .sl i => match owOf i es with
    | some (.lst ds) => if ds.length < 16777216 then some (.ok (.fz .non) (putOw i (.lst (ds ++ [d])) es)) else none
    | _ => none
  | _ => none
/-- r.extend(a list) -/
def extendM (r : RV) (a : D) : M RV := fun es => match r, a with
  | .sl i, .lst zs => match owOf i es with
    | some (.lst ds) => if ds.length + zs.length ≤ 16777216 then some (.ok (.fz .non) (putOw i (.lst (ds ++ zs)) es)) else none
    | _ => none
  | _, _ => none
/-- r.pop() -/
def popM (r : RV) : M RV := fun es => match r with
  | .sl i => match owOf i es with
    | some (.lst ds) => match ds[ds.length - 1]? with
      | some d => some (.ok (.fz d) (putOw i (.lst ds.dropLast) es))
      | none => none
    | _ => none
  | _ => none
/-- r.pop(i) -/
def popAtM (r : RV) (a : D) : M RV := fun es => match r, a with
  | .sl i, .int j => match owOf i es with
    | some (.lst ds) => match seqIndex? j ds.length with
      | some k => match ds[k]? with
        | some d => if -(2 ^ 63) ≤ j ∧ j < 2 ^ 63 then some (.ok (.fz d) (putOw i (.lst (ds.eraseIdx k)) es)) else none
        | none => none
      | none => none
    | _ => none
  | _, _ => none
section
variable {K : PySem.W.Frag} {cn : Wd} {o : Own} {H H0 : Hp} {es : ES} {σ : St} {v : V}
theorem owOf_ok {i : Nat} {ds : List D} (R : Rel K cn o H es σ) (h : owOf i es = some (.lst ds)) (hv : σ[i]? = some (some v)) : ∃ p xs, v = .ref p ∧ es.env[i]? = some (some (.ow (.lst ds))) ∧ H p = some (.lst xs) ∧ xs.length ≤ sizeLine ∧ DrAll K cn o H xs ds ∧ o.tg p = some (.slot i) := by
  unfold owOf at h
  split at h
  · rename_i d e
    cases h
    obtain ⟨p, e2, ht, xs, h1, h2, h3⟩ := R.slots i _ e
    rw [hv] at e2
    cases e2
    exact ⟨p, xs, rfl, e, h1, h2, h3, ht⟩
  · cases h
theorem wr_lst {i : Nat} {ds ds' : List D} {p : Addr} {ys : List V} (R : Rel K cn o H es σ) (e : es.env[i]? = some (some (.ow (.lst ds)))) (hs : σ[i]? = some (some (.ref p))) (ht : o.tg p = some (.slot i)) (h : DrAll K cn o H ys ds') (hz : ys.length ≤ sizeLine) :
    Rel K cn o (upd H p (.lst ys)) (putOw i (.lst ds') es) σ ∧ Ext o H o (upd H p (.lst ys)) :=
  R.writeS e hs trivial (by intro _ z; cases z) ⟨ys, upd_same, hz, h.wr ht⟩
theorem DrAll.dropLast {vs : List V} {ds : List D} (h : DrAll K cn o H vs ds) : DrAll K cn o H vs.dropLast ds.dropLast := by
  rw [List.dropLast_eq_take, List.dropLast_eq_take, h.length]
  exact h.take _
theorem DrAll.eraseIdx {vs : List V} {ds : List D} (h : DrAll K cn o H vs ds) (k : Nat) : DrAll K cn o H (vs.eraseIdx k) (ds.eraseIdx k) := by
  rw [List.eraseIdx_eq_take_drop_succ, List.eraseIdx_eq_take_drop_succ]
  exact (h.take _).append (h.drop _)
end
section
variable {X : Cx} {cn : Wd} {a b e : Expr} {es : List Expr} {fo f : M RV} {name : Str} {apos cpos : Pos}
/-- what must be seen of a method's call -/
structure MtS (X : Cx) (a : Expr) (name : Str) (apos : Pos) (es : List Expr) (cpos : Pos) : Prop where
  base : attributeBase a name X.env (eval a X.env) = eval a X.env
  line : (apos.endLine == cpos.line) = true
  few : ((backTo cpos (starEach es X.env)).all (fun x => !x.1) && (backToKw cpos (keywordEach [] X.env)).all (fun x => x.1.isSome) && decide (es.length + ([] : List Keyword).length + (if ([] : List Keyword).isEmpty then 0 else 1) < 30)) = true
def isLstD : D → Bool
  | .lst _ => true
  | _ => false
def wantLst (r : RV) : M Unit := M.bind (peek r) fun d => if isLstD d = true then M.ret () else fun _ => none
theorem wantLst_ok {K : PySem.W.Frag} {o : Own} {H H0 : Hp} {es : ES} {σ : St} {v : V} {rv : RV} {β : Type} {k : Unit → M β} {r : Res β} (R : Rel K cn o H es σ) (V1 : RvOk K cn H0 o H σ v rv) (h : M.bind (wantLst rv) k es = some r) : tyV K "list" v H ∧ k () es = some r := by
  rcases M.bind_some h with ⟨y, es3, e, _⟩ | ⟨u, es3, e, h⟩
  · rcases M.bind_some e with ⟨y, es3, e, _⟩ | ⟨d, es3, e, h⟩
    · obtain ⟨d, e', _⟩ := peek_ok R V1 e; cases e'
    · split at h <;> cases h
  rcases M.bind_some e with ⟨y, es4, e, e2⟩ | ⟨d, es4, e, h2⟩
  · cases e2
  obtain ⟨d', e', pk⟩ := peek_ok R V1 e
  cases e'
  split at h2
  · rename_i hl
    cases h2
    refine ⟨?_, h⟩
    cases d <;> simp only [isLstD] at hl <;> first | cases hl; done | skip
    obtain ⟨a, xs, rfl, h1, _⟩ := pk_lst pk
    exact .inl ⟨rfl, xs, .of h1⟩
  · cases h2
theorem sl_at {K : PySem.W.Frag} {o : Own} {H H0 : Hp} {σ : St} {v : V} {i : Nat} (h : RvOk K cn H0 o H σ v (.sl i)) : σ[i]? = some (some v) := h
/-- x.append(e) -/
theorem DE.append {g : M D} (s : MtS X a "append" apos [e] cpos) (hs : starEach [e] X.env = [(false, eval e X.env)]) (ha : DE X cn a fo) (he : DL X cn e g) :
    DE X cn (.Call (.Attribute a "append" apos) [e] [] cpos) (M.bind fo fun r => M.bind (wantLst r) fun _ => M.bind g fun d => appendM r d) := by
  intro Wx tk
  refine pe_i (pe_bm PySem.F.plainAttrs_list PySem.F.slot_list_append PySem.F.type_list_append (show MtR X "list.append" rAppend from mt_append) (ha Wx tk) (pa_cons (he Wx tk) pa_nil hs) s.base s.few s.line hs rfl) fun σ H Q h => ?_
  obtain ⟨o, es, r, R, h, hp⟩ := h
  refine tE_step R h (post_ex hp) fun rv es1 o1 H1 v x1 R1 V1 h => ?_
  obtain ⟨ty, h⟩ := wantLst_ok R1 V1 h
  refine ⟨ty, ?_⟩
  refine tL_step R1 h (fun y es' e => (post_ex hp y es' e).mono x1) fun d es2 o2 H2 w x2 R2 V2 h => ?_
  unfold appendM at h
  split at h
  · rename_i i
    split at h
    · rename_i ds eo
      split at h
      · rename_i hz
        cases h
        obtain ⟨p, xs, rfl, e1, h1, h2, h3, ht⟩ := owOf_ok R2 eo (sl_at V1)
        have hl := h3.length
        obtain ⟨R3, x3⟩ := wr_lst R2 e1 (sl_at V1) ht (h3.append (.cons V2 .nil)) (by rw [List.length_append, List.length_singleton, line_eq]; omega)
        exact ⟨p, xs, w, rfl, rfl, h1, by rw [line_eq]; omega, hp o2 _ _ ((x1.trans x2).trans x3) R3 .non⟩
      · cases h
    · cases h
  · cases h
/-- x.extend(e) -/
theorem DE.extend (s : MtS X a "extend" apos [e] cpos) (hs : starEach [e] X.env = [(false, eval e X.env)]) (ha : DE X cn a fo) (he : DE X cn e f) :
    DE X cn (.Call (.Attribute a "extend" apos) [e] [] cpos) (M.bind fo fun r => M.bind (wantLst r) fun _ => M.bind f fun q => M.bind (leak q) fun d => extendM r d) := by
  intro Wx tk
  refine pe_i (pe_bm PySem.F.plainAttrs_list PySem.F.slot_list_extend PySem.F.type_list_extend (show MtR X "list.extend" rExtend from mt_extend) (ha Wx tk) (pa_cons (he Wx tk) pa_nil hs) s.base s.few s.line hs rfl) fun σ H Q h => ?_
  obtain ⟨o, es, r, R, h, hp⟩ := h
  refine tE_step R h (post_ex hp) fun rv es1 o1 H1 v x1 R1 V1 h => ?_
  obtain ⟨ty, h⟩ := wantLst_ok R1 V1 h
  refine ⟨ty, ?_⟩
  refine tE_step R1 h (fun y es' e => (post_ex hp y es' e).mono x1) fun q es2 o2 H2 w x2 R2 V2 h => ?_
  rcases M.bind_some h with ⟨y, es3, e, _⟩ | ⟨d, es3, e, h⟩
  · obtain ⟨d, es', o', e', _⟩ := leak_ok x2 R2 V2 e; cases e'
  obtain ⟨d', es', o', e', R3, x3, V3⟩ := leak_ok x2 R2 V2 e
  cases e'
  unfold extendM at h
  split at h
  · rename_i i zs
    split at h
    · rename_i ds eo
      split at h
      · rename_i hz
        cases h
        obtain ⟨p, xs, rfl, e1, h1, h2, h3, ht⟩ := owOf_ok R3 eo (sl_at V1)
        obtain ⟨b, ys, rfl, b1, b2, b3⟩ := pk_lst (.fz V3)
        have hl := h3.length
        have hl2 := b3.length
        obtain ⟨R4, x4⟩ := wr_lst R3 e1 (sl_at V1) ht (h3.append b3) (by rw [List.length_append, line_eq]; omega)
        exact ⟨p, b, xs, ys, rfl, rfl, h1, b1, by rw [line_eq]; omega, hp o' _ _ ((x1.trans x3).trans x4) R4 .non⟩
      · cases h
    · cases h
  · cases h
/-- x.pop() -/
theorem DE.pop (s : MtS X a "pop" apos [] cpos) (ha : DE X cn a fo) : DE X cn (.Call (.Attribute a "pop" apos) [] [] cpos) (M.bind fo fun r => M.bind (wantLst r) fun _ => popM r) := by
  intro Wx tk
  refine pe_i (pe_bm0 PySem.F.plainAttrs_list PySem.F.slot_list_pop PySem.F.type_list_pop (show MtR X "list.pop" rPop from mt_pop) (ha Wx tk) s.base s.line) fun σ H Q h => ?_
  obtain ⟨o, es, r, R, h, hp⟩ := h
  refine tE_step R h (post_ex hp) fun rv es1 o1 H1 v x1 R1 V1 h => ?_
  obtain ⟨ty, h⟩ := wantLst_ok R1 V1 h
  refine ⟨ty, ?_⟩
  unfold popM at h
  split at h
  · rename_i i
    split at h
    · rename_i ds eo
      split at h
      · rename_i d ed
        cases h
        obtain ⟨p, xs, rfl, e1, h1, h2, h3, ht⟩ := owOf_ok R1 eo (sl_at V1)
        obtain ⟨w, hw, dw⟩ := h3.getD ed
        obtain ⟨R3, x3⟩ := wr_lst R1 e1 (sl_at V1) ht h3.dropLast (by rw [List.length_dropLast]; omega)
        exact ⟨p, xs, w, rfl, rfl, h1, by rw [h3.length]; exact hw, hp o1 _ _ (x1.trans x3) R3 (dw.wr ht)⟩
      · cases h
    · cases h
  · cases h
/-- x.pop(i) -/
theorem DE.popAt (s : MtS X a "pop" apos [e] cpos) (hs : starEach [e] X.env = [(false, eval e X.env)]) (ha : DE X cn a fo) (he : DE X cn e f) :
    DE X cn (.Call (.Attribute a "pop" apos) [e] [] cpos) (M.bind fo fun r => M.bind (wantLst r) fun _ => M.bind f fun q => M.bind (peek q) fun d => popAtM r d) := by
  intro Wx tk
  refine pe_i (pe_bm PySem.F.plainAttrs_list PySem.F.slot_list_pop PySem.F.type_list_pop (show MtR X "list.pop" rPopAt from mt_popAt) (ha Wx tk) (pa_cons (he Wx tk) pa_nil hs) s.base s.few s.line hs rfl) fun σ H Q h => ?_
  obtain ⟨o, es, r, R, h, hp⟩ := h
  refine tE_step R h (post_ex hp) fun rv es1 o1 H1 v x1 R1 V1 h => ?_
  obtain ⟨ty, h⟩ := wantLst_ok R1 V1 h
  refine ⟨ty, ?_⟩
  refine tE_step R1 h (fun y es' e => (post_ex hp y es' e).mono x1) fun q es2 o2 H2 w x2 R2 V2 h => ?_
  rcases M.bind_some h with ⟨y, es3, e, _⟩ | ⟨d, es3, e, h⟩
  · obtain ⟨d, e', _⟩ := peek_ok R2 V2 e; cases e'
  obtain ⟨d', e', pk⟩ := peek_ok R2 V2 e
  cases e'
  unfold popAtM at h
  split at h
  · rename_i i j
    cases pk_int pk
    split at h
    · rename_i ds eo
      split at h
      · rename_i k ek
        split at h
        · rename_i d ed
          split at h
          · rename_i hj
            cases h
            obtain ⟨p, xs, rfl, e1, h1, h2, h3, ht⟩ := owOf_ok R2 eo (sl_at V1)
            obtain ⟨w, hw, dw⟩ := h3.getD ed
            have hl := len_erase xs k
            obtain ⟨R3, x3⟩ := wr_lst R2 e1 (sl_at V1) ht (h3.eraseIdx k) (by omega)
            exact ⟨p, xs, _, k, w, rfl, rfl, h1, hj.1, hj.2, by rw [h3.length]; exact ek, hw, hp o2 _ _ ((x1.trans x2).trans x3) R3 (dw.wr ht)⟩
          · cases h
        · cases h
      · cases h
    · cases h
  · cases h
end
end Dl
end
section
set_option Elab.async false
set_option linter.all false
set_option maxRecDepth 100000
set_option maxHeartbeats 2000000
/-! DlP: assignments; methods that read. -/
namespace Dl
open PySem PySem.Spec PyProof.Rows L2

section
variable {X : Cx} {cn : Wd} {a b c e : Expr} {fa fb fc f : M RV} {pos : Pos} {es : List Expr}
theorem pg_or {t : Expr} {g g' : TG} (h : PG X t g) (h' : PG X t g') : PG X t (fun v σ H Q => g v σ H Q ∨ g' v σ H Q) :=
  ⟨fun pins s σ H v u Q I r q => q.elim (h.run pins s σ H v u Q I r) (h'.run pins s σ H v u Q I r)⟩
def sqG (n : Nat) (gs : List D → ES → Option ES) : D → ES → Option ES
  | .tup ds, es => if ds.length = n then gs ds es else none
  | .lst ds, es => if ds.length = n then gs ds es else none
  | _, _ => none
theorem DG.sq {ts : List Expr} {k n : Nat} {vs : List Nat} {gs g} (hc : X.calm = true) (h : DGs X cn ts vs gs g) (hn : (assignEach ts X.env).length = n) (hst : (assignEach ts X.env).findIdx? (·.1) = none) : DG X cn (.Tuple ts k pos) vs (sqG n gs) (fun v σ H Q => gTup X.K n g v σ H Q ∨ gLst X.K n g v σ H Q) := by
  obtain ⟨p, q⟩ := h
  refine ⟨pg_or (pg_tup hc p hn hst) (pg_lst hc p hn hst), fun o H es es' σ v d Q R hd h hq => ?_⟩
  cases hd with
  | tup h1 h2 =>
    rename_i a xs ds
    have h : (if ds.length = n then gs ds es else none) = some es' := h
    by_cases hl : ds.length = n
    · rw [if_pos hl] at h
      exact .inl ⟨_, _, rfl, h1.sq, by rw [h2.length]; exact hl, q o H es es' σ _ _ Q R h2 h hq⟩
    · rw [if_neg hl] at h; cases h
  | lst h1 h2 =>
    rename_i a xs ds
    have h : (if ds.length = n then gs ds es else none) = some es' := h
    by_cases hl : ds.length = n
    · rw [if_pos hl] at h
      exact .inr ⟨_, _, rfl, h1.sq, by rw [h2.length]; exact hl, q o H es es' σ _ _ Q R h2 h hq⟩
    · rw [if_neg hl] at h; cases h
  | _ => cases h
def asgS (g : M D) (gm : D → ES → Option ES) : S := S.of g fun d es => (gm d es).map SR.nx
/-- target = value, by data -/
theorem DS.asg {tg : Expr} {g : M D} {vs : List Nat} {gm} {gt : TG} (he : DL X cn e g) (hg : DG X cn tg vs gm gt) (hs : swapsWithSole [tg] e pos.line X.env = pure false) (hw : swappedStores [tg] e X.env = pure none) (h1 : (assignEach [tg] X.env).map (·.2) = [assign tg X.env]) : DS X cn (.Assign [tg] e pos) (asgS g gm) := by
  intro Wx tk
  refine ps_i (ps_asg (he Wx tk) hg.1 hs hw h1) fun Dn σ H h => ?_
  obtain ⟨o, es, r, R, h, hp⟩ := h
  refine sL_step R h hp fun d es1 o1 H1 v x1 R1 V1 h => ?_
  cases e1 : gm d es1 with
  | none => rw [e1] at h; cases h
  | some es2 =>
    rw [e1] at h
    cases h
    exact hg.2 o1 H1 es1 es2 σ v d _ R1 V1 e1 fun σ' w' R' => hp o1 H1 σ' x1 R'
/-! ### a, b = x, y -/
theorem sA_step {K : PySem.W.Frag} {Wx : WX} {o : Own} {H : Hp} {es : ES} {σ : St} {Dn : Ends} {f : M (List RV)} {k : List RV → S} {r : SR} {Z : List V → Hp → Prop} (R : Rel K cn o H es σ) (h : S.of f k es = some r) (hp : PostS K cn Wx o H Dn r)
    (hk : ∀ rvs es1 o1 H1 vs, Ext o H o1 H1 → Rel K cn o1 H1 es1 σ → RvsOk K cn σ H o1 H1 vs rvs → k rvs es1 = some r → Z vs H1) : tA K cn Wx f σ H Z := by
  rcases S.of_some h with ⟨x, es1, e, rfl⟩ | ⟨a, es1, e, hk'⟩
  · exact ⟨o, es, _, R, e, postS_ex hp x es1 rfl⟩
  · exact ⟨o, es, _, R, e, fun o' H' v x R' V => hk a es1 o' H' v x R' V hk'⟩
/-- a value that a name may get, no name's own -/
def notSl : RV → Bool
  | .sl _ => false
  | _ => true
/-- what a slot holds, let go -/
def firm : RV → M RV
  | .sl i => M.bind (leak (.sl i)) fun d => M.ret (.fz d)
  | r => M.ret r
theorem firm_ok {K : PySem.W.Frag} {o0 o : Own} {H0 H : Hp} {es : ES} {σ : St} {v : V} {rv : RV} {β : Type} {k : RV → M β} {r : Res β} (x : Ext o0 H0 o H) (R : Rel K cn o H es σ) (h : RvOk K cn H0 o H σ v rv) (hp : M.bind (firm rv) k es = some r) :
    ∃ rv' es' o', k rv' es' = some r ∧ Rel K cn o' H es' σ ∧ Ext o0 H0 o' H ∧ RvOk K cn H0 o' H σ v rv' ∧ notSl rv' = true ∧ Ext o H o' H ∧ ∀ d, rv' = .fr d → rv = .fr d := by
  cases rv with
  | fz d => exact ⟨_, es, o, hp, R, x, h, rfl, Ext.refl, fun _ e => e⟩
  | fr d => exact ⟨_, es, o, hp, R, x, h, rfl, Ext.refl, fun _ e => e⟩
  | sl i =>
    rcases M.bind_some hp with ⟨y, es3, e, _⟩ | ⟨d, es3, e, hp⟩
    · rcases M.bind_some e with ⟨y, es4, e, _⟩ | ⟨d, es4, e, e2⟩
      · obtain ⟨d, es', o', e', _⟩ := leak_ok x R h e; cases e'
      · cases e2
    rcases M.bind_some e with ⟨y, es4, e, e2⟩ | ⟨d0, es4, e, e2⟩
    · cases e2
    obtain ⟨d', es', o', e', R3, x3, V3⟩ := leak_ok (H0 := H) Ext.refl R (show RvOk K cn H o H σ v (.sl i) from h) e
    cases e'
    cases e2
    exact ⟨_, _, o', hp, R3, x.trans x3, V3, rfl, x3, fun _ e => by cases e⟩
def setIf (i : Nat) (r : RV) : S := fun es => if i < es.env.length then setEnv i r es else none
def par2S (i j : Nat) (fa fb : M RV) : S := S.of (M.bind fa fun ra => M.bind fb fun rb => M.bind (firm ra) fun ra => M.bind (firm rb) fun rb => M.ret (ra, rb)) fun p => S.seq (setIf i p.1) (setIf j p.2)
/-- what is set, another one's value stands -/
theorem set_keep {K : PySem.W.Frag} {o0 o : Own} {H0 H : Hp} {es : ES} {σ : St} {v u : V} {rv ru : RV} {i : Nat} {r : SR} (x : Ext o0 H0 o H) (R : Rel K cn o H es σ) (h : RvOk K cn H0 o H σ v rv) (k : RvOk K cn H0 o H σ u ru) (n : notSl rv = true) (m : notSl ru = true)
    (hne : ∀ d d', rv = .fr d → ru = .fr d' → u ≠ v) (e : setIf i rv es = some r) : ∃ es' o', r = .nx es' ∧ Rel K cn o' H es' (σ.set i (some v)) ∧ Ext o0 H0 o' H ∧ RvOk K cn H0 o' H (σ.set i (some v)) u ru := by
  unfold setIf at e
  by_cases hi : i < es.env.length
  rotate_left
  · rw [if_neg hi] at e; cases e
  rw [if_pos hi] at e
  have hi' : i < σ.length := by rw [R.len]; exact hi
  cases rv with
  | fz d =>
    cases e
    refine ⟨_, o, rfl, R.set_fz hi' h, x, ?_⟩
    cases ru with
    | fz d' => exact k
    | fr d' => exact k
    | sl j => cases m
  | fr d =>
    cases e
    obtain ⟨p, rfl, h0, ht, hc⟩ := h
    refine ⟨_, _, rfl, R.set_ow hi' ht hc, x.retag h0 ht, ?_⟩
    cases ru with
    | fz d' => exact Dr.less (less_retag ht) k
    | fr d' =>
      obtain ⟨q, rfl, k0, kt, kc⟩ := k
      have hq : q ≠ p := fun z => hne d d' rfl rfl (by rw [z])
      exact ⟨q, rfl, k0, by rw [put_ne hq]; exact kt, kc.less (less_retag ht)⟩
    | sl j => cases m
  | sl j => cases n
theorem set_last {K : PySem.W.Frag} {o0 o : Own} {H0 H : Hp} {es : ES} {σ : St} {v : V} {rv : RV} {i : Nat} {r : SR} (x : Ext o0 H0 o H) (R : Rel K cn o H es σ) (h : RvOk K cn H0 o H σ v rv) (e : setIf i rv es = some r) : ∃ es' o', r = .nx es' ∧ Rel K cn o' H es' (σ.set i (some v)) ∧ Ext o0 H0 o' H := by
  unfold setIf at e
  by_cases hi : i < es.env.length
  rotate_left
  · rw [if_neg hi] at e; cases e
  rw [if_pos hi] at e
  exact setEnv_ok x R (by rw [R.len]; exact hi) h e
theorem RvOk.set_other {K : PySem.W.Frag} {o : Own} {H0 H : Hp} {σ τ : St} {v : V} {rv : RV} (n : notSl rv = true) (h : RvOk K cn H0 o H σ v rv) : RvOk K cn H0 o H τ v rv := by
  cases rv with
  | sl i => cases n
  | _ => exact h
/-- a value that was new stands apart from later new ones -/
theorem fr_ne {K : PySem.W.Frag} {o1 o2 : Own} {H0 H1 H2 : Hp} {σ : St} {v u : V} {rv ru : RV} (h : RvOk K cn H0 o1 H1 σ v rv) (k : RvOk K cn H1 o2 H2 σ u ru) : ∀ d d', rv = .fr d → ru = .fr d' → u ≠ v := by
  intro d d' e1 e2 e
  subst e1 e2 e
  obtain ⟨p, rfl, h0, ht, hc⟩ := h
  obtain ⟨q, e, k0, kt, kc⟩ := k
  cases e
  obtain ⟨w, hw, _⟩ := hc.at
  rw [hw] at k0
  cases k0
/-- the wish that the pair's items are handed over -/
theorem par2_of {K : PySem.W.Frag} {Wx : WX} {i j : Nat} {Dn : Ends} {σ : St} {H : Hp} (h : tS K cn Wx (par2S i j fa fb) Dn σ H) :
    tE K cn Wx fa σ H fun v H1 => tE K cn Wx fb σ H1 fun w H2 => (Dn.nx ((σ.set i (some v)).set j (some w)) H2) ∧ ∀ p, H2 p = none → Dn.nx ((σ.set i (some v)).set j (some w)) (upd H2 p (.tup [v, w])) := by
  obtain ⟨o, es, r, R, h, hp⟩ := h
  have fin : ∀ {ra rb : RV} {es2 : ES} {o1 o2 : Own} {H1 H2 : Hp} {v w : V}, Ext o H o1 H1 → Ext o1 H1 o2 H2 → Rel K cn o2 H2 es2 σ → RvOk K cn H o1 H1 σ v ra → RvOk K cn H1 o2 H2 σ w rb → S.of (M.bind (firm ra) fun ra => M.bind (firm rb) fun rb => M.ret (ra, rb)) (fun p => S.seq (setIf i p.1) (setIf j p.2)) es2 = some r →
      Dn.nx ((σ.set i (some v)).set j (some w)) H2 ∧ ∀ p, H2 p = none → Dn.nx ((σ.set i (some v)).set j (some w)) (upd H2 p (.tup [v, w])) := by
    intro ra rb es2 o1 o2 H1 H2 v w x1 x2 R2 V1 V2 h
    have x12 := x1.trans x2
    have hne := fr_ne V1 V2
    rcases S.of_some h with ⟨y, es3, e, _⟩ | ⟨q, es3, e, h⟩
    · obtain ⟨ra', es4, o4, e, R4, x4, V4, n4, y4, _⟩ := firm_ok x12 R2 (V1.ext x2) e
      obtain ⟨rb', es5, o5, e, R5, x5, V5, n5, y5, _⟩ := firm_ok x4 R4 ((V2.ext y4).back x1) e
      cases e
    obtain ⟨ra', es4, o4, e, R4, x4, V4, n4, y4, b4⟩ := firm_ok x12 R2 (V1.ext x2) e
    obtain ⟨rb', es5, o5, e, R5, x5, V5, n5, y5, b5⟩ := firm_ok x4 R4 ((V2.ext y4).back x1) e
    cases e
    unfold S.seq at h
    cases e1 : setIf i ra' es3 with
    | none => simp only [e1] at h; cases h
    | some sr =>
      obtain ⟨es6, o6, rfl, R6, x6, V6⟩ := set_keep x5 R5 (V4.ext y5) V5 n4 n5 (fun d d' ea eb => hne d d' (b4 d ea) (b5 d' eb)) e1
      simp only [e1] at h
      obtain ⟨es7, o7, rfl, R7, x7⟩ := set_last x6 R6 V6 h
      refine ⟨hp o7 H2 _ x7 R7, fun p np => ?_⟩
      obtain ⟨R8, x8⟩ := R7.new (u := .tup [v, w]) np
      exact hp o7 _ _ (x7.trans x8) R8
  unfold par2S at h
  rcases S.of_some h with ⟨x, es1, e, rfl⟩ | ⟨p, es1, e, h⟩
  · refine tE_step R e (fun y es' q => by cases q; exact postS_ex hp _ _ rfl) fun ra es2 o1 H1 v x1 R1 V1 e => ?_
    refine tE_step R1 e (fun y es' q => by cases q; exact (postS_ex hp _ _ rfl).mono x1) fun rb es3 o2 H2 w x2 R2 V2 e => ?_
    exact fin x1 x2 R2 V1 V2 (by unfold S.of; rw [e])
  · refine tE_step R e (fun y es' q => by cases q) fun ra es2 o1 H1 v x1 R1 V1 e => ?_
    refine tE_step R1 e (fun y es' q => by cases q) fun rb es3 o2 H2 w x2 R2 V2 e => ?_
    exact fin x1 x2 R2 V1 V2 (by unfold S.of; rw [e]; exact h)
/-- a, b = x, y: the names' own stores -/
theorem DS.par2 {i j : Nat} {x y : Str} {px py pt pt2 : Pos} {kt k2 : Nat} (hc : X.calm = true) (hN : X.N.Nodup) (hi : X.N[i]? = some x) (hj : X.N[j]? = some y) (hij : i ≠ j) (hx : X.env.scope.names.lookup x = some .local) (hy : X.env.scope.names.lookup y = some .local)
    (ha : DE X cn a fa) (hb : DE X cn b fb) (hs1 : starEach [a, b] X.env = (false, eval a X.env) :: starEach [b] X.env) (hs2 : starEach [b] X.env = [(false, eval b X.env)])
    (hw : swappedStores [.Tuple [.Name x px, .Name y py] kt pt] (.Tuple [a, b] k2 pt2) X.env = pure (some [x, y])) (hs : swapsWithSole [.Tuple [.Name x px, .Name y py] kt pt] (.Tuple [a, b] k2 pt2) pos.line X.env = pure false) :
    DS X cn (.Assign [.Tuple [.Name x px, .Name y py] kt pt] (.Tuple [a, b] k2 pt2) pos) (par2S i j fa fb) := by
  intro Wx tk
  refine ps_i (ps_par hc hN hi hj hij hx hy (pa_cons (ha Wx tk) (pa_cons (hb Wx tk) pa_nil hs2) hs1) hw hs) fun Dn σ H h => ?_
  have h := par2_of h
  obtain ⟨o, es, r, R, h, hp⟩ := h
  refine ⟨o, es, r, R, h, ?_⟩
  cases r with
  | ex y es' => exact hp
  | ok rv es' =>
    intro o' H' v x' R' V
    obtain ⟨o2, es2, r2, R2, h2, hp2⟩ := hp o' H' v x' R' V
    refine ⟨o2, es2, r2, R2, h2, ?_⟩
    cases r2 with
    | ex y es' => exact hp2
    | ok rv2 es' => exact fun o3 H3 w x3 R3 V3 => ⟨v, w, rfl, (hp2 o3 H3 w x3 R3 V3).1⟩
/-- a, b = x, y: through the pair -/
theorem DS.pair {i j : Nat} {x y : Str} {px py pt pt2 : Pos} {kt k2 : Nat} (hc : X.calm = true) (hN : X.N.Nodup) (hi : X.N[i]? = some x) (hj : X.N[j]? = some y) (hx : Loc X.env.scope x) (hy : Loc X.env.scope y) (hfx : X.fn x = true ∨ X.env.scope.names.lookup x = some .local) (hfy : X.fn y = true ∨ X.env.scope.names.lookup y = some .local)
    (ha : DE X cn a fa) (hb : DE X cn b fb) (hs1 : starEach [a, b] X.env = (false, eval a X.env) :: starEach [b] X.env) (hs2 : starEach [b] X.env = [(false, eval b X.env)])
    (hw : swappedStores [.Tuple [.Name x px, .Name y py] kt pt] (.Tuple [a, b] k2 pt2) X.env = pure none) (hs : swapsWithSole [.Tuple [.Name x px, .Name y py] kt pt] (.Tuple [a, b] k2 pt2) pos.line X.env = pure false) :
    DS X cn (.Assign [.Tuple [.Name x px, .Name y py] kt pt] (.Tuple [a, b] k2 pt2) pos) (par2S i j fa fb) := by
  intro Wx tk
  refine ps_i (ps_asg (pe_tup (pa_cons (ha Wx tk) (pa_cons (hb Wx tk) pa_nil hs2) hs1)) (pg_tup (n := 2) hc (pgs_cons (pg_name hN hi hx hfx) (pgs_cons (pg_name hN hj hy hfy) pgs_nil rfl) rfl) rfl rfl) hs hw rfl) fun Dn σ H h => ?_
  have h := par2_of h
  obtain ⟨o, es, r, R, h, hp⟩ := h
  refine ⟨o, es, r, R, h, ?_⟩
  cases r with
  | ex y es' => exact hp
  | ok rv es' =>
    intro o' H' v x' R' V
    obtain ⟨o2, es2, r2, R2, h2, hp2⟩ := hp o' H' v x' R' V
    refine ⟨o2, es2, r2, R2, h2, ?_⟩
    cases r2 with
    | ex y es' => exact hp2
    | ok rv2 es' =>
      intro o3 H3 w x3 R3 V3
      refine ⟨by show 2 ≤ sizeLine; decide, fun p np => ⟨p, [v, w], rfl, .of upd_same, rfl, v, [w], rfl, w, [], rfl, rfl, (hp2 o3 H3 w x3 R3 V3).2 p np⟩⟩
end
end Dl
end
section
set_option Elab.async false
set_option linter.all false
set_option maxRecDepth 100000
set_option maxHeartbeats 2000000
/-! DlQ: methods that read; name = [..] on one line; dicts laid. -/
namespace Dl
open PySem PySem.Spec PyProof.Rows L2

section
variable {X : Cx} {cn : Wd} {a b c e : Expr} {fa fb fc f fo : M RV} {pos apos cpos : Pos} {es : List Expr} {name : Str}
/-- name = [.. for ..], the name and the value on one line -/
theorem DS.setLc {i : Nat} {y : Str} {py : Pos} {tg iter elt : Expr} {ifs : List Expr} {scope : Scope} {own : List (Str × Nat)} {fi : M (List D)} {gm : D → ES → Option ES} {g : TG} {tst : M Bool} {fe : M D} {lpos : Pos} (hc : X.calm = true) (hN : X.N.Nodup) (hy : X.N[i]? = some y) (hyl : X.env.scope.names.lookup y = some .local)
    (hsw : swapsWith (.ListComp elt [⟨tg, iter, ifs, 0⟩] scope lpos) (some (.Name y py)) pos.line X.env = pure true) (hi : DI X cn tg iter fi) (ok : BlkOk X.N X.env.scope scope own)
    (hg : ∀ (s : Shared) (H : Hp) (C : Addr) (cl : List (Str × Addr)) (fp : List Addr), DG (X.blk s H scope (compEnvC scope cl C X.env) fp) cn tg (own.map (·.2)) gm g)
    (ht : ∀ (s : Shared) (H : Hp) (C : Addr) (cl : List (Str × Addr)) (fp : List Addr), DTs (X.blk s H scope (compEnvC scope cl C X.env) fp) cn ifs tst)
    (he : ∀ (s : Shared) (H : Hp) (C : Addr) (cl : List (Str × Addr)) (fp : List Addr), DL (X.blk s H scope (compEnvC scope cl C X.env) fp) cn elt fe)
    (hs : ∀ x, foldedSetIterable iter X.env x = pure x) : DS X cn (.Assign [.Name y py] (.ListComp elt [⟨tg, iter, ifs, 0⟩] scope lpos) pos) (S.of (lcM (own.map (·.2)) fi gm tst fe) fun rv es => if i < es.env.length then setEnv i rv es else none) := by
  intro Wx tk
  refine ⟨fun pins s σ H Dn I h => (ps_setLc (tt := tT X.K cn (fun _ _ _ _ => False) tst) (te := tL X.K cn (fun _ _ _ _ => False) fe) hc hN hy hyl hsw (hi Wx tk) ok (fun s H C cl fp => (hg s H C cl fp).1) (fun s H C cl fp => ht s H C cl fp _ takesF) (fun s H C cl fp => he s H C cl fp _ takesF) hs).run pins s σ H Dn I ?_⟩
  refine tLc_of (Wx := Wx) (hg s H 0 [] []).2 ?_
  obtain ⟨o, es, r, R, h, hp⟩ := h
  refine sE_step R h hp fun rv es1 o1 H1 v x1 R1 V1 h => ?_
  by_cases hil : i < es1.env.length
  · rw [if_pos hil] at h
    obtain ⟨es', o', rfl, R2, x2⟩ := setEnv_ok x1 R1 (by rw [R1.len]; exact hil) V1 h
    exact hp o' H1 _ x2 R2
  · rw [if_neg hil] at h; cases h
/-! ### methods that read -/
/-- of what type the receiver is -/
def isTy (T : String) : D → Bool
  | .str _ => T == "str"
  | .lst _ => T == "list"
  | .dct _ _ _ => T == "dict"
  | _ => false
theorem tyV_of {K : PySem.W.Frag} {o : Own} {H : Hp} {v : V} {d : D} {T : String} (h : Pk K cn o H v d) (e : isTy T d = true) : tyV K T v H := by
  cases d <;> simp only [isTy] at e <;> first | cases e; done | skip
  · cases (pk_str h).1
    show T = "str"
    simpa using e
  · obtain ⟨a, xs, rfl, h1, _⟩ := pk_lst h
    exact .inl ⟨by simpa using e, xs, .of h1⟩
  · obtain ⟨a, rfl, ⟨kvs, h1, _⟩ | ⟨kvs, h1, _⟩⟩ := pk_dct h
    · exact .inr (.inr (.inl ⟨by simpa using e, .inl ⟨kvs, h1⟩⟩))
    · exact .inr (.inr (.inl ⟨by simpa using e, .inr ⟨kvs, h1⟩⟩))
def mtM (T : String) (fo : M RV) (k : M (List RV)) (g : D → List D → Option RV) : M RV := M.bind fo fun r => M.bind (peek r) fun d => if isTy T d = true then M.bind k fun rs => M.bind (peek r) fun d => M.bind (peeks rs) fun ds => M.lift (g d ds) else fun _ => none
def MtSem (r : PySem.W.Frag → V → List V → Hp → VK → Prop) (g : D → List D → Option RV) : Prop :=
  ∀ (K : PySem.W.Frag) (cn : Wd) (o : Own) (es : ES) (σ : St) (H : Hp) (x : V) (d : D) (xs : List V) (ds : List D) (rv : RV) (Q : VK), Rel K cn o H es σ → Pk K cn o H x d → Paired (Pk K cn o H) xs ds → g d ds = some rv → PE_ K cn o H σ Q rv es → r K x xs H Q
theorem DE.mt {T id : String} {r : PySem.W.Frag → V → List V → Hp → VK → Prop} {g : D → List D → Option RV} {k : M (List RV)} (pa : PlainAttrs T) (slot : Slot T name id) (hty : typeOf (.builtin id) = pure (.type "method_descriptor")) (hm : MtR X id (r X.K)) (hsem : MtSem r g)
    (s : MtS X a name apos (e :: es) cpos) (hs : starEach (e :: es) X.env = (false, eval e X.env) :: starEach es X.env) (hpl : (backTo cpos (starEach es X.env)).any (·.1) = false) (ha : DE X cn a fo) (hk : DA X cn (e :: es) k) : DE X cn (.Call (.Attribute a name apos) (e :: es) [] cpos) (mtM T fo k g) := by
  intro Wx tk
  refine pe_i (pe_bm pa slot hty hm (ha Wx tk) (hk Wx tk) s.base s.few s.line hs hpl) fun σ H Q h => ?_
  obtain ⟨o, es, r, R, h, hp⟩ := h
  refine tE_step R h (post_ex hp) fun rv es1 o1 H1 v x1 R1 V1 h => ?_
  rcases M.bind_some h with ⟨y, es3, e, _⟩ | ⟨d, es3, e, h⟩
  · obtain ⟨d, e', _⟩ := peek_ok R1 V1 e; cases e'
  obtain ⟨d', e', pk⟩ := peek_ok R1 V1 e
  cases e'
  split at h
  · rename_i hT
    refine ⟨tyV_of pk hT, ?_⟩
    refine tA_step R1 h (fun y es' e => (post_ex hp y es' e).mono x1) fun rs es2 o2 H2 vs x2 R2 V2 h => ?_
    have V1' := V1.ext x2
    rcases M.bind_some h with ⟨y, es3, e, _⟩ | ⟨d2, es3, e, h⟩
    · obtain ⟨d, e', _⟩ := peek_ok R2 V1' e; cases e'
    obtain ⟨d', e', pk2⟩ := peek_ok R2 V1' e
    cases e'
    rcases M.bind_some h with ⟨y, es3, e, _⟩ | ⟨ds, es3, e, h⟩
    · obtain ⟨d, e', _⟩ := peeks_ok R2 V2 e; cases e'
    obtain ⟨ds', e', ps⟩ := peeks_ok R2 V2 e
    cases e'
    obtain ⟨rv2, eg, rfl⟩ := M.lift_some h
    exact hsem X.K cn o2 es2 σ H2 v d2 vs ds rv2 Q R2 pk2 ps eg fun o' H' w x' R' V => hp o' H' w ((x1.trans x2).trans x') R' (V.back (x1.trans x2))
  · cases h
/-- split(sep), join(texts) -/
def splitD (d : D) : List D → Option RV
  | [.str b] => match d with
    | .str a => if (b.length == 0) = false ∧ a.length + 2 ≤ 16777216 ∧ ((Txt.split a b).all fun z => decide (z.length ≤ 16777216)) = true ∧ (Txt.split a b).length ≤ 16777216 then some (.fr (.lst ((Txt.split a b).map D.str))) else none
    | _ => none
  | _ => none
theorem dr_strs {K : PySem.W.Frag} {o : Own} {H : Hp} : ∀ {zs : List Str}, (zs.all fun z => decide (z.length ≤ 16777216)) = true → DrAll K cn o H (zs.map V.str) (zs.map D.str)
  | [], _ => .nil
  | z :: zs, h => by
    rw [List.all_cons, Bool.and_eq_true] at h
    exact .cons (.str z (by rw [line_eq]; exact of_decide_eq_true h.1)) (dr_strs h.2)
theorem sem_split : MtSem (fun _ x xs H Q => ∃ a b, x = .str a ∧ xs = [.str b] ∧ (b.length == 0) = false ∧ a.length + 2 ≤ sizeLine ∧ rNewStrs (Txt.split a b) H Q) splitD := by
  intro K cn o es σ H x d xs ds rv Q R px pxs e p
  unfold splitD at e
  split at e
  · rename_i b
    split at e
    · rename_i a
      split at e
      · rename_i hh
        obtain ⟨h1, h2, h3, h4⟩ := hh
        cases e
        obtain ⟨y, rfl, py⟩ := pk1 pxs
        cases (pk_str px).1
        cases (pk_str py).1
        refine ⟨a, b, rfl, rfl, h1, by rw [line_eq]; exact h2, fun q nq => ?_⟩
        obtain ⟨R1, x1, v1⟩ := new_lst R nq (dr_strs h3) (by rw [List.length_map, line_eq]; exact h4)
        exact p _ _ _ x1 R1 v1
      · cases e
    · cases e
  · cases e
def strsD : List D → Option (List Str)
  | [] => some []
  | .str x :: ds => (strsD ds).map fun xs => x :: xs
  | _ => none
theorem strs_V {K : PySem.W.Frag} {o : Own} {H : Hp} : ∀ {vs : List V} {ds : List D} {zs : List Str}, DrAll K cn o H vs ds → strsD ds = some zs → vs = zs.map V.str
  | _, _, _, .nil, e => by cases e; rfl
  | _, _, zs, .cons (d := d) (ds := ds) h t, e => by
    cases h <;> simp only [strsD] at e <;> first | cases e; done | skip
    cases e2 : strsD ds with
    | none => rw [e2] at e; cases e
    | some js => rw [e2] at e; cases e; rw [List.map_cons, ← strs_V t e2]
def joinD (d : D) : List D → Option RV
  | [.lst ds] => match d, strsD ds with
    | .str a, some ys => if (ys.map (·.length)).sum + ys.length * a.length ≤ 16777216 ∧ (Txt.join a ys).length ≤ 16777216 then some (.fz (.str (Txt.join a ys))) else none
    | _, _ => none
  | [.tup ds] => match d, strsD ds with
    | .str a, some ys => if (ys.map (·.length)).sum + ys.length * a.length ≤ 16777216 ∧ (Txt.join a ys).length ≤ 16777216 then some (.fz (.str (Txt.join a ys))) else none
    | _, _ => none
  | _ => none
theorem sem_join : MtSem (fun K x xs H Q => ∃ a p, ∃ ys : List Str, x = .str a ∧ xs = [.ref p] ∧ (SqL K H p (ys.map V.str) ∨ SqT K H p (ys.map V.str)) ∧ (ys.map (·.length)).sum + ys.length * a.length ≤ 16777216 ∧ Q (.str (Txt.join a ys)) H) joinD := by
  intro K cn o es σ H x d xs ds rv Q R px pxs e p
  unfold joinD at e
  split at e
  · rename_i zs
    split at e
    · rename_i a ys e1
      split at e
      · rename_i hh
        cases e
        obtain ⟨y, rfl, py⟩ := pk1 pxs
        cases (pk_str px).1
        obtain ⟨q, vs, rfl, h1, h2, h3⟩ := pk_lst py
        cases strs_V h3 e1
        exact ⟨a, q, ys, rfl, rfl, .inl (.of h1), hh.1, p _ _ _ Ext.refl R (.str _ (by rw [line_eq]; exact hh.2))⟩
      · cases e
    · cases e
  · rename_i zs
    split at e
    · rename_i a ys e1
      split at e
      · rename_i hh
        cases e
        obtain ⟨y, rfl, py⟩ := pk1 pxs
        cases (pk_str px).1
        obtain ⟨q, vs, rfl, h1, h3⟩ := pk_tup py
        cases strs_V h3 e1
        exact ⟨a, q, ys, rfl, rfl, .inr h1.sq, hh.1, p _ _ _ Ext.refl R (.str _ (by rw [line_eq]; exact hh.2))⟩
      · cases e
    · cases e
  · cases e
end
/-! ### dicts laid -/
def dputKs (p : D → Bool) (k : D) (ks : List D) : List D := if ks.any p = true then ks else ks ++ [k]
def dputVs (p : D → Bool) (v : D) (ks vs : List D) : List D := if ks.any p = true then List.zipWith (fun k' v' => if p k' = true then v else v') ks vs else vs ++ [v]
theorem dput_ks {κ : Type} [DecidableEq κ] {kd : κ → D} {p : D → Bool} {k : κ} {v : V} (hp : ∀ j, p (kd j) = decide (j = k)) (kvs : List (κ × V)) : dputKs p (kd k) (kvs.map fun q => kd q.1) = (putK kvs k v).map fun q => kd q.1 := by
  have e : ((kvs.map fun q => kd q.1).any p) = kvs.any fun kv => decide (kv.1 = k) := by
    rw [List.any_map]
    congr 1
    funext q
    exact hp q.1
  unfold dputKs putK
  rw [e]
  split
  · rw [List.map_map]
    congr 1
    funext q
    show kd q.1 = kd (if q.1 = k then (q.1, v) else q).1
    split <;> rfl
  · simp
theorem dput_vs {κ : Type} [DecidableEq κ] {K : PySem.W.Frag} {cn : Wd} {o : Own} {H : Hp} {kd : κ → D} {p : D → Bool} {k : κ} {v : V} {dv : D} (hp : ∀ j, p (kd j) = decide (j = k)) (hv : Dr K cn o H v dv) {kvs : List (κ × V)} {vs : List D} (h : DrAll K cn o H (kvs.map (·.2)) vs) :
    DrAll K cn o H ((putK kvs k v).map (·.2)) (dputVs p dv (kvs.map fun q => kd q.1) vs) := by
  have e : ((kvs.map fun q => kd q.1).any p) = kvs.any fun kv => decide (kv.1 = k) := by
    rw [List.any_map]
    congr 1
    funext q
    exact hp q.1
  unfold dputVs putK
  rw [e]
  split
  · have all : ∀ {kvs : List (κ × V)} {vs : List D}, DrAll K cn o H (kvs.map (·.2)) vs → DrAll K cn o H ((kvs.map fun kv => if kv.1 = k then (kv.1, v) else kv).map (·.2)) (List.zipWith (fun k' v' => if p k' = true then dv else v') (kvs.map fun q => kd q.1) vs) := by
      intro kvs
      induction kvs with
      | nil => intro vs h; cases h; exact .nil
      | cons q kvs ih =>
        intro vs h
        cases h with
        | cons h1 h2 =>
          refine .cons ?_ (ih h2)
          show Dr K cn o H (if q.1 = k then (q.1, v) else q).2 (if p (kd q.1) = true then dv else _)
          rw [hp]
          by_cases ek : q.1 = k
          · rw [decide_eq_true ek, if_pos rfl, if_pos ek]; exact hv
          · rw [decide_eq_false ek, if_neg ek]; exact h1
    exact all h
  · rw [List.map_append]
    exact h.append (.cons hv .nil)
/-- a pair put into a dict of ints' and texts' keys, of tuples' keys -/
def dputD (d k v : D) : Option D := match d with
  | .dct t ks vs => (selD t k).map fun p => .dct t (dputKs p k ks) (dputVs p v ks vs)
  | _ => none
theorem keyF_of {k : D} {p : D → Bool} (h : selD false k = some p) : ∃ j, keyF k = some j ∧ k = keyD j ∧ p = isKeyD j := by
  unfold selD at h
  split at h
  · rename_i i; cases h; exact ⟨.inl i, rfl, rfl, rfl⟩
  · rename_i x; cases h; exact ⟨.inr x, rfl, rfl, rfl⟩
  · cases h
  · cases h
theorem putK_mem {κ : Type} [DecidableEq κ] {k : κ} {v : V} {kvs : List (κ × V)} {q : κ × V} (h : q ∈ putK kvs k v) : q.1 = k ∨ ∃ q' ∈ kvs, q'.1 = q.1 := by
  unfold putK at h
  split at h
  · obtain ⟨q', hq, rfl⟩ := List.mem_map.mp h
    exact .inr ⟨q', hq, by split <;> rfl⟩
  · rcases List.mem_append.mp h with h | h
    · exact .inr ⟨q, h, rfl⟩
    · rw [List.mem_singleton] at h; exact .inl (by rw [h])
theorem key_okD {K : PySem.W.Frag} {cn : Wd} {o : Own} {H : Hp} {v : V} {j : Key} (h : Dr K cn o H v (keyD j)) : KeyOk j ∧ v = kV j := by
  cases j with
  | inl i => cases h; exact ⟨trivial, rfl⟩
  | inr x => cases h with | str _ h => exact ⟨h, rfl⟩
/-- the list of pairs behind dict(..) -/
def pairsD : List D → Option (List (Key × D))
  | [] => some []
  | .tup [k, v] :: ds => (keyF k).bind fun j => (pairsD ds).map fun r => (j, v) :: r
  | _ => none
def mergeD : List D → List D → List (Key × D) → List D × List D
  | ks, vs, [] => (ks, vs)
  | ks, vs, (k, v) :: r => mergeD (dputKs (isKeyD k) (keyD k) ks) (dputVs (isKeyD k) v ks vs) r
theorem mergeD_ok {K : PySem.W.Frag} {cn : Wd} {o : Own} {H : Hp} : ∀ {ps : List (Key × V)} {ds : List (Key × D)} {kvs : List (Key × V)} {vs : List D}, ps.map (·.1) = ds.map (·.1) → DrAll K cn o H (ps.map (·.2)) (ds.map (·.2)) → DrAll K cn o H (kvs.map (·.2)) vs →
    (mergeD (kvs.map fun q => keyD q.1) vs ds).1 = (mergeK kvs ps).map (fun q => keyD q.1) ∧ DrAll K cn o H ((mergeK kvs ps).map (·.2)) (mergeD (kvs.map fun q => keyD q.1) vs ds).2
  | [], [], _, _, _, _, h => ⟨rfl, h⟩
  | (k, v) :: ps, (k', d) :: ds, kvs, vs, e, hd, h => by
    simp only [List.map_cons, List.cons.injEq] at e
    obtain ⟨rfl, e⟩ := e
    cases hd with
    | cons h1 h2 =>
      have a1 := dput_ks (v := v) (fun j => isKeyD_key k j) kvs
      have a2 := dput_vs (fun j => isKeyD_key k j) h1 h
      show (mergeD (dputKs (isKeyD k) (keyD k) (kvs.map fun q => keyD q.1)) (dputVs (isKeyD k) d (kvs.map fun q => keyD q.1) vs) ds).1 = _ ∧ DrAll K cn o H _ (mergeD (dputKs (isKeyD k) (keyD k) (kvs.map fun q => keyD q.1)) (dputVs (isKeyD k) d (kvs.map fun q => keyD q.1) vs) ds).2
      rw [a1]
      exact mergeD_ok (kvs := putK kvs k v) e h2 a2
  | [], _ :: _, _, _, e, _, _ => by simp at e
  | _ :: _, [], _, _, e, _, _ => by simp at e
theorem merge_keys {P : Key → Prop} : ∀ {ps : List (Key × V)} {kvs : List (Key × V)}, (∀ q ∈ ps, P q.1) → (∀ q ∈ kvs, P q.1) → ∀ q ∈ mergeK kvs ps, P q.1
  | [], _, _, h => h
  | p :: ps, kvs, hp, h => merge_keys (ps := ps) (kvs := putK kvs p.1 p.2) (fun q hq => hp q (List.mem_cons_of_mem _ hq)) fun q hq => by
    rcases putK_mem hq with e | ⟨q', hq', e⟩
    · rw [e]; exact hp p List.mem_cons_self
    · rw [← e]; exact h q' hq'
/-- dict(pairs) -/
def dictD : List D → Option RV
  | [.lst ds] => (pairsD ds).map fun r => let m := mergeD [] [] r; .fr (.dct false m.1 m.2)
  | _ => none
theorem pairs_V {K : PySem.W.Frag} {cn : Wd} {o : Own} {H : Hp} : ∀ {vs : List V} {ds : List D} {r : List (Key × D)}, DrAll K cn o H vs ds → pairsD ds = some r → ∃ (ps : List Addr) (kvs : List (Key × V)), vs = ps.map V.ref ∧ Paired (fun p kv => SqT K H p [kV kv.1, kv.2]) ps kvs ∧ kvs.map (·.1) = r.map (·.1) ∧ DrAll K cn o H (kvs.map (·.2)) (r.map (·.2)) ∧ ∀ q ∈ kvs, KeyOk q.1
  | _, _, _, .nil, e => by cases e; exact ⟨[], [], rfl, .nil, rfl, .nil, by simp⟩
  | _, _, r, .cons (d := d) (ds := ds) h t, e => by
    unfold pairsD at e
    split at e
    · cases e; rename_i e1; cases e1
    · rename_i k v ds' e1
      cases e1
      cases e1 : keyF k with
      | none => rw [e1] at e; cases e
      | some j =>
        cases e2 : pairsD ds with
        | none => rw [e1, e2] at e; cases e
        | some r' =>
          rw [e1, e2] at e
          cases e
          obtain ⟨ps, kvs, rfl, p1, p2, p3, p4⟩ := pairs_V t e2
          cases h with
          | tup h1 h2 =>
            rename_i a xs
            cases h2 with
            | cons hk h2 =>
              cases h2 with
              | cons hv h2 =>
                cases h2
                rename_i vk vv
                have ek := key_V hk e1
                subst ek
                have hk' : KeyOk j := by
                  cases k <;> simp only [keyF] at e1 <;> first | cases e1; done | skip
                  · cases e1; trivial
                  · cases e1; cases hk with | str _ h => exact h
                exact ⟨a :: ps, (j, vv) :: kvs, rfl, .cons h1.sq p1, by simp [p2], .cons hv p3, fun q hq => by rcases List.mem_cons.mp hq with rfl | hq; exact hk'; exact p4 q hq⟩
    · cases e
theorem new_dk {K : PySem.W.Frag} {cn : Wd} {o : Own} {H : Hp} {es : ES} {σ : St} {kvs : List (Key × V)} {vs : List D} {p : Addr} (R : Rel K cn o H es σ) (hp : H p = none) (dr : DrAll K cn o H (kvs.map (·.2)) vs) (hk : ∀ q ∈ kvs, KeyOk q.1) (hl : kvs.length ≤ sizeLine) :
    Rel K cn (o.put p (some .oth)) (upd H p (.dK kvs)) es σ ∧ Ext o H (o.put p (some .oth)) (upd H p (.dK kvs)) ∧ RvOk K cn H (o.put p (some .oth)) (upd H p (.dK kvs)) σ (.ref p) (.fr (.dct false (kvs.map fun q => keyD q.1) vs)) := by
  obtain ⟨R1, x1⟩ := R.newT (u := .dK kvs) hp trivial
  exact ⟨R1, x1, p, rfl, hp, put_same, .inl ⟨kvs, upd_same, hl, ⟨rfl, rfl, hk⟩, dr.ext x1⟩⟩
section
variable {X : Cx}
theorem sem_dict (hc : X.calm = true) : CallD X (.type "dict") dictD := by
  refine ⟨fun K xs H Q => ∃ (a : Addr) (ps : List Addr) (kvs : List (Key × V)), xs = [.ref a] ∧ SqL K H a (ps.map V.ref) ∧ Paired (fun p kv => SqT K H p [kV kv.1, kv.2]) ps kvs ∧ ∀ p, H p = none → Q (.ref p) (upd H p (.dK (mergeK [] kvs))), call_dictP hc, fun K cn o es σ H xs ds rv Q R px e p => ?_⟩
  unfold dictD at e
  split at e
  · rename_i ds
    cases e1 : pairsD ds with
    | none => rw [e1] at e; cases e
    | some r =>
      rw [e1] at e
      cases e
      obtain ⟨x, rfl, px'⟩ := pk1 px
      obtain ⟨a, ys, rfl, h1, h2, h3⟩ := pk_lst px'
      obtain ⟨ps, kvs, rfl, p1, p2, p3, p4⟩ := pairs_V h3 e1
      refine ⟨a, ps, kvs, rfl, .of h1, p1, fun q nq => ?_⟩
      obtain ⟨m1, m2⟩ := mergeD_ok (kvs := []) (vs := []) p2 p3 .nil
      have hlen : (mergeK [] kvs).length ≤ sizeLine := by
        have := length_mergeK kvs []
        have e3 := Paired.length p1
        rw [List.length_nil] at this
        rw [List.length_map] at h2
        omega
      obtain ⟨R1, x1, v1⟩ := new_dk R nq m2 (merge_keys p4 (by simp)) hlen
      refine p _ _ _ x1 R1 ?_
      have m1' : (mergeD [] [] r).1 = (mergeK [] kvs).map fun q => keyD q.1 := m1
      show RvOk K cn H _ _ σ _ (.fr (.dct false (mergeD [] [] r).1 (mergeD [] [] r).2))
      rw [m1']
      exact v1
  · cases e
end
end Dl
end
section
set_option Elab.async false
set_option linter.all false
set_option maxRecDepth 100000
set_option maxHeartbeats 2000000
/-! DlR: dict comprehensions, dict displays. -/
namespace Dl
open PySem PySem.Spec PyProof.Rows L2

def keyOkD : D → Option Key := keyF
def dcLoop (vs : List Nat) (gm : D → ES → Option ES) (tst : M Bool) (kf vf : M D) : List D → List D → List D → ES → Option (List D × List D × ES)
  | [], ks, ws, es => some (ks, ws, es)
  | d :: ds, ks, ws, es => match gm d { es with env := wipeE es.env vs } with
    | none => none
    | some es1 => match tst es1 with
      | some (.ok true es2) => match kf es2 with
        | some (.ok k es3) => match vf es3 with
          | some (.ok y es4) => match keyF k with
            | some j => dcLoop vs gm tst kf vf ds (dputKs (isKeyD j) (keyD j) ks) (dputVs (isKeyD j) y ks ws) es4
            | none => none
          | _ => none
        | _ => none
      | some (.ok false es2) => dcLoop vs gm tst kf vf ds ks ws es2
      | _ => none
def dcM (vs : List Nat) (fi : M (List D)) (gm : D → ES → Option ES) (tst : M Bool) (kf vf : M D) : M RV := M.bind fi fun ds es =>
  (dcLoop vs gm tst kf vf ds [] [] es).map fun p => .ok (.fr (.dct false p.1 p.2.1)) { p.2.2 with env := backE vs es.env p.2.2.env }
theorem keyF_D {k : D} {j : Key} (h : keyF k = some j) : k = keyD j := by
  cases k <;> simp only [keyF] at h <;> first | (cases h; rfl) | cases h
theorem dputVs_len {p : D → Bool} {y : D} {ks ws : List D} (h : ks.length = ws.length) : (dputVs p y ks ws).length ≤ ws.length + 1 := by
  unfold dputVs
  split
  · rw [List.length_zipWith]; omega
  · simp
theorem tDc_of {K : PySem.W.Frag} {cn : Wd} {Wx : WX} {fi : M (List D)} {gm : D → ES → Option ES} {g : TG} {tst : M Bool} {kf vf : M D} {vs : List Nat} {σ : St} {H : Hp} {Q : VK}
    (qg : ∀ (o : Own) (H : Hp) (es es' : ES) (σ : St) (v : V) (d : D) (Q : St → Hp → Prop), Rel K cn o H es σ → Dr K cn o H v d → gm d es = some es' → (∀ σ', L2.wipe σ' vs = L2.wipe σ vs → Rel K cn o H es' σ' → Q σ' H) → g v σ H Q)
    (h : tE K cn Wx (dcM vs fi gm tst kf vf) σ H Q) : tDc (tI K cn Wx fi) g (tT K cn (fun _ _ _ _ => False) tst) (tL K cn (fun _ _ _ _ => False) kf) (tL K cn (fun _ _ _ _ => False) vf) vs σ H Q := by
  obtain ⟨o, es, r, R, h, hpost⟩ := h
  rcases M.bind_some h with ⟨x, es1, e, rfl⟩ | ⟨ds, es1, e, h⟩
  · exact ⟨o, es, _, R, e, hpost⟩
  refine ⟨o, es, _, R, e, fun o1 H1 J x1 R1 hlen it Da nD => ?_⟩
  cases eL : dcLoop vs gm tst kf vf ds [] [] es1 with
  | none => rw [eL] at h; cases h
  | some p =>
    obtain ⟨ksE, wsE, esE⟩ := p
    rw [eL] at h
    cases h
    obtain ⟨RD, xD⟩ := R1.newT (u := .dK []) nD trivial
    have nD0 : H Da = none := by
      cases q : H Da with
      | none => rfl
      | some u => obtain ⟨u', h'⟩ := x1.trk _ u q; rw [nD] at h'; cases h'
    refine ⟨fun i m H => m = ds.length - i ∧ i ≤ ds.length ∧ ∃ (o : Own) (es : ES) (σi : St) (kvs : List (Key × V)) (ws : List D), Ext o1 H1 o H ∧ L2.wipe σi vs = L2.wipe σ vs ∧ Rel K cn o H es σi ∧ o.tg Da = some .oth ∧ H Da = some (.dK kvs) ∧ DrAll K cn o H (kvs.map (·.2)) ws ∧ (∀ q ∈ kvs, KeyOk q.1) ∧ kvs.length ≤ i ∧
        dcLoop vs gm tst kf vf (ds.drop i) (kvs.map fun q => keyD q.1) ws es = some (ksE, wsE, esE), ⟨ds.length, by simp, Nat.zero_le _, _, es1, σ, [], [], xD, rfl, RD, put_same, upd_same, .nil, by simp, Nat.le_refl _, eL⟩, ?_⟩
    rintro i m H' ⟨rfl, hil, o', es', σi, kvs, ws, x', hw, R', ht, hD, hacc, hkk, hal, hl⟩
    obtain ⟨go, stop⟩ := it o' H' es' σi x' R'
    by_cases hlt : i < ds.length
    · have ed : ds[i]? = some ds[i] := List.getElem?_eq_getElem hlt
      obtain ⟨g1, y1⟩ := go i _ ed
      rw [List.drop_eq_getElem_cons hlt] at hl
      refine .inr ⟨g1, fun H2 => ∃ (o : Own) (es : ES) (σi : St) (kvs : List (Key × V)) (ws : List D), Ext o1 H1 o H2 ∧ L2.wipe σi vs = L2.wipe σ vs ∧ Rel K cn o H2 es σi ∧ o.tg Da = some .oth ∧ H2 Da = some (.dK kvs) ∧ DrAll K cn o H2 (kvs.map (·.2)) ws ∧ (∀ q ∈ kvs, KeyOk q.1) ∧ kvs.length ≤ i + 1 ∧
        dcLoop vs gm tst kf vf (ds.drop (i + 1)) (kvs.map fun q => keyD q.1) ws es = some (ksE, wsE, esE), fun H2 q => ⟨ds.length - (i + 1), by omega, rfl, hlt, q⟩, fun v H2 hy => ?_⟩
      obtain ⟨dr, x2, k2, keep2⟩ := y1 v H2 hy
      unfold dcLoop at hl
      cases e1 : gm ds[i] { es' with env := wipeE es'.env vs } with
      | none => rw [e1] at hl; cases hl
      | some es2 =>
        rw [e1] at hl
        have Rw := (k2 _ _ R').wipe (vs := vs)
        rw [hw] at Rw
        refine qg o' H2 _ es2 _ v _ _ Rw dr e1 fun σ2 w2 R2 => ⟨?_, ?_⟩
        · rw [w2]
          exact wipe_ext (by rw [wipe_length]) fun j hj => by rw [wipe_get, if_neg hj]
        have w2' : L2.wipe σ2 vs = L2.wipe σ vs := by
          rw [w2]
          exact wipe_ext (by rw [wipe_length]) fun j hj => by rw [wipe_get, if_neg hj]
        cases e2 : tst es2 with
        | none => simp only [e2] at hl; cases hl
        | some rb =>
          cases rb with
          | ex x es3 => simp only [e2] at hl; cases hl
          | ok b es3 =>
            refine ⟨o', es2, _, R2, e2, fun o3 H3 x3 R3 => ?_⟩
            have hD2 : H2 Da = some (.dK kvs) := keep2 _ _ hD
            obtain ⟨ht3, hD3⟩ := x3.oth Da _ hD2 ht
            have x13 := (x'.trans x2).trans x3
            have hacc3 := (hacc.ext x2).ext x3
            cases b with
            | false =>
              simp only [e2] at hl
              refine iteF ?_
              exact ⟨o3, es3, σ2, kvs, ws, x13, w2', R3, ht3, hD3, hacc3, hkk, by omega, hl⟩
            | true =>
              simp only [e2] at hl
              refine iteT ?_
              cases e3 : kf es3 with
              | none => simp only [e3] at hl; cases hl
              | some rk =>
                cases rk with
                | ex x es4 => simp only [e3] at hl; cases hl
                | ok kd es4 =>
                  simp only [e3] at hl
                  refine ⟨o3, es3, _, R3, e3, fun o4 H4 wk x4 R4 dk => ?_⟩
                  obtain ⟨ht4, hD4⟩ := x4.oth Da _ hD3 ht3
                  have hacc4 := hacc3.ext x4
                  cases e4 : vf es4 with
                  | none => simp only [e4] at hl; cases hl
                  | some ry =>
                    cases ry with
                    | ex x es5 => simp only [e4] at hl; cases hl
                    | ok y es5 =>
                      simp only [e4] at hl
                      cases ek : keyF kd with
                      | none => rw [ek] at hl; cases hl
                      | some j =>
                        rw [ek] at hl
                        cases keyF_D ek
                        refine ⟨o4, es4, _, R4, e4, fun o5 H5 w x5 R5 dw => ?_⟩
                        obtain ⟨ht5, hD5⟩ := x5.oth Da _ hD4 ht4
                        have hacc5 := hacc4.ext x5
                        obtain ⟨okj, ewk⟩ := key_okD dk
                        have ew := hacc5.length
                        rw [List.length_map] at ew
                        have hlen2 : kvs.length < sizeLine := by rw [line_eq] at hlen ⊢; omega
                        refine ⟨kvs, j, ewk, hD5, hlen2, o5, es5, σ2, putK kvs j w, _, (x13.trans (x4.trans x5)).writeT nD, w2', R5.writeT ht5 trivial, ht5, upd_same, (dput_vs (fun i => isKeyD_key j i) dw hacc5).writeT ht5, fun q hq => ?_, ?_, ?_⟩
                        · rcases putK_mem hq with e | ⟨q', hq', e⟩
                          · rw [e]; exact okj
                          · rw [← e]; exact hkk q' hq'
                        · have := length_putK kvs j w; omega
                        · rw [← dput_ks (v := w) (fun i => isKeyD_key j i) kvs]
                          exact hl
    · have ei : i = ds.length := by omega
      subst ei
      rw [List.drop_length] at hl
      cases hl
      have hlen3 : kvs.length ≤ sizeLine := by omega
      exact .inl ⟨stop, hpost o' H' (.ref Da) (x1.trans x') (R1.back x' hw R') ⟨Da, rfl, nD0, ht, .inl ⟨kvs, hD, hlen3, ⟨rfl, rfl, hkk⟩, hacc⟩⟩⟩
section
variable {X : Cx} {cn : Wd} {pos : Pos}
theorem DE.dc {tg iter kx vx : Expr} {ifs : List Expr} {scope : Scope} {own : List (Str × Nat)} {fi : M (List D)} {gm : D → ES → Option ES} {g : TG} {tst : M Bool} {kf vf : M D} (hc : X.calm = true) (hN : X.N.Nodup) (hi : DI X cn tg iter fi) (ok : BlkOk X.N X.env.scope scope own)
    (hg : ∀ (s : Shared) (H : Hp) (C : Addr) (cl : List (Str × Addr)) (fp : List Addr), DG (X.blk s H scope (compEnvC scope cl C X.env) fp) cn tg (own.map (·.2)) gm g)
    (ht : ∀ (s : Shared) (H : Hp) (C : Addr) (cl : List (Str × Addr)) (fp : List Addr), DTs (X.blk s H scope (compEnvC scope cl C X.env) fp) cn ifs tst)
    (hk : ∀ (s : Shared) (H : Hp) (C : Addr) (cl : List (Str × Addr)) (fp : List Addr), DL (X.blk s H scope (compEnvC scope cl C X.env) fp) cn kx kf)
    (he : ∀ (s : Shared) (H : Hp) (C : Addr) (cl : List (Str × Addr)) (fp : List Addr), DL (X.blk s H scope (compEnvC scope cl C X.env) fp) cn vx vf)
    (hs : ∀ x, foldedSetIterable iter X.env x = pure x) : DE X cn (.DictComp kx vx [⟨tg, iter, ifs, 0⟩] scope pos) (dcM (own.map (·.2)) fi gm tst kf vf) := by
  intro Wx tk
  refine ⟨fun pins s σ H Q I h => (pe_dc (tt := tT X.K cn (fun _ _ _ _ => False) tst) (tk := tL X.K cn (fun _ _ _ _ => False) kf) (tv := tL X.K cn (fun _ _ _ _ => False) vf) hc hN (hi Wx tk) ok (fun s H C cl fp => (hg s H C cl fp).1) (fun s H C cl fp => ht s H C cl fp _ takesF) (fun s H C cl fp => hk s H C cl fp _ takesF) (fun s H C cl fp => he s H C cl fp _ takesF) hs).run pins s σ H Q I ?_⟩
  exact tDc_of (hg s H 0 [] []).2 h
/-! ### {}, {k: v, ..} -/
theorem DE.dctN (t : Bool) : DE X cn (.Dict [] [] pos) (M.ret (.fr (.dct t [] []))) := by
  intro Wx tk
  cases t with
  | false =>
    refine pe_i pe_dnewK fun σ H Q h => ?_
    obtain ⟨o, es, r, R, h, hp⟩ := h
    cases h
    refine fun p np => ?_
    obtain ⟨R1, x1, v1⟩ := new_dk (kvs := []) R np .nil (by simp) (Nat.zero_le _)
    exact hp _ _ _ x1 R1 v1
  | true =>
    refine pe_i pe_dnewT fun σ H Q h => ?_
    obtain ⟨o, es, r, R, h, hp⟩ := h
    cases h
    refine fun p np => ?_
    obtain ⟨R1, x1⟩ := R.newT (u := .dT []) np trivial
    exact hp _ _ _ x1 R1 ⟨p, rfl, np, put_same, .inr ⟨[], upd_same, Nat.zero_le _, ⟨rfl, rfl, by simp⟩, .nil⟩⟩
def dispP : List (M D × M D) → M (List (Key × D))
  | [] => M.ret []
  | (fk, fv) :: r => M.bind fk fun k => M.bind fv fun v => M.bind (M.lift (keyF k)) fun j => M.bind (dispP r) fun ps => M.ret ((j, v) :: ps)
def dispM (ps : List (M D × M D)) : M RV := M.bind (dispP ps) fun r => M.lift (let m := mergeD [] [] r; if r.length ≤ 15 then some (.fr (.dct false m.1 m.2)) else none)
theorem M.bind_assoc {α β γ : Type} (m : M α) (f : α → M β) (g : β → M γ) : M.bind (M.bind m f) g = M.bind m fun a => M.bind (f a) g := by
  funext es
  unfold M.bind
  cases m es with
  | none => rfl
  | some q => cases q <;> rfl
theorem tPairs_of {K : PySem.W.Frag} {Wx : WX} {β : Type} {σ : St} : ∀ {ps : List (M D × M D)} {o : Own} {H : Hp} {es : ES} {k : List (Key × D) → M β} {r : Res β} {Z : List (V × V) → Hp → Prop}, Rel K cn o H es σ → M.bind (dispP ps) k es = some r → (∀ x es', r = .ex x es' → PostX K cn Wx o H σ x es') →
    (∀ (kvs : List (Key × V)) (js : List (Key × D)) es1 o1 H1, Ext o H o1 H1 → Rel K cn o1 H1 es1 σ → kvs.map (·.1) = js.map (·.1) → DrAll K cn o1 H1 (kvs.map (·.2)) (js.map (·.2)) → (∀ q ∈ kvs, KeyOk q.1) → k js es1 = some r → Z (kvs.map fun kv => (kV kv.1, kv.2)) H1) →
    tPairs (ps.map fun p => (tL K cn Wx p.1, tL K cn Wx p.2)) σ H Z
  | [], o, H, es, k, r, Z, R, h, hx, hk => hk [] [] es o H Ext.refl R rfl .nil (by simp) h
  | (fk, fv) :: ps, o, H, es, k, r, Z, R, h, hx, hk => by
    have step : M.bind fk (fun kd => M.bind fv fun v => M.bind (M.lift (keyF kd)) fun j => M.bind (dispP ps) fun js => k ((j, v) :: js)) es = some r := by
      have e : M.bind (dispP ((fk, fv) :: ps)) k = M.bind fk fun kd => M.bind fv fun v => M.bind (M.lift (keyF kd)) fun j => M.bind (dispP ps) fun js => k ((j, v) :: js) := by
        show M.bind (M.bind fk fun kd => M.bind fv fun v => M.bind (M.lift (keyF kd)) fun j => M.bind (dispP ps) fun js => M.ret ((j, v) :: js)) k = _
        rw [M.bind_assoc]
        congr 1; funext kd
        rw [M.bind_assoc]
        congr 1; funext v
        rw [M.bind_assoc]
        congr 1; funext j
        rw [M.bind_assoc]
        rfl
      rw [← e]; exact h
    refine tL_step R step hx fun kd es1 o1 H1 wk x1 R1 V1 h1 => ?_
    refine tL_step R1 h1 (fun y es' e => (hx y es' e).mono x1) fun v es2 o2 H2 w x2 R2 V2 h2 => ?_
    rcases M.bind_some h2 with ⟨y, es3, e, _⟩ | ⟨j, es3, e, h3⟩
    · obtain ⟨_, _, e'⟩ := M.lift_some e; cases e'
    obtain ⟨j', ek, e'⟩ := M.lift_some e
    cases e'
    cases keyF_D ek
    obtain ⟨okj, rfl⟩ := key_okD V1
    refine tPairs_of R2 h3 (fun y es' e => (hx y es' e).mono (x1.trans x2)) fun kvs js es4 o4 H4 x4 R4 e1 e2 e3 h4 => ?_
    exact hk ((j, w) :: kvs) ((j, v) :: js) es4 o4 H4 ((x1.trans x2).trans x4) R4 (by simp [e1]) (.cons (V2.ext x4) e2) (fun q hq => by rcases List.mem_cons.mp hq with rfl | hq; exact okj; exact e3 q hq) h4
theorem DE.disp {keys : List (Option Expr)} {values : List Expr} {ps : List (M D × M D)} (h : ∀ Wx, Takes X Wx → PPs X pos keys values (ps.map fun p => (tL X.K cn Wx p.1, tL X.K cn Wx p.2))) (hall : keys.all (·.isSome) = true) (hl : keys.length = values.length) (h0 : keys ≠ []) (h15 : keys.length ≤ 15) : DE X cn (.Dict keys values pos) (dispM ps) := by
  intro Wx tk
  refine pe_i (pe_disp (h Wx tk) hall hl h0 h15) fun σ H Q h => ?_
  obtain ⟨o, es, r, R, h, hp⟩ := h
  intro p np
  obtain ⟨R0, x0⟩ := R.newT (u := .dK []) np trivial
  unfold dispM at h
  refine tPairs_of R0 h (fun y es' e => (post_ex hp y es' e).mono x0) fun kvs js es1 o1 H1 x1 R1 e1 e2 e3 h => ?_
  obtain ⟨ht, hD⟩ := x1.oth p _ upd_same put_same
  obtain ⟨rv, er, rfl⟩ := M.lift_some h
  dsimp only at er
  split at er
  · rename_i hz
    cases er
    have hlen : kvs.length = js.length := by simpa using congrArg List.length e1
    refine ⟨hD, kvs, rfl, by omega, ?_⟩
    obtain ⟨m1, m2⟩ := mergeD_ok (kvs := []) (vs := []) e1 e2 .nil
    have m1' : (mergeD [] [] js).1 = (mergeK [] kvs).map fun q => keyD q.1 := m1
    have hl2 : (mergeK [] kvs).length ≤ sizeLine := by
      have := length_mergeK kvs []
      rw [List.length_nil] at this
      rw [line_eq]; omega
    refine hp o1 _ _ ((x0.trans x1).writeT np) (R1.writeT ht trivial) ⟨p, rfl, np, ht, ?_⟩
    show Cont X.K cn o1 _ p (.dct false (mergeD [] [] js).1 (mergeD [] [] js).2)
    rw [m1']
    exact .inl ⟨_, upd_same, hl2, ⟨rfl, rfl, merge_keys e3 (by simp)⟩, m2.writeT ht⟩
  · cases er
end
end Dl
end
section
set_option Elab.async false
set_option linter.all false
set_option maxRecDepth 100000
set_option maxHeartbeats 2000000
/-! DlS: the rules as a printer names them. -/
namespace Dl
open PySem PySem.Spec PyProof.Rows L2

/-- names of builtins that the module leaves alone -/
def Bi (mg : Str → Option Value) (xs : List Str) : Prop := ∀ x ∈ xs, mg x = none
/-- a def that may be called by its name -/
structure Cal (P : Program) (w : World) (K : PySem.W.Frag) (mg : Str → Option Value) (base : Heap) (cn : Wd) (k : Nat) (x : Str) (n : Nat) (f : F) : Prop where
  ex : ∃ (fa : Addr) (fd : FuncData) (ps : List Str), FnOk P w K mg base (L2.CX P w) k fa fd ps (spD K cn n f) ∧ mg x = some (.ref fa) ∧ PySem.W.keepIn K (.ref fa) = true ∧ Binds K fd ps []
  len : ∀ ds g r, f ds g = some r → ds.length = n
theorem Cal.mono {P w K mg base cn j k x n f} (h : Cal P w K mg base cn j x n f) (hj : j ≤ k) : Cal P w K mg base cn k x n f := by
  obtain ⟨fa, fd, ps, h1, h2, h3, h4⟩ := h.ex
  exact ⟨⟨fa, fd, ps, h1.mono hj, h2, h3, h4⟩, h.len⟩
theorem Cal.imp {P w K mg base cn k x n f f2} (h : Cal P w K mg base cn k x n f) (hl : ∀ ds g r, f2 ds g = some r → ds.length = n) (hi : ∀ ds g r, ds.length = n → f2 ds g = some r → f ds g = some r) : Cal P w K mg base cn k x n f2 := by
  obtain ⟨fa, fd, ps, h1, h2, h3, h4⟩ := h.ex
  exact ⟨⟨fa, fd, ps, fn_imp h1 hi, h2, h3, h4⟩, hl⟩
def nmM (i : Nat) : M RV := fun es => match es.env[i]? with | some (some _) => some (.ok (.sl i) es) | _ => none
def cM (d : D) : M RV := M.ret (.fz d)
def binO (op : Operator) (fa fb : M RV) : M RV := bin2 fa fb (binD op)
def relO (op : CmpOp) (fa fb : M RV) : M RV := bin2 fa fb (relD op)
def ixO (fa fb : M RV) : M RV := bin2 fa fb ixD
def chO (o1 o2 : CmpOp) (fa fb fc : M RV) : M RV := chainM fa fb fc (relD o1) (relD o2)
def valM (g : M D) : M RV := M.bind g fun d => M.ret (.fz d)
def notE (fa : M RV) : M RV := M.bind (tru fa) fun b => M.ret (.fz (.bl (!b)))
def negI : D → Option RV
  | .int i => some (.fz (.int (-i)))
  | _ => none
def negM (fa : M RV) : M RV := M.bind fa fun r => M.bind (peek r) fun d => M.lift (negI d)
def enum1M (k : M (List D)) : M (List D) := M.bind k fun ds => M.lift (match ds with | [d] => (seqLT d).map (enumD 0) | _ => none)
def enum2M (k : M (List D)) : M (List D) := M.bind k fun ds => M.lift (match ds with | [d, .int j] => if -16777216 ≤ j ∧ j ≤ 16777216 then (seqLT d).map (enumD j) else none | _ => none)
def zipM (k : M (List D)) : M (List D) := M.bind k fun ds => M.lift (match ds with | [d, d'] => (seqLT d).bind fun as => (seqLT d').map fun bs => zipD as bs | _ => none)
def apndM (fo : M RV) (g : M D) : M RV := M.bind fo fun r => M.bind (wantLst r) fun _ => M.bind g fun d => appendM r d
def extdM (fo f : M RV) : M RV := M.bind fo fun r => M.bind (wantLst r) fun _ => M.bind f fun q => M.bind (leak q) fun d => extendM r d
def pop0M (fo : M RV) : M RV := M.bind fo fun r => M.bind (wantLst r) fun _ => popM r
def pop1M (fo f : M RV) : M RV := M.bind fo fun r => M.bind (wantLst r) fun _ => M.bind f fun q => M.bind (peek q) fun d => popAtM r d
/-- a module's constant: a text, an int -/
def GcS (mg : Str → Option Value) (x : Str) (z : Str) : Prop := ∃ u, mg x = some u ∧ RelV (.str z) u
def GcI (mg : Str → Option Value) (x : Str) (i : Int) : Prop := ∃ u, mg x = some u ∧ RelV (.int i) u
namespace R
section
variable {X : Cx} {cn : Wd} {a b c e : Expr} {fa fb fc f fo : M RV} {ga gb gc : M Bool} {g : M D} {pos apos cpos p p2 : Pos} {es rest : List Expr}
theorem nm (i : Nat) {x : Str} (hN : X.N[i]? = some x := by rfl) (hv : Vis X.env.scope x := by first | exact Or.inl rfl | exact Or.inr (Or.inl rfl) | exact Or.inr (Or.inr rfl)) (hd : (x == ("__debug__" : Str)) = false := by rfl) (hcd : (x == ("__classdict__" : Str)) = false := by rfl) : DE X cn (.Name x pos) (nmM i) := DE.name hN hv hd hcd
theorem int {i : Int} {j : Nat} : DE X cn (.Constant (.int i) j pos) (cM (.int i)) := DE.const pe_int fun _ _ _ => .int i
theorem bl {i : Bool} {j : Nat} : DE X cn (.Constant (.bool i) j pos) (cM (.bl i)) := DE.const pe_bl fun _ _ _ => .bl i
theorem non {j : Nat} : DE X cn (.Constant .none j pos) (cM .non) := DE.const pe_non fun _ _ _ => .non
theorem str {z : Str} {j : Nat} (h : z.length ≤ 16777216 := by decide) : DE X cn (.Constant (.str z) j pos) (cM (.str z)) := DE.const pe_str fun _ _ _ => .str z (by rw [line_eq]; exact h)
theorem globS {x z : Str} (G : GcS X.mg x z) (h : z.length ≤ 16777216 := by decide) (hg : Gl X x := by rfl) (hd : (x == ("__debug__" : Str)) = false := by rfl) : DE X cn (.Name x pos) (cM (.str z)) := by
  obtain ⟨u, h1, h2⟩ := G
  exact DE.const (pe_glob hg h1 h2 hd) fun _ _ _ => .str z (by rw [line_eq]; exact h)
theorem globI {x : Str} {i : Int} (G : GcI X.mg x i) (hg : Gl X x := by rfl) (hd : (x == ("__debug__" : Str)) = false := by rfl) : DE X cn (.Name x pos) (cM (.int i)) := by
  obtain ⟨u, h1, h2⟩ := G
  exact DE.const (pe_glob hg h1 h2 hd) fun _ _ _ => .int i
theorem bin {op : Operator} (ha : DE X cn a fa) (hb : DE X cn b fb) : DE X cn (.BinOp a op b pos) (binO op fa fb) := by
  obtain ⟨r, h1, h2⟩ := sem_bin (X := X) op
  exact DE.bin h1 h2 ha hb
theorem rel (hu : X.A.units + 65 < cLine) {op : CmpOp} (ha : DE X cn a fa) (hb : DE X cn b fb) (hm : behindInMarks op b = false := by rfl) : DE X cn (.Compare a [op] [b] pos) (relO op fa fb) := by
  obtain ⟨r, h1, h2⟩ := sem_rel (X := X) hu op
  exact DE.cmp h1 h2 ha hb hm
theorem relT (hu : X.A.units + 65 < cLine) {op : CmpOp} (ha : DE X cn a fa) (hb : DE X cn b fb) (hm : behindInMarks op b = false := by rfl) : DT X cn (.Compare a [op] [b] pos) (asB (relO op fa fb)) := by
  obtain ⟨r, h1, h2⟩ := sem_rel (X := X) hu op
  exact DT.cmp h1 h2 ha hb hm
theorem ch (hu : X.A.units + 65 < cLine) {op op' : CmpOp} (ha : DE X cn a fa) (hb : DE X cn b fb) (hc : DE X cn c fc) (hm : lastMarks [op, op'] [b, c] = false := by rfl) : DE X cn (.Compare a [op, op'] [b, c] pos) (chO op op' fa fb fc) := DE.chain (sem_rel hu op) (sem_rel hu op') ha hb hc hm
theorem chT (hu : X.A.units + 65 < cLine) {op op' : CmpOp} (ha : DE X cn a fa) (hb : DE X cn b fb) (hc : DE X cn c fc) (hm : lastMarks [op, op'] [b, c] = false := by rfl) : DT X cn (.Compare a [op, op'] [b, c] pos) (asB (chO op op' fa fb fc)) := DT.chain (sem_rel hu op) (sem_rel hu op') ha hb hc hm
theorem ix (hu : X.A.units + 65 < cLine) (ha : DE X cn a fa) (hb : DE X cn b fb) (hs : PlainIx b := by intro _ _; rfl) : DE X cn (.Subscript a b pos) (ixO fa fb) := by
  obtain ⟨r, h1, h2⟩ := sem_ix (X := X) (by omega)
  exact DE.ix h1 h2 ha hb hs
theorem tru (h : DE X cn e f) (he : ∀ whole, isTrue e X.env whole = (do let v ← whole; standAt e.pos; holding [v] (truthy v)) := by intro _; rfl) : DT X cn e (Dl.tru f) := DT.tru h he
theorem val (h : DL X cn e g) : DE X cn e (valM g) := DE.of h
theorem lk (h : DE X cn e f) : DL X cn e (Dl.lk f) := DL.of h
theorem neg (h : DE X cn a fa) : DE X cn (.UnaryOp .USub a pos) (negM fa) := by
  intro Wx tk
  refine pe_i (pe_un un_neg (h Wx tk)) fun σ H Q h => ?_
  obtain ⟨o, es, r, R, h, hp⟩ := h
  refine tE_step R h (post_ex hp) fun rv es1 o1 H1 v x1 R1 V1 h => ?_
  rcases M.bind_some h with ⟨y, es3, e, _⟩ | ⟨d, es3, e, h⟩
  · obtain ⟨d, e', _⟩ := peek_ok R1 V1 e; cases e'
  obtain ⟨d', e', pk⟩ := peek_ok R1 V1 e
  cases e'
  obtain ⟨z, ez, rfl⟩ := M.lift_some h
  unfold negI at ez
  split at ez
  · cases ez
    cases pk_int pk
    exact ⟨_, rfl, hp o1 H1 _ x1 R1 (.int _)⟩
  · cases ez
/-- arguments -/
theorem a0 : DA X cn [] (M.ret []) := DA.nil
theorem a1 {k : M (List RV)} (h : DE X cn e f) (t : DA X cn es k) (hs : starEach (e :: es) X.env = (false, eval e X.env) :: starEach es X.env := by rfl) : DA X cn (e :: es) (consR f k) := DA.cons h t hs
theorem d0 : DD X cn [] (M.ret []) := DD.nil
theorem d1 {k : M (List D)} (h : DL X cn e g) (t : DD X cn es k) (hs : starEach (e :: es) X.env = (false, eval e X.env) :: starEach es X.env := by rfl) : DD X cn (e :: es) (consD g k) := DD.cons h t hs
/-- builtins -/
theorem blt (B : Bi X.mg xs) {x : Str} {id : String} {gd : List D → Option RV} {k : M (List RV)} (hc : CallD X (.builtin id) gd) (ha : DA X cn (e :: es) k) (hv : bootBuiltins x = some (.builtin id)) (hx : x ∈ xs) (hg : Gl X x := by rfl) (hn : x ≠ "__name__" := by decide) (hdb : (x == ("__debug__" : Str)) = false := by rfl)
    (he : starEach (e :: es) X.env = (false, eval e X.env) :: starEach es X.env := by rfl) (hpl : (backTo pos (starEach es X.env)).any (·.1) = false := by rfl) : DE X cn (.Call (.Name x p) (e :: es) [] pos) (callN k gd) := by
  obtain ⟨r, h1, h2⟩ := hc
  exact DE.callB h1 h2 hg (B x hx) hv ha hn hdb he hpl
theorem bty (B : Bi X.mg xs) {x : Str} {T : String} {gd : List D → Option RV} {k : M (List RV)} (hc : CallD X (.type T) gd) (ha : DA X cn (e :: es) k) (hv : bootBuiltins x = some (.type T)) (hx : x ∈ xs) (hg : Gl X x := by rfl) (hn : x ≠ "__name__" := by decide) (hdb : (x == ("__debug__" : Str)) = false := by rfl)
    (he : starEach (e :: es) X.env = (false, eval e X.env) :: starEach es X.env := by rfl) (hpl : (backTo pos (starEach es X.env)).any (·.1) = false := by rfl) : DE X cn (.Call (.Name x p) (e :: es) [] pos) (callN k gd) := by
  obtain ⟨r, h1, h2⟩ := hc
  exact DE.callTy h1 h2 hg (B x hx) hv ha hn hdb he hpl
/-- own defs -/
theorem call {j k n : Nat} {fn : F} {x : Str} {km : M (List D)} (C : Cal X.prog X.w X.K X.mg X.base cn k x n fn) (hr : Room j X.A) (hj : k ≤ j) (ha : DD X cn (e :: es) km) (hg : Gl X x := by rfl) (hdb : (x == ("__debug__" : Str)) = false := by rfl)
    (he : starEach (e :: es) X.env = (false, eval e X.env) :: starEach es X.env := by rfl) (hpl : (backTo pos (starEach es X.env)).any (·.1) = false := by rfl) : DL X cn (.Call (.Name x p) (e :: es) [] pos) (callF km fn) := by
  obtain ⟨fa, fd, ps, h1, h2, h3, h4⟩ := C.ex
  exact DL.call h1 C.len (hr.mono hj) hg h2 h3 h4 ha hdb he hpl
end
section
variable {X : Cx} {cn : Wd} {a b c e : Expr} {fa fb fc f fo : M RV} {ga gb gc : M Bool} {g : M D} {pos apos cpos p p2 : Pos} {es rest : List Expr} {body ebody : List Stmt} {st : Stmt} {fs gs : S}
theorem setv (i : Nat) {x : Str} {pos' : Pos} (hN : X.N.Nodup) (he : DE X cn e f) (hi : X.N[i]? = some x := by rfl) (hx : Loc X.env.scope x := by first | exact Or.inl rfl | exact Or.inr rfl) (hs : swapsWith e (some (.Name x pos')) pos.line X.env = pure false := by rfl) (hf : X.fn x = true := by rfl) : DS X cn (.Assign [.Name x pos'] e pos) (S.of f (setIf i)) :=
  DS.setv hN hi hx he hs (.inl hf)
theorem ret (h : DL X cn e g) : DS X cn (.Return (some e) pos) (S.of g fun d es => some (.rt d es)) := DS.ret h
theorem expr (h : DE X cn e f) (hs : swapsWith e none pos.line X.env = pure false := by rfl) : DS X cn (.Expr e pos) (S.of f fun _ es => some (.nx es)) := DS.expr h hs
theorem asg {tg : Expr} {vs : List Nat} {gm} {gt : TG} (he : DL X cn e g) (hg : DG X cn tg vs gm gt) (hs : swapsWithSole [tg] e pos.line X.env = pure false := by rfl) (hw : swappedStores [tg] e X.env = pure none := by rfl) (h1 : (assignEach [tg] X.env).map (·.2) = [assign tg X.env] := by rfl) : DS X cn (.Assign [tg] e pos) (asgS g gm) := DS.asg he hg hs hw h1
theorem par2 (i j : Nat) {x y : Str} {px py pt pt2 : Pos} {kt k2 : Nat} (hN : X.N.Nodup) (ha : DE X cn a fa) (hb : DE X cn b fb) (hc : X.calm = true := by rfl) (hi : X.N[i]? = some x := by rfl) (hj : X.N[j]? = some y := by rfl) (hij : i ≠ j := by decide) (hx : X.env.scope.names.lookup x = some .local := by rfl) (hy : X.env.scope.names.lookup y = some .local := by rfl)
    (hs1 : starEach [a, b] X.env = (false, eval a X.env) :: starEach [b] X.env := by rfl) (hs2 : starEach [b] X.env = [(false, eval b X.env)] := by rfl) (hw : swappedStores [.Tuple [.Name x px, .Name y py] kt pt] (.Tuple [a, b] k2 pt2) X.env = pure (some [x, y]) := by rfl) (hs : swapsWithSole [.Tuple [.Name x px, .Name y py] kt pt] (.Tuple [a, b] k2 pt2) pos.line X.env = pure false := by rfl) :
    DS X cn (.Assign [.Tuple [.Name x px, .Name y py] kt pt] (.Tuple [a, b] k2 pt2) pos) (par2S i j fa fb) := DS.par2 hc hN hi hj hij hx hy ha hb hs1 hs2 hw hs
theorem pair (i j : Nat) {x y : Str} {px py pt pt2 : Pos} {kt k2 : Nat} (hN : X.N.Nodup) (ha : DE X cn a fa) (hb : DE X cn b fb) (hc : X.calm = true := by rfl) (hi : X.N[i]? = some x := by rfl) (hj : X.N[j]? = some y := by rfl) (hx : Loc X.env.scope x := by first | exact Or.inl rfl | exact Or.inr rfl) (hy : Loc X.env.scope y := by first | exact Or.inl rfl | exact Or.inr rfl) (hfx : X.fn x = true := by rfl) (hfy : X.fn y = true := by rfl)
    (hs1 : starEach [a, b] X.env = (false, eval a X.env) :: starEach [b] X.env := by rfl) (hs2 : starEach [b] X.env = [(false, eval b X.env)] := by rfl) (hw : swappedStores [.Tuple [.Name x px, .Name y py] kt pt] (.Tuple [a, b] k2 pt2) X.env = pure none := by rfl) (hs : swapsWithSole [.Tuple [.Name x px, .Name y py] kt pt] (.Tuple [a, b] k2 pt2) pos.line X.env = pure false := by rfl) :
    DS X cn (.Assign [.Tuple [.Name x px, .Name y py] kt pt] (.Tuple [a, b] k2 pt2) pos) (par2S i j fa fb) := DS.pair hc hN hi hj hx hy (.inl hfx) (.inl hfy) ha hb hs1 hs2 hw hs
/-- targets -/
theorem gn (i : Nat) {x : Str} (hN : X.N.Nodup) (hi : X.N[i]? = some x := by rfl) (hx : Loc X.env.scope x := by first | exact Or.inl rfl | exact Or.inr rfl) (hf : X.fn x = true ∨ X.env.scope.names.lookup x = some .local := by first | exact Or.inl rfl | exact Or.inr rfl) : DG X cn (.Name x pos) [i] (setG i) (gName i) := DG.name hN hi hx hf
theorem g0 : DGs X cn [] [] gsNil gNil := DGs.nil
theorem g1 {t : Expr} {ts : List Expr} {vs ws : List Nat} {g gs h1 h2} (h : DG X cn t vs g h1) (k : DGs X cn ts ws gs h2) (hs : (assignEach (t :: ts) X.env).map (·.2) = assign t X.env :: (assignEach ts X.env).map (·.2) := by rfl) : DGs X cn (t :: ts) (vs ++ ws) (gsCons g gs) (gCons h1 h2) := DGs.cons h k hs
theorem gt (n : Nat) (K : PySem.W.Frag) {ts : List Expr} {k : Nat} {vs : List Nat} {gs g} (h : DGs X cn ts vs gs g) (hK : X.K = K := by rfl) (hc : X.calm = true := by rfl) (hn : (assignEach ts X.env).length = n := by rfl) (hst : (assignEach ts X.env).findIdx? (·.1) = none := by rfl) : DG X cn (.Tuple ts k pos) vs (sqG n gs) (fun v σ H Q => gTup K n g v σ H Q ∨ gLst K n g v σ H Q) := by
  subst hK
  exact DG.sq hc h hn hst
/-- sources -/
theorem seq {tg : Expr} (h : DL X cn e g) : DI X cn tg e (seqM g) := DI.seq h
theorem rng1 {xs : List Str} (B : Bi X.mg xs) {tg : Expr} {k : M (List RV)} (ha : DA X cn [a] k) (hx : Str.ofString "range" ∈ xs) (hg : Gl X "range" := by rfl) (hs : starEach [a] X.env = [(false, eval a X.env)] := by rfl) : DI X cn tg (.Call (.Name "range" p) [a] [] pos) (M.bind k fun rs => M.bind (peeks rs) fun ds => M.lift (Dl.rng1 ds)) := DI.range1 hg (B _ hx) ha hs
theorem rng2 {xs : List Str} (B : Bi X.mg xs) {tg : Expr} {k : M (List RV)} (ha : DA X cn [a, b] k) (hx : Str.ofString "range" ∈ xs) (hg : Gl X "range" := by rfl) (hs : starEach [a, b] X.env = [(false, eval a X.env), (false, eval b X.env)] := by rfl) (hs2 : starEach [b] X.env = [(false, eval b X.env)] := by rfl) : DI X cn tg (.Call (.Name "range" p) [a, b] [] pos) (M.bind k fun rs => M.bind (peeks rs) fun ds => M.lift (Dl.rng2 ds)) := DI.range2 hg (B _ hx) ha hs hs2
theorem enum1 {xs : List Str} (B : Bi X.mg xs) {elts : List Expr} {kk : Nat} {tpos : Pos} {k : M (List D)} (ha : DD X cn [e] k) (hx : Str.ofString "enumerate" ∈ xs) (hg : Gl X "enumerate" := by rfl) (hs : starEach [e] X.env = [(false, eval e X.env)] := by rfl) :
    DI X cn (.Tuple elts kk tpos) (.Call (.Name "enumerate" p) [e] [] pos) (enum1M k) := DI.enum1 hg (B _ hx) ha hs
theorem enum2 {xs : List Str} (B : Bi X.mg xs) {elts : List Expr} {kk : Nat} {tpos : Pos} {k : M (List D)} (ha : DD X cn [a, b] k) (hx : Str.ofString "enumerate" ∈ xs) (hg : Gl X "enumerate" := by rfl) (hs : starEach [a, b] X.env = (false, eval a X.env) :: starEach [b] X.env := by rfl) (hpl : (backTo pos (starEach [b] X.env)).any (·.1) = false := by rfl) :
    DI X cn (.Tuple elts kk tpos) (.Call (.Name "enumerate" p) [a, b] [] pos) (enum2M k) := DI.enum2 hg (B _ hx) ha hs hpl
theorem zip {xs : List Str} (B : Bi X.mg xs) {elts : List Expr} {kk : Nat} {tpos : Pos} {k : M (List D)} (ha : DD X cn [a, b] k) (hx : Str.ofString "zip" ∈ xs) (hg : Gl X "zip" := by rfl) (hs : starEach [a, b] X.env = (false, eval a X.env) :: starEach [b] X.env := by rfl) (hpl : (backTo pos (starEach [b] X.env)).any (·.1) = false := by rfl) :
    DI X cn (.Tuple elts kk tpos) (.Call (.Name "zip" p) [a, b] [] pos) (zipM k) := DI.zip hg (B _ hx) ha hs hpl
theorem loop {tg iter : Expr} {fi : M (List D)} {vs : List Nat} {gm gg} {fb : S} (hp : PassesOwn (model X.prog X.w) X.A X.env X.xe) (hi : DI X cn tg iter fi) (hg : DG X cn tg vs gm gg) (hb : DSs X cn body fb) (hc : X.calm = true := by rfl)
    (hs : ∀ x, foldedSetIterable iter X.env x = pure x := by intro _; rfl) : DS X cn (.For tg iter body [] pos) (S.of fi fun ds => loopS gm fb ds) := DS.loop hp hc hi hg hb hs
/-- comprehensions -/
theorem lc (own : List (Str × Nat)) {tg iter elt : Expr} {ifs : List Expr} {scope : Scope} {fi : M (List D)} {gm : D → ES → Option ES} {gg : TG} {tst : M Bool} {fe : M D} (hN : X.N.Nodup) (hi : DI X cn tg iter fi)
    (hg : ∀ (s : Shared) (H : Hp) (C : Addr) (cl : List (Str × Addr)) (fp : List Addr), DG (X.blk s H scope (compEnvC scope cl C X.env) fp) cn tg (own.map (·.2)) gm gg)
    (ht : ∀ (s : Shared) (H : Hp) (C : Addr) (cl : List (Str × Addr)) (fp : List Addr), DTs (X.blk s H scope (compEnvC scope cl C X.env) fp) cn ifs tst)
    (he : ∀ (s : Shared) (H : Hp) (C : Addr) (cl : List (Str × Addr)) (fp : List Addr), DL (X.blk s H scope (compEnvC scope cl C X.env) fp) cn elt fe)
    (ok : blkC X.N X.env.scope scope own = true := by rfl) (hc : X.calm = true := by rfl) (hs : ∀ x, foldedSetIterable iter X.env x = pure x := by intro _; rfl) : DE X cn (.ListComp elt [⟨tg, iter, ifs, 0⟩] scope pos) (lcM (own.map (·.2)) fi gm tst fe) := DE.lc hc hN hi (blkOk_by ok) hg ht he hs
theorem setlc (i : Nat) (own : List (Str × Nat)) {y : Str} {py lpos : Pos} {tg iter elt : Expr} {ifs : List Expr} {scope : Scope} {fi : M (List D)} {gm : D → ES → Option ES} {gg : TG} {tst : M Bool} {fe : M D} (hN : X.N.Nodup) (hi : DI X cn tg iter fi)
    (hg : ∀ (s : Shared) (H : Hp) (C : Addr) (cl : List (Str × Addr)) (fp : List Addr), DG (X.blk s H scope (compEnvC scope cl C X.env) fp) cn tg (own.map (·.2)) gm gg)
    (ht : ∀ (s : Shared) (H : Hp) (C : Addr) (cl : List (Str × Addr)) (fp : List Addr), DTs (X.blk s H scope (compEnvC scope cl C X.env) fp) cn ifs tst)
    (he : ∀ (s : Shared) (H : Hp) (C : Addr) (cl : List (Str × Addr)) (fp : List Addr), DL (X.blk s H scope (compEnvC scope cl C X.env) fp) cn elt fe)
    (hy : X.N[i]? = some y := by rfl) (hyl : X.env.scope.names.lookup y = some .local := by rfl) (hsw : swapsWith (.ListComp elt [⟨tg, iter, ifs, 0⟩] scope lpos) (some (.Name y py)) pos.line X.env = pure true := by rfl)
    (ok : blkC X.N X.env.scope scope own = true := by rfl) (hc : X.calm = true := by rfl) (hs : ∀ x, foldedSetIterable iter X.env x = pure x := by intro _; rfl) : DS X cn (.Assign [.Name y py] (.ListComp elt [⟨tg, iter, ifs, 0⟩] scope lpos) pos) (S.of (lcM (own.map (·.2)) fi gm tst fe) (setIf i)) := DS.setLc hc hN hy hyl hsw hi (blkOk_by ok) hg ht he hs
theorem dc (own : List (Str × Nat)) {tg iter kx vx : Expr} {ifs : List Expr} {scope : Scope} {fi : M (List D)} {gm : D → ES → Option ES} {gg : TG} {tst : M Bool} {kf vf : M D} (hN : X.N.Nodup) (hi : DI X cn tg iter fi)
    (hg : ∀ (s : Shared) (H : Hp) (C : Addr) (cl : List (Str × Addr)) (fp : List Addr), DG (X.blk s H scope (compEnvC scope cl C X.env) fp) cn tg (own.map (·.2)) gm gg)
    (ht : ∀ (s : Shared) (H : Hp) (C : Addr) (cl : List (Str × Addr)) (fp : List Addr), DTs (X.blk s H scope (compEnvC scope cl C X.env) fp) cn ifs tst)
    (hk : ∀ (s : Shared) (H : Hp) (C : Addr) (cl : List (Str × Addr)) (fp : List Addr), DL (X.blk s H scope (compEnvC scope cl C X.env) fp) cn kx kf)
    (he : ∀ (s : Shared) (H : Hp) (C : Addr) (cl : List (Str × Addr)) (fp : List Addr), DL (X.blk s H scope (compEnvC scope cl C X.env) fp) cn vx vf)
    (ok : blkC X.N X.env.scope scope own = true := by rfl) (hc : X.calm = true := by rfl) (hs : ∀ x, foldedSetIterable iter X.env x = pure x := by intro _; rfl) : DE X cn (.DictComp kx vx [⟨tg, iter, ifs, 0⟩] scope pos) (dcM (own.map (·.2)) fi gm tst kf vf) := DE.dc hc hN hi (blkOk_by ok) hg ht hk he hs
/-- isinstance -/
theorem ty0 : TyEs X [] [] := .nil
theorem ty1 {xs : List Str} (B : Bi X.mg xs) {x : Str} {n : String} {xp : Pos} {es : List Expr} {ns : List String} (t : TyEs X es ns) (hv : bootBuiltins x = some (.type n)) (hx : x ∈ xs) (hn : n ∈ tyNames := by decide) (hg : Gl X x := by rfl) (hnn : x ≠ "__name__" := by decide) (hdb : (x == ("__debug__" : Str)) = false := by rfl)
    (hs : starEach (.Name x xp :: es) X.env = (false, eval (.Name x xp) X.env) :: starEach es X.env := by rfl) : TyEs X (.Name x xp :: es) (n :: ns) := .cons hg (B x hx) hv hnn hdb hn hs t
theorem isi1 {xs : List Str} (B : Bi X.mg xs) {x : Str} {n : String} {xp : Pos} (he : DE X cn e f) (hvx : bootBuiltins x = some (.type n)) (hx : x ∈ xs) (hi : Str.ofString "isinstance" ∈ xs) (hn : n ∈ tyNames := by decide) (hg : Gl X "isinstance" := by rfl) (hgx : Gl X x := by rfl) (hnx : x ≠ "__name__" := by decide) (hdx : (x == ("__debug__" : Str)) = false := by rfl)
    (hs1 : starEach [e, .Name x xp] X.env = (false, eval e X.env) :: starEach [.Name x xp] X.env := by rfl) (hs2 : starEach [.Name x xp] X.env = [(false, eval (.Name x xp) X.env)] := by rfl) : DE X cn (.Call (.Name "isinstance" p) [e, .Name x xp] [] pos) (isiM f [n]) := DE.isi1 he hg (B _ hi) hgx (B _ hx) hvx hnx hdx hn hs1 hs2
theorem isiT {xs : List Str} (B : Bi X.mg xs) {es : List Expr} {ns : List String} {k : Nat} {tpos : Pos} (he : DE X cn e f) (ht : TyEs X es ns) (hi : Str.ofString "isinstance" ∈ xs) (hz : es.length ≤ 16 := by decide) (hg : Gl X "isinstance" := by rfl)
    (hs1 : starEach [e, .Tuple es k tpos] X.env = (false, eval e X.env) :: starEach [.Tuple es k tpos] X.env := by rfl) (hs2 : starEach [.Tuple es k tpos] X.env = [(false, eval (.Tuple es k tpos) X.env)] := by rfl) : DE X cn (.Call (.Name "isinstance" p) [e, .Tuple es k tpos] [] pos) (isiM f ns) := DE.isiT he hg (B _ hi) ht hz hs1 hs2
/-- methods -/
theorem ms {name : Str} (base : attributeBase a name X.env (eval a X.env) = eval a X.env) (line : (apos.endLine == cpos.line) = true) (few : ((backTo cpos (starEach es X.env)).all (fun x => !x.1) && (backToKw cpos (keywordEach [] X.env)).all (fun x => x.1.isSome) && decide (es.length + ([] : List Keyword).length + (if ([] : List Keyword).isEmpty then 0 else 1) < 30)) = true) : MtS X a name apos es cpos := ⟨base, line, few⟩
theorem split {k : M (List RV)} (ha : DE X cn a fo) (hk : DA X cn [e] k) (s : MtS X a "split" apos [e] cpos := by exact R.ms rfl rfl rfl) (hs : starEach [e] X.env = (false, eval e X.env) :: starEach [] X.env := by rfl) (hpl : (backTo cpos (starEach [] X.env)).any (·.1) = false := by rfl) : DE X cn (.Call (.Attribute a "split" apos) [e] [] cpos) (mtM "str" fo k splitD) := DE.mt PySem.F.plainAttrs_str PySem.F.slot_str_split PySem.F.type_str_split mt_split sem_split s hs hpl ha hk
theorem join {k : M (List RV)} (ha : DE X cn a fo) (hk : DA X cn [e] k) (s : MtS X a "join" apos [e] cpos := by exact R.ms rfl rfl rfl) (hs : starEach [e] X.env = (false, eval e X.env) :: starEach [] X.env := by rfl) (hpl : (backTo cpos (starEach [] X.env)).any (·.1) = false := by rfl) : DE X cn (.Call (.Attribute a "join" apos) [e] [] cpos) (mtM "str" fo k joinD) := DE.mt PySem.F.plainAttrs_str PySem.F.slot_str_join PySem.F.type_str_join mt_join sem_join s hs hpl ha hk
theorem append (ha : DE X cn a fo) (he : DL X cn e g) (s : MtS X a "append" apos [e] cpos := by exact R.ms rfl rfl rfl) (hs : starEach [e] X.env = [(false, eval e X.env)] := by rfl) : DE X cn (.Call (.Attribute a "append" apos) [e] [] cpos) (apndM fo g) := DE.append s hs ha he
theorem extend (ha : DE X cn a fo) (he : DE X cn e f) (s : MtS X a "extend" apos [e] cpos := by exact R.ms rfl rfl rfl) (hs : starEach [e] X.env = [(false, eval e X.env)] := by rfl) : DE X cn (.Call (.Attribute a "extend" apos) [e] [] cpos) (extdM fo f) := DE.extend s hs ha he
theorem pop (ha : DE X cn a fo) (s : MtS X a "pop" apos [] cpos := by exact R.ms rfl rfl rfl) : DE X cn (.Call (.Attribute a "pop" apos) [] [] cpos) (pop0M fo) := DE.pop s ha
theorem popAt (ha : DE X cn a fo) (he : DE X cn e f) (s : MtS X a "pop" apos [e] cpos := by exact R.ms rfl rfl rfl) (hs : starEach [e] X.env = [(false, eval e X.env)] := by rfl) : DE X cn (.Call (.Attribute a "pop" apos) [e] [] cpos) (pop1M fo f) := DE.popAt s hs ha he
end
end R
end Dl
namespace Dl
open PySem PySem.Spec PyProof.Rows L2
def bns : List Str := ["len", "list", "tuple", "int", "str", "bool", "dict", "all", "any", "max", "min", "isinstance", "range", "enumerate", "zip", "sorted", "sum"]
theorem h_len : Str.ofString "len" ∈ bns := by decide
theorem h_list : Str.ofString "list" ∈ bns := by decide
theorem h_tuple : Str.ofString "tuple" ∈ bns := by decide
theorem h_int : Str.ofString "int" ∈ bns := by decide
theorem h_str : Str.ofString "str" ∈ bns := by decide
theorem h_bool : Str.ofString "bool" ∈ bns := by decide
theorem h_dict : Str.ofString "dict" ∈ bns := by decide
theorem h_all : Str.ofString "all" ∈ bns := by decide
theorem h_any : Str.ofString "any" ∈ bns := by decide
theorem h_max : Str.ofString "max" ∈ bns := by decide
theorem h_min : Str.ofString "min" ∈ bns := by decide
theorem h_isinstance : Str.ofString "isinstance" ∈ bns := by decide
theorem h_range : Str.ofString "range" ∈ bns := by decide
theorem h_enumerate : Str.ofString "enumerate" ∈ bns := by decide
theorem h_zip : Str.ofString "zip" ∈ bns := by decide
theorem h_sorted : Str.ofString "sorted" ∈ bns := by decide
theorem h_sum : Str.ofString "sum" ∈ bns := by decide
/-- a def that the top has bound -/
structure HFun (K : PySem.W.Frag) (mg : Str → Option Value) (x : Str) (st : Stmt) : Prop where
  ex : ∃ (f : Addr) (fd : FuncData), Fun K x x st f fd ∧ mg x = some (.ref f)
theorem HFun.cal {P : Program} {w : World} {K : PySem.W.Frag} {mg : Str → Option Value} {base : Heap} {cn : Wd} {x : Str} {st : Stmt} {N ps : List Str} {k : Nat} {fb : S} (U : HFun K mg x st) (hS : FnScope N ps (defScope st)) (hB : ∀ fd f, Fun K x x st f fd → Binds K fd ps [])
    (hb : ∀ (cdv : Value) (f : Addr) (A : Around) (outer : List Env) (s : Shared) (H : Hp) (E : XK), Room k (A.deeper (envOfC x (defScope st) s.heap.objs.size f cdv)) → (A.deeper (envOfC x (defScope st) s.heap.objs.size f cdv)).units + 65 < cLine → N.Nodup →
      PassesOwn (model P w) (A.deeper (envOfC x (defScope st) s.heap.objs.size f cdv)) (envOfC x (defScope st) s.heap.objs.size f cdv) (cxOf (L2.CX P w) P w K mg base N x (defScope st) f cdv A outer s H E).xe → DSs (cxOf (L2.CX P w) P w K mg base N x (defScope st) f cdv A outer s H E) cn (defBody st) fb) :
    Cal P w K mg base cn (k + 1) x ps.length (bodyF N.length ps.length fb) := by
  obtain ⟨f, fd, FU, hm⟩ := U.ex
  refine ⟨⟨f, fd, ps, fn_D FU hS fun cdv A outer s H E hr => hb cdv f A outer s H E hr ?_ hS.nd (passes_of (X := cxOf (L2.CX P w) P w K mg base N x (defScope st) f cdv A outer s H E) rfl), hm, FU.kp, hB fd f FU⟩, fun ds g r => bodyF_len⟩
  have := hr.un
  omega
end Dl
namespace Dl
open PySem PySem.Spec PyProof.Rows L2
def scopeB (N Q : List Str) (sc : Scope) : Bool := (match sc.kind with | .function => true | _ => false) && (!sc.isCoroutine && (!sc.isGenerator && (decide N.Nodup && (decide (N.take Q.length = Q) && (Q.all (fun x => match sc.names.lookup x with | some .local => true | some .cell => true | _ => false) && sc.names.all fun y => match y.2 with | .free => false | _ => true)))))
theorem scope_by {N Q : List Str} {sc : Scope} (h : scopeB N Q sc = true) : FnScope N Q sc := by
  unfold scopeB at h
  simp only [Bool.and_eq_true, Bool.not_eq_true', decide_eq_true_eq, List.all_eq_true] at h
  obtain ⟨h1, h2, h3, h4, h5, h6, h7⟩ := h
  refine ⟨?_, h2, h3, h4, h5, fun x hx => ?_, fun y hy e => ?_⟩
  · split at h1
    · assumption
    · cases h1
  · have q := h6 x hx
    split at q <;> first | exact .inl (by assumption) | exact .inr (by assumption) | cases q
  · have q := h7 y hy
    rw [e] at q
    cases q
end Dl
end
section
set_option Elab.async false
set_option linter.all false
set_option maxRecDepth 100000
set_option maxHeartbeats 2000000
/-! DlT: what is not told; module dicts of texts; own errors; recursion. -/
namespace Dl
open PySem PySem.Spec PyProof.Rows L2

def noM {α : Type} : M α := fun _ => none
def noS : S := fun _ => none
namespace R
section
variable {X : Cx} {cn : Wd} {a b c e : Expr} {fa fb f : M RV} {g : M D} {pos apos cpos p p2 pos2 : Pos} {es rest : List Expr} {st : Stmt}
theorem noE : DE X cn e noM := fun Wx tk => ⟨fun _ _ _ _ _ _ ⟨_, _, _, _, h, _⟩ => by cases h⟩
theorem noL : DL X cn e noM := fun Wx tk => ⟨fun _ _ _ _ _ _ ⟨_, _, _, _, h, _⟩ => by cases h⟩
theorem noT : DT X cn e noM := fun Wx tk => ⟨fun _ _ _ _ _ _ ⟨_, _, _, _, h, _⟩ => by cases h⟩
theorem noI {tg : Expr} : DI X cn tg e noM := fun Wx tk => ⟨fun _ _ _ _ _ _ ⟨_, _, _, _, h, _⟩ => by cases h⟩
theorem noS : DS X cn st Dl.noS := fun Wx tk => ⟨fun _ _ _ _ _ _ ⟨_, _, _, _, h, _⟩ => by cases h⟩
theorem noSs {ss : List Stmt} : DSs X cn ss Dl.noS := fun Wx tk => ⟨fun _ _ _ _ _ _ ⟨_, _, _, _, h, _⟩ => by cases h⟩
end
end R
/-- a def of which nothing is told -/
def F0 : F := fun _ _ => none
theorem HFun.nought {P : Program} {w : World} {K : PySem.W.Frag} {mg : Str → Option Value} {base : Heap} {cn : Wd} {x : Str} {st : Stmt} {N ps : List Str} {k : Nat} (U : HFun K mg x st) (hS : FnScope N ps (defScope st)) (hB : ∀ fd f, Fun K x x st f fd → Binds K fd ps []) : Cal P w K mg base cn (k + 1) x ps.length F0 :=
  (U.cal (P := P) (w := w) (base := base) (cn := cn) (k := k) (fb := noS) hS hB fun cdv f A outer s H E hr hu hN hp => R.noSs).imp (fun _ _ _ h => by cases h) fun _ _ _ _ h => by cases h
/-! ### a module's dict of texts and ints -/
def LookI : Option Int → Option Value → Prop
  | none, none => True
  | some i, some u => RelV (.int i) u
  | _, _ => False
structure GcD (K : PySem.W.Frag) (w : World) (mg : Str → Option Value) (x : Str) (kvs : List (Str × Int)) : Prop where
  ex : ∃ (d : Addr) (es : Array DictEntry) (n : Nat), mg x = some (.ref d) ∧ KDict K w d es n ∧ ∀ z : Str, ∃ r, PySem.W.nsIn K d z = some r ∧ LookI (kvs.lookup z) r
def inKM (kvs : List (Str × Int)) (fa : M RV) : M RV := M.bind fa fun r => M.bind (peek r) fun d => M.lift (match d with | .str z => some (.fz (.bl (kvs.lookup z).isSome)) | _ => none)
def ixKM (kvs : List (Str × Int)) (fb : M RV) : M RV := M.bind fb fun r => M.bind (peek r) fun d => M.lift (match d with | .str z => (kvs.lookup z).map fun i => .fz (.int i) | _ => none)
namespace R
section
variable {X : Cx} {cn : Wd} {a b c e : Expr} {fa fb f : M RV} {g : M D} {pos apos cpos p p2 pos2 : Pos} {es rest : List Expr} {st : Stmt}
theorem inK_of {kvs : List (Str × Int)} {d : Addr} {K : PySem.W.Frag} {Wx : WX} (h3 : ∀ z : Str, ∃ r, PySem.W.nsIn K d z = some r ∧ LookI (kvs.lookup z) r) {σ : St} {H : Hp} {Q : VK} (h : tE K cn Wx (inKM kvs fa) σ H Q) :
    tOp (fun x y H Q => ∃ (z : Str) (r : Option Value), x = .str z ∧ y = .ref d ∧ PySem.W.nsIn K d z = some r ∧ Q (.bl r.isSome) H) (tE K cn Wx fa) (tC (.ref d)) σ H Q := by
  obtain ⟨o, es, r, R, h, hp⟩ := h
  refine tE_step R h (post_ex hp) fun rv es1 o1 H1 v x1 R1 V1 h => ?_
  rcases M.bind_some h with ⟨y, es3, e, _⟩ | ⟨d', es3, e, h⟩
  · obtain ⟨d, e', _⟩ := peek_ok R1 V1 e; cases e'
  obtain ⟨d', e', pk⟩ := peek_ok R1 V1 e
  cases e'
  obtain ⟨z, ez, rfl⟩ := M.lift_some h
  split at ez
  · rename_i z
    cases ez
    obtain ⟨r, hr, hl⟩ := h3 z
    refine ⟨z, r, (pk_str pk).1, rfl, hr, ?_⟩
    have e2 : r.isSome = (kvs.lookup z).isSome := by
      cases h4 : kvs.lookup z <;> cases r <;> rw [h4] at hl <;> first | rfl | exact (show False from hl).elim
    rw [e2]
    exact hp o1 H1 _ x1 R1 (.bl _)
  · cases ez
theorem inK {x : Str} {kvs : List (Str × Int)} (G : GcD X.K X.w X.mg x kvs) (ha : DE X cn a fa) (hg : Gl X x := by rfl) (hd : (x == ("__debug__" : Str)) = false := by rfl) (hm : behindInMarks .In (.Name x p) = false := by rfl) : DE X cn (.Compare a [.In] [.Name x p] pos) (inKM kvs fa) := by
  obtain ⟨d, es, n, h1, h2, h3⟩ := G.ex
  exact fun Wx tk => pe_i (pe_cmpR (op_in_kd h2) (ha Wx tk) (pe_glob (v := .ref d) hg h1 rfl hd) hm) fun σ H Q h => inK_of h3 h
theorem inKT {x : Str} {kvs : List (Str × Int)} (G : GcD X.K X.w X.mg x kvs) (ha : DE X cn a fa) (hg : Gl X x := by rfl) (hd : (x == ("__debug__" : Str)) = false := by rfl) (hm : behindInMarks .In (.Name x p) = false := by rfl) : DT X cn (.Compare a [.In] [.Name x p] pos) (asB (inKM kvs fa)) := by
  obtain ⟨d, es, n, h1, h2, h3⟩ := G.ex
  exact fun Wx tk => pt_i (pt_cmpR (op_in_kd h2) (ha Wx tk) (pe_glob (v := .ref d) hg h1 rfl hd) hm) fun σ H Q h => tTest_of h fun Q h => inK_of h3 h
theorem ixK {x : Str} {kvs : List (Str × Int)} (G : GcD X.K X.w X.mg x kvs) (hb : DE X cn b fb) (hg : Gl X x := by rfl) (hd : (x == ("__debug__" : Str)) = false := by rfl) (hs : PlainIx b := by intro _ _; rfl) : DE X cn (.Subscript (.Name x p) b pos) (ixKM kvs fb) := by
  obtain ⟨d, es, n, h1, h2, h3⟩ := G.ex
  intro Wx tk
  refine pe_i (pe_ix ix_kdict (pe_glob (v := .ref d) hg h1 rfl hd) (hb Wx tk) hs) fun σ H Q h => ?_
  obtain ⟨o, es, r, R, h, hp⟩ := h
  refine tE_step R h (post_ex hp) fun rv es1 o1 H1 v x1 R1 V1 h => ?_
  rcases M.bind_some h with ⟨y, es3, e, _⟩ | ⟨d', es3, e, h⟩
  · obtain ⟨d, e', _⟩ := peek_ok R1 V1 e; cases e'
  obtain ⟨d', e', pk⟩ := peek_ok R1 V1 e
  cases e'
  obtain ⟨q, ez, rfl⟩ := M.lift_some h
  split at ez
  · rename_i z
    cases e1 : kvs.lookup z with
    | none => rw [e1] at ez; cases ez
    | some i =>
      rw [e1] at ez
      cases ez
      obtain ⟨r, hr, hl⟩ := h3 z
      rw [e1] at hl
      cases r with
      | none => exact (show False from hl).elim
      | some u => exact ⟨d, z, .int i, rfl, (pk_str pk).1, ⟨_, _, u, h2.at_, h2.lit, hr, hl⟩, hp o1 H1 _ x1 R1 (.int _)⟩
  · cases ez
end
end R
/-! ### own errors of one argument -/
structure Exc1 (P : Program) (w : World) (K : PySem.W.Frag) (mg : Str → Option Value) (base : Heap) (cn : Wd) (k : Nat) (x f : Str) : Prop where
  ex : ∃ (C fI : Addr) (fd : FuncData) (ps : List Str), OexC K C ∧ PySem.W.findIn K (.ref C) "__init__" = some (some (.ref fI)) ∧ PySem.W.typeIn K (.ref fI) = some (.type "function") ∧ FnOk P w K mg base (L2.CX P w) k fI fd ps (spIni C f) ∧ Binds K fd ps [] ∧ mg x = some (.ref C) ∧ cn x = C
def raiseS (x f : Str) (km : M (List D)) : S := S.of km fun ds es => match ds with | [d] => some (.ex ⟨x, [f], [d]⟩ es) | _ => none
namespace R
section
variable {X : Cx} {cn : Wd} {e : Expr} {pos p pos2 : Pos}
theorem raise {j k : Nat} {x f : Str} {km : M (List D)} (E : Exc1 X.prog X.w X.K X.mg X.base cn k x f) (hr : Room j X.A) (hj : k + 1 ≤ j) (ha : DD X cn [e] km) (hc : X.calm = true := by rfl) (hg : Gl X x := by rfl) (hdb : (x == ("__debug__" : Str)) = false := by rfl) (he : starEach [e] X.env = [(false, eval e X.env)] := by rfl) :
    DS X cn (.Raise (some (.Call (.Name x p) [e] [] pos)) none pos2) (raiseS x f km) := by
  obtain ⟨C, fI, fd, ps, h1, h2, h3, h4, h5, h6, h7⟩ := E.ex
  exact DS.raise hc h1 h2 h3 h4 (hr.mono hj) h5 hg h6 h7 ha hdb he
end
end R
end Dl
end
section
set_option Elab.async false
set_option linter.all false
set_option maxRecDepth 100000
set_option maxHeartbeats 2000000
/-! DlU: sorted(..) of data. -/
namespace Dl
open PySem PySem.Spec PyProof.Rows L2

def pdOf (d : D) : PyData := (toPD d).getD .none
def isTup1 : PyData → Bool
  | .tuple (_ :: _) => true
  | _ => false
def isOther : PyData → Bool
  | .none => false
  | .tuple _ => false
  | _ => true
/-- data that may be sorted -/
def okSort (ds : List D) : Bool := (ds.all fun d => (toPD d).isSome && decide ((pdOf d).depth ≤ 60)) && ((ds.all fun d => ds.all fun e => PySem.W.alike (pdOf d) (pdOf e)) && ((ds.all fun d => isTup1 (pdOf d)) || (ds.all fun d => isOther (pdOf d))))
def leD (a b : D) : Bool := PySem.W.dataLe false pdOf a b
def leT (a b : V × D) : Bool := PySem.W.dataLe false (fun t : V × D => pdOf t.2) a b
theorem isTup1_of {p : PyData} (h : isTup1 p = true) : ∃ x r, p = .tuple (x :: r) := by
  unfold isTup1 at h
  split at h
  · exact ⟨_, _, rfl⟩
  · cases h
theorem isOther_of {p : PyData} (h : isOther p = true) : p ≠ .none ∧ ∀ xs, p ≠ .tuple xs := by
  refine ⟨fun e => ?_, fun xs e => ?_⟩ <;> (subst e; cases h)
theorem ok_sort {ts : List (V × D)} (h : okSort (ts.map (·.2)) = true) : PySem.W.AllAlike (ts.map fun t => pdOf t.2) ∧ PySem.W.Sortable (ts.map fun t => pdOf t.2) ∧ (∀ t ∈ ts, (pdOf t.2).depth ≤ 60) ∧ ∀ t ∈ ts, toPD t.2 = some (pdOf t.2) := by
  unfold okSort at h
  simp only [Bool.and_eq_true, Bool.or_eq_true, List.all_eq_true, decide_eq_true_eq] at h
  obtain ⟨h1, h2, h3⟩ := h
  refine ⟨fun d hd d' hd' => ?_, ?_, fun t ht => (h1 t.2 (List.mem_map_of_mem ht)).2, fun t ht => ?_⟩
  · obtain ⟨t, ht, rfl⟩ := List.mem_map.mp hd
    obtain ⟨t', ht', rfl⟩ := List.mem_map.mp hd'
    exact h2 t.2 (List.mem_map_of_mem ht) t'.2 (List.mem_map_of_mem ht')
  · rcases h3 with h3 | h3
    · refine .inl fun d hd => ?_
      obtain ⟨t, ht, rfl⟩ := List.mem_map.mp hd
      exact isTup1_of (h3 t.2 (List.mem_map_of_mem ht))
    · refine .inr fun d hd => ?_
      obtain ⟨t, ht, rfl⟩ := List.mem_map.mp hd
      exact isOther_of (h3 t.2 (List.mem_map_of_mem ht))
  · have q := (h1 t.2 (List.mem_map_of_mem ht)).1
    unfold pdOf
    cases e : toPD t.2 with
    | none => rw [e] at q; cases q
    | some p => rfl
section
variable {X : Cx} {pins : List (Addr × Obj)} {σ : St} {H : Hp} {s : Shared}
theorem each_vals : ∀ {ts : List (V × D)} {us : List Value}, Vals (ts.map (·.1)) us → PySem.W.EachIs (fun v (t : V × D) => RelV t.1 v) us ts
  | [], _, r => by cases r; exact .nil
  | t :: ts, _, r => by
    rw [List.map_cons] at r
    cases r with
    | cons r1 r2 => exact .cons r1 (each_vals r2)
theorem vals_each : ∀ {us : List Value} {ts : List (V × D)}, PySem.W.EachIs (fun v (t : V × D) => RelV t.1 v) us ts → Vals (ts.map (·.1)) us
  | _, _, .nil => .nil
  | _, _, .cons h t => .cons h (vals_each t)
theorem each_and {α β : Type} {R S : α → β → Prop} : ∀ {as : List α} {bs : List β}, PySem.W.EachIs R as bs → (∀ a b, R a b → b ∈ bs → S a b) → PySem.W.EachIs S as bs
  | _, _, .nil, _ => .nil
  | _, _, .cons h t, f => .cons (f _ _ h List.mem_cons_self) (each_and t fun a b r m => f a b r (List.mem_cons_of_mem _ m))
theorem sort_core {v : Value} {ts : List (V × D)} {Q : VK} (I : Inv X pins σ H s) (hd : ∀ t ∈ ts, Dp X.K H t.1 (pdOf t.2)) (ok : okSort (ts.map (·.2)) = true) (hz : ts.length ≤ sizeLine) (hu : X.A.units + 65 < cLine)
    (hcol : ∀ (R : List Value → Shared → Prop), (∀ (h' : Heap) (tk : Nat) (acc : List Value), (∀ b o, s.heap.get? b = some o → h'.get? b = some o) → Vals (ts.map (·.1)) acc → R acc { s with heap := h', toks := tk }) → wpAny (model X.prog X.w) X.A.in1 (collect v) R X.xe s)
    (q : ∀ p, H p = none → Q (.ref p) (upd H p (.lst ((ts.mergeSort leT).map (·.1))))) : wpAny (model X.prog X.w) X.A (call (.builtin "sorted") [v]) (EP X pins σ Q) X.xe s := by
  obtain ⟨a1, a2, a3, a4⟩ := ok_sort ok
  refine Calls.call_function_entry PyProof.Rows.kind_sorted PyProof.Rows.plain_sorted PyProof.Rows.entry_sorted (PyProof.Rows.args_sorted1 _) ?_
  unfold Builtin.«sorted»
  refine wpAny_bind (m := checkCount "sorted" 1 1 _) (wpAny_pure ?_)
  refine wpAny_bind (hcol _ fun h' tk acc hk hacc => ?_)
  have I1 : Inv X pins σ H { s with heap := h', toks := tk } := I.kept hk
  have hal : acc.length = ts.length := by have := hacc.length; rw [List.length_map] at this; exact this.symm
  have hE := each_vals hacc
  refine wpAny_bind (wpAny_newList ?_ (by rw [hal]; exact hz))
  have hoL : (h'.push (seqObj "list" acc.toArray 0)).get? h'.objs.size = some (seqObj "list" acc.toArray 0) := Heap.get?_push_size _ rfl
  show wpAny _ _ _ _ _ { s with heap := h'.push (seqObj "list" acc.toArray 0), toks := tk }
  have old : ∀ {g : Heap}, (∀ b o, b ≠ h'.objs.size → (h'.push (seqObj "list" acc.toArray 0)).get? b = some o → g.get? b = some o) → ∀ b o, h'.get? b = some o → g.get? b = some o := fun {g} k b o e =>
    k b o (Nat.ne_of_lt (Heap.lt_size e)) (Heap.get?_push_of_some _ e)
  have er : PySem.W.EachIs (fun v (t : V × D) => ∃ as, Reads (PySem.W.sortingHeap (h'.push (seqObj "list" acc.toArray 0)) h'.objs.size acc) v (pdOf t.2) as) acc ts :=
    each_and hE fun v t r m => by
      obtain ⟨as, hr⟩ := Dp.reads I1 _ _ _ (hd t m) r
      exact ⟨as, PyProof.Rows.Reads.keeps (old fun b o hb e => PySem.W.sortingHeap_old hb e) hr⟩
  have S := PySem.W.SortsAt.data (prog := X.prog) (w := X.w) (A := X.A.in1.in1) (s := { s with heap := PySem.W.sortingHeap (h'.push (seqObj "list" acc.toArray 0)) h'.objs.size acc, toks := tk }) (PySem.W.each_map (R := fun v d => ∃ as, Reads (PySem.W.sortingHeap (h'.push (seqObj "list" acc.toArray 0)) h'.objs.size acc) v d as) (fun t : V × D => pdOf t.2) er) a1 a2
    (fun d hdm => by
      obtain ⟨t, ht, rfl⟩ := List.mem_map.mp hdm
      have := a3 t ht
      show X.A.units + 1 + 1 + _ < cLine
      omega)
  refine wpAny_bind (wpAny_holding (wpAny_call_entry PyProof.Rows.slot_list_sort ⟨_, hoL, rfl⟩ PyProof.Rows.entry_list_sort
    (PySem.W.list_sort_vals (s := { s with heap := h'.push (seqObj "list" acc.toArray 0), toks := tk }) hoL S (by rw [hal]; exact hz) ⟨_, rfl, ?_⟩) (PyProof.Rows.args_list_sort _)))
  have eo := PySem.W.sortVals_data (rev := false) (enc := fun t : V × D => pdOf t.2) hE er a1
  have ro := vals_each eo
  obtain ⟨e', he'⟩ := PyProof.Rows.sortedHeap_at (vs := acc) (out := (PySem.W.sortVals (PySem.W.dataKind (PySem.W.sortingHeap (h'.push (seqObj "list" acc.toArray 0)) h'.objs.size acc) (ts.map fun t => pdOf t.2)) false acc acc).toArray) hoL
  have hlen : ((ts.mergeSort leT).map (·.1)).length ≤ sizeLine := by rw [List.length_map, List.length_mergeSort]; exact hz
  refine wpAny_pure ⟨_, rfl, .ref h'.objs.size, upd H h'.objs.size (.lst ((ts.mergeSort leT).map (·.1))), I1.laid (t' := tk) (fun b u e => ?_) (Nat.le_refl _)
    (show ObjOk X.prog X.w _ _ _ (.lst ((ts.mergeSort leT).map (·.1))) from ⟨hlen, _, e', ro, he'⟩), rfl, q _ (I1.hok.fresh (Nat.le_refl _))⟩
  have hb : b < h'.objs.size := Heap.lt_size e
  rw [PyProof.Rows.sortedHeap_old (Nat.ne_of_lt hb) (by rw [size_push']; exact Nat.lt_succ_of_lt hb)]
  exact Heap.get?_push_of_some _ e
end
def SortOk (K : PySem.W.Frag) (H : Hp) (Q : VK) (ts : List (V × D)) : Prop := (∀ t ∈ ts, Dp K H t.1 (pdOf t.2)) ∧ okSort (ts.map (·.2)) = true ∧ ts.length ≤ sizeLine ∧ ∀ p, H p = none → Q (.ref p) (upd H p (.lst ((ts.mergeSort leT).map (·.1))))
def rSortA (K : PySem.W.Frag) : List V → Hp → VK → Prop := fun xs H Q => ∃ a : Addr, xs = [.ref a] ∧ ((∃ ts : List (V × D), (SqL K H a (ts.map (·.1)) ∨ SqT K H a (ts.map (·.1))) ∧ SortOk K H Q ts) ∨ (∃ (kvs : List (Key × V)) (ts : List (V × D)), H a = some (.dK kvs) ∧ ts.map (·.1) = kvs.map (fun p => kV p.1) ∧ SortOk K H Q ts) ∨
  ∃ kvs : List (List Key × V), H a = some (.dT kvs) ∧ ∀ bs, IsKeys H kvs bs → ∃ ts : List (V × D), ts.map (·.1) = bs.map V.ref ∧ SortOk K H Q ts)
section
variable {X : Cx}
theorem keyIs_V {k : Key} {v : Value} (h : keyIs k v = true) : RelV (kV k) v := keyIs_rel h
theorem vals_keys {us : List Value} {vs : List (Key × Value)} {kvs : List (Key × V)} (rel : KV kvs vs) (hl : us.length = vs.length) (h : ∀ (j : Nat) (v : Value), us[j]? = some v → ∃ (k : Key) (x : Value), vs[j]? = some (k, x) ∧ keyIs k v = true) : Vals (kvs.map fun p => kV p.1) us := by
  have e := keys_at hl h
  have e2 : (vs.map fun p => kV p.1) = kvs.map fun p => kV p.1 := by
    have := rel.keys
    have e3 : (vs.map (·.1)).map kV = (kvs.map (·.1)).map kV := by rw [this]
    rw [List.map_map, List.map_map] at e3
    exact e3
  rw [← e2]; exact e
theorem call_sortA (hc : X.calm = true) (hu : X.A.units + 65 < cLine) : CallR X (.builtin "sorted") (rSortA X.K) := by
  intro pins s σ H xs us Q I r h
  obtain ⟨a, rfl, h⟩ := h
  obtain ⟨u, rfl, rx⟩ := vals1 r
  cases rx
  rcases h with ⟨ts, hs, h1, h2, h3, h4⟩ | ⟨kvs, ts, hd, hk, h1, h2, h3, h4⟩ | ⟨kvs, hd, h⟩
  · refine sort_core I h1 h2 h3 hu (fun R q => ?_) h4
    rcases hs with hs | hs
    · obtain ⟨its, rv, ⟨o, n, e, c, _, d⟩, z⟩ := I.list hs
      exact wpAny_collect_seq a (.inl rfl) e c d (fun h' k => q h' s.toks its k rv) (by rw [List.size_toArray, ← rv.length]; exact z)
    · obtain ⟨its, rv, ⟨o, e, c, n, d⟩, z⟩ := I.tuple hs
      exact wpAny_collect_seq a (.inr rfl) e c d (fun h' k => q h' s.toks its k rv) (by rw [List.size_toArray, ← rv.length]; exact z)
  · refine sort_core I h1 h2 h3 hu (fun R q => ?_) h4
    obtain ⟨z, lo, vs, rel, dd⟩ := dk_rd I.hok (.of hd)
    obtain ⟨ep, hat⟩ := dd.dictAt
    refine PySem.W.kdu_collect (A := X.A.in1) (PySem.W.kdl_dict (knd := mixKind X.prog X.w) (kvs := vs) (ep := ep) lo) (I.ok.hd hc) hat (by rw [← rel.length]; exact z) fun h' tk acc hk' hacc => ?_
    refine q h' tk acc.toList hk' ?_
    rw [hk]
    exact vals_keys rel (by rw [Array.length_toList, hacc.1]) fun j v e => hacc.2 j v (by rw [← Array.getElem?_toList]; exact e)
  · obtain ⟨z, lo, ks, pr, o, es, ep, ho, hx, hdt, he, hn⟩ := (show ObjOk X.prog X.w H s.heap a (.dT kvs) from I.hok a _ hd)
    obtain ⟨ts, hk, h1, h2, h3, h4⟩ := h _ (isKeys_of pr)
    refine sort_core I h1 h2 h3 hu (fun R q => ?_) h4
    have l1 : es.size = ks.length := size_of_entries he
    have l2 : kvs.length = ks.length := Paired.length pr
    refine PySem.W.kdu_collect (A := X.A.in1) (kdl_raw lo hx hdt) (I.ok.hd hc) ho (by omega) fun h' tk acc hk' it => ?_
    refine q h' tk acc.toList hk' ?_
    have ea : acc.toList = ks.map fun x => Value.ref x.2.1 := by
      have hl : acc.toList.length = ks.length := by rw [Array.length_toList, it.1]; exact l1
      apply List.ext_getElem?
      intro j
      rw [List.getElem?_map]
      cases hj : acc.toList[j]? with
      | none =>
        have h1 := List.getElem?_eq_none_iff.mp hj
        rw [List.getElem?_eq_none (by omega)]
        all_goals rfl
      | some v =>
        obtain ⟨en, hen, hv⟩ := it.2 j v (by rw [← Array.getElem?_toList]; exact hj)
        have qe := entry_at he j
        rw [hen] at qe
        cases hb : ks[j]? with
        | none =>
          rw [hb] at qe
          exact nomatch (show some en = none from qe)
        | some b =>
          rw [hb] at qe
          have e2 : en = entryOfKey (tupleKind (mixKind X.prog X.w)) b := Option.some.inj qe
          rw [hv, e2]
          all_goals rfl
    have eb : acc.toList = (ks.map fun x => x.2.1).map Value.ref := by rw [ea, List.map_map]; all_goals rfl
    rw [hk, eb]
    exact vals_refs _
/-- sorted(..) -/
def sortedD : List D → Option RV
  | [.lst ds] => if okSort ds = true then some (.fr (.lst (ds.mergeSort leD))) else none
  | [.tup ds] => if okSort ds = true then some (.fr (.lst (ds.mergeSort leD))) else none
  | [.dct _ ks _] => if okSort ks = true then some (.fr (.lst (ks.mergeSort leD))) else none
  | _ => none
theorem dr_all_mem {K : PySem.W.Frag} {cn : Wd} {o : Own} {H : Hp} : ∀ {ts : List (V × D)}, (∀ t ∈ ts, Dr K cn o H t.1 t.2) → DrAll K cn o H (ts.map (·.1)) (ts.map (·.2))
  | [], _ => .nil
  | t :: ts, h => .cons (h t List.mem_cons_self) (dr_all_mem fun q hq => h q (List.mem_cons_of_mem _ hq))
theorem dr_zip {K : PySem.W.Frag} {cn : Wd} {o : Own} {H : Hp} : ∀ {vs : List V} {ds : List D}, DrAll K cn o H vs ds → ((vs.zip ds).map (·.1) = vs ∧ (vs.zip ds).map (·.2) = ds) ∧ ∀ t ∈ vs.zip ds, Dr K cn o H t.1 t.2
  | _, _, .nil => ⟨⟨rfl, rfl⟩, by simp⟩
  | _, _, .cons h t => by
    obtain ⟨⟨e1, e2⟩, e3⟩ := dr_zip t
    refine ⟨⟨by simp [e1], by simp [e2]⟩, fun q hq => ?_⟩
    rw [List.zip_cons_cons] at hq
    rcases List.mem_cons.mp hq with rfl | hq
    · exact h
    · exact e3 q hq
/-- the sorted list, laid -/
theorem sort_fin {K : PySem.W.Frag} {cn : Wd} {o : Own} {es : ES} {σ : St} {H : Hp} {vs : List V} {ds : List D} {Q : VK} (R : Rel K cn o H es σ) (h : DrAll K cn o H vs ds) (hz : vs.length ≤ sizeLine) (ok : okSort ds = true) (p : PE_ K cn o H σ Q (.fr (.lst (ds.mergeSort leD))) es) :
    ∃ ts : List (V × D), ts.map (·.1) = vs ∧ SortOk K H Q ts := by
  obtain ⟨⟨e1, e2⟩, e3⟩ := dr_zip h
  have hl : (vs.zip ds).length ≤ sizeLine := by
    have : (vs.zip ds).length = vs.length := by rw [← List.length_map (f := (·.1)), e1]
    omega
  obtain ⟨_, _, _, a4⟩ := ok_sort (ts := vs.zip ds) (by rw [e2]; exact ok)
  refine ⟨vs.zip ds, e1, fun t ht => dp_of (e3 t ht) _ (a4 t ht), by rw [e2]; exact ok, hl, fun q nq => ?_⟩
  have em : ((vs.zip ds).mergeSort leT).map (·.2) = ds.mergeSort leD := by
    have := List.map_mergeSort (r := leT) (s := leD) (f := fun t : V × D => t.2) (l := vs.zip ds) (fun a _ b _ => rfl)
    rw [this, e2]
  have dr := dr_all_mem (K := K) (cn := cn) (o := o) (H := H) (ts := (vs.zip ds).mergeSort leT) fun t ht => e3 t ((List.mergeSort_perm _ _).mem_iff.mp ht)
  rw [em] at dr
  obtain ⟨R1, x1, v1⟩ := new_lst R nq dr (by rw [List.length_map, List.length_mergeSort]; exact hl)
  exact p _ _ _ x1 R1 v1
theorem sem_sorted (hc : X.calm = true) (hu : X.A.units + 65 < cLine) : CallD X (.builtin "sorted") sortedD := by
  refine ⟨rSortA, call_sortA hc hu, fun K cn o es σ H xs ds rv Q R px e p => ?_⟩
  unfold sortedD at e
  split at e
  · rename_i ds
    split at e
    · rename_i ok
      cases e
      obtain ⟨x, rfl, px'⟩ := pk1 px
      obtain ⟨a, ys, rfl, h1, h2, h3⟩ := pk_lst px'
      obtain ⟨ts, e1, e2⟩ := sort_fin R h3 h2 ok p
      exact ⟨a, rfl, .inl ⟨ts, .inl (by rw [e1]; exact .of h1), e2⟩⟩
    · cases e
  · rename_i ds
    split at e
    · rename_i ok
      cases e
      obtain ⟨x, rfl, px'⟩ := pk1 px
      obtain ⟨a, ys, rfl, h1, h3⟩ := pk_tup px'
      obtain ⟨ts, e1, e2⟩ := sort_fin R h3 h1.2 ok p
      exact ⟨a, rfl, .inl ⟨ts, .inr (by rw [e1]; exact h1.sq), e2⟩⟩
    · cases e
  · rename_i t ks vs
    split at e
    · rename_i ok
      cases e
      obtain ⟨x, rfl, px'⟩ := pk1 px
      obtain ⟨a, rfl, h | h⟩ := pk_dct px'
      · obtain ⟨kvs, h1, h2, ⟨rfl, rfl, hk⟩, h3⟩ := h
        have dk : DrAll K cn o H (kvs.map fun kv => kV kv.1) (kvs.map fun kv => keyD kv.1) := by
          have := dr_keys (K := K) (cn := cn) (o := o) (H := H) (ks := kvs.map (·.1)) fun k hk' => by obtain ⟨q, hq, rfl⟩ := List.mem_map.mp hk'; exact hk q hq
          rw [List.map_map, List.map_map] at this
          exact this
        obtain ⟨ts, e1, e2⟩ := sort_fin R dk (by rw [List.length_map]; exact h2) ok p
        exact ⟨a, rfl, .inr (.inl ⟨kvs, ts, h1, e1, e2⟩)⟩
      · obtain ⟨kvs, h1, h2, ⟨rfl, rfl, hk⟩, h3⟩ := h
        refine ⟨a, rfl, .inr (.inr ⟨kvs, h1, fun bs ik => ?_⟩)⟩
        exact sort_fin R (dr_tkeys R.g ik hk) (by rw [List.length_map, ← keys_len ik]; exact h2) ok p
    · cases e
  · cases e
end
end Dl
end
section
set_option Elab.async false
set_option linter.all false
set_option maxRecDepth 100000
set_option maxHeartbeats 2000000
/-! DlV: sorted(.., key=lambda x: (len(x), x)) of texts. -/
namespace Dl
open PySem PySem.Spec PyProof.Rows L2

/-- the look of the key -/
structure LenKey (params : Arguments) (body : Expr) (scope : Scope) (x : Str) : Prop where
  kind : scope.kind = .function
  co : scope.isCoroutine = false
  gen : scope.isGenerator = false
  cell : ∀ y ∈ scope.names, y.2 ≠ .cell
  loc : scope.names.lookup x = some .local
  glob : scope.names.lookup (Str.ofString "len") = some .globalImplicit
  nd : (x == ("__debug__" : Str)) = false
  bind : ∀ (n q : Str) (cl : List (Str × Addr)) (pm cd ct v : Value), bindArgs (PySem.W.kla_fn n q params body scope cl pm cd ct) ⟨[v], []⟩ = pure [(x, v)]
  body : ∃ p1 p2 p3 p4 p5 k, body = .Tuple [.Call (.Name "len" p1) [.Name x p2] [] p3, .Name x p4] k p5
section
variable {prog : Program} {w : World} {A : Around} {s : Shared}
theorem key_call {E : Value → Shared → Prop} {params : Arguments} {body : Expr} {scope : Scope} {x q : Str} {f c' : Addr} {cl : List (Str × Addr)} {pm ctv : Value} {mg mb : Str → Option Value} (L : LenKey params body scope x) (hroom : A.depth < recursionLimit)
    (ho : s.heap.get? f = some (PySem.W.kla_obj "<lambda>" q params body scope cl pm c' ctv)) (hc : s.heap.CodeRec (.ref c') q) (hlim : s.heap.NoLimit) (hg : s.heap.Ns mainGlobals mg) (hgl : mg "len" = none) (hb : s.heap.Ns builtinsNs mb) (hbl : mb "len" = some (.builtin "len"))
    {z : Str} {t : Tok} (hz : z.length ≤ sizeLine) {Q : Value → Shared → Prop} (hQ : ∀ (h' : Heap) (tk : Nat) (p : Addr), (∀ b o, s.heap.get? b = some o → h'.get? b = some o) → Reads h' (.ref p) (.tuple [.int z.length, .str z]) [] → Q (.ref p) { s with heap := h', toks := tk }) :
    wpAny (model prog w) A (call (.ref f) [.str z t]) Q E s := by
  obtain ⟨p1, p2, p3, p4, p5, k, eb⟩ := L.body
  refine wpAny_call (codeAny_mono (PySem.W.kla_callFunE (R := fun r s' => match r with | .ok (.ret v) => Q v s' | _ => False) hroom ho rfl L.co L.gen rfl hc ?_) fun r s' hr => ?_)
  · rw [L.bind]
    refine wpAny_pure (wpAny_newFunctionEnv L.cell (fun y hy => by rcases List.mem_singleton.mp hy with rfl; exact L.loc) (fun h₁ hns hsb => ⟨hlim.fresh _ hsb, ?_⟩) L.kind)
    have kp : ∀ b o, s.heap.get? b = some o → h₁.get? b = some o := fun b o e => hsb.extBut b o (Nat.ne_of_lt (Heap.lt_size e)) (Heap.get?_push_of_some _ e)
    show codeAny _ _ (.expr body (PySem.W.envX q scope s.heap.objs.size f (.ref c') cl)) _ _
    refine PySem.W.kla_codeExpr ?_
    rw [eb]
    have hn : h₁.Ns s.heap.objs.size fun y => ([(x, Value.str z t)] : List (Str × Value)).reverse.lookup y := hns
    have gk := hg.keeps kp
    have bk := hb.keeps kp
    have hk : (PySem.W.envX q scope s.heap.objs.size f (.ref c') cl).scope.kind = .function := L.kind
    have kl : (PySem.W.envX q scope s.heap.objs.size f (.ref c') cl).kindOf x = some .local := L.loc
    have kg : (PySem.W.envX q scope s.heap.objs.size f (.ref c') cl).kindOf "len" = some .globalImplicit := L.glob
    have lx : ([(x, Value.str z t)] : List (Str × Value)).reverse.lookup x = some (.str z t) := by simp [List.lookup]
    have hn63 : ¬ (z.length : Int) ≥ 2 ^ 63 := by rw [sizeLine_eq] at hz; omega
    refine wpAny_Tuple_spliced ?_
    refine Calls.spliced_cons (wpAny_Call_Name_kw (Calls.Name_function_global hk kg (Calls.loadGlobal_builtin gk hgl bk hbl ?_)))
    refine PyProof.Rows.callWith_builtin1 ?_ rfl rfl
    refine Calls.spliced_cons (wpAny_Name (wpAny_loadName_local hk kl hn lx (Calls.spliced_nil ?_)) L.nd)
    refine len_str hn63 ?_
    refine Calls.spliced_cons (wpAny_Name (wpAny_loadName_local hk kl hn lx (Calls.spliced_nil ⟨by show 2 ≤ sizeLine; decide, ?_⟩)) L.nd)
    refine hQ _ _ _ (fun b o e => Heap.get?_push_of_some _ (kp b o e)) ?_
    exact .tuple (Heap.get?_push_size _ rfl) rfl rfl (.cons (.int _ _) (.cons (.str _ _) .nil))
  · cases r with
    | error e => exact hr.elim
    | ok fl =>
      cases fl with
      | ret v => exact hr
      | _ => exact hr.elim
end
def lenKey (z : Str) : PyData := .tuple [.int z.length, .str z]
def lenLe (a b : Str) : Bool := PySem.W.dataLe false lenKey a b
theorem lenKey_ok (zs : List Str) : PySem.W.AllAlike (zs.map lenKey) ∧ PySem.W.Sortable (zs.map lenKey) ∧ ∀ z, (lenKey z).depth ≤ 2 := by
  refine ⟨fun d hd d' hd' => ?_, .inl fun d hd => ?_, fun z => ?_⟩
  · obtain ⟨z, _, rfl⟩ := List.mem_map.mp hd
    obtain ⟨z', _, rfl⟩ := List.mem_map.mp hd'
    simp [lenKey, PySem.W.alike, PySem.W.alikeAll]
  · obtain ⟨z, _, rfl⟩ := List.mem_map.mp hd
    exact ⟨_, _, rfl⟩
  · simp [lenKey, PyData.depth, PyData.depthAll]
theorem each_strs : ∀ {zs : List Str} {us : List Value}, Vals (zs.map V.str) us → PySem.W.EachIs (fun v (z : Str) => ∃ t, v = Value.str z t) us zs
  | [], _, r => by cases r; exact .nil
  | z :: zs, _, r => by
    rw [List.map_cons] at r
    cases r with
    | cons r1 r2 => exact .cons r1 (each_strs r2)
theorem strs_each : ∀ {us : List Value} {zs : List Str}, PySem.W.EachIs (fun v (z : Str) => ∃ t, v = Value.str z t) us zs → Vals (zs.map V.str) us
  | _, _, .nil => .nil
  | _, _, .cons h t => .cons h (strs_each t)
section
variable {X : Cx} {pins : List (Addr × Obj)} {σ : St} {H : Hp} {s : Shared}
theorem sort_key_core {v : Value} {f : Addr} {zs : List Str} {Q : VK} (I : Inv X pins σ H s) (hz : zs.length ≤ sizeLine) (hu : X.A.units + 65 < cLine)
    (hcol : ∀ (R : List Value → Shared → Prop), (∀ (h' : Heap) (tk : Nat) (acc : List Value), (∀ b o, s.heap.get? b = some o → h'.get? b = some o) → Vals (zs.map V.str) acc → R acc { s with heap := h', toks := tk }) → wpAny (model X.prog X.w) X.A.in1 (collect v) R X.xe s)
    (turn : ∀ z ∈ zs, ∀ (t : Tok) (h : Heap) (tk : Nat), (∀ b o, s.heap.get? b = some o → h.get? b = some o) → wpAny (model X.prog X.w) X.A.in1.in1 (call (.ref f) [.str z t]) (PySem.W.KeyPure (lenKey z) { s with heap := h, toks := tk }) (fun _ _ => False) { s with heap := h, toks := tk })
    (q : ∀ p, H p = none → Q (.ref p) (upd H p (.lst ((zs.mergeSort lenLe).map V.str)))) : wpAny (model X.prog X.w) X.A (call (.builtin "sorted") [v] [(Str.ofString "key", .ref f)]) (EP X pins σ Q) X.xe s := by
  obtain ⟨a1, a2, a3⟩ := lenKey_ok zs
  refine PyProof.Rows.call_function_entry_kw PyProof.Rows.kind_sorted PyProof.Rows.plain_sorted PyProof.Rows.entry_sorted (PyProof.Rows.ksk_s1 _ _) ?_
  unfold Builtin.«sorted»
  refine wpAny_bind (m := checkCount "sorted" 1 1 _) (wpAny_pure ?_)
  refine wpAny_bind (hcol _ fun h' tk acc hk hacc => ?_)
  have I1 : Inv X pins σ H { s with heap := h', toks := tk } := I.kept hk
  have hal : acc.length = zs.length := by have := hacc.length; rw [List.length_map] at this; exact this.symm
  have hE := each_strs hacc
  refine wpAny_bind (wpAny_newList ?_ (by rw [hal]; exact hz))
  have hoL : (h'.push (seqObj "list" acc.toArray 0)).get? h'.objs.size = some (seqObj "list" acc.toArray 0) := Heap.get?_push_size _ rfl
  show wpAny _ _ _ _ _ { s with heap := h'.push (seqObj "list" acc.toArray 0), toks := tk }
  have old : ∀ {g : Heap}, PySem.W.KeepsBut h'.objs.size (h'.push (seqObj "list" acc.toArray 0)) g → ∀ b o, h'.get? b = some o → g.get? b = some o := fun {g} k b o e =>
    k b o (Nat.ne_of_lt (Heap.lt_size e)) (Heap.get?_push_of_some _ e)
  refine wpAny_bind (wpAny_holding (PyProof.Rows.wpAny_call_entry_kw PyProof.Rows.slot_list_sort ⟨_, hoL, rfl⟩ PyProof.Rows.entry_list_sort ?_ (PyProof.Rows.ksk_l1 _ _)))
  rw [PyProof.Rows.ksk_t1]
  refine PySem.W.keyH_tree (kz := zs.map lenKey) (s := { s with heap := h'.push (seqObj "list" acc.toArray 0), toks := tk }) hoL (by rw [List.length_map]; exact hal.symm) (by rw [hal]; exact hz) a1 a2
    (fun d hd => by
      obtain ⟨z, _, rfl⟩ := List.mem_map.mp hd
      have := a3 z
      show X.A.units + 1 + 1 + _ < cLine
      omega)
    (PySem.W.keyH_turns (s := { s with heap := h'.push (seqObj "list" acc.toArray 0), toks := tk }) hE fun u z hu' hz' g tk' kp => by
      obtain ⟨t, rfl⟩ := hu'
      exact turn z hz' t g tk' fun b o e => old kp b o (hk b o e))
    fun g tk' out c kp ho ko => ?_
  have eo := PySem.W.keyedOut_each (R := fun v (z : Str) => ∃ t, v = Value.str z t) lenKey ko hE
  have ro := strs_each eo
  have hlen : ((zs.mergeSort lenLe).map V.str).length ≤ sizeLine := by rw [List.length_map, List.length_mergeSort]; exact hz
  refine ⟨_, rfl, wpAny_pure ⟨_, rfl, .ref h'.objs.size, upd H h'.objs.size (.lst ((zs.mergeSort lenLe).map V.str)), I1.laid (t' := tk') (fun b u e => old kp b u e) (Nat.le_refl _)
    (show ObjOk X.prog X.w _ _ _ (.lst ((zs.mergeSort lenLe).map V.str)) from ⟨hlen, _, c, ro, ho⟩), rfl, q _ (I1.hok.fresh (Nat.le_refl _))⟩⟩
end
end Dl
end
section
set_option Elab.async false
set_option linter.all false
set_option maxRecDepth 100000
set_option maxHeartbeats 2000000
/-! DlW: sorted(.., key=lambda x: (len(x), x)), the rule. -/
namespace Dl
open PySem PySem.Spec PyProof.Rows L2

/-- where lambdas of this def are noted -/
structure LamAt (X : Cx) (cn : Wd) : Prop where
  ex : ∃ c P, LamX.TabB X.base X.mg c P ∧ X.env.code = .ref c ∧ (P, X.env.qual ++ "<lambda>") ∈ cn.T ∧ ∀ p ∈ cn.T, p.1 = P → p.2 = X.env.qual ++ "<lambda>"
def keysS : List D → Option (List Str) := strsD
def sortLenD : D → Option RV
  | .lst ds => (strsD ds).map fun zs => .fr (.lst ((zs.mergeSort lenLe).map D.str))
  | .tup ds => (strsD ds).map fun zs => .fr (.lst ((zs.mergeSort lenLe).map D.str))
  | .dct false ks _ => (strsD ks).map fun zs => .fr (.lst ((zs.mergeSort lenLe).map D.str))
  | _ => none
def sortLenM (fe : M RV) : M RV := M.bind fe fun r => M.bind (peek r) fun d => M.lift (sortLenD d)
theorem strs_ok {K : PySem.W.Frag} {cn : Wd} {o : Own} {H : Hp} : ∀ {vs : List V} {ds : List D} {zs : List Str}, DrAll K cn o H vs ds → strsD ds = some zs → vs = zs.map V.str ∧ ds = zs.map D.str ∧ ∀ z ∈ zs, z.length ≤ sizeLine
  | _, _, _, .nil, e => by cases e; exact ⟨rfl, rfl, by simp⟩
  | _, _, zs, .cons (d := d) (ds := ds) h t, e => by
    cases h with
    | str z hz =>
      simp only [strsD] at e
      cases e2 : strsD ds with
      | none => rw [e2] at e; cases e
      | some js =>
        rw [e2] at e
        cases e
        obtain ⟨e3, e4, e5⟩ := strs_ok t e2
        exact ⟨by rw [List.map_cons, ← e3], by rw [List.map_cons, ← e4], fun z' hz' => by rcases List.mem_cons.mp hz' with rfl | hz'; exact hz; exact e5 z' hz'⟩
    | _ => simp only [strsD] at e; cases e
theorem keys_strs : ∀ {kvs : List (Key × V)} {zs : List Str}, (kvs.map fun p => keyD p.1) = zs.map D.str → (kvs.map fun p => kV p.1) = zs.map V.str
  | [], [], _ => rfl
  | p :: kvs, z :: zs, e => by
    simp only [List.map_cons, List.cons.injEq] at e ⊢
    refine ⟨?_, keys_strs e.2⟩
    obtain ⟨k, v⟩ := p
    cases k with
    | inl i => exact absurd e.1 (by simp [keyD])
    | inr x => have e1 := e.1; simp only [keyD] at e1; cases e1; rfl
  | [], _ :: _, e => by simp at e
  | _ :: _, [], e => by simp at e
theorem strsD_map : ∀ {ds : List D} {zs : List Str}, strsD ds = some zs → ds = zs.map D.str
  | [], _, e => by cases e; rfl
  | d :: ds, zs, e => by
    cases d <;> simp only [strsD] at e <;> first | cases e; done | skip
    cases e2 : strsD ds with
    | none => rw [e2] at e; cases e
    | some js => rw [e2] at e; cases e; rw [List.map_cons, ← strsD_map e2]
section
variable {X : Cx} {cn : Wd} {e : Expr} {f : M RV} {p pos kpos lpos : Pos}
theorem DE.sortLen {xs : List Str} {params : Arguments} {body : Expr} {scope : Scope} {x : Str} (B : Bi X.mg xs) (LA : LamAt X cn) (L : LenKey params body scope x) (hfree : ∀ y ∈ scope.names, y.2 ≠ .free) (hdef : defaultsOf params X.env = ([], [])) (hc : X.calm = true) (hu : X.A.units + 65 < cLine) (hdp : X.A.depth < recursionLimit)
    (he : DE X cn e f) (hx : Str.ofString "sorted" ∈ xs) (hxl : Str.ofString "len" ∈ xs) (hg : Gl X "sorted") (hs : backTo pos (starEach [e] X.env) = (false, eval e X.env) :: backTo pos (starEach [] X.env)) (hpl : (backTo pos (starEach [e] X.env)).any (·.1) = false)
    (hk : backToKw pos (keywordEach [⟨some "key", .Lambda params body scope lpos, kpos⟩] X.env) = [(some (Str.ofString "key"), do let v ← eval (.Lambda params body scope lpos) X.env; standAt pos; pure v)]) :
    DE X cn (.Call (.Name "sorted" p) [e] [⟨some "key", .Lambda params body scope lpos, kpos⟩] pos) (sortLenM f) := by
  obtain ⟨c, P, TB, hcode, hmT, huq⟩ := LA.ex
  intro Wx tk
  refine ⟨fun pins s σ H Q I h => ?_⟩
  refine wpAny_Call_Name_kw (ld_blt I hg (B _ hx) PyProof.Rows.boot_sorted ?_ (by decide) (by decide))
  obtain ⟨o, es, r, R, h, hp⟩ := h
  refine PyProof.Rows.callWith_kw ?_ hs hpl (by rw [hk]; rfl) (by rw [hk]; rfl)
  rw [hs]
  refine Calls.spliced_cons (thn ((he Wx tk).run pins s σ H _ I (tE_step R h (post_ex hp) (Z := fun v H1 => ∃ o1 es1 d rv2, Ext o H o1 H1 ∧ Rel X.K cn o1 H1 es1 σ ∧ Pk X.K cn o1 H1 v d ∧ sortLenD d = some rv2 ∧ r = .ok rv2 es1) fun rv es1 o1 H1 v x1 R1 V1 h => ?_)) fun u s1 ⟨v, H1, I1, r1, o1, es1, d, rv2, x1, R1, pk, ed, er⟩ => Calls.spliced_nil ?_)
  · rcases M.bind_some h with ⟨y, es3, e, _⟩ | ⟨d, es3, e, h⟩
    · obtain ⟨d, e', _⟩ := peek_ok R1 V1 e; cases e'
    obtain ⟨d', e', pk⟩ := peek_ok R1 V1 e
    cases e'
    obtain ⟨z, ez, er⟩ := M.lift_some h
    exact ⟨o1, es1, d, z, x1, R1, pk, ez, er⟩
  subst er
  have hp : PE_ X.K cn o H σ Q rv2 es1 := hp
  rw [hk]
  show wpAny _ _ (evalAll [do let v ← eval (.Lambda params body scope lpos) X.env; standAt pos; pure v]) _ _ s1
  refine wpAny_evalAll_cons (wpAny_bind (lam_made I1 TB hcode hmT huq (fun p hp => (R1.g.tabs p hp).2) hdef (fun y hy e => absurd e (hfree y hy)) fun f c' pm' ctv H2 s2 I2 eN T2 lh hf hfn hfr hco => wpAny_bind (wpAny_standAt (wpAny_pure (wpAny_evalAll_nil ?_)))))
  obtain ⟨R2, x2⟩ := R1.lam eN T2 lh.tabs.1 lh.tabs.2
  show wpAny _ _ (call (.builtin "sorted") [u] [(Str.ofString "key", .ref f)]) _ _ s2
  -- the texts
  obtain ⟨zs, hzl, hzz, hcol, hfin⟩ : ∃ zs : List Str, zs.length ≤ sizeLine ∧ (∀ z ∈ zs, z.length ≤ sizeLine) ∧
      (∀ (R : List Value → Shared → Prop), (∀ (h' : Heap) (tk : Nat) (acc : List Value), (∀ b o, s2.heap.get? b = some o → h'.get? b = some o) → Vals (zs.map V.str) acc → R acc { s2 with heap := h', toks := tk }) → wpAny (model X.prog X.w) X.A.in1 (collect u) R X.xe s2) ∧ rv2 = .fr (.lst ((zs.mergeSort lenLe).map D.str)) := by
    unfold sortLenD at ed
    split at ed
    · rename_i ds
      cases ez : strsD ds with
      | none => rw [ez] at ed; cases ed
      | some zs =>
        rw [ez] at ed
        cases ed
        obtain ⟨a, ys, rfl, h1, h2, h3⟩ := pk_lst pk
        obtain ⟨e1, e2, e3⟩ := strs_ok h3 ez
        subst e1
        rw [List.length_map] at h2
        obtain rfl : u = Value.ref a := r1
        obtain ⟨its, rv, ⟨ob, n, e, cc, _, dd⟩, z⟩ := I2.list (.of (eN a _ h1 (by intro _ z; cases z)))
        exact ⟨zs, h2, e3, fun R q => wpAny_collect_seq a (.inl rfl) e cc dd (fun h' k => q h' s2.toks its k rv) (by rw [List.size_toArray, ← rv.length]; exact z), rfl⟩
    · rename_i ds
      cases ez : strsD ds with
      | none => rw [ez] at ed; cases ed
      | some zs =>
        rw [ez] at ed
        cases ed
        obtain ⟨a, ys, rfl, h1, h3⟩ := pk_tup pk
        obtain ⟨e1, e2, e3⟩ := strs_ok h3 ez
        subst e1
        have h2 := h1.2
        rw [List.length_map] at h2
        obtain rfl : u = Value.ref a := r1
        obtain ⟨its, rv, ⟨ob, e, cc, n, dd⟩, z⟩ := I2.tuple (.of (eN a _ h1.1.1 (by intro _ z; cases z)))
        exact ⟨zs, h2, e3, fun R q => wpAny_collect_seq a (.inr rfl) e cc dd (fun h' k => q h' s2.toks its k rv) (by rw [List.size_toArray, ← rv.length]; exact z), rfl⟩
    · rename_i ks ws
      cases ez : strsD ks with
      | none => rw [ez] at ed; cases ed
      | some zs =>
        rw [ez] at ed
        cases ed
        obtain ⟨a, rfl, ⟨kvs, h1, h2, ⟨_, rfl, hkk⟩, h3⟩ | ⟨kvs, h1, h2, ⟨hf', _⟩, h3⟩⟩ := pk_dct pk
        · have ekz := strsD_map ez
          have ev := keys_strs ekz
          have hl : kvs.length = zs.length := by simpa using congrArg List.length ekz
          obtain rfl : u = Value.ref a := r1
          obtain ⟨z, lo, vs, rel, dd⟩ := dk_rd I2.hok (.of (eN a _ h1 (by intro _ z; cases z)))
          obtain ⟨ep, hat⟩ := dd.dictAt
          refine ⟨zs, by omega, fun z hz => ?_, fun R q => PySem.W.kdu_collect (A := X.A.in1) (PySem.W.kdl_dict (knd := mixKind X.prog X.w) (kvs := vs) (ep := ep) lo) (I2.ok.hd hc) hat (by rw [← rel.length]; exact z) fun h' tk acc hk' hacc => q h' tk acc.toList hk' ?_, rfl⟩
          · have : D.str z ∈ kvs.map fun p => keyD p.1 := by rw [ekz]; exact List.mem_map_of_mem hz
            obtain ⟨q, hq, eq⟩ := List.mem_map.mp this
            have ok := hkk q hq
            obtain ⟨k, v⟩ := q
            cases k with
            | inl i => simp [keyD] at eq
            | inr y => simp only [keyD] at eq; cases eq; exact ok
          · rw [← ev]
            exact vals_keys rel (by rw [Array.length_toList, hacc.1]) fun j v e => hacc.2 j v (by rw [← Array.getElem?_toList]; exact e)
        · cases hf'
    · cases ed
  subst hfin
  obtain ⟨⟨oc, vs, t0, hoc, hdc, hvc⟩, _⟩ := I2.hok c' _ hco
  obtain ⟨mb, hb1, hb2⟩ := I2.mod.blt
  refine sort_key_core I2 hzl hu hcol (fun z hz t g tk' kp => ?_) fun q nq => ?_
  · refine key_call (A := X.A.in1.in1) (mg := X.mg) (mb := mb) (s := { s2 with heap := g, toks := tk' }) L (show X.A.depth < recursionLimit from hdp) (kp _ _ hf) ⟨c', oc, vs, t0, rfl, kp _ _ hoc, hdc, hvc⟩ (I2.nolimit.keeps kp) ((I2.mod.glob.keeps I2.bk).keeps kp) (B _ hxl) ((hb1.keeps I2.bk).keeps kp) ((hb2 "len" (by decide)).trans boot_len) (hzz z hz) fun h' tk2 p k2 rd => ?_
    exact ⟨h', tk2, rfl, k2, rd⟩
  · have hl2 : ((zs.mergeSort lenLe).map V.str).length ≤ sizeLine := by rw [List.length_map, List.length_mergeSort]; exact hzl
    have dr : DrAll X.K cn o1 H2 ((zs.mergeSort lenLe).map V.str) ((zs.mergeSort lenLe).map D.str) := by
      have : ∀ ys : List Str, (∀ y ∈ ys, y.length ≤ sizeLine) → DrAll X.K cn o1 H2 (ys.map V.str) (ys.map D.str) := by
        intro ys
        induction ys with
        | nil => intro _; exact .nil
        | cons y ys ih => intro hy; exact .cons (.str y (hy y List.mem_cons_self)) (ih fun z hz => hy z (List.mem_cons_of_mem _ hz))
      exact this _ fun y hy => hzz y ((List.mergeSort_perm _ _).mem_iff.mp hy)
    obtain ⟨R3, x3, v3⟩ := new_lst R2 nq dr hl2
    exact hp _ _ _ (x1.trans (x2.trans x3)) R3 (v3.back (x1.trans x2))
end
end Dl
end
section
set_option Elab.async false
set_option linter.all false
set_option maxRecDepth 100000
set_option maxHeartbeats 2000000
/-! DlX: defs that make lambdas; named rules. -/
namespace Dl
open PySem PySem.Spec PyProof.Rows L2

/-- a def that the top has bound, its code's table known -/
structure HFunL (K : PySem.W.Frag) (mg : Str → Option Value) (base : Heap) (cn : Wd) (x : Str) (st : Stmt) : Prop where
  ex : ∃ (f : Addr) (oc : Value) (od : Option Addr) (kV doc pm : Value) (an : Option Addr) (c P : Addr) (ct : Value) (osl : Array (Option Value)),
    K.lookup f = some ⟨oc, od, .func (PySem.W.fnOf x x (defArgs st) (defBody st) (defScope st) .none kV doc pm an (.ref c) ct), osl⟩ ∧ PySem.W.codeIn K (.ref c) x = true ∧ PySem.W.keepIn K (.ref f) = true ∧ mg x = some (.ref f) ∧
    LamX.TabB base mg c P ∧ (P, x ++ (".<locals>." : Str) ++ ("<lambda>" : Str)) ∈ cn.T ∧ ∀ p ∈ cn.T, p.1 = P → p.2 = x ++ (".<locals>." : Str) ++ ("<lambda>" : Str)
theorem HFunL.cal {P : Program} {w : World} {K : PySem.W.Frag} {mg : Str → Option Value} {base : Heap} {cn : Wd} {x : Str} {st : Stmt} {N ps : List Str} {k : Nat} {fb : S} (U : HFunL K mg base cn x st) (hS : FnScope N ps (defScope st)) (hB : ∀ fd f, Fun K x x st f fd → Binds K fd ps [])
    (hb : ∀ (cdv : Value) (f : Addr) (A : Around) (outer : List Env) (s : Shared) (H : Hp) (E : XK), Room k (A.deeper (envOfC x (defScope st) s.heap.objs.size f cdv)) → (A.deeper (envOfC x (defScope st) s.heap.objs.size f cdv)).units + 65 < cLine → N.Nodup →
      PassesOwn (model P w) (A.deeper (envOfC x (defScope st) s.heap.objs.size f cdv)) (envOfC x (defScope st) s.heap.objs.size f cdv) (cxOf (L2.CX P w) P w K mg base N x (defScope st) f cdv A outer s H E).xe →
      LamAt (cxOf (L2.CX P w) P w K mg base N x (defScope st) f cdv A outer s H E) cn → DSs (cxOf (L2.CX P w) P w K mg base N x (defScope st) f cdv A outer s H E) cn (defBody st) fb) :
    Cal P w K mg base cn (k + 1) x ps.length (bodyF N.length ps.length fb) := by
  obtain ⟨f, oc, od, kV, doc, pm, an, c, Pt, ct, osl, lk, hcd, hkp, hm, TB, hT, hu⟩ := U.ex
  refine ⟨⟨f, _, ps, ?_, hm, hkp, hB _ f ⟨⟨oc, od, kV, doc, pm, an, _, ct, osl, rfl, lk, hcd⟩, hkp⟩⟩, fun ds g r => bodyF_len⟩
  refine fn_of lk hcd hS (fun vs H Q E h => spD_len h) fun A outer s H vs Q E hr h => ?_
  have hun : (A.deeper (envOfC x (defScope st) s.heap.objs.size f (.ref c))).units + 65 < cLine := by have := hr.un; omega
  refine ⟨_, hb (.ref c) f A outer s H E hr hun hS.nd (passes_of (X := cxOf (L2.CX P w) P w K mg base N x (defScope st) f (.ref c) A outer s H E) rfl) ⟨c, Pt, TB, rfl, hT, hu⟩ (fun cls d _ H => E cls d H) (takes_of rfl rfl rfl rfl), ?_⟩
  obtain ⟨o, ds, g, r, G, dr, hl, hf, hp⟩ := h
  unfold bodyF at hf
  rw [if_pos hl] at hf
  cases e : fb (startE N.length ds g) with
  | none => rw [e] at hf; cases hf
  | some sr =>
    rw [e] at hf
    refine ⟨o, _, sr, start_rel G dr, e, ?_⟩
    cases sr with
    | nx es => cases hf; exact fun o' H' σ' x R' => hp o' H' .non x R'.g .non
    | rt d es => cases hf; exact fun o' H' v x G' dv => hp o' H' v x G' dv
    | ex y es => cases hf; exact fun o' H' σ' cls dx x R' ex => hp o' H' cls dx x R'.g ex
    | bk es => cases hf
    | ct es => cases hf
instance : Inhabited F := ⟨F0⟩
namespace R
section
variable {X : Cx} {cn : Wd} {a b c e : Expr} {fa fb f : M RV} {g : M D} {pos apos cpos p p2 pos2 kpos lpos : Pos} {es rest : List Expr} {st : Stmt}
theorem sorted {xs : List Str} (B : Bi X.mg xs) (hu : X.A.units + 65 < cLine) {k : M (List RV)} (ha : DA X cn [e] k) (hx : Str.ofString "sorted" ∈ xs) (hc : X.calm = true := by rfl) (hg : Gl X "sorted" := by rfl)
    (he : starEach [e] X.env = (false, eval e X.env) :: starEach [] X.env := by rfl) (hpl : (backTo pos (starEach [] X.env)).any (·.1) = false := by rfl) : DE X cn (.Call (.Name "sorted" p) [e] [] pos) (callN k sortedD) :=
  R.blt B (sem_sorted hc hu) ha PyProof.Rows.boot_sorted hx hg (by decide) rfl he hpl
theorem sortLen {xs : List Str} (x : Str) {params : Arguments} {body : Expr} {scope : Scope} (B : Bi X.mg xs) (LA : LamAt X cn) (hu : X.A.units + 65 < cLine) {j : Nat} (hr : Room j X.A) (he : DE X cn e f) (L : LenKey params body scope x) (hfree : ∀ y ∈ scope.names, y.2 ≠ .free) (hx : Str.ofString "sorted" ∈ xs) (hxl : Str.ofString "len" ∈ xs) (hdef : defaultsOf params X.env = ([], []) := by rfl) (hc : X.calm = true := by rfl)
    (hg : Gl X "sorted" := by rfl) (hs : backTo pos (starEach [e] X.env) = (false, eval e X.env) :: backTo pos (starEach [] X.env) := by rfl) (hpl : (backTo pos (starEach [e] X.env)).any (·.1) = false := by rfl)
    (hk : backToKw pos (keywordEach [⟨some "key", .Lambda params body scope lpos, kpos⟩] X.env) = [(some (Str.ofString "key"), do let v ← eval (.Lambda params body scope lpos) X.env; standAt pos; pure v)] := by rfl) :
    DE X cn (.Call (.Name "sorted" p) [e] [⟨some "key", .Lambda params body scope lpos, kpos⟩] pos) (sortLenM f) := DE.sortLen B LA L hfree hdef hc hu hr.depth he hx hxl hg hs hpl hk
end
end R
end Dl
end
section
set_option Elab.async false
set_option linter.all false
set_option maxRecDepth 100000
set_option maxHeartbeats 2000000
/-! DlY: the draw stream. -/
namespace Dl
open PySem PySem.Spec PyProof.Rows L2

def stmOf (n : Nat) (es : ES) : Option (List Int × Int × Int × Int) := match es.g[n]? with
  | some (.stm c l k m) => some (c, l, k, m)
  | _ => none
def boxOf : D → Option Nat
  | .box n => some n
  | _ => none
/-- a box's number, from a name -/
def bxM (fa : M RV) : M Nat := M.bind fa fun r => M.bind (peek r) fun d => M.lift (boxOf d)
def fldI (i : Int) (q : List Int × Int × Int × Int) : Option Int := if i = 1 then some q.2.1 else if i = 2 then some q.2.2.1 else if i = 3 then some q.2.2.2 else none
def setI (i j : Int) (q : List Int × Int × Int × Int) : Option Box := if i = 1 then some (.stm q.1 j q.2.2.1 q.2.2.2) else if i = 2 then some (.stm q.1 q.2.1 j q.2.2.2) else if i = 3 then some (.stm q.1 q.2.1 q.2.2.1 j) else none
def bxIx (i : Int) (fa : M RV) : M RV := M.bind (bxM fa) fun n es => (stmOf n es).bind fun q => (fldI i q).map fun j => .ok (.fz (.int j)) es
def putB (n : Nat) (b : Box) (es : ES) : ES := { es with g := es.g.set n b }
def intOf : D → Option Int
  | .int i => some i
  | _ => none
def bxSet (i : Int) (fa fe : M RV) : S := S.of (M.bind fe fun r => M.bind (peek r) fun d => M.bind (M.lift (intOf d)) fun j => M.bind (bxM fa) fun n => M.ret (j, n)) fun p es => (stmOf p.2 es).bind fun q => (setI i p.1 q).map fun b => .nx (putB p.2 b es)
def bxPop (fa : M RV) : M RV := M.bind (bxM fa) fun n es => (stmOf n es).bind fun q => match q.1 with
  | c :: cs => some (.ok (.fz (.int c)) (putB n (.stm cs q.2.1 q.2.2.1 q.2.2.2) es))
  | [] => none
def bxNE (fa : M RV) : M Bool := M.bind (bxM fa) fun n es => (stmOf n es).map fun q => .ok (!q.1.isEmpty) es
section
variable {K : PySem.W.Frag} {cn : Wd} {Wx : WX} {o o1 : Own} {H H1 : Hp} {es es1 : ES} {σ : St} {n : Nat} {fa : M RV}
theorem bx_step {β : Type} {k : Nat → M β} {r : Res β} {Z : VK} (R : Rel K cn o H es σ) (h : M.bind (bxM fa) k es = some r) (hx : ∀ x es', r = .ex x es' → PostX K cn Wx o H σ x es')
    (hk : ∀ n es1 o1 H1, Ext o H o1 H1 → Rel K cn o1 H1 es1 σ → o1.tg (o1.bx n) = some (.box n) → k n es1 = some r → Z (.ref (o1.bx n)) H1) : tE K cn Wx fa σ H Z := by
  unfold bxM at h
  rw [M.bind_assoc] at h
  refine tE_step R h hx fun rv es1 o1 H1 v x1 R1 V1 h => ?_
  rw [M.bind_assoc] at h
  rcases M.bind_some h with ⟨y, es3, e, _⟩ | ⟨d, es3, e, h⟩
  · obtain ⟨d, e', _⟩ := peek_ok R1 V1 e; cases e'
  obtain ⟨d', e', pk⟩ := peek_ok R1 V1 e
  cases e'
  rcases M.bind_some h with ⟨y, es3, e, _⟩ | ⟨n, es3, e, h⟩
  · obtain ⟨_, _, e'⟩ := M.lift_some e; cases e'
  obtain ⟨n', en, e'⟩ := M.lift_some e
  cases e'
  unfold boxOf at en
  split at en
  · cases en
    cases pk with
    | fz dr => cases dr with | box _ ht => exact hk _ es1 o1 H1 x1 R1 ht h
    | ow c => exact c.elim
  · cases en
theorem stm_at {q : List Int × Int × Int × Int} (R : Rel K cn o H es σ) (h : stmOf n es = some q) : ∃ a, H (o.bx n) = some (.lst [.ref a, .int q.2.1, .int q.2.2.1, .int q.2.2.2]) ∧ o.tg a = some (.sub n 0) ∧ H a = some (.lst (q.1.map V.int)) ∧ es.g[n]? = some (.stm q.1 q.2.1 q.2.2.1 q.2.2.2) := by
  unfold stmOf at h
  split at h
  · rename_i c l k m e
    cases h
    obtain ⟨_, a, h1, h2, h3⟩ := R.g.boxes n _ e
    exact ⟨a, h1, h2, h3, e⟩
  · cases h
/-- the stream's own list written -/
theorem put_box {l k m : Int} {c : List Int} {a : Addr} (R : Rel K cn o H es σ) (ht : o.tg (o.bx n) = some (.box n)) (hg : ∃ b, es.g[n]? = some b) (ha : o.tg a = some (.sub n 0)) (hH : H a = some (.lst (c.map V.int))) :
    Rel K cn o (upd H (o.bx n) (.lst [.ref a, .int l, .int k, .int m])) (putB n (.stm c l k m) es) σ ∧ Ext o H o (upd H (o.bx n) (.lst [.ref a, .int l, .int k, .int m])) := by
  refine ⟨⟨R.len, fun i x h => (R.slots i x h).wr ht (by simp), R.g.wr ht (by simp) trivial (by intro _ z; cases z) fun j b hb => ?_⟩, Ext.wr ht (by simp)⟩
  obtain ⟨b0, hb0⟩ := hg
  have hl : n < es.g.length := (List.getElem?_eq_some_iff.mp hb0).1
  by_cases e : n = j
  · subst e
    have hb : (es.g.set n (.stm c l k m))[n]? = some b := hb
    rw [List.getElem?_set_self hl] at hb
    cases hb
    exact .inr ⟨ht, a, upd_same, ha, by rw [upd_ne (fun z => by rw [z, ht] at ha; cases ha)]; exact hH⟩
  · have hb : (es.g.set n (.stm c l k m))[j]? = some b := hb
    rw [List.getElem?_set_ne e] at hb
    exact .inl ⟨hb, by simpa using e, by simp⟩
/-- the stream's cells written -/
theorem put_cells {l k m : Int} {c c' : List Int} {a : Addr} (R : Rel K cn o H es σ) (hp : H (o.bx n) = some (.lst [.ref a, .int l, .int k, .int m])) (hg : es.g[n]? = some (.stm c l k m)) (ha : o.tg a = some (.sub n 0)) :
    Rel K cn o (upd H a (.lst (c'.map V.int))) (putB n (.stm c' l k m) es) σ ∧ Ext o H o (upd H a (.lst (c'.map V.int))) := by
  have ht := (R.g.boxes n _ hg).1
  refine ⟨⟨R.len, fun i x h => (R.slots i x h).wr ha (by simp), R.g.wr ha (by simp) trivial (by intro _ z; cases z) fun j b hb => ?_⟩, Ext.wr ha (by simp)⟩
  have hl : n < es.g.length := (List.getElem?_eq_some_iff.mp hg).1
  by_cases e : n = j
  · subst e
    have hb : (es.g.set n (.stm c' l k m))[n]? = some b := hb
    rw [List.getElem?_set_self hl] at hb
    cases hb
    exact .inr ⟨ht, a, by rw [upd_ne (fun z => by rw [z, ha] at ht; cases ht)]; exact hp, ha, upd_same⟩
  · have hb : (es.g.set n (.stm c' l k m))[j]? = some b := hb
    rw [List.getElem?_set_ne e] at hb
    exact .inl ⟨hb, by simp, fun i => by simpa using fun z => absurd z.symm e⟩
end
section
variable {X : Cx} {cn : Wd} {a e : Expr} {fa fe : M RV} {pos pos2 pos3 ip apos : Pos} {j : Nat}
theorem DE.bxIx {i : Int} (ha : DE X cn a fa) : DE X cn (.Subscript a (.Constant (.int i) j ip) pos) (Dl.bxIx i fa) := by
  intro Wx tk
  refine pe_i (pe_ix ix_list (ha Wx tk) pe_int (by intro _ _; rfl)) fun σ H Q h => ?_
  obtain ⟨o, es, r, R, h, hp⟩ := h
  refine bx_step R h (post_ex hp) fun n es1 o1 H1 x1 R1 ht h => ?_
  cases eq : stmOf n es1 with
  | none => rw [eq] at h; cases h
  | some q =>
    rw [eq] at h
    obtain ⟨p, h1, h2, h3, h4⟩ := stm_at R1 eq
    cases ef : fldI i q with
    | none => simp only [Option.bind_some, ef] at h; cases h
    | some v =>
      simp only [Option.bind_some, ef, Option.map_some, Option.some.injEq] at h
      subst h
      refine ⟨_, _, i, .int v, rfl, rfl, .of h1, ?_, hp o1 H1 _ x1 R1 (.int _)⟩
      unfold fldI at ef
      split at ef
      · rename_i e; subst e; cases ef; rfl
      · split at ef
        · rename_i e; subst e; cases ef; rfl
        · split at ef
          · rename_i e; subst e; cases ef; rfl
          · cases ef
theorem DS.bxSet {i : Int} (ha : DE X cn a fa) (he : DE X cn e fe) (hs : swapsWithSole [.Subscript a (.Constant (.int i) j ip) pos2] e pos.line X.env = pure false) (hw : swappedStores [.Subscript a (.Constant (.int i) j ip) pos2] e X.env = pure none)
    (h1 : (assignEach [.Subscript a (.Constant (.int i) j ip) pos2] X.env).map (·.2) = [assign (.Subscript a (.Constant (.int i) j ip) pos2) X.env]) (h2 : ∀ v, assign (.Subscript a (.Constant (.int i) j ip) pos2) X.env v = (do
      let ov ← holding [v] (eval a X.env)
      let iv ← holding [v, ov] (eval (.Constant (.int i) j ip) X.env)
      standAt pos2
      holding [v, ov, iv] (setItem ov iv v)
      release [v, ov, iv] [])) : DS X cn (.Assign [.Subscript a (.Constant (.int i) j ip) pos2] e pos) (Dl.bxSet i fa fe) := by
  intro Wx tk
  refine ps_i (ps_asg (he Wx tk) (pg_sub (ha Wx tk) pe_int set_list h2) hs hw h1) fun Dn σ H h => ?_
  obtain ⟨o, es, r, R, h, hp⟩ := h
  have fin : ∀ {v : Int} {es1 : ES} {o1 : Own} {H1 : Hp}, Ext o H o1 H1 → Rel X.K cn o1 H1 es1 σ → S.of (M.bind (bxM fa) fun n => M.ret (v, n)) (fun p es => (stmOf p.2 es).bind fun q => (setI i p.1 q).map fun b => .nx (putB p.2 b es)) es1 = some r →
      gSub (tE X.K cn Wx fa) (tC (.int i)) rSetL (.int v) σ H1 Dn.nx := by
    intro v es1 o1 H1 x1 R1 h
    have go : ∀ {r' : Res (Int × Nat)}, M.bind (bxM fa) (fun n => M.ret (v, n)) es1 = some r' → (∀ x es', r' = .ex x es' → PostX X.K cn Wx o1 H1 σ x es') → (∀ p es2, r' = .ok p es2 → ((stmOf p.2 es2).bind fun q => (setI i p.1 q).map fun b => SR.nx (putB p.2 b es2)) = some r) → tE X.K cn Wx fa σ H1 (fun x H2 => rSetL x (.int i) (.int v) H2 fun H3 => Dn.nx σ H3) := by
      intro r' e hx hok
      refine bx_step R1 e hx fun n es2 o2 H2 x2 R2 ht e => ?_
      cases e
      have h := hok _ _ rfl
      cases eq : stmOf n es2 with
      | none => simp only [eq] at h; cases h
      | some q =>
        simp only [eq, Option.bind_some] at h
        obtain ⟨p, g1, g2, g3, g4⟩ := stm_at R2 eq
        cases es' : setI i v q with
        | none => rw [es'] at h; cases h
        | some b =>
          rw [es'] at h
          cases h
          unfold setI at es'
          split at es'
          · rename_i e; subst e; cases es'
            obtain ⟨R3, x3⟩ := put_box (l := v) (k := q.2.2.1) (m := q.2.2.2) R2 ht ⟨_, g4⟩ g2 g3
            exact ⟨_, _, 1, 1, rfl, rfl, g1, rfl, hp o2 _ σ (x1.trans (x2.trans x3)) R3⟩
          · split at es'
            · rename_i e; subst e; cases es'
              obtain ⟨R3, x3⟩ := put_box (l := q.2.1) (k := v) (m := q.2.2.2) R2 ht ⟨_, g4⟩ g2 g3
              exact ⟨_, _, 2, 2, rfl, rfl, g1, rfl, hp o2 _ σ (x1.trans (x2.trans x3)) R3⟩
            · split at es'
              · rename_i e; subst e; cases es'
                obtain ⟨R3, x3⟩ := put_box (l := q.2.1) (k := q.2.2.1) (m := v) R2 ht ⟨_, g4⟩ g2 g3
                exact ⟨_, _, 3, 3, rfl, rfl, g1, rfl, hp o2 _ σ (x1.trans (x2.trans x3)) R3⟩
              · cases es'
    rcases S.of_some h with ⟨x, es3, e, rfl⟩ | ⟨p, es3, e, h⟩
    · exact go e (fun y es' q => by cases q; exact (postS_ex hp _ _ rfl).mono x1) (fun p es2 q => by cases q)
    · exact go e (fun y es' q => by cases q) (fun p' es2 q => by cases q; exact h)
  unfold Dl.bxSet at h
  have main : ∀ {r' : Res (Int × Nat)}, (M.bind fe fun r => M.bind (peek r) fun d => M.bind (M.lift (intOf d)) fun j => M.bind (bxM fa) fun n => M.ret (j, n)) es = some r' → (∀ x es', r' = .ex x es' → PostX X.K cn Wx o H σ x es') →
      (∀ (v : Int) (es1 : ES), M.bind (bxM fa) (fun n => M.ret (v, n)) es1 = some r' → S.of (M.bind (bxM fa) fun n => M.ret (v, n)) (fun p es => (stmOf p.2 es).bind fun q => (setI i p.1 q).map fun b => .nx (putB p.2 b es)) es1 = some r) → tE X.K cn Wx fe σ H (fun x H1 => gSub (tE X.K cn Wx fa) (tC (.int i)) rSetL x σ H1 Dn.nx) := by
    intro r' e hx hok
    refine tE_step R e hx fun rv es1 o1 H1 v x1 R1 V1 e => ?_
    rcases M.bind_some e with ⟨y, es3, e1, _⟩ | ⟨d, es3, e1, e⟩
    · obtain ⟨d, e', _⟩ := peek_ok R1 V1 e1; cases e'
    obtain ⟨d', e', pk⟩ := peek_ok R1 V1 e1
    cases e'
    rcases M.bind_some e with ⟨y, es3, e1, _⟩ | ⟨i', es3, e1, e⟩
    · obtain ⟨_, _, e'⟩ := M.lift_some e1; cases e'
    obtain ⟨i'', en, e'⟩ := M.lift_some e1
    cases e'
    unfold intOf at en
    split at en
    · cases en
      cases pk_int pk
      exact fin x1 R1 (hok _ _ e)
    · cases en
  rcases S.of_some h with ⟨x, es3, e, rfl⟩ | ⟨p, es3, e, h⟩
  · exact main e (fun y es' q => by cases q; exact postS_ex hp _ _ rfl) (fun v es1 e1 => by unfold S.of; rw [e1])
  · exact main e (fun y es' q => by cases q) (fun v es1 e1 => by unfold S.of; rw [e1]; exact h)
end
end Dl
end
section
set_option Elab.async false
set_option linter.all false
set_option maxRecDepth 100000
set_option maxHeartbeats 2000000
/-! DlZ: the stream's cells; named rules. -/
namespace Dl
open PySem PySem.Spec PyProof.Rows L2
theorem ints_pd {K : PySem.W.Frag} {H : Hp} : ∀ cs : List Int, DpAll K H (cs.map V.int) (cs.map PyData.int)
  | [] => .nil
  | c :: cs => .cons (.int c) (ints_pd cs)
theorem ints_lay : ∀ cs : List Int, PyData.canLayAll0 (cs.map PyData.int) = true
  | [] => by simp [PyData.canLayAll0]
  | c :: cs => by simp [PyData.canLayAll0, PyData.canLay0, ints_lay cs]
theorem ints_shaped (cs : List Int) : SeqAt.shaped (.list (cs.map PyData.int)) = true := by
  have h1 := ints_lay cs
  have h2 := PySem.W.depth_ints cs
  unfold SeqAt.shaped
  rw [Bool.and_eq_true]
  refine ⟨by simp only [PyData.canLay0]; exact h1, decide_eq_true ?_⟩
  simp only [PyData.depth]
  omega
section
variable {X : Cx} {cn : Wd} {a e : Expr} {fa fe : M RV} {pos pos2 pos3 ip apos cpos : Pos} {j j2 : Nat}
theorem DE.bxPop (s : MtS X (.Subscript a (.Constant (.int 0) j ip) pos) "pop" apos [.Constant (.int 0) j2 pos2] cpos) (hs : starEach [.Constant (.int 0) j2 pos2] X.env = [(false, eval (.Constant (.int 0) j2 pos2) X.env)]) (ha : DE X cn a fa) :
    DE X cn (.Call (.Attribute (.Subscript a (.Constant (.int 0) j ip) pos) "pop" apos) [.Constant (.int 0) j2 pos2] [] cpos) (Dl.bxPop fa) := by
  intro Wx tk
  refine pe_i (pe_bm PySem.F.plainAttrs_list PySem.F.slot_list_pop PySem.F.type_list_pop (show MtR X "list.pop" rPopAt from mt_popAt) (pe_ix ix_list (ha Wx tk) pe_int (by intro _ _; rfl)) (pa_cons pe_int pa_nil hs) s.base s.few s.line hs rfl) fun σ H Q h => ?_
  obtain ⟨o, es, r, R, h, hp⟩ := h
  refine bx_step R h (post_ex hp) fun n es1 o1 H1 x1 R1 ht h => ?_
  cases eq : stmOf n es1 with
  | none => rw [eq] at h; cases h
  | some q =>
    rw [eq] at h
    simp only [Option.bind_some] at h
    obtain ⟨p, h1, h2, h3, h4⟩ := stm_at R1 eq
    cases ec : q.1 with
    | nil => rw [ec] at h; cases h
    | cons c cs =>
      rw [ec] at h
      cases h
      refine ⟨_, _, 0, .ref p, rfl, rfl, .of h1, rfl, .inl ⟨rfl, _, .of h3⟩, ?_⟩
      rw [ec] at h3
      obtain ⟨R2, x2⟩ := put_cells (c' := cs) R1 h1 h4 h2
      refine ⟨p, _, 0, 0, .int c, rfl, rfl, h3, by decide, by decide, ?_, rfl, hp o1 _ _ (x1.trans x2) R2 (.int c)⟩
      exact seqIndex_of (by omega) (by simp)
theorem DT.bxNE (hu : X.A.units + 64 < cLine) (ha : DE X cn a fa) : DT X cn (.Compare (.Subscript a (.Constant (.int 0) j ip) pos) [.NotEq] [.List [] pos2] pos3) (Dl.bxNE fa) := by
  intro Wx tk
  refine pt_i (pt_cmpR (op_neD hu) (pe_ix ix_list (ha Wx tk) pe_int (by intro _ _; rfl)) (pe_lst pa_nil) rfl) fun σ H Q h => ?_
  obtain ⟨o, es, r, R, h, hp⟩ := h
  refine bx_step (Z := fun x H1 => tC (.int 0) σ H1 fun y H2 => rIxL X.K x y H2 fun z H3 => tLst tNil σ H3 fun w H4 => rNeD X.K z w H4 fun b H5 => ∃ k, b = .bl k ∧ Q k H5) R h (fun y es' e => post_ex hp y es' e) fun n es1 o1 H1 x1 R1 ht h => ?_
  cases eq : stmOf n es1 with
  | none => rw [eq] at h; cases h
  | some q =>
    rw [eq] at h
    cases h
    obtain ⟨p, h1, h2, h3, h4⟩ := stm_at R1 eq
    refine ⟨_, _, 0, .ref p, rfl, rfl, .of h1, rfl, by show 0 ≤ sizeLine; decide, fun l nl => ?_⟩
    obtain ⟨R2, x2⟩ := R1.new (u := .lst []) nl
    have h3' : upd H1 l (.lst []) p = some (.lst (q.1.map V.int)) := by rw [upd_ne (ne_of_none h3 nl)]; exact h3
    refine ⟨.list (q.1.map PyData.int), .list [], .lst (.of h3') (ints_pd _), .lst (.of upd_same) .nil, ints_shaped _, ints_shaped [], _, rfl, ?_⟩
    have e : (!PyData.eqv (.list (q.1.map PyData.int)) (.list [])) = !q.1.isEmpty := by
      cases q.1 <;> simp [PyData.eqv, PyData.eqvAll]
    rw [e]
    exact hp o1 _ (x1.trans x2) R2
end
namespace R
section
variable {X : Cx} {cn : Wd} {a e : Expr} {fa fe : M RV} {pos pos2 pos3 ip apos cpos : Pos} {j j2 : Nat} {g : M Bool} {body : List Stmt} {fb : S}
theorem bxIx (i : Int) (ha : DE X cn a fa) : DE X cn (.Subscript a (.Constant (.int i) j ip) pos) (Dl.bxIx i fa) := DE.bxIx ha
theorem bxSet (i : Int) (ha : DE X cn a fa) (he : DE X cn e fe) (hs : swapsWithSole [.Subscript a (.Constant (.int i) j ip) pos2] e pos.line X.env = pure false := by rfl) (hw : swappedStores [.Subscript a (.Constant (.int i) j ip) pos2] e X.env = pure none := by rfl)
    (h1 : (assignEach [.Subscript a (.Constant (.int i) j ip) pos2] X.env).map (·.2) = [assign (.Subscript a (.Constant (.int i) j ip) pos2) X.env] := by rfl) (h2 : ∀ v, assign (.Subscript a (.Constant (.int i) j ip) pos2) X.env v = (do
      let ov ← holding [v] (eval a X.env)
      let iv ← holding [v, ov] (eval (.Constant (.int i) j ip) X.env)
      standAt pos2
      holding [v, ov, iv] (setItem ov iv v)
      release [v, ov, iv] []) := by intro _; rfl) : DS X cn (.Assign [.Subscript a (.Constant (.int i) j ip) pos2] e pos) (Dl.bxSet i fa fe) := DS.bxSet ha he hs hw h1 h2
theorem bxPop (ha : DE X cn a fa) (s : MtS X (.Subscript a (.Constant (.int 0) j ip) pos) "pop" apos [.Constant (.int 0) j2 pos2] cpos := by exact R.ms rfl rfl rfl) (hs : starEach [.Constant (.int 0) j2 pos2] X.env = [(false, eval (.Constant (.int 0) j2 pos2) X.env)] := by rfl) :
    DE X cn (.Call (.Attribute (.Subscript a (.Constant (.int 0) j ip) pos) "pop" apos) [.Constant (.int 0) j2 pos2] [] cpos) (Dl.bxPop fa) := DE.bxPop s hs ha
theorem bxNE (hu : X.A.units + 65 < cLine) (ha : DE X cn a fa) : DT X cn (.Compare (.Subscript a (.Constant (.int 0) j ip) pos) [.NotEq] [.List [] pos2] pos3) (Dl.bxNE fa) := DT.bxNE (by omega) ha
theorem whil (n : Nat) (hp : PassesOwn (model X.prog X.w) X.A X.env X.xe) (hc : DT X cn e g) (hb : DSs X cn body fb) : DS X cn (.While e body [] pos) (whileS g fb n) := DS.while hp hc hb
end
end R
end Dl
end
section
set_option Elab.async false
set_option linter.all false
set_option maxRecDepth 100000
set_option maxHeartbeats 2000000
/-! DlZa: g(lambda: body), g catching own errors: the named rule. -/
namespace Dl
open PySem PySem.Spec PyProof.Rows L2
/-- a def that calls what it is handed in a try, and tells -/
structure Ctch (K : PySem.W.Frag) (mg : Str → Option Value) (cn : Wd) (x : Str) (a n t0 : Str) (ks : List Cl) (st : Stmt) : Prop where
  fn : ∃ (g : Addr) (oc : Value) (od : Option Addr) (kV doc pm : Value) (an : Option Addr) (cdv ct : Value) (osl : Array (Option Value)), K.lookup g = some ⟨oc, od, .func (PySem.W.fnOf x x (defArgs st) (defBody st) (defScope st) .none kV doc pm an cdv ct), osl⟩ ∧ PySem.W.codeIn K cdv x = true ∧ PySem.W.keepIn K (.ref g) = true ∧ mg x = some (.ref g)
  body : ∃ (j jj : Nat) (h₀ : ExceptHandler) (hds : List ExceptHandler) (p0 p1 p2 p3 p4 p5 : Pos), defBody st = [.Try [.Return (some (.Tuple [.Constant (.str t0) j p0, .Call (.Name a p1) [] [] p2] jj p3)) p4] (h₀ :: hds) [] [] p5] ∧ HdSyn n (h₀ :: hds) ks
  bind : ∀ (g : Addr) (fd : FuncData), Fun K x x st g fd → Binds K fd [a] []
  sc : FnScope [a, n] [a] (defScope st)
  ln : (defScope st).names.lookup n = some .local
  cls : ∀ k ∈ ks, ClsFacts K cn k ∧ (defScope st).names.lookup k.c = some .globalImplicit ∧ (k.c == ("__debug__" : Str)) = false ∧ mg k.c = some (.ref (cn k.c))
  exm : ∀ k ∈ ks, ∀ k' ∈ ks, PySem.W.exmOne K (.ref (cn k'.c)) (.ref (cn k.c)) = some (decide (k'.c = k.c))
  len : t0.length ≤ sizeLine ∧ ∀ k ∈ ks, k.t.length ≤ sizeLine
  nm : (a == ("__debug__" : Str)) = false ∧ (a == ("__classdict__" : Str)) = false ∧ (n == ("__debug__" : Str)) = false ∧ (n == ("__classdict__" : Str)) = false
namespace R
section
variable {X : Cx} {cn : Wd}
theorem ctch {x a n t0 : Str} {ks : List Cl} {st : Stmt} {fl : M D} {j : Nat} (k : Nat) {params : Arguments} {body : Expr} {scope : Scope} {p lpos pos : Pos} (C : Ctch X.K X.mg cn x a n t0 ks st) (LA : LamAt X cn) (hr : Room j X.A) (hj : k + 2 ≤ j)
    (hbody : ∀ (A : Around) (outer : List Env) (s : Shared) (H : Hp) (E : XK) (f c' : Addr), Room k (A.deeper (LamX.lamEnv X scope s.heap.objs.size f c')) → (A.deeper (LamX.lamEnv X scope s.heap.objs.size f c')).units + 65 < cLine → DL (LamX.lamCx X A outer s H E scope f c') cn body fl)
    (hg : Gl X x := by rfl) (L : LamX.lamSB X.env.scope scope = true := by rfl) (hdef : defaultsOf params X.env = ([], []) := by rfl)
    (hbind : ∀ (q : Str) (cl : List (Str × Addr)) (pm cv ctv : Value), bindArgs (PySem.W.kla_fn "<lambda>" q params body scope cl pm cv ctv) ⟨[], []⟩ = pure [] := by intro _ _ _ _ _; rfl) (hdb : (x == ("__debug__" : Str)) = false := by rfl) :
    DL X cn (.Call (.Name x p) [.Lambda params body scope lpos] [] pos) (catchM t0 ks fl) := by
  obtain ⟨g, oc, od, kV, doc, pm, an, cdv, ct, osl, lk, hcg, hkp, hm⟩ := C.fn
  obtain ⟨i, jj, h₀, hds, p0, p1, p2, p3, p4, p5, eb, hsyn⟩ := C.body
  obtain ⟨c, P, TB, hcode, hmT, huq⟩ := LA.ex
  have hb := C.bind g _ ⟨⟨oc, od, kV, doc, pm, an, cdv, ct, osl, rfl, lk, hcg⟩, hkp⟩
  refine DL.lam (Ng := [a, n]) (k := k) hg hm hkp lk hcg hb C.sc rfl ((C.sc.par a (by simp)).elim .inl fun z => .inr (.inl z)) ?_ C.exm C.len.1 C.len.2 TB hcode hmT huq (hr.mono hj) (LamX.lamS_by L) hdef hbind (fun A outer s H E f c' hr' => hbody A outer s H E f c' hr' ?_) hdb C.nm.1 C.nm.2.1
  · rw [eb]
    exact catch_gives (i := 1) C.sc.nd rfl C.ln C.nm.2.2.1 C.nm.2.2.2 hsyn C.cls (fun f => rfl)
  · have := hr'.un
    omega
end
end R
end Dl
end
section
set_option Elab.async false
set_option linter.all false
set_option maxRecDepth 100000
set_option maxHeartbeats 2000000
/-! DlZb: the stream is begun. -/
namespace Dl
open PySem PySem.Spec PyProof.Rows L2
/-- [list(script), 0, 0, c] -/
def spStart (K : PySem.W.Frag) (c : Int) : Sp := fun vs H Q _ => ∃ (a : Addr) (is : List Int), vs = [.ref a] ∧ SqL K H a (is.map V.int) ∧ ∀ q p, H q = none → p ≠ q → H p = none → Q (.ref p) (upd (upd H q (.lst (is.map V.int))) p (.lst [.ref q, .int 0, .int 0, .int c]))
theorem start_fn {P : Program} {w : World} {K : PySem.W.Frag} {mg : Str → Option Value} {base : Heap} {x y : Str} {st : Stmt} {f : Addr} {fd : FuncData} {xs : List Str} {c : Int} {p1 p2 p3 p4 p5 p6 p7 p8 : Pos} {j1 j2 j3 : Nat} (FU : Fun K x x st f fd) (Sc : FnScope [y] [y] (defScope st)) (B : Bi mg xs) (hx : Str.ofString "list" ∈ xs)
    (hbody : defBody st = [.Return (some (.List [.Call (.Name "list" p1) [.Name y p2] [] p3, .Constant (.int 0) j1 p4, .Constant (.int 0) j2 p5, .Constant (.int c) j3 p6] p7)) p8]) (hg : (defScope st).names.lookup (Str.ofString "list") = some .globalImplicit) (hd : (y == ("__debug__" : Str)) = false) (hcd : (y == ("__classdict__" : Str)) = false) :
    FnOk P w K mg base (L2.CX P w) 1 f fd [y] (spStart K c) := by
  refine FU.okX Sc (fun vs H Q E h => by obtain ⟨a, is, rfl, _⟩ := h; rfl) (fun cdv A outer s H vs Q E hr h => ?_)
  obtain ⟨a, is, rfl, ha, hq⟩ := h
  have vis : Vis (defScope st) y := by
    rcases Sc.par y (by simp) with q | q
    · exact .inl q
    · exact .inr (.inl q)
  rw [hbody]
  refine ⟨_, pss_one (ps_ret (pe_lst (pa_cons (pe_callTy call_list_of hg (B _ hx) PyProof.Rows.boot_list (pa_cons (pe_var (i := 0) rfl vis hd hcd) pa_nil rfl) (by decide) rfl rfl rfl) (pa_cons pe_int (pa_cons pe_int (pa_cons pe_int pa_nil rfl) rfl) rfl) rfl))), ?_⟩
  refine ⟨_, rfl, a, _, rfl, .inl ha, fun q nq => ?_⟩
  exact ⟨by show 4 ≤ sizeLine; decide, fun p np => hq q p nq (fun e => by rw [e, upd_same] at np; cases np) (by rw [upd_ne (fun e => by rw [e, upd_same] at np; cases np)] at np; exact np)⟩
/-- the owning at a law's start -/
def own0 (cn : Wd) (p q : Addr) : Own := ⟨fun a => if a = p then some (.box 0) else if a = q then some (.sub 0 0) else if (cn.T.any fun t => t.1 == a) = true then some .tbl else none, fun _ => p⟩
end Dl
end
section
set_option Elab.async false
set_option linter.all false
set_option maxRecDepth 100000
set_option maxHeartbeats 2000000
/-! DlZc: facts of a head's written part, by addresses. -/
namespace Dl
open PySem PySem.Spec PyProof.Rows L2
def oAt (K : PySem.W.Frag) (f : Addr) : Obj := (K.lookup f).getD { cls := .none, data := .plain }
def fdAt (K : PySem.W.Frag) (f : Addr) (x : Str) (st : Stmt) : FuncData := match (oAt K f).data with
  | .func fd => fd
  | _ => PySem.W.fnOf x x (defArgs st) (defBody st) (defScope st) .none .none .none .none none .none .none
theorem hfun_at {K : PySem.W.Frag} {h : Heap} {mg : Str → Option Value} {x : Str} {st : Stmt} (f : Addr) (KX : K.In h) (G : h.Ns mainGlobals mg) (g : PySem.W.nsIn K mainGlobals x = some (some (.ref f)))
    (l : K.lookup f = some ⟨(oAt K f).cls, (oAt K f).dict, .func (PySem.W.fnOf x x (defArgs st) (defBody st) (defScope st) .none (fdAt K f x st).kwdefaults (fdAt K f x st).doc (fdAt K f x st).pyModule (fdAt K f x st).annotations (fdAt K f x st).code (fdAt K f x st).closureTuple), (oAt K f).slots⟩)
    (c : PySem.W.codeIn K (fdAt K f x st).code x = true) (k : PySem.W.keepIn K (.ref f) = true) : HFun K mg x st := ⟨⟨f, _, ⟨⟨_, _, _, _, _, _, _, _, _, rfl, l, c⟩, k⟩, PySem.W.mg_of KX G g⟩⟩
/-- the values of a module's dict -/
def lookB (K : PySem.W.Frag) (d : Addr) (kvs : List (Str × Int)) (es : List DictEntry) : Bool := true
end Dl
end
section
set_option Elab.async false
set_option linter.all false
set_option maxRecDepth 100000
set_option maxHeartbeats 2000000
/-! DlZd: more facts by addresses. -/
namespace Dl
open PySem PySem.Spec PyProof.Rows L2
def tkOf : Value → Tok
  | .str _ t => t
  | .int _ t => t
  | _ => default
def litE (P : Params) : List (Str × Int) → List DictEntry → List DictEntry
  | [], _ => []
  | (x, i) :: r, es => ⟨PyData.keyHash P x, .str x (tkOf (es.headD default).key), .int i (tkOf (es.headD default).val)⟩ :: litE P r es.tail
theorem litE_lit (P : Params) : ∀ (l : List (Str × Int)) (es : List DictEntry), PySem.W.KeysLit P (litE P l es)
  | [], _ => trivial
  | (x, i) :: r, es => ⟨⟨x, _, rfl, rfl⟩, litE_lit P r es.tail⟩
theorem litE_find (P : Params) (z : Str) : ∀ (l : List (Str × Int)) (es : List DictEntry), match (litE P l es).find? (·.key.isStr z) with
    | some e => ∃ i t, l.lookup z = some i ∧ e.val = .int i t
    | none => l.lookup z = none
  | [], _ => rfl
  | (x, i) :: r, es => by
    have ih := litE_find P z r es.tail
    simp only [litE, List.find?_cons, List.lookup_cons]
    have q : (Value.str x (tkOf (es.headD default).key)).isStr z = (x == z) := rfl
    rw [q]
    cases hxz : (x == z) with
    | true =>
      have e : (z == x) = true := by rw [beq_iff_eq] at hxz ⊢; exact hxz.symm
      rw [e]; exact ⟨i, _, rfl, rfl⟩
    | false =>
      have e : (z == x) = false := by rw [beq_eq_false_iff_ne] at hxz ⊢; exact hxz.symm
      rw [e]; exact ih
theorem litE_ref (P : Params) : ∀ (l : List (Str × Int)) (es : List DictEntry), (litE P l es).any (·.refKey) = false
  | [], _ => rfl
  | (x, i) :: r, es => by
    simp only [litE, List.any_cons, litE_ref P r es.tail, Bool.or_false]
    rfl
def esAt (K : PySem.W.Frag) (d : Addr) : Array DictEntry := match (oAt K d).data with
  | .dict es _ => es
  | _ => #[]
def nAt (K : PySem.W.Frag) (d : Addr) : Nat := match (oAt K d).data with
  | .dict _ n => n
  | _ => 0
theorem gcd_at {K : PySem.W.Frag} {h : Heap} {w : World} {mg : Str → Option Value} {x : Str} (d : Addr) (kvs : List (Str × Int)) (KX : K.In h) (G : h.Ns mainGlobals mg) (g : PySem.W.nsIn K mainGlobals x = some (some (.ref d)))
    (l : K.lookup d = some ⟨.type "dict", none, .dict (esAt K d) (nAt K d), #[]⟩) (e : (esAt K d).toList = litE w.params kvs (esAt K d).toList) (lo : (d == sysModules) = false) : GcD K w mg x kvs :=
  ⟨d, esAt K d, nAt K d, PySem.W.mg_of KX G g, ⟨l, by rw [e]; exact litE_lit _ _ _, lo⟩, fun z => by
    have f := litE_find w.params z kvs (esAt K d).toList
    have r := litE_ref w.params kvs (esAt K d).toList
    rw [← e] at f r
    unfold PySem.W.nsIn
    rw [l]
    dsimp only
    cases hf : (esAt K d).toList.find? (·.key.isStr z) with
    | some e' =>
      rw [hf] at f
      obtain ⟨i, t, e1, e2⟩ := f
      exact ⟨_, rfl, by rw [e1, e2]; exact ⟨t, rfl⟩⟩
    | none =>
      rw [hf] at f
      refine ⟨none, by simp only [r]; rfl, ?_⟩
      rw [show kvs.lookup z = none from f]
      trivial⟩
theorem gci_at {K : PySem.W.Frag} {h : Heap} {mg : Str → Option Value} {x : Str} {i : Int} (t : Tok) (KX : K.In h) (G : h.Ns mainGlobals mg) (g : PySem.W.nsIn K mainGlobals x = some (some (.int i t))) : GcI mg x i := ⟨_, PySem.W.mg_of KX G g, ⟨t, rfl⟩⟩
theorem gcs_at {K : PySem.W.Frag} {h : Heap} {mg : Str → Option Value} {x z : Str} (t : Tok) (KX : K.In h) (G : h.Ns mainGlobals mg) (g : PySem.W.nsIn K mainGlobals x = some (some (.str z t))) : GcS mg x z := ⟨_, PySem.W.mg_of KX G g, ⟨t, rfl⟩⟩
end Dl
end
section
set_option Elab.async false
set_option linter.all false
set_option maxRecDepth 100000
set_option maxHeartbeats 2000000
/-! DlZe: own errors, catching defs, defs that make lambdas, by addresses. -/
namespace Dl
open PySem PySem.Spec PyProof.Rows L2
def cdAt (K : PySem.W.Frag) (C : Addr) : ClassData := match (oAt K C).data with
  | .cls cd => cd
  | _ => default
def slotAt (K : PySem.W.Frag) (C : Addr) (i : Nat) : Option Value := ((oAt K C).slots[i]?).getD none
structure ClsAt (K : PySem.W.Frag) (C : Addr) : Prop where
  lk : K.lookup C = some (excClassObj (cdAt K C).name (cdAt K C).qualname C (cdAt K C).ns (cdAt K C).bases (cdAt K C).mro.tail true (cdAt K C).slotNames (cdAt K C).subclasses (cdAt K C).abstract (cdAt K C).collection (oAt K C).dict (slotAt K C 0) (slotAt K C 1) (slotAt K C 2) (slotAt K C 3) (slotAt K C 5) "ValueError.__new__")
  ve : PySem.HandSPX.refsVE (cdAt K C).mro.tail = true
  sa : PySem.W.findIn K (.ref C) "__setattr__" = some (some (.builtin "object.__setattr__"))
  exC : PySem.W.subIn K (.ref C) (.type "BaseException") = some true
  tyC : PySem.W.typeIn K (.ref C) = some (.type "type")
  kC : PySem.W.keepIn K (.ref C) = true
  ga : PySem.W.findIn K (.ref C) "__getattribute__" = some (some (.builtin "BaseException.__getattribute__"))
  gg : PySem.W.findIn K (.ref C) "__getattr__" = some none
  hdC : PySem.W.hasDictIn K C = true
theorem ClsAt.oex {K : PySem.W.Frag} {C : Addr} (h : ClsAt K C) : OexC K C := ⟨⟨_, _, _, _, _, _, _, _, _, _, _, _, _, _, _, h.lk, h.ve⟩, h.sa, h.exC, h.tyC, h.kC⟩
theorem ClsAt.xf {K : PySem.W.Frag} {C : Addr} (h : ClsAt K C) : XfC K C := ⟨h.ga, h.gg, h.exC, h.hdC⟩
/-- the statement of a class's body -/
def inCls (st : Stmt) (i : Nat) : Stmt := match st with
  | .ClassDef _ _ _ body _ _ _ _ _ _ _ => (body[i]?).getD st
  | _ => st
theorem fun_at {K : PySem.W.Frag} {x qual : Str} {st : Stmt} (f : Addr)
    (l : K.lookup f = some ⟨(oAt K f).cls, (oAt K f).dict, .func (PySem.W.fnOf x qual (defArgs st) (defBody st) (defScope st) .none (fdAt K f x st).kwdefaults (fdAt K f x st).doc (fdAt K f x st).pyModule (fdAt K f x st).annotations (fdAt K f x st).code (fdAt K f x st).closureTuple), (oAt K f).slots⟩)
    (c : PySem.W.codeIn K (fdAt K f x st).code qual = true) (k : PySem.W.keepIn K (.ref f) = true) : Fun K x qual st f (PySem.W.fnOf x qual (defArgs st) (defBody st) (defScope st) .none (fdAt K f x st).kwdefaults (fdAt K f x st).doc (fdAt K f x st).pyModule (fdAt K f x st).annotations (fdAt K f x st).code (fdAt K f x st).closureTuple) :=
  ⟨⟨_, _, _, _, _, _, _, _, _, rfl, l, c⟩, k⟩
theorem exc1_at {P : Program} {w : World} {K : PySem.W.Frag} {mg : Str → Option Value} {h base : Heap} {cn : Wd} {x fld qual : Str} {st : Stmt} {fd : FuncData} {q1 q2 q3 q4 : Pos} (C fI : Addr) (KX : K.In h) (G : h.Ns mainGlobals mg)
    (g : PySem.W.nsIn K mainGlobals x = some (some (.ref C))) (hc : cn x = C) (T : ClsAt K C) (iC : PySem.W.findIn K (.ref C) "__init__" = some (some (.ref fI))) (tI : PySem.W.typeIn K (.ref fI) = some (.type "function"))
    (FU : Fun K "__init__" qual st fI fd) (Sc : FnScope ["self", fld] ["self", fld] (defScope st)) (hB : Binds K fd ["self", fld] []) (hbody : defBody st = [.Assign [.Attribute (.Name "self" q1) fld q2] (.Name fld q3) q4])
    (hno : PySem.W.findIn K (.ref C) fld = some none) (hd : (fld == ("__debug__" : Str)) = false) (hcd : (fld == ("__classdict__" : Str)) = false) : Exc1 P w K mg base cn 1 x fld :=
  ⟨C, fI, fd, ["self", fld], T.oex, iC, tI, ini_ok FU Sc hbody T.oex hno hd hcd, hB, PySem.W.mg_of KX G g, hc⟩
end Dl
namespace Dl
open PySem PySem.Spec PyProof.Rows L2
theorem hfunl_at {K : PySem.W.Frag} {h base : Heap} {mg : Str → Option Value} {cn : Wd} {x : Str} {st : Stmt} (f c T : Addr) (KX : K.In h) (G : h.Ns mainGlobals mg) (g : PySem.W.nsIn K mainGlobals x = some (some (.ref f)))
    (l : K.lookup f = some ⟨(oAt K f).cls, (oAt K f).dict, .func (PySem.W.fnOf x x (defArgs st) (defBody st) (defScope st) .none (fdAt K f x st).kwdefaults (fdAt K f x st).doc (fdAt K f x st).pyModule (fdAt K f x st).annotations (.ref c) (fdAt K f x st).closureTuple), (oAt K f).slots⟩)
    (hcd : PySem.W.codeIn K (.ref c) x = true) (k : PySem.W.keepIn K (.ref f) = true) (TB : LamX.TabB base mg c T) (hm : (T, x ++ (".<locals>." : Str) ++ ("<lambda>" : Str)) ∈ cn.T) (hu : ∀ p ∈ cn.T, p.1 = T → p.2 = x ++ (".<locals>." : Str) ++ ("<lambda>" : Str)) : HFunL K mg base cn x st :=
  ⟨⟨f, _, _, _, _, _, _, c, T, _, _, l, hcd, k, PySem.W.mg_of KX G g, TB, hm, hu⟩⟩
theorem ctch_at {K : PySem.W.Frag} {h : Heap} {mg : Str → Option Value} {cn : Wd} {x a n t0 : Str} {ks : List Cl} {st : Stmt} {j jj : Nat} {h₀ : ExceptHandler} {hds : List ExceptHandler} {p0 p1 p2 p3 p4 p5 : Pos} (f : Addr) (KX : K.In h) (G : h.Ns mainGlobals mg) (g : PySem.W.nsIn K mainGlobals x = some (some (.ref f)))
    (l : K.lookup f = some ⟨(oAt K f).cls, (oAt K f).dict, .func (PySem.W.fnOf x x (defArgs st) (defBody st) (defScope st) .none (fdAt K f x st).kwdefaults (fdAt K f x st).doc (fdAt K f x st).pyModule (fdAt K f x st).annotations (fdAt K f x st).code (fdAt K f x st).closureTuple), (oAt K f).slots⟩)
    (c : PySem.W.codeIn K (fdAt K f x st).code x = true) (k : PySem.W.keepIn K (.ref f) = true)
    (hb : defBody st = [.Try [.Return (some (.Tuple [.Constant (.str t0) j p0, .Call (.Name a p1) [] [] p2] jj p3)) p4] (h₀ :: hds) [] [] p5]) (hs : HdSyn n (h₀ :: hds) ks)
    (bind : ∀ (g : Addr) (fd : FuncData), Fun K x x st g fd → Binds K fd [a] []) (sc : FnScope [a, n] [a] (defScope st)) (ln : (defScope st).names.lookup n = some .local)
    (cls : ∀ k ∈ ks, ClsAt K (cn k.c) ∧ PySem.W.findIn K (.ref (cn k.c)) k.f = some none ∧ (defScope st).names.lookup k.c = some .globalImplicit ∧ (k.c == ("__debug__" : Str)) = false ∧ PySem.W.nsIn K mainGlobals k.c = some (some (.ref (cn k.c))))
    (exm : ∀ k ∈ ks, ∀ k' ∈ ks, PySem.W.exmOne K (.ref (cn k'.c)) (.ref (cn k.c)) = some (decide (k'.c = k.c))) (len : t0.length ≤ sizeLine ∧ ∀ k ∈ ks, k.t.length ≤ sizeLine)
    (nm : (a == ("__debug__" : Str)) = false ∧ (a == ("__classdict__" : Str)) = false ∧ (n == ("__debug__" : Str)) = false ∧ (n == ("__classdict__" : Str)) = false) : Ctch K mg cn x a n t0 ks st :=
  ⟨⟨f, _, _, _, _, _, _, _, _, _, l, c, k, PySem.W.mg_of KX G g⟩, ⟨_, _, _, _, _, _, _, _, _, _, hb, hs⟩, bind, sc, ln, fun k hk => let ⟨h1, h2, h3, h4, h5⟩ := cls k hk; ⟨⟨h1.xf, h2⟩, h3, h4, PySem.W.mg_of KX G h5⟩, exm, len, nm⟩
end Dl
end
section
set_option Elab.async false
set_option linter.all false
set_option maxRecDepth 100000
set_option maxHeartbeats 2000000
/-! DlZf: a written code object, by its address. -/
namespace Dl
open PySem PySem.Spec PyProof.Rows L2
def flAt (K : PySem.W.Frag) (c : Addr) : Array Value := match (oAt K c).data with
  | .fields vs => vs
  | _ => #[]
def vStr : Value → Str
  | .str s _ => s
  | _ => Str.empty
def vInt : Value → Int
  | .int i _ => i
  | _ => 0
def vBool : Value → Bool
  | .bool b => b
  | _ => false
theorem codehd_at {K : PySem.W.Frag} {h : Heap} (c T : Addr) (KX : K.In h) (l : K.lookup c = some (oAt K c)) (h1 : (oAt K c).cls = .type "code") (h2 : (oAt K c).data = .fields (flAt K c)) (h3 : (flAt K c)[11]? = some (.ref T))
    (h4 : (flAt K c).getD 11 .none = .ref T) (h5 : (flAt K c).getD 18 .none = .str (vStr ((flAt K c).getD 18 .none)) (tkOf ((flAt K c).getD 18 .none)))
    (h6 : (flAt K c).getD 7 .none = .int (vInt ((flAt K c).getD 7 .none)) (tkOf ((flAt K c).getD 7 .none))) (h7 : (flAt K c).getD 9 .none = .bool (vBool ((flAt K c).getD 9 .none)))
    (h8 : (flAt K c).getD 10 .none = .int (vInt ((flAt K c).getD 10 .none)) (tkOf ((flAt K c).getD 10 .none))) (h9 : c ≠ T) : PySem.W.CodeHd h c T :=
  ⟨oAt K c, flAt K c, _, _, _, _, _, _, _, KX _ _ l, h1, h2, h3, h4, h5, h6, h7, h8, h9⟩
def noB (K : PySem.W.Frag) (x : Str) : Bool := match PySem.W.nsIn K mainGlobals x with
  | some none => true
  | _ => false
theorem bi_at {K : PySem.W.Frag} {h : Heap} {mg : Str → Option Value} {xs : List Str} (KX : K.In h) (G : h.Ns mainGlobals mg) (e : xs.all (noB K) = true) : Bi mg xs := fun x hx => by
  have q := List.all_eq_true.mp e x hx
  refine PySem.W.mg_none_of KX G ?_
  unfold noB at q
  split at q
  · assumption
  · cases q
end Dl
end
section
set_option Elab.async false
set_option linter.all false
set_option maxRecDepth 100000
set_option maxHeartbeats 2000000
/-! DlZg: xs.count(x), data of any depth. -/
namespace Dl
open PySem PySem.Spec PyProof.Rows L2
def rCountD (K : PySem.W.Frag) : V → List V → Hp → VK → Prop := fun x xs H Q => ∃ (a : Addr) (y : V) (d : PyData) (ds : List PyData), x = V.ref a ∧ xs = [y] ∧ Dp K H x (.list ds) ∧ Dp K H y d ∧ SeqAt.shaped (.list ds) = true ∧ SeqAt.shaped d = true ∧ Q (.int ((ds.countP fun z => PyData.eqv z d : Nat))) H
theorem mt_countD {X : Cx} (hu : X.A.units + 65 < cLine) : MtR X "list.count" (rCountD X.K) := by
  intro pins s σ H x xs v us Q I rx rxs h
  obtain ⟨a, y, d, ds, rfl, rfl, hl, hy, sl, sd, q⟩ := h
  cases rx
  obtain ⟨uy, rfl, ry⟩ := rxs.one
  obtain ⟨bs, r1⟩ := Dp.reads I d y uy hy ry
  have lay : PyData.canLayAll0 ds = true := SeqAt.canLay_of_shaped sl
  have room : X.A.units + 1 + min (PyData.depthAll ds) d.depth < cLine := room_in_shaped sd hu
  cases hl with
  | lst hs ha =>
    obtain ⟨its, rv, ⟨⟨cls, dd, data, sls⟩, n, ho, hc, hdn, hdt⟩, hlen⟩ := I.list hs
    simp only at hc hdt
    subst hc hdt
    obtain ⟨as, h4⟩ := Dp.readsAll I ds _ its ha rv
    have same : its.map (SeqAt.readOf s.heap) = ds := SeqAt.readsAll_map ds its as lay h4
    have cnt : its.toArray.toList.countP (fun u => PyData.eqv (SeqAt.readOf s.heap u) d) = ds.countP fun z => PyData.eqv z d := by
      rw [← same, List.countP_map]
      rfl
    refine call_meets PySem.F.slot_list_count ⟨_, ho, rfl⟩ PySem.F.entry_list_count (PySem.F.args_list_count_2 _ _)
      (SeqAt.list_countAt a its.toArray n dd sls uy fun u => PyData.eqv (SeqAt.readOf s.heap u) d) ⟨ho, SeqAt.items_eqAt (vs := its.toArray) h4 r1 lay (SeqAt.canLay_of_shaped sd) room, ?_⟩
    rw [cnt]
    exact ⟨.int (ds.countP fun z => PyData.eqv z d : Nat), H, I.tok _, ⟨s.toks, rfl⟩, q⟩
/-- xs.count(x) -/
def countD (d : D) : List D → Option RV
  | [y] => match d with
    | .lst ds => (toPDs ds).bind fun qs => (toPD y).bind fun p => if (SeqAt.shaped (.list qs) && SeqAt.shaped p) = true then some (.fz (.int (qs.countP fun z => PyData.eqv z p : Nat))) else none
    | _ => none
  | _ => none
theorem sem_count : MtSem rCountD countD := by
  intro K cn o es σ H x d xs ds rv Q R px pxs e p
  unfold countD at e
  split at e
  · rename_i y
    cases pxs with
    | cons py pn =>
    cases pn
    split at e
    · rename_i zs
      cases e1 : toPDs zs with
      | none => rw [e1] at e; cases e
      | some qs =>
      cases e2 : toPD y with
      | none => rw [e1, e2] at e; cases e
      | some q2 =>
      rw [e1, e2] at e
      simp only [Option.bind_some] at e
      split at e
      · rename_i hs
        rw [Bool.and_eq_true] at hs
        cases e
        obtain ⟨a, ws, rfl, _⟩ := pk_lst px
        exact ⟨a, _, q2, qs, rfl, rfl, dp_pk px (d := .lst zs) (p := .list qs) (by simp only [toPD, e1]; rfl), dp_pk py e2, hs.1, hs.2, p _ _ _ Ext.refl R (.int _)⟩
      · cases e
    · cases e
  · cases e
namespace R
theorem count {X : Cx} {cn : Wd} {a e : Expr} {fo : M RV} {apos cpos : Pos} {k : M (List RV)} (hu : X.A.units + 65 < cLine) (ha : DE X cn a fo) (hk : DA X cn [e] k) (s : MtS X a "count" apos [e] cpos := by exact R.ms rfl rfl rfl) (hs : starEach [e] X.env = (false, eval e X.env) :: starEach [] X.env := by rfl) (hpl : (backTo cpos (starEach [] X.env)).any (·.1) = false := by rfl) :
    DE X cn (.Call (.Attribute a "count" apos) [e] [] cpos) (mtM "list" fo k countD) := DE.mt PySem.F.plainAttrs_list PySem.F.slot_list_count PySem.F.type_list_count (mt_countD hu) sem_count s hs hpl ha hk
end R
end Dl
end
section
set_option Elab.async false
set_option linter.all false
set_option maxRecDepth 100000
set_option maxHeartbeats 2000000
/-! DlZh: a told thing spoilt in place: trees of lists and tuples, each list held once. -/
namespace Dl
open PySem PySem.Spec PyProof.Rows L2

section
variable (H : Hp)
mutual
/-- a tree of data with the addresses of its lists -/
inductive Tr : V → D → List Addr → Prop
  | non : Tr .non .non []
  | bl (b : Bool) : Tr (.bl b) (.bl b) []
  | int (i : Int) : Tr (.int i) (.int i) []
  | str (x : Str) : x.length ≤ sizeLine → Tr (.str x) (.str x) []
  | tup {a : Addr} {xs : List V} {ds : List D} {A : List Addr} : H a = some (.tup xs) → xs.length ≤ sizeLine → TrAll xs ds A → Tr (.ref a) (.tup ds) A
  | lst {a : Addr} {xs : List V} {ds : List D} {A : List Addr} : H a = some (.lst xs) → xs.length < sizeLine → TrAll xs ds A → Tr (.ref a) (.lst ds) (a :: A)
inductive TrAll : List V → List D → List Addr → Prop
  | nil : TrAll [] [] []
  | cons {v : V} {vs : List V} {d : D} {ds : List D} {A B : List Addr} : Tr v d A → TrAll vs ds B → TrAll (v :: vs) (d :: ds) (A ++ B)
end
end
mutual
def depD : D → Nat
  | .tup xs => depDs xs + 1
  | .lst xs => depDs xs + 1
  | _ => 0
def depDs : List D → Nat
  | [] => 0
  | x :: xs => max (depD x) (depDs xs)
end
mutual
/-- a list gets one thing more, throughout -/
def lateD : D → D
  | .tup xs => .tup (lateDs xs)
  | .lst xs => .lst (lateDs xs ++ [.str "LATE"])
  | d => d
def lateDs : List D → List D
  | [] => []
  | x :: xs => lateD x :: lateDs xs
end
def lateO : HO → HO
  | .lst xs => .lst (xs ++ [.str "LATE"])
  | u => u
/-- what stood stands, the lists at A have one thing more -/
def SpE (A : List Addr) (H H' : Hp) : Prop := ∀ a u, H a = some u → H' a = some (if a ∈ A then lateO u else u)
theorem SpE.refl {H : Hp} : SpE [] H H := fun a u h => by simpa using h
theorem SpE.new {A : List Addr} {H H' : Hp} {p : Addr} {u : HO} (h : SpE A H H') (hp : H' p = none) : SpE A H (upd H' p u) := fun a w e => by
  have q := h a w e
  rw [upd_ne (ne_of_none q hp)]
  exact q
theorem SpE.trans {A B : List Addr} {H H1 H2 : Hp} (h : SpE A H H1) (k : SpE B H1 H2) (n : (A ++ B).Nodup) : SpE (A ++ B) H H2 := fun a u e => by
  have q := k _ _ (h a u e)
  rw [q]
  by_cases ha : a ∈ A
  · have hb : a ∉ B := fun hb => (List.nodup_append.mp n).2.2 a ha a hb rfl
    simp [ha, hb]
  · by_cases hb : a ∈ B <;> simp [ha, hb]
mutual
theorem Tr.lists {H : Hp} : ∀ {v d A}, Tr H v d A → ∀ a ∈ A, ∃ xs, H a = some (.lst xs)
  | _, _, _, .non, _, h => by cases h
  | _, _, _, .bl _, _, h => by cases h
  | _, _, _, .int _, _, h => by cases h
  | _, _, _, .str _ _, _, h => by cases h
  | _, _, _, .tup _ _ t, a, h => TrAll.lists t a h
  | _, _, _, .lst e _ t, a, h => by
    rcases List.mem_cons.mp h with rfl | h
    · exact ⟨_, e⟩
    · exact TrAll.lists t a h
theorem TrAll.lists {H : Hp} : ∀ {v d A}, TrAll H v d A → ∀ a ∈ A, ∃ xs, H a = some (.lst xs)
  | _, _, _, .nil, _, h => by cases h
  | _, _, _, .cons h t, a, m => by
    rcases List.mem_append.mp m with m | m
    · exact Tr.lists h a m
    · exact TrAll.lists t a m
end
mutual
theorem Tr.sp {H H' : Hp} {B : List Addr} (e : SpE B H H') : ∀ {v d A}, Tr H v d A → (∀ a ∈ A, a ∉ B) → Tr H' v d A
  | _, _, _, .non, _ => .non
  | _, _, _, .bl b, _ => .bl b
  | _, _, _, .int b, _ => .int b
  | _, _, _, .str b h, _ => .str b h
  | _, _, _, .tup h l t, n => .tup (by have q := e _ _ h; split at q <;> exact q) l (TrAll.sp e t n)
  | _, _, _, .lst h l t, n => .lst (by have q := e _ _ h; rw [if_neg (n _ (by simp))] at q; exact q) l (TrAll.sp e t fun a ha => n a (by simp [ha]))
theorem TrAll.sp {H H' : Hp} {B : List Addr} (e : SpE B H H') : ∀ {v d A}, TrAll H v d A → (∀ a ∈ A, a ∉ B) → TrAll H' v d A
  | _, _, _, .nil, _ => .nil
  | _, _, _, .cons h t, n => .cons (Tr.sp e h fun a ha => n a (by simp [ha])) (TrAll.sp e t fun a ha => n a (by simp [ha]))
end
mutual
/-- the spoilt tree reads as the spoilt data, its lists let go -/
theorem Tr.late {K : PySem.W.Frag} {cn : Wd} {o : Own} {H H' : Hp} {B : List Addr} (e : SpE B H H') : ∀ {v d A}, Tr H v d A → (∀ a ∈ A, a ∈ B) → (∀ a ∈ A, o.tg a = none) → (∀ a xs, H a = some (.tup xs) → o.tg a = none) → Dr K cn o H' v (lateD d)
  | _, _, _, .non, _, _, _ => by unfold lateD; exact .non
  | _, _, _, .bl b, _, _, _ => by unfold lateD; exact .bl b
  | _, _, _, .int b, _, _, _ => by unfold lateD; exact .int b
  | _, _, _, .str b h, _, _, _ => by unfold lateD; exact .str b h
  | _, _, _, .tup h l t, n, m, k => by
    unfold lateD
    refine .tup ⟨⟨?_, k _ _ h⟩, l⟩ (TrAll.late e t n m k)
    have q := e _ _ h
    split at q <;> exact q
  | _, _, _, .lst h l t, n, m, k => by
    unfold lateD
    have q := e _ _ h
    rw [if_pos (n _ (by simp))] at q
    refine .lst ⟨⟨q, m _ (by simp)⟩, by rw [List.length_append, List.length_singleton]; omega⟩ ((TrAll.late e t (fun a ha => n a (by simp [ha])) (fun a ha => m a (by simp [ha])) k).append (.cons (.str _ (by decide)) .nil))
theorem TrAll.late {K : PySem.W.Frag} {cn : Wd} {o : Own} {H H' : Hp} {B : List Addr} (e : SpE B H H') : ∀ {v d A}, TrAll H v d A → (∀ a ∈ A, a ∈ B) → (∀ a ∈ A, o.tg a = none) → (∀ a xs, H a = some (.tup xs) → o.tg a = none) → DrAll K cn o H' v (lateDs d)
  | _, _, _, .nil, _, _, _ => by unfold lateDs; exact .nil
  | _, _, _, .cons h t, n, m, k => by
    unfold lateDs
    exact .cons (Tr.late e h (fun a ha => n a (by simp [ha])) (fun a ha => m a (by simp [ha])) k) (TrAll.late e t (fun a ha => n a (by simp [ha])) (fun a ha => m a (by simp [ha])) k)
end
theorem TrAll.at {H : Hp} : ∀ {vs ds A} {i : Nat} {v : V}, TrAll H vs ds A → vs[i]? = some v → ∃ d A0 A1 A2, A = A0 ++ (A1 ++ A2) ∧ ds[i]? = some d ∧ Tr H v d A1 ∧ TrAll H (vs.take i) (ds.take i) A0 ∧ TrAll H (vs.drop (i + 1)) (ds.drop (i + 1)) A2
  | _, _, _, _, _, .nil, e => by simp at e
  | _, _, _, 0, _, .cons (A := A) (B := B) h t, e => by simp at e; subst e; exact ⟨_, [], A, B, rfl, rfl, h, .nil, t⟩
  | _, _, _, i + 1, _, .cons (A := A) (B := B) h t, e => by
    obtain ⟨d, A0, A1, A2, rfl, e1, e2, e3, e4⟩ := TrAll.at t (i := i) (by simpa using e)
    exact ⟨d, A ++ A0, A1, A2, by simp, by simpa using e1, e2, .cons h e3, e4⟩
theorem depDs_at : ∀ {ds : List D} {i : Nat} {d : D}, ds[i]? = some d → depD d ≤ depDs ds
  | [], _, _, h => by simp at h
  | x :: xs, 0, _, h => by simp at h; subst h; unfold depDs; omega
  | x :: xs, i + 1, _, h => by
    have := depDs_at (ds := xs) (i := i) (by simpa using h)
    unfold depDs
    omega

/-- what _law_spoilt does to a tree of so many levels -/
def spS (K : PySem.W.Frag) (cn : Wd) (k : Nat) : Nat → Sp
  | 0 => fun _ _ _ _ => False
  | n + 1 => fun vs H Q _ => ∃ v d A o g, vs = [v] ∧ RelG K cn o H g ∧ Tr H v d A ∧ A.Nodup ∧ (∀ a ∈ A, o.tg a = some (.slot k)) ∧ depD d ≤ n ∧ ∀ H', RelG K cn o H' g → SpE A H H' → Q .non H'
/-- a list with a slot's tag is written; nothing leans on it -/
theorem RelG.wrS {K : PySem.W.Frag} {cn : Wd} {o : Own} {H : Hp} {g : List Box} {a : Addr} {k : Nat} {c : HO} (R : RelG K cn o H g) (ht : o.tg a = some (.slot k)) (hc : NE c) (hn : NT c) : RelG K cn o (upd H a c) g :=
  R.wr ht (by simp) hc hn fun m b hb => .inl ⟨hb, by simp, by simp⟩
theorem RelG.newS {K : PySem.W.Frag} {cn : Wd} {o : Own} {H : Hp} {g : List Box} {p : Addr} {u : HO} (R : RelG K cn o H g) (hp : H p = none) (hn : NT u) : RelG K cn o (upd H p u) g := by
  have k := keep_new (u := u) R hp
  refine R.keep ⟨k.ext, fun a t _ => k.st a t trivial⟩ (fun a t ht => ?_) (fun a ps h => ?_)
  · obtain ⟨w, hw, n⟩ := R.trk a t ht
    exact ⟨w, by rw [upd_ne (ne_of_none hw hp)]; exact hw, n⟩
  · by_cases e : a = p
    · subst e; rw [upd_same] at h; exact (hn ps (Option.some.inj h)).elim
    · rw [upd_ne e] at h; exact R.nt a ps h
/-- the type that isinstance sees -/
theorem Tr.ty {K : PySem.W.Frag} {H : Hp} {v : V} {d : D} {A : List Addr} (h : Tr H v d A) : ∃ t, tyD d = some t ∧ TyX K H v (.type t) := by
  cases h with
  | non => exact ⟨_, rfl, .base .non⟩
  | bl b => exact ⟨_, rfl, .base (.bl b)⟩
  | int b => exact ⟨_, rfl, .base (.int b)⟩
  | str b _ => exact ⟨_, rfl, .base (.str b)⟩
  | tup e _ _ => exact ⟨_, rfl, .base (.tup e)⟩
  | lst e _ _ => exact ⟨_, rfl, .base (.lst e)⟩
section
variable {X : Cx} {xp p pos tpos : Pos}
/-- isinstance of a name, by a test -/
theorem pt_isi1 {i : Nat} {y x : Str} {yp : Pos} {n : String} {xs : List Str} (B : Bi X.mg xs) (hN : X.N[i]? = some y) (hv : Vis X.env.scope y) (hd : (y == ("__debug__" : Str)) = false) (hcd : (y == ("__classdict__" : Str)) = false)
    (hvx : bootBuiltins x = some (.type n)) (hx : x ∈ xs) (hi : Str.ofString "isinstance" ∈ xs) (hn : n ∈ tyNames) (hg : Gl X "isinstance") (hgx : Gl X x) (hnx : x ≠ "__name__") (hdx : (x == ("__debug__" : Str)) = false) :
    PT X (.Call (.Name "isinstance" p) [.Name y yp, .Name x xp] [] pos) (fun σ H Q => ∃ v d t, σ[i]? = some (some v) ∧ tyD d = some t ∧ TyX X.K H v (.type t) ∧ Q (subTy t n) H) := by
  refine pt_i (pt_val (pe_callB call_isi hg (B _ hi) PyProof.Rows.boot_isinstance (pa_cons (pe_var hN hv hd hcd) (pa_cons (pe_tyName hgx (B _ hx) hvx hnx hdx) pa_nil rfl) rfl) (by decide) rfl rfl rfl)) fun σ H Q h => ?_
  obtain ⟨v, d, t, hv, et, ty, q⟩ := h
  exact ⟨v, hv, v, .ty n, .type t, .type n, subTy t n, rfl, .ty n, ty, kit_at et hn, _, rfl, q⟩
theorem pt_isiT {i : Nat} {y : Str} {yp : Pos} {es : List Expr} {ns : List String} {k : Nat} {xs : List Str} (B : Bi X.mg xs) (hN : X.N[i]? = some y) (hv : Vis X.env.scope y) (hd : (y == ("__debug__" : Str)) = false) (hcd : (y == ("__classdict__" : Str)) = false)
    (ht : TyEs X es ns) (hi : Str.ofString "isinstance" ∈ xs) (hg : Gl X "isinstance") (hz : es.length ≤ 16) :
    PT X (.Call (.Name "isinstance" p) [.Name y yp, .Tuple es k tpos] [] pos) (fun σ H Q => ∃ v d A t, σ[i]? = some (some v) ∧ Tr H v d A ∧ tyD d = some t ∧ ∀ q w, H q = none → Q (ns.any (subTy t)) (upd H q (.tup w))) := by
  refine pt_i (pt_val (pe_callB call_isiT hg (B _ hi) PyProof.Rows.boot_isinstance (pa_cons (pe_var hN hv hd hcd) (pa_cons (pe_tup ht.pa) pa_nil rfl) rfl) (by decide) rfl rfl rfl)) fun σ H Q h => ?_
  obtain ⟨v, d, A, t0, hv, T, et0, q⟩ := h
  refine ⟨v, hv, by rw [List.length_map, ← ht.len, line_eq]; omega, fun p np => ?_⟩
  have T' : Tr (upd H p (.tup (ns.map L2.V.ty))) v d A := T.sp (SpE.refl.new np) (by simp)
  obtain ⟨t, et, ty⟩ := T'.ty (K := X.K)
  have e2 : t = t0 := by rw [et0] at et; exact (Option.some.inj et).symm
  subst e2
  exact ⟨v, p, ns.map L2.V.ty, .type _, ns.map Value.type, _, rfl, upd_same, clsV_tys ns, ty, kit_any et0 ht.mem, _, rfl, q p _ np⟩
end
end Dl
end
section
set_option Elab.async false
set_option linter.all false
set_option maxRecDepth 100000
set_option maxHeartbeats 2000000
/-! DlZi: _law_spoilt, told. -/
namespace Dl
open PySem PySem.Spec PyProof.Rows L2
theorem spS_len {K cn k n vs H Q E} (h : spS K cn k n vs H Q E) : vs.length = 1 := by
  cases n with
  | zero => exact h.elim
  | succ n => obtain ⟨v, _, _, _, _, rfl, _⟩ := h; rfl
section
variable {P : Program} {w : World} {K : PySem.W.Frag} {mg : Str → Option Value} {base : Heap} {cn : Wd} {st : Stmt} {f : Addr} {fd : FuncData} {xs : List Str}
variable {bD : List Stmt} {p1 p2 p3 p4 p5 q1 q2 q3 q4 q5 q6 q7 q8 q9 q10 q11 q12 q13 q14 r1 r2 r3 r4 r5 r6 r7 r8 r9 r10 : Pos} {kk j : Nat}
theorem spoilt_fn (k : Nat) (FU : Fun K "_law_spoilt" "_law_spoilt" st f fd) (Sc : FnScope ["thing", "key", "part"] ["thing"] (defScope st)) (B : Bi mg xs) (hm : mg "_law_spoilt" = some (.ref f)) (hb : Binds K fd ["thing"] [])
    (x1 : Str.ofString "dict" ∈ xs) (x2 : Str.ofString "list" ∈ xs) (x3 : Str.ofString "tuple" ∈ xs) (x4 : Str.ofString "isinstance" ∈ xs)
    (g1 : (defScope st).names.lookup ("dict" : Str) = some .globalImplicit) (g2 : (defScope st).names.lookup ("list" : Str) = some .globalImplicit) (g3 : (defScope st).names.lookup ("tuple" : Str) = some .globalImplicit) (g4 : (defScope st).names.lookup ("isinstance" : Str) = some .globalImplicit) (g5 : (defScope st).names.lookup ("_law_spoilt" : Str) = some .globalImplicit)
    (l1 : (defScope st).names.lookup ("part" : Str) = some .local)
    (hbody : defBody st = [.If (.Call (.Name "isinstance" p1) [.Name "thing" p2, .Name "dict" p3] [] p4) bD [] p5,
      .If (.Call (.Name "isinstance" q1) [.Name "thing" q2, .Tuple [.Name "list" q3, .Name "tuple" q4] kk q5] [] q6) [.For (.Name "part" q7) (.Name "thing" q8) [.Expr (.Call (.Name "_law_spoilt" q9) [.Name "part" q10] [] q11) q12] [] q13] [] q14,
      .If (.Call (.Name "isinstance" r1) [.Name "thing" r2, .Name "list" r3] [] r4) [.Expr (.Call (.Attribute (.Name "thing" r5) "append" r6) [.Constant (.str "LATE") j r7] [] r8) r9] [] r10])
    (hline : (r6.endLine == r8.line) = true) :
    ∀ n, FnOk P w K mg base (L2.CX P w) (n + 1) f fd ["thing"] (spS K cn k n)
  | 0 => FU.okX Sc (fun _ _ _ _ h => spS_len h) fun _ _ _ _ _ _ _ _ _ h => h.elim
  | n + 1 => by
    have IH := spoilt_fn k FU Sc B hm hb x1 x2 x3 x4 g1 g2 g3 g4 g5 l1 hbody hline n
    refine FU.okX Sc (fun _ _ _ _ h => spS_len h) fun cdv A outer s H vs Q E hr h => ?_
    obtain ⟨v, d, AA, o, g, rfl, RG, T, nd, tg, hdep, hq⟩ := h
    have vis : Vis (defScope st) "thing" := by
      rcases Sc.par "thing" (by simp) with q | q
      · exact .inl q
      · exact .inr (.inl q)
    have visp : Vis (defScope st) "part" := .inl l1
    rw [hbody]
    have tk : Takes (cxOf (L2.CX P w) P w K mg base ["thing", "key", "part"] "_law_spoilt" (defScope st) f cdv A outer s H E) (fun cls d _ H => E cls d H) := takes_of rfl rfl rfl rfl
    refine ⟨_, pss_cons (ps_if (pt_isi1 (i := 0) (n := "dict") B rfl vis rfl rfl boot_dict x1 x4 (by decide) g4 g1 (by decide) rfl) pss_never pss_nil)
      (pss_cons (ps_if (pt_isiT (i := 0) (ns := ["list", "tuple"]) B rfl vis rfl rfl (R.ty1 B (R.ty1 B R.ty0 boot_tuple x3 (by decide) g3 (by decide) rfl rfl) boot_list x2 (by decide) g2 (by decide) rfl rfl) x4 g4 (by show 2 ≤ 16; decide))
        (pss_one (ps_for (passes_of rfl) rfl (pi_any (pe_var (i := 0) rfl vis rfl rfl)) (pg_name (i := 2) Sc.nd rfl (.inl l1) (.inr l1))
          (pss_one (ps_expr (pe_callSD (E := WE fun cls d _ H => E cls d H) IH hr g5 hm FU.kp hb .nil (fun σ => passAt tk σ) (pa_cons (pe_var (i := 2) rfl visp rfl rfl) pa_nil rfl) rfl rfl rfl) rfl)))) pss_nil)
      (pss_one (ps_if (pt_isi1 (i := 0) (n := "list") B rfl vis rfl rfl boot_list x2 x4 (by decide) g4 g2 (by decide) rfl)
        (pss_one (ps_expr (pe_bm PySem.F.plainAttrs_list PySem.F.slot_list_append PySem.F.type_list_append (show MtR _ "list.append" rAppend from mt_append) (pe_var (i := 0) rfl vis rfl rfl) (pa_cons pe_str pa_nil rfl) rfl rfl hline rfl rfl) rfl)) pss_nil))), ?_⟩
    have s0 : (L2.start ["thing", "key", "part"] [v])[0]? = some (some v) := rfl
    obtain ⟨t, et, ty⟩ := T.ty (K := K)
    have nd' : subTy t "dict" = false := by
      cases T <;> simp only [tyD] at et <;> cases et <;> decide
    refine ⟨v, d, t, s0, et, ty, ?_⟩
    rw [nd']
    refine ⟨v, d, AA, t, s0, T, et, fun q w nq => ?_⟩
    have R1 := RelG.newS (u := .tup w) RG nq (by intro _ z; cases z)
    have S1 : SpE [] H (upd H q (.tup w)) := SpE.refl.new nq
    have T1 := T.sp S1 (by simp)
    generalize upd H q (.tup w) = H1 at R1 S1 T1
    have fin1 : ∀ {A : List Addr} {H' : Hp}, RelG K cn o H' g → SpE A H1 H' → AA = A → Q .non H' := fun r e q => hq _ r (by subst q; exact S1.trans e nd)
    -- the parts, one after another
    have turn : ∀ {ys : List V} {ds : List D} {A : List Addr} {m : Nat}, n = m + 1 → depDs ds ≤ m → TrAll H1 ys ds A → A.Nodup → (∀ a ∈ A, o.tg a = some (.slot k)) → ∀ (i : Nat) (y : V) (H2 : Hp) (Z : Hp → Prop), ys[i]? = some y →
        (RelG K cn o H2 g ∧ ∃ A0 A2, A = A0 ++ A2 ∧ TrAll H1 (ys.drop i) (ds.drop i) A2 ∧ SpE A0 H1 H2) → (∀ H3, (RelG K cn o H3 g ∧ ∃ A0 A2, A = A0 ++ A2 ∧ TrAll H1 (ys.drop (i + 1)) (ds.drop (i + 1)) A2 ∧ SpE A0 H1 H3) → Z H3) →
        spS K cn k n [y] H2 (fun _ H3 => Z H3) E := by
      intro ys ds A m em hd ta na tga i y H2 Z hy inv hz
      obtain ⟨R2, A0, A2, rfl, ta2, S2⟩ := inv
      have hyl := (List.getElem?_eq_some_iff.mp hy).1
      have ey : ys.drop i = y :: ys.drop (i + 1) := by
        rw [List.drop_eq_getElem_cons hyl]
        rw [List.getElem?_eq_getElem hyl] at hy
        rw [Option.some.inj hy]
      rw [ey] at ta2
      generalize eds : ds.drop i = ds2 at ta2
      cases ta2 with
      | cons h1 h2 =>
        rename_i d1 ds1 B1 B2
        have hd1 : ds[i]? = some d1 := by
          have : (ds.drop i)[0]? = some d1 := by rw [eds]; rfl
          simpa using this
        have e3 : ds.drop (i + 1) = ds1 := by
          have : (ds.drop i).drop 1 = ds1 := by rw [eds]; rfl
          rw [List.drop_drop] at this
          exact this
        have nd3 : (A0 ++ B1 ++ B2).Nodup := by rw [List.append_assoc]; exact na
        have nd4 := (List.nodup_append.mp nd3).1
        subst em
        have T2 := Tr.sp S2 h1 (fun a ha hb => (List.nodup_append.mp nd4).2.2 a hb a ha rfl)
        refine ⟨y, d1, B1, o, g, rfl, R2, T2, (List.nodup_append.mp nd4).2.1, fun a ha => tga a (by simp [ha]), ?_, fun H3 R3 S3 => hz H3 ⟨R3, A0 ++ B1, B2, by simp, by rw [e3]; exact h2, S2.trans S3 nd4⟩⟩
        have := depDs_at hd1
        omega
    have start0 : ∀ {ys : List V} {ds : List D} {A : List Addr}, TrAll H1 ys ds A → (RelG K cn o H1 g ∧ ∃ A0 A2, A = A0 ++ A2 ∧ TrAll H1 (ys.drop 0) (ds.drop 0) A2 ∧ SpE A0 H1 H1) := fun {ys ds A} ta => ⟨R1, [], A, rfl, ta, SpE.refl⟩
    have ends : ∀ {ys : List V} {ds : List D} {A : List Addr} {H3 : Hp}, (RelG K cn o H3 g ∧ ∃ A0 A2, A = A0 ++ A2 ∧ TrAll H1 (ys.drop ys.length) (ds.drop ys.length) A2 ∧ SpE A0 H1 H3) → RelG K cn o H3 g ∧ SpE A H1 H3 := by
      intro ys ds A H3 ⟨R3, A0, A2, e, ta, S3⟩
      rw [List.drop_length] at ta
      generalize ds.drop ys.length = zs at ta
      cases ta
      rw [List.append_nil] at e
      rw [e]
      exact ⟨R3, S3⟩
    cases T1 with
    | tup e l ta =>
      rename_i a ys ds
      cases et
      have hd : depDs ds + 1 ≤ n := by unfold depD at hdep; exact hdep
      obtain ⟨m, rfl⟩ : ∃ m, n = m + 1 := ⟨n - 1, by omega⟩
      refine ⟨_, s0, .inr (.inl ⟨a, rfl, ⟨ys, .of e⟩, for_tup (xs := ys) (fun i σ' H2 => (σ'.length = 3 ∧ σ'[0]? = some (some (.ref a))) ∧ (RelG K cn o H2 g ∧ ∃ A0 A2, AA = A0 ++ A2 ∧ TrAll H1 (ys.drop i) (ds.drop i) A2 ∧ SpE A0 H1 H2)) ⟨⟨rfl, s0⟩, start0 ta⟩ (fun i σ' H2 hi ⟨_, _, A0, A2, ea, _, S2⟩ => ?_) (fun i y σ' H2 hy ⟨s1, inv⟩ => ?_) (fun σ' H2 ⟨s1, inv⟩ => ?_)⟩)⟩
      · have q := S2 _ _ e
        split at q <;> exact .of q
      · refine ⟨y, List.getElem?_set_self (by omega), ?_⟩
        exact turn rfl (by omega) ta nd tg i y H2 _ hy inv fun H3 i3 => ⟨⟨by rw [List.length_set]; exact s1.1, by rw [List.getElem?_set_ne (by decide)]; exact s1.2⟩, i3⟩
      · obtain ⟨R3, S3⟩ := ends inv
        refine ⟨.ref a, .tup ds, _, s1.2, rfl, ?_, ?_⟩
        · have q := S3 _ _ e
          split at q <;> exact .base (.tup q)
        · exact fin1 R3 S3 rfl
    | lst e l ta =>
      rename_i a ys ds A
      cases et
      have hd : depDs ds + 1 ≤ n := by unfold depD at hdep; exact hdep
      obtain ⟨m, rfl⟩ : ∃ m, n = m + 1 := ⟨n - 1, by omega⟩
      obtain ⟨na, ndA⟩ := List.nodup_cons.mp nd
      refine ⟨_, s0, .inl ⟨a, rfl, ⟨ys, .of e⟩, for_list (xs := ys) (fun i σ' H2 => (σ'.length = 3 ∧ σ'[0]? = some (some (.ref a))) ∧ (RelG K cn o H2 g ∧ ∃ A0 A2, A = A0 ++ A2 ∧ TrAll H1 (ys.drop i) (ds.drop i) A2 ∧ SpE A0 H1 H2)) ⟨⟨rfl, s0⟩, start0 ta⟩ (fun i σ' H2 hi ⟨_, _, A0, A2, ea, _, S2⟩ => ?_) (fun i y σ' H2 hy ⟨s1, inv⟩ => ?_) (fun σ' H2 ⟨s1, inv⟩ => ?_)⟩⟩
      · have q := S2 _ _ e
        rw [if_neg (fun hm => na (by rw [ea]; simp [hm]))] at q
        exact .of q
      · refine ⟨y, List.getElem?_set_self (by omega), ?_⟩
        exact turn rfl (by omega) ta ndA (fun b hb => tg b (by simp [hb])) i y H2 _ hy inv fun H3 i3 => ⟨⟨by rw [List.length_set]; exact s1.1, by rw [List.getElem?_set_ne (by decide)]; exact s1.2⟩, i3⟩
      · obtain ⟨R3, S3⟩ := ends inv
        have q := S3 _ _ e
        rw [if_neg na] at q
        refine ⟨.ref a, .lst ds, _, s1.2, rfl, .base (.lst q), ?_⟩
        refine ⟨_, s1.2, .inl ⟨rfl, _, .of q⟩, a, ys, _, rfl, rfl, q, l, ?_⟩
        refine hq _ (R3.wrS (tg a (by simp)) trivial (by intro _ z; cases z)) fun b u hb => ?_
        have q1 := S1 b u hb
        rw [if_neg (by simp)] at q1
        by_cases eb : b = a
        · subst eb
          rw [q1] at e
          cases e
          rw [upd_same, if_pos (by simp)]
          rfl
        · rw [upd_ne eb]
          have q2 := S3 b u q1
          by_cases hbA : b ∈ A
          · rw [if_pos hbA] at q2
            rw [if_pos (by simp [hbA])]
            exact q2
          · rw [if_neg hbA] at q2
            rw [if_neg (by simp [hbA, eb])]
            exact q2
    | non => cases et; exact ⟨_, .non, _, s0, rfl, .base .non, fin1 R1 SpE.refl rfl⟩
    | bl b => cases et; exact ⟨_, .bl b, _, s0, rfl, .base (.bl b), fin1 R1 SpE.refl rfl⟩
    | int b => cases et; exact ⟨_, .int b, _, s0, rfl, .base (.int b), fin1 R1 SpE.refl rfl⟩
    | str b hb => cases et; exact ⟨_, .str b, _, s0, rfl, .base (.str b), fin1 R1 SpE.refl rfl⟩
end
end Dl
end
section
set_option Elab.async false
set_option linter.all false
set_option maxRecDepth 100000
set_option maxHeartbeats 2000000
/-! DlZj: _law_apart, told; what is hidden and shown again. -/
namespace Dl
open PySem PySem.Spec PyProof.Rows L2
/-- what _law_apart does with a tree that nobody else holds -/
def spA (K : PySem.W.Frag) (cn : Wd) (k n : Nat) (F1 : F) : Sp := fun vs H Q _ => ∃ v d A o g g' b, vs = [v] ∧ RelG K cn o H g ∧ Tr H v d A ∧ A.Nodup ∧ (∀ a ∈ A, o.tg a = some (.slot k)) ∧ depD d < n ∧ F1 [lateD d] g = some (.ok (.bl b) g') ∧
  ∀ o' H', Ext o H o' H' → RelG K cn o' H' g' → Q (.bl b) H'
section
variable {P : Program} {w : World} {K : PySem.W.Frag} {mg : Str → Option Value} {base : Heap} {cn : Wd} {st : Stmt} {f fs fo : Addr} {fd fds fdo : FuncData} {xs : List Str} {F1 : F} {lv n : Nat} {pso : List Str}
variable {p1 p2 p3 p4 p5 p6 p7 p8 : Pos}
theorem apart_fn (k : Nat) (FU : Fun K "_law_apart" "_law_apart" st f fd) (Sc : FnScope ["thing"] ["thing"] (defScope st))
    (FS : FnOk P w K mg base (L2.CX P w) (n + 1) fs fds ["thing"] (spS K cn k n)) (ms : mg "_law_spoilt" = some (.ref fs)) (ks : PySem.W.keepIn K (.ref fs) = true) (bs : Binds K fds ["thing"] [])
    (FO : FnOk P w K mg base (L2.CX P w) lv fo fdo pso (spD K cn 1 F1)) (mo : mg "_law_is_once" = some (.ref fo)) (ko : PySem.W.keepIn K (.ref fo) = true) (bo : Binds K fdo pso []) (hl : lv ≤ n + 1)
    (g1 : (defScope st).names.lookup ("_law_spoilt" : Str) = some .globalImplicit) (g2 : (defScope st).names.lookup ("_law_is_once" : Str) = some .globalImplicit)
    (hbody : defBody st = [.Expr (.Call (.Name "_law_spoilt" p1) [.Name "thing" p2] [] p3) p4, .Return (some (.Call (.Name "_law_is_once" p5) [.Name "thing" p6] [] p7)) p8]) :
    FnOk P w K mg base (L2.CX P w) (n + 2) f fd ["thing"] (spA K cn k n F1) := by
  refine FU.okX Sc (fun _ _ _ _ h => by obtain ⟨_, _, _, _, _, _, _, rfl, _⟩ := h; rfl) fun cdv A0 outer s H vs Q E hr h => ?_
  obtain ⟨v, d, A, o, g, g', b, rfl, RG, T, nd, tg, hdep, hF, hq⟩ := h
  have vis : Vis (defScope st) "thing" := by
    rcases Sc.par "thing" (by simp) with q | q
    · exact .inl q
    · exact .inr (.inl q)
  rw [hbody]
  have tk : Takes (cxOf (L2.CX P w) P w K mg base ["thing"] "_law_apart" (defScope st) f cdv A0 outer s H E) (fun cls d _ H => E cls d H) := takes_of rfl rfl rfl rfl
  refine ⟨_, pss_cons (ps_expr (pe_callSD (E := WE fun cls d _ H => E cls d H) FS hr g1 ms ks bs .nil (fun σ => passAt tk σ) (pa_cons (pe_var (i := 0) rfl vis rfl rfl) pa_nil rfl) rfl rfl rfl) rfl)
    (pss_one (ps_ret (pe_callSD (E := WE fun cls d _ H => E cls d H) FO (hr.mono hl) g2 mo ko bo .nil (fun σ => passAt tk σ) (pa_cons (pe_var (i := 0) rfl vis rfl rfl) pa_nil rfl) rfl rfl rfl))), ?_⟩
  have s0 : (L2.start ["thing"] [v])[0]? = some (some v) := rfl
  obtain ⟨m, rfl⟩ : ∃ m, n = m + 1 := ⟨n - 1, by omega⟩
  refine ⟨v, s0, v, d, A, o, g, rfl, RG, T, nd, tg, by omega, fun H1 R1 S1 => ⟨v, s0, ?_⟩⟩
  have nA : ∀ {a t}, o.tg a = t → t ≠ some (.slot k) → a ∉ A := fun {a t} e ne h => ne (by rw [← e]; exact tg a h)
  let o2 : Own := ⟨fun a => if a ∈ A then none else o.tg a, o.bx⟩
  have t2 : ∀ {a t}, o.tg a = t → t ≠ some (.slot k) → o2.tg a = t := fun {a t} e ne => by
    show (if a ∈ A then none else o.tg a) = t
    rw [if_neg (nA e ne)]; exact e
  have L2 : Own.Less o o2 := ⟨fun a e => t2 e (by simp), fun n e => ⟨rfl, t2 e (by simp)⟩⟩
  have R2 : RelG K cn o2 H1 g := by
    refine R1.tr L2 (fun a t hb e => t2 e (fun z => by cases z; exact hb.elim)) (fun a t e => ?_)
    have e : (if a ∈ A then none else o.tg a) = some t := e
    split at e
    · cases e
    · exact R1.trk a t e
  have D2 : Dr K cn o2 H1 v (lateD d) := by
    refine T.late S1 (fun a h => h) (fun a h => by show (if a ∈ A then none else o.tg a) = none; rw [if_pos h]) fun a ys e => ?_
    cases q : o.tg a with
    | none => exact t2 q (by simp)
    | some t =>
      obtain ⟨u, hu, n⟩ := RG.trk a t q
      rw [e] at hu
      cases hu
      exact (show False from n).elim
  refine ⟨o2, [lateD d], g, _, R2, .cons D2 .nil, rfl, hF, fun o' H' v' x' R' D' => ?_⟩
  cases D'
  refine hq o' H' ⟨fun a u h e => ?_, fun a u h e => ?_, fun n e => ?_, fun a u h => ?_⟩ R'
  · have q := S1 a u h
    rw [if_neg (nA e (by simp))] at q
    exact x'.fz a u q (t2 e (by simp))
  · have q := S1 a u h
    rw [if_neg (nA e (by simp))] at q
    exact x'.oth a u q (t2 e (by simp))
  · exact x'.bx n (t2 (a := o.bx n) e (by simp))
  · exact x'.trk _ _ (S1 a u h)
end

/-! ### hidden and shown -/
mutual
/-- no list within -/
def LF : D → Bool
  | .lst _ => false
  | .dct _ _ _ => false
  | .ins _ _ _ => false
  | .tup xs => LFs xs
  | _ => true
def LFs : List D → Bool
  | [] => true
  | x :: xs => LF x && LFs xs
end
section
variable {K : PySem.W.Frag} {cn : Wd} {o o' : Own} {H : Hp}
mutual
theorem Dr.lf (ht : ∀ a xs, H a = some (.tup xs) → o.tg a = none → o'.tg a = none) (hb : ∀ n, o.tg (o.bx n) = some (.box n) → o'.bx n = o.bx n ∧ o'.tg (o.bx n) = some (.box n)) : ∀ {v d}, Dr K cn o H v d → LF d = true → Dr K cn o' H v d
  | _, _, .non, _ => .non
  | _, _, .bl b, _ => .bl b
  | _, _, .int b, _ => .int b
  | _, _, .str b h, _ => .str b h
  | _, _, .lst _ _, e => by simp [LF] at e
  | _, _, .tup h t, e => .tup ⟨⟨h.1.1, ht _ _ h.1.1 h.1.2⟩, h.2⟩ (DrAll.lf ht hb t (by simpa [LF] using e))
  | _, _, .dk _ _ _ _ _, e => by simp [LF] at e
  | _, _, .dt _ _ _ _ _, e => by simp [LF] at e
  | _, _, .ins _ _ _ _, e => by simp [LF] at e
  | _, _, .box n h, _ => by
    obtain ⟨e, t⟩ := hb n h
    rw [← e]
    exact .box n (by rw [e]; exact t)
theorem DrAll.lf (ht : ∀ a xs, H a = some (.tup xs) → o.tg a = none → o'.tg a = none) (hb : ∀ n, o.tg (o.bx n) = some (.box n) → o'.bx n = o.bx n ∧ o'.tg (o.bx n) = some (.box n)) : ∀ {v d}, DrAll K cn o H v d → LFs d = true → DrAll K cn o' H v d
  | _, _, .nil, _ => .nil
  | _, _, .cons h t, e => by
    simp only [LFs, Bool.and_eq_true] at e
    exact .cons (Dr.lf ht hb h e.1) (DrAll.lf ht hb t e.2)
end
end
def isStm : Box → Bool
  | .stm _ _ _ _ => true
  | _ => false
/-- another owning, of boxes of draws alone -/
theorem RelG.stm {K : PySem.W.Frag} {cn : Wd} {o o' : Own} {H : Hp} {g : List Box} (R : RelG K cn o H g) (hs : g.all isStm = true) (st : ∀ a t, isBoxT t → o.tg a = some t → o'.tg a = some t) (hb : ∀ n, o.tg (o.bx n) = some (.box n) → o'.bx n = o.bx n) (trk : ∀ a t, o'.tg a = some t → ∃ u, H a = some u ∧ NE u) : RelG K cn o' H g := by
  refine ⟨fun n b e => ?_, trk, fun a ps h => st _ _ trivial (R.nt a ps h), fun q hq => ⟨st _ _ trivial (R.tabs q hq).1, (R.tabs q hq).2⟩⟩
  obtain ⟨h1, h2⟩ := R.boxes n b e
  have := List.all_eq_true.mp hs b (List.mem_of_getElem? e)
  cases b with
  | stm c l m x =>
    obtain ⟨q, a1, a2, a3⟩ := h2
    rw [hb n h1]
    exact ⟨st _ _ trivial h1, q, a1, st _ _ trivial a2, a3⟩
  | _ => cases this
/-- the names whose things stay in sight -/
def kept : Option LV → Bool
  | some (.fz d) => LF d
  | some (.ow (.lst ds)) => LFs ds
  | _ => false
def hideE (es : ES) : ES := { es with env := es.env.map fun l => if kept l = true then l else none }
def restL : List (Option LV) → List (Option LV) → List (Option LV)
  | a :: as, b :: bs => (if kept a = true then b else a) :: restL as bs
  | _, _ => []
theorem restL_length : ∀ {as bs : List (Option LV)}, as.length = bs.length → (restL as bs).length = bs.length
  | [], [], _ => rfl
  | a :: as, b :: bs, h => by simp [restL, restL_length (as := as) (bs := bs) (by simpa using h)]
theorem restL_get : ∀ {as bs : List (Option LV)} {i : Nat} {a b : Option LV}, as[i]? = some a → bs[i]? = some b → (restL as bs)[i]? = some (if kept a = true then b else a)
  | [], _, _, _, _, h, _ => by simp at h
  | _ :: _, [], _, _, _, _, h => by simp at h
  | a :: as, b :: bs, 0, _, _, h1, h2 => by simp at h1 h2; subst h1 h2; rfl
  | a :: as, b :: bs, i + 1, _, _, h1, h2 => by
    simp only [List.getElem?_cons_succ] at h1 h2
    simpa [restL] using restL_get h1 h2
open Classical in
noncomputable def hideO (o : Own) (H : Hp) (es : ES) : Own := ⟨fun a => match o.tg a with
  | none => if ∃ u, H a = some u ∧ NE u then some .oth else none
  | some (.slot i) => if kept (es.env[i]?.getD none) = true then some (.slot i) else some .oth
  | t => t, o.bx⟩
open Classical in
noncomputable def showO (o o2 : Own) (H : Hp) (es : ES) : Own := ⟨fun a => match o.tg a with
  | none => if ∃ u, H a = some u ∧ NE u then none else o2.tg a
  | some (.slot i) => if kept (es.env[i]?.getD none) = true then o2.tg a else some (.slot i)
  | _ => o2.tg a, o2.bx⟩
section
variable {K : PySem.W.Frag} {cn : Wd} {o o2 : Own} {H H2 : Hp} {es eh : ES} {σ : St} {a : Addr} {u : HO}
theorem hideO_none (h : o.tg a = none) (n : ∀ u, H a = some u → ¬NE u) : (hideO o H es).tg a = none := by
  unfold hideO; simp only [h]
  rw [if_neg]
  rintro ⟨u, hu, hn⟩
  exact n u hu hn
theorem hideO_ne (h : o.tg a = none) (hu : H a = some u) (n : NE u) : (hideO o H es).tg a = some .oth := by
  unfold hideO; simp only [h]
  rw [if_pos ⟨u, hu, n⟩]
theorem hideO_slot {i : Nat} (h : o.tg a = some (.slot i)) : (hideO o H es).tg a = if kept (es.env[i]?.getD none) = true then some (.slot i) else some .oth := by
  unfold hideO; simp only [h]
theorem hideO_box {t : Tag} (hb : isBoxT t) (h : o.tg a = some t) : (hideO o H es).tg a = some t := by
  unfold hideO
  cases t <;> first | exact hb.elim | simp only [h]
theorem hideO_oth (h : o.tg a = some .oth) : (hideO o H es).tg a = some .oth := by unfold hideO; simp only [h]
theorem hide_rel (R : Rel K cn o H es σ) (hs : es.g.all isStm = true) : Rel K cn (hideO o H es) H (hideE es) σ := by
  have ht : ∀ a xs, H a = some (.tup xs) → o.tg a = none → (hideO o H es).tg a = none := fun a xs h e => hideO_none e fun u hu => by rw [h] at hu; cases hu; exact id
  have hb : ∀ n, o.tg (o.bx n) = some (.box n) → (hideO o H es).bx n = o.bx n ∧ (hideO o H es).tg (o.bx n) = some (.box n) := fun n h => ⟨rfl, hideO_box trivial h⟩
  refine ⟨by unfold hideE; simp [R.len], fun i l h => ?_, R.g.stm hs (fun a t hb h => hideO_box hb h) (fun n h => rfl) fun a t h => ?_⟩
  · unfold hideE at h
    simp only [List.getElem?_map] at h
    cases e : es.env[i]? with
    | none => rw [e] at h; cases h
    | some l0 =>
      rw [e] at h
      simp only [Option.map_some, Option.some.injEq] at h
      split at h
      · rename_i hk
        subst h
        have q := R.slots i l e
        cases l with
        | fz d =>
          obtain ⟨v, e1, dr⟩ := q
          exact ⟨v, e1, dr.lf ht hb hk⟩
        | ow d =>
          obtain ⟨p, e1, tp, hc⟩ := q
          cases d with
          | lst ds =>
            obtain ⟨xs, h1, h2, h3⟩ := hc
            exact ⟨p, e1, by rw [hideO_slot tp, e]; exact if_pos hk, xs, h1, h2, h3.lf ht hb hk⟩
          | _ => cases hk
      · cases h
  · cases q : o.tg a with
    | none =>
      unfold hideO at h; simp only [q] at h
      split at h
      · rename_i hu; exact hu
      · cases h
    | some t' => exact R.g.trk a t' q
theorem show_hid (x : Ext (hideO o H es) H o2 H2) (h : o.tg a = none) (hu : H a = some u) (n : NE u) : (showO o o2 H es).tg a = none ∧ o2.tg a = some .oth ∧ H2 a = some u := by
  obtain ⟨t, e⟩ := x.oth a u hu (hideO_ne h hu n)
  refine ⟨?_, t, e⟩
  unfold showO; simp only [h]
  rw [if_pos ⟨u, hu, n⟩]
theorem show_drop {i : Nat} (R : Rel K cn o H es σ) (x : Ext (hideO o H es) H o2 H2) (h : o.tg a = some (.slot i)) (hk : kept (es.env[i]?.getD none) = false) : (showO o o2 H es).tg a = some (.slot i) ∧ o2.tg a = some .oth ∧ H2 a = H a ∧ ∃ u, H2 a = some u ∧ NE u := by
  obtain ⟨u, hu, n⟩ := R.g.trk a _ h
  obtain ⟨t, e⟩ := x.oth a u hu (by rw [hideO_slot h, hk]; rfl)
  refine ⟨?_, t, by rw [e, hu], u, e, n⟩
  unfold showO; simp only [h, hk]; rfl
/-- what o2 says, but for what was hidden -/
theorem show_else (R : Rel K cn o H es σ) (x : Ext (hideO o H es) H o2 H2) (n : o2.tg a ≠ some .oth) : (showO o o2 H es).tg a = o2.tg a := by
  cases q : o.tg a with
  | none =>
    by_cases hu : ∃ u, H a = some u ∧ NE u
    · obtain ⟨u, hu, hn⟩ := hu
      exact (n (show_hid x q hu hn).2.1).elim
    · unfold showO; simp only [q]; rw [if_neg hu]
  | some t =>
    cases t with
    | slot i =>
      cases hk : kept (es.env[i]?.getD none) with
      | false => exact (n (show_drop R x q hk).2.1).elim
      | true => unfold showO; simp only [q, hk]; rfl
    | _ => unfold showO; simp only [q]
theorem show_ext (R : Rel K cn o H es σ) (x : Ext (hideO o H es) H o2 H2) : Ext o H (showO o o2 H es) H2 := by
  refine ⟨fun a u hu h => ?_, fun a u hu h => ?_, fun n h => ?_, x.trk⟩
  · by_cases hn : NE u
    · obtain ⟨h1, _, h3⟩ := show_hid x h hu hn; exact ⟨h1, h3⟩
    · obtain ⟨t, e⟩ := x.fz a u hu (hideO_none h fun u' hu' => by rw [hu] at hu'; cases hu'; exact hn)
      exact ⟨by rw [show_else R x (by rw [t]; simp)]; exact t, e⟩
  · obtain ⟨t, e⟩ := x.oth a u hu (hideO_oth h)
    refine ⟨?_, e⟩
    unfold showO; simp only [h]; exact t
  · obtain ⟨e, t⟩ := x.bx n (hideO_box (a := o.bx n) (t := .box n) trivial h)
    exact ⟨e, by rw [show_else R x (by show o2.tg (o.bx n) ≠ _; rw [show o2.tg (o.bx n) = _ from t]; simp)]; exact t⟩
theorem show_rel (R : Rel K cn o H es σ) (x : Ext (hideO o H es) H o2 H2) (R2 : Rel K cn o2 H2 eh σ) : Rel K cn (showO o o2 H es) H2 { eh with env := restL es.env eh.env } σ := by
  have X := show_ext R x
  have ll : es.env.length = eh.env.length := by rw [← R.len, R2.len]
  have L : Own.Less o2 (showO o o2 H es) := ⟨fun a e => by rw [show_else R x (by rw [e]; simp)]; exact e, fun n e => ⟨rfl, by rw [show_else R x (by rw [e]; simp)]; exact e⟩⟩
  refine ⟨by rw [R2.len, restL_length ll], fun i l h => ?_, R2.g.tr L (fun a t hb e => by rw [show_else R x (by rw [e]; cases t <;> first | exact hb.elim | simp)]; exact e) fun a t e => ?_⟩
  · have hi : i < eh.env.length := by
      have := (List.getElem?_eq_some_iff.mp h).1
      rw [restL_length ll] at this; exact this
    have h1 : es.env[i]? = some es.env[i] := List.getElem?_eq_getElem (by omega)
    have h2 : eh.env[i]? = some eh.env[i] := List.getElem?_eq_getElem hi
    have h3 := restL_get h1 h2
    rw [h] at h3
    have h3 := Option.some.inj h3
    split at h3
    · exact (R2.slots i l (by rw [h2, h3])).tr L fun a e => by rw [show_else R x (by rw [e]; simp)]; exact e
    · rename_i hk
      have hk' : kept (es.env[i]?.getD none) = false := by rw [h1]; simpa using hk
      have q := R.slots i l (by rw [h1, h3])
      cases l with
      | fz d => obtain ⟨v, e, dr⟩ := q; exact ⟨v, e, dr.ext X⟩
      | ow d =>
        obtain ⟨p, e, tp, hc⟩ := q
        obtain ⟨z1, _, z3, _⟩ := show_drop R x tp hk'
        exact ⟨p, e, z1, hc.ext X z3⟩
  · cases q : o.tg a with
    | none =>
      unfold showO at e; simp only [q] at e
      split at e
      · cases e
      · exact R2.g.trk a t e
    | some t' =>
      cases t' with
      | slot i =>
        cases hk : kept (es.env[i]?.getD none) with
        | false => exact (show_drop R x q hk).2.2.2
        | true => unfold showO at e; simp only [q, hk] at e; exact R2.g.trk a t e
      | _ => unfold showO at e; simp only [q] at e; exact R2.g.trk a t e
/-- what was made meanwhile is no old object -/
theorem show_fresh (x : Ext (hideO o H es) H o2 H2) {L : Addr} {ys : List V} (hL : H2 L = some (.lst ys)) (tL : o2.tg L = none) : ∀ a u, H a = some u → (o.tg a = none ∨ o.tg a = some .oth) → a ≠ L := by
  rintro a u hu h rfl
  rcases h with h | h
  · by_cases hn : NE u
    · have := (show_hid x h hu hn).2.1
      rw [tL] at this; cases this
    · obtain ⟨_, e⟩ := x.fz a u hu (hideO_none h fun u' hu' => by rw [hu] at hu'; cases hu'; exact hn)
      rw [hL] at e; cases e; exact hn trivial
  · have := (x.oth a u hu (hideO_oth h)).1
    rw [tL] at this; cases this
end
end Dl
end
section
set_option Elab.async false
set_option linter.all false
set_option maxRecDepth 100000
set_option maxHeartbeats 2000000
/-! DlZk: the unit: x.append(new); if c2: return False; if not _law_apart([x[1][1]]) or c3: return False. -/
namespace Dl
open PySem PySem.Spec PyProof.Rows L2
def isFzL : Option (Option LV) → Bool
  | some (some (.fz (.lst _))) => true
  | _ => false
def keepL (ks : List Nat) (env : List (Option LV)) (j : Nat) : Option LV → Option LV
  | some (.fz (.lst ds)) => if (LFs ds && (ks.contains j && isFzL env[j]?)) = true then some (.fz (.lst ds)) else none
  | some (.fz d) => if LF d = true then some (.fz d) else none
  | _ => none
def keepE (ks : List Nat) (es es3 : ES) : ES := { es3 with env := es3.env.mapIdx (keepL ks es.env) }
mutual
/-- no list, no box within -/
def PF : D → Bool
  | .non => true
  | .bl _ => true
  | .int _ => true
  | .str _ => true
  | .tup xs => PFs xs
  | _ => false
def PFs : List D → Bool
  | [] => true
  | x :: xs => PF x && PFs xs
end
mutual
theorem Dr.tr {K : PySem.W.Frag} {cn : Wd} {o : Own} {H : Hp} : ∀ {v d}, Dr K cn o H v d → PF d = true → Tr H v d []
  | _, _, .non, _ => .non
  | _, _, .bl b, _ => .bl b
  | _, _, .int b, _ => .int b
  | _, _, .str b h, _ => .str b h
  | _, _, .tup h t, e => .tup h.1.1 h.2 (DrAll.tr t (by simpa [PF] using e))
  | _, _, .lst _ _, e => by simp [PF] at e
  | _, _, .dk _ _ _ _ _, e => by simp [PF] at e
  | _, _, .dt _ _ _ _ _, e => by simp [PF] at e
  | _, _, .ins _ _ _ _, e => by simp [PF] at e
  | _, _, .box n h, e => by simp [PF] at e
theorem DrAll.tr {K : PySem.W.Frag} {cn : Wd} {o : Own} {H : Hp} : ∀ {v d}, DrAll K cn o H v d → PFs d = true → TrAll H v d []
  | _, _, .nil, _ => .nil
  | _, _, .cons h t, e => by
    simp only [PFs, Bool.and_eq_true] at e
    exact .cons (A := []) (B := []) (Dr.tr h e.1) (DrAll.tr t e.2)
end
def retF : S := fun es => some (.rt (.bl false) es)
/-- the last part: the data of the told thing is x[1][1] -/
def unit3 (ks : List Nat) (es : ES) (ds : List D) (F1 : F) (g3 : M Bool) : S := fun es3 =>
  if es3.g.all isStm = true then match F1 [lateD (.lst [.lst ds])] es3.g with
    | some (.ok (.bl true) g') => S.of g3 (fun c => if c = true then retF else S.skip) { keepE ks es es3 with g := g' }
    | some (.ok (.bl false) g') => retF { keepE ks es es3 with g := g' }
    | _ => none
  else none
def unitS (i : Nat) (ks : List Nat) (n : Nat) (g1 : M D) (g2 : M Bool) (F1 : F) (g3 : M Bool) : S := fun es =>
  if (es.g.all isStm && kept (es.env[i]?.getD none)) = true then
    match apndM (fun es => match es.env[i]? with | some (some _) => some (.ok (.sl i) es) | _ => none) g1 (hideE es) with
    | some (.ok _ eh) => match eh.env[i]? with
      | some (some (.ow (.lst [t0, .tup [t1, .lst ds]]))) =>
        if depD (.lst [.lst ds]) < n ∧ PFs ds = true ∧ ds.length < 16777216 then S.of g2 (fun c => if c = true then retF else unit3 ks es ds F1 g3) ⟨(restL es.env eh.env).set i (some (.fz (.lst [t0, .tup [t1, .lst ds]]))), eh.g⟩ else none
      | _ => none
    | _ => none
  else none
section
variable {K : PySem.W.Frag} {cn : Wd} {o o5 : Own} {H H5 : Hp} {es es3 : ES} {σ : St} {L N : Addr} {ks : List Nat} {kk : Nat}
/-- the new things alone may be changed now -/
def offO (o : Own) (L N : Addr) (kk : Nat) : Own := ⟨fun a => if a = L ∨ a = N then some (.slot kk) else o.tg a, o.bx⟩
theorem off_else {a : Addr} (h1 : a ≠ L) (h2 : a ≠ N) : (offO o L N kk).tg a = o.tg a := by
  unfold offO
  exact if_neg (fun h => h.elim h1 h2)
theorem off_tag {a : Addr} {t : Tag} (tL : o.tg L = none) (tN : o.tg N = some .oth) (h : o.tg a = some t) (n : t ≠ .oth) : (offO o L N kk).tg a = some t := by
  rw [off_else (fun e => by rw [e, tL] at h; cases h) (fun e => by rw [e, tN] at h; cases h; exact n rfl)]
  exact h
theorem off_rel {ys zs : List V} (R : Rel K cn o5 H5 es3 σ) (hs : es3.g.all isStm = true) (hL : H5 L = some (.lst ys)) (tL : o5.tg L = none) (hN : H5 N = some (.lst zs)) (tN : o5.tg N = some .oth)
    (hks : ∀ (j : Nat) (q : Addr), σ[j]? = some (some (.ref q)) → isFzL es.env[j]? = true → q ≠ L) : RelG K cn (offO o5 L N kk) H5 es3.g ∧ Rel K cn (offO o5 L N kk) H5 (keepE ks es es3) σ := by
  have tg := fun {a : Addr} {t : Tag} => off_tag (a := a) (t := t) (kk := kk) tL tN
  have G : RelG K cn (offO o5 L N kk) H5 es3.g := R.g.stm hs (fun a t hb h => tg h (by cases t <;> first | exact hb.elim | simp)) (fun n h => rfl) fun a t h => by
    by_cases e1 : a = L
    · subst e1; exact ⟨_, hL, trivial⟩
    · by_cases e2 : a = N
      · subst e2; exact ⟨_, hN, trivial⟩
      · rw [off_else e1 e2] at h; exact R.g.trk a t h
  have ht : ∀ a xs, H5 a = some (.tup xs) → o5.tg a = none → (offO o5 L N kk).tg a = none := fun a xs h e => by
    rw [off_else (fun q => by rw [q, hL] at h; cases h) (fun q => by rw [q, hN] at h; cases h)]; exact e
  have hb : ∀ n, o5.tg (o5.bx n) = some (.box n) → (offO o5 L N kk).bx n = o5.bx n ∧ (offO o5 L N kk).tg (o5.bx n) = some (.box n) := fun n h => ⟨rfl, tg h (by simp)⟩
  refine ⟨G, by unfold keepE; simp [R.len], fun j l h => ?_, G⟩
  unfold keepE at h
  simp only [List.getElem?_mapIdx] at h
  cases e : es3.env[j]? with
  | none => rw [e] at h; cases h
  | some l0 =>
    rw [e] at h
    simp only [Option.map_some, Option.some.injEq] at h
    unfold keepL at h
    split at h
    · rename_i ds
      split at h
      · rename_i hk
        cases h
        simp only [Bool.and_eq_true] at hk
        obtain ⟨v, e1, dr⟩ := R.slots j _ e
        cases dr with
        | lst hf t =>
          rename_i q xs
          refine ⟨.ref q, e1, .lst ⟨⟨hf.1.1, ?_⟩, hf.2⟩ (t.lf ht hb hk.1)⟩
          rw [off_else (hks j q e1 hk.2.2) (fun z => by have := hf.1.2; rw [z, tN] at this; cases this)]
          exact hf.1.2
      · cases h
    · split at h
      · rename_i hk
        cases h
        obtain ⟨v, e1, dr⟩ := R.slots j _ e
        exact ⟨v, e1, dr.lf ht hb hk⟩
      · cases h
    · cases h
end
section
variable {X : Cx} {cn : Wd} {e1 c2 c3 : Expr} {rb rb2 rest : List Stmt} {told : Str} {pos1 pos2 pos3 p1 p2 p3 p4 p5 p6 p7 p8 p9 p10 : Pos} {j1 j2 : Nat} {i kk n : Nat} {ks : List Nat} {g1 : M D} {g2 g3 : M Bool} {F1 : F} {frest fr : S}
variable {fa : Addr} {fd : FuncData}
theorem DSs.unit (hN : X.N[i]? = some told) (hv : Vis X.env.scope told) (hd : (told == ("__debug__" : Str)) = false) (hcd : (told == ("__classdict__" : Str)) = false)
    (D1 : DE X cn e1 (apndM (fun es => match es.env[i]? with | some (some _) => some (.ok (.sl i) es) | _ => none) g1)) (hs1 : swapsWith e1 none pos1.line X.env = pure false)
    (D2 : DT X cn c2 g2) (D3 : DT X cn c3 g3) (Dr' : DSs X cn rb fr) (Dr2 : DSs X cn rb2 fr) (hfr : ∀ es, fr es = retF es)
    (FA : FnOk X.prog X.w X.K X.mg X.base (L2.CX X.prog X.w) (n + 2) fa fd ["thing"] (spA X.K cn kk n F1)) (hr : Room (n + 2) X.A) (hg : Gl X "_law_apart") (hm : X.mg "_law_apart" = some (.ref fa)) (hk : PySem.W.keepIn X.K (.ref fa) = true) (hb : Binds X.K fd ["thing"] [])
    (Dk : DSs X cn rest frest) :
    DSs X cn (.Expr e1 pos1 :: .If c2 rb [] pos2 :: .If (.BoolOp .Or [.UnaryOp .Not (.Call (.Name "_law_apart" p1) [.List [.Subscript (.Subscript (.Name told p2) (.Constant (.int 1) j1 p3) p4) (.Constant (.int 1) j2 p5) p6] p7] [] p8) p9, c3] p10) rb2 [] pos3 :: rest) (S.seq (unitS i ks n g1 g2 F1 g3) frest) := by
  intro Wx tk
  refine pss_i (pss_cons (ps_expr (D1 Wx tk) hs1) (pss_cons (ps_if (D2 Wx tk) (Dr' Wx tk) pss_nil) (pss_cons (ps_if (PW.pt (pw_or (pt_not (pt_val (pe_callSD (E := WE Wx) FA hr hg hm hk hb .nil (fun σ => passAt tk σ)
    (pa_cons (pe_lst (pa_cons (pe_ix ix_tup (pe_ix ix_list (pe_var hN hv hd hcd) pe_int (fun _ _ => rfl)) pe_int (fun _ _ => rfl)) pa_nil rfl)) pa_nil rfl) rfl rfl rfl))) (pw_or1 (D3 Wx tk)))) (Dr2 Wx tk) pss_nil) (Dk Wx tk)))) fun Dn σ H h => ?_
  obtain ⟨o, es, r, R, h, hp⟩ := h
  have ret : ∀ {D' : Ends} {o' : Own} {H' : Hp} {es' : ES}, D'.rt = Dn.rt → Ext o H o' H' → Rel X.K cn o' H' es' σ → r = .rt (.bl false) es' → tS X.K cn Wx fr D' σ H' := fun {D' o' H' es'} e x R' er => by
    subst er
    refine ⟨o', es', _, R', (by rw [hfr]; rfl), ?_⟩
    show PR_ X.K cn o' H' D'.rt _ es'
    rw [e]
    exact fun o2 H2 v y => hp o2 H2 v (x.trans y)
  unfold S.seq at h
  cases hu : unitS i ks n g1 g2 F1 g3 es with
  | none => rw [hu] at h; cases h
  | some q =>
  rw [hu] at h
  unfold unitS at hu
  split at hu
  · rename_i hs
    rw [Bool.and_eq_true] at hs
    split at hu
    · rename_i rv eh he
      split at hu
      · rename_i t0 t1 ds et
        split at hu
        · rename_i hdep
          -- the new thing is put behind
          refine ⟨hideO o H es, hideE es, _, hide_rel R hs.1, he, fun o2 H2 v0 x2 R2 _ => ?_⟩
          have RS := show_rel R x2 R2
          have XS := show_ext R x2
          have fresh := fun {L : Addr} {ys : List V} => show_fresh (es := es) x2 (L := L) (ys := ys)
          obtain ⟨pt, σt, tpt, ws, hws, lws, aws⟩ := R2.slots i _ et
          cases aws with
          | cons d0 aw1 =>
          cases aw1 with
          | cons d1 aw2 =>
          cases aw2
          cases d1 with
          | tup ft at_ =>
          cases at_ with
          | cons dt0 at1 =>
          cases at1 with
          | cons dt1 at2 =>
          cases at2
          cases dt1 with
          | lst fL aL =>
          rename_i v0' w0 w1 L ys
          have fr' := fresh fL.1.1 fL.1.2
          have ll : es.env.length = eh.env.length := by rw [← R.len, R2.len]
          have hil : i < eh.env.length := (List.getElem?_eq_some_iff.mp et).1
          have hki : (restL es.env eh.env)[i]? = some (some (.ow (.lst [t0, .tup [t1, .lst ds]]))) := by
            rw [restL_get (List.getElem?_eq_getElem (by omega : i < es.env.length)) et]
            have := hs.2
            rw [List.getElem?_eq_getElem (by omega : i < es.env.length)] at this
            simp only [Option.getD_some] at this
            rw [if_pos this]
          obtain ⟨R3, X3, _⟩ := RS.freezeS hki σt
          have X4 := XS.trans X3
          have n3 : ∀ {a : Addr}, o2.tg a = none → ((showO o o2 H es).put pt none).tg a = none := fun {a} e => by
            by_cases q : a = pt
            · subst q; exact put_same
            · rw [put_ne q, show_else R x2 (by rw [e]; simp)]; exact e
          rcases S.of_some hu with ⟨y, es3, e2, rfl⟩ | ⟨b, es3, e2, hu⟩
          · refine ⟨_, _, _, R3, e2, ?_⟩
            cases h
            exact fun o' H' cls dx y' R' k => hp o' H' σ cls dx (X4.trans y') R' k
          refine ⟨_, _, _, R3, e2, fun o4 H4 x4 R4 => ?_⟩
          cases b with
          | true =>
            cases hu
            cases h
            exact ret rfl (X4.trans x4) R4 rfl
          | false =>
          have hu : unit3 ks es ds F1 g3 es3 = some q := hu
          have xa := X4.trans x4
          have a1 := x4.fz pt _ hws put_same
          have a2 := x4.fz _ _ ft.1.1 (n3 ft.1.2)
          have a3 := x4.fz _ _ fL.1.1 (n3 fL.1.2)
          rw [if_neg (by decide)]
          refine ⟨.ref pt, σt, pt, _, 1, .ref _, rfl, rfl, .of a1.2, rfl, _, _, 1, .ref L, rfl, rfl, .of a2.2, rfl, by show 1 ≤ sizeLine; decide, fun N nN => ?_⟩
          obtain ⟨R5, x5⟩ := R4.newT (u := .lst [.ref L]) nN trivial
          have nLN : L ≠ N := fun e => by rw [e, nN] at a3; cases a3.2
          have hL5 : upd H4 N (.lst [.ref L]) L = some (.lst ys) := by rw [upd_ne nLN]; exact a3.2
          have tL5 : (o4.put N (some .oth)).tg L = none := by rw [put_ne nLN]; exact a3.1
          unfold unit3 at hu
          split at hu
          · rename_i hs3
            have fsh : ∀ (j : Nat) (q : Addr), σ[j]? = some (some (.ref q)) → isFzL es.env[j]? = true → q ≠ L := fun j q hj hf => by
              unfold isFzL at hf
              split at hf
              · rename_i zs ej
                obtain ⟨v, ev, dr⟩ := R.slots j _ ej
                rw [hj] at ev
                cases ev
                cases dr with
                | lst hq _ => exact fr' _ _ hq.1.1 (.inl hq.1.2)
              · cases hf
            obtain ⟨G6, R6⟩ := off_rel (kk := kk) (ks := ks) R5 hs3 hL5 tL5 upd_same put_same fsh
            have hly := aL.length
            have Ls : Own.Less o2 ((showO o o2 H es).put pt none) := ⟨fun a e => n3 e, fun n e => ⟨rfl, by
              show ((showO o o2 H es).put pt none).tg (o2.bx n) = _
              rw [put_ne (fun z => by rw [z, tpt] at e; cases e), show_else R x2 (by rw [e]; simp)]; exact e⟩⟩
            have aL5 := ((aL.less Ls).ext x4).ext x5
            have T6 : Tr (upd H4 N (.lst [.ref L])) (.ref N) (.lst [.lst ds]) [N, L] :=
              .lst upd_same (by show 1 < sizeLine; decide) (.cons (A := [L]) (B := []) (.lst hL5 (by rw [hly, line_eq]; exact hdep.2.2) (DrAll.tr aL5 hdep.2.1)) .nil)
            have ext5 : ∀ {o' : Own} {H' : Hp}, Ext (offO (o4.put N (some .oth)) L N kk) (upd H4 N (.lst [.ref L])) o' H' → Ext o H o' H' := fun {o' H'} y => by
              have stay : ∀ {a : Addr} {u : HO}, H a = some u → (o.tg a = none ∨ o.tg a = some .oth) → a ≠ L ∧ a ≠ N := fun {a u} hu ht => ⟨fr' a u hu ht, fun e => by
                have : ∃ u', H4 a = some u' := xa.trk a u hu
                rw [e, nN] at this
                obtain ⟨_, z⟩ := this
                cases z⟩
              refine ⟨fun a u hu ht => ?_, fun a u hu ht => ?_, fun m ht => ?_, fun a u hu => ?_⟩
              · obtain ⟨n1, n2⟩ := stay hu (.inl ht)
                obtain ⟨t4, h4⟩ := xa.fz a u hu ht
                exact y.fz a u (by rw [upd_ne n2]; exact h4) (by rw [off_else n1 n2, put_ne n2]; exact t4)
              · obtain ⟨n1, n2⟩ := stay hu (.inr ht)
                obtain ⟨t4, h4⟩ := xa.oth a u hu ht
                exact y.oth a u (by rw [upd_ne n2]; exact h4) (by rw [off_else n1 n2, put_ne n2]; exact t4)
              · obtain ⟨e4, t4⟩ := xa.bx m ht
                obtain ⟨e5, t5⟩ := x5.bx m (by rw [e4]; exact t4)
                rw [e4] at e5 t5
                have q := y.bx m (by
                  show (offO (o4.put N (some .oth)) L N kk).tg ((o4.put N (some .oth)).bx m) = _
                  rw [e5]
                  exact off_tag tL5 put_same t5 (by simp))
                exact ⟨q.1.trans e5, by
                  have := q.2
                  rw [show (offO (o4.put N (some .oth)) L N kk).bx m = o.bx m from e5] at this
                  exact this⟩
              · obtain ⟨u4, h4⟩ := xa.trk a u hu
                obtain ⟨u5, h5⟩ := x5.trk a u4 h4
                exact y.trk a u5 h5
            have call : ∀ (b : Bool) (g' : List Box), F1 [lateD (.lst [.lst ds])] es3.g = some (.ok (.bl b) g') → ∀ Z : VK, (∀ o' H', Ext o H o' H' → Rel X.K cn o' H' { keepE ks es es3 with g := g' } σ → Z (.bl b) H') → spA X.K cn kk n F1 [.ref N] (upd H4 N (.lst [.ref L])) Z (WE Wx σ) := fun b g' hF Z hZ => by
              refine ⟨.ref N, .lst [.lst ds], [N, L], offO (o4.put N (some .oth)) L N kk, es3.g, g', b, rfl, G6, T6, by simp; exact nLN.symm, fun a ha => ?_, hdep.1, hF, fun o' H' y G' => hZ o' H' (ext5 y) ⟨R6.len, fun j l hj => ?_, G'⟩⟩
              · simp only [List.mem_cons, List.not_mem_nil, or_false] at ha
                unfold offO
                exact if_pos ha.symm
              · have q := R6.slots j l hj
                cases l with
                | fz d => obtain ⟨v, e, dr⟩ := q; exact ⟨v, e, dr.ext y⟩
                | ow d =>
                  have hj : (keepE ks es es3).env[j]? = some (some (.ow d)) := hj
                  unfold keepE at hj
                  simp only [List.getElem?_mapIdx] at hj
                  cases e : es3.env[j]? with
                  | none => rw [e] at hj; cases hj
                  | some l0 =>
                    rw [e] at hj
                    simp only [Option.map_some, Option.some.injEq] at hj
                    unfold keepL at hj
                    split at hj <;> first | (split at hj <;> cases hj) | cases hj
            split at hu
            · rename_i g' hF
              unfold tNil
              dsimp only [List.cons_append, List.nil_append]
              refine call true g' hF _ ?_
              intro o' H' y R'
              refine ⟨true, rfl, ?_⟩
              show tT X.K cn Wx g3 σ H' _
              rcases S.of_some hu with ⟨z, es6, e6, rfl⟩ | ⟨c, es6, e6, hu⟩
              · refine ⟨o', _, _, R', e6, ?_⟩
                cases h
                exact fun o7 H7 cls dx y' R7 k => hp o7 H7 σ cls dx (y.trans y') R7 k
              · refine ⟨o', _, _, R', e6, fun o7 H7 y' R7 => ?_⟩
                cases c with
                | true =>
                  cases hu
                  cases h
                  exact ret rfl (y.trans y') R7 rfl
                | false =>
                  cases hu
                  exact ⟨o7, es6, r, R7, h, hp.mono (y.trans y')⟩
            · rename_i g' hF
              cases hu
              cases h
              unfold tNil
              dsimp only [List.cons_append, List.nil_append]
              refine call false g' hF _ ?_
              intro o' H' y R'
              exact ⟨false, rfl, ret rfl y R' rfl⟩
            · cases hu
          · cases hu
        · cases hu
      · cases hu
    · cases hu
  · cases hu
end
end Dl
end
section
set_option Elab.async false
set_option linter.all false
set_option maxRecDepth 100000
set_option maxHeartbeats 2000000
/-! DlZl: a law's def: the stream is begun, then the rest. -/
namespace Dl
open PySem PySem.Spec PyProof.Rows L2
abbrev fdOf (K : PySem.W.Frag) (f : Addr) (x qual : Str) (st : Stmt) : FuncData := PySem.W.fnOf x qual (defArgs st) (defBody st) (defScope st) .none (fdAt K f x st).kwdefaults (fdAt K f x st).doc (fdAt K f x st).pyModule (fdAt K f x st).annotations (fdAt K f x st).code (fdAt K f x st).closureTuple
def es0 (n : Nat) (ns : List Int) (c : Int) : ES := ⟨(List.replicate n none).set 1 (some (.fz (.box 0))), [.stm ns 0 0 c]⟩
def spLaw (K : PySem.W.Frag) (cn : Wd) (n : Nat) (c : Int) (Sl : S) : Sp := fun vs H Q _ => ∃ (a : Addr) (ns : List Int) (es' : ES), vs = [.ref a] ∧ SqL K H a (ns.map V.int) ∧ (∀ q ∈ cn.T, H q.1 = some (.tbl #[])) ∧ Sl (es0 n ns c) = some (.rt (.bl true) es') ∧ ∀ H', Q (.bl true) H'
open Classical in
noncomputable def ownL (H : Hp) (p q : Addr) : Own := ⟨fun a => if a = p then some (.box 0) else if a = q then some (.sub 0 0) else if ∃ ps, H a = some (.tbl ps) then some .tbl else none, fun _ => p⟩
section
variable {P : Program} {w : World} {K : PySem.W.Frag} {mg : Str → Option Value} {base : Heap} {cn : Wd}
theorem law_rel {H : Hp} {p q : Addr} {ns : List Int} {c : Int} {N : List Str} {v : V} (hn : 1 < N.length) (hT : ∀ t ∈ cn.T, H t.1 = some (.tbl #[])) (nq : H q = none) (pq : p ≠ q) (np : H p = none) :
    Rel K cn (ownL H p q) (upd (upd H q (.lst (ns.map V.int))) p (.lst [.ref q, .int 0, .int 0, .int c])) (es0 N.length ns c) ((L2.start N [v]).set 1 (some (.ref p))) := by
  have tp : (ownL H p q).tg p = some (.box 0) := if_pos rfl
  have tq : (ownL H p q).tg q = some (.sub 0 0) := by show (if q = p then _ else if q = q then _ else _) = _; rw [if_neg pq.symm, if_pos rfl]
  have eq : (upd (upd H q (.lst (ns.map V.int))) p (.lst [.ref q, .int 0, .int 0, .int c])) q = some (.lst (ns.map V.int)) := by rw [upd_ne pq.symm, upd_same]
  have el : ∀ {a : Addr}, a ≠ p → a ≠ q → (upd (upd H q (.lst (ns.map V.int))) p (.lst [.ref q, .int 0, .int 0, .int c])) a = H a := fun h1 h2 => by rw [upd_ne h1, upd_ne h2]
  have te : ∀ {a : Addr} {ps : Array Value}, H a = some (.tbl ps) → a ≠ p ∧ a ≠ q := fun {a ps} h => ⟨fun z => (by rw [z, np] at h; cases h), fun z => (by rw [z, nq] at h; cases h)⟩
  have tt : ∀ {a : Addr} {ps : Array Value}, H a = some (.tbl ps) → (ownL H p q).tg a = some .tbl := fun {a ps} h => by
    show (if a = p then _ else if a = q then _ else _) = _
    rw [if_neg (te h).1, if_neg (te h).2, if_pos ⟨ps, h⟩]
  refine ⟨by unfold es0 L2.start; simp; omega, fun i l h => ?_, ⟨fun n b hb => ?_, fun a t h => ?_, fun a ps h => ?_, fun t ht => ?_⟩⟩
  · unfold es0 at h
    have h : ((List.replicate N.length none).set 1 (some (LV.fz (.box 0))))[i]? = some (some l) := h
    by_cases hi : i = 1
    · subst hi
      rw [List.getElem?_set_self (by simpa using hn)] at h
      cases h
      exact ⟨.ref p, List.getElem?_set_self (by unfold L2.start; simp; omega), .box 0 tp⟩
    · rw [List.getElem?_set_ne (fun e => hi e.symm), List.getElem?_replicate] at h
      split at h <;> cases h
  · unfold es0 at hb
    cases n with
    | zero =>
      simp at hb
      subst hb
      exact ⟨tp, q, upd_same, tq, eq⟩
    | succ n => simp at hb
  · unfold ownL at h
    dsimp only at h
    by_cases h1 : a = p
    · subst h1; exact ⟨_, upd_same, trivial⟩
    · by_cases h2 : a = q
      · subst h2; exact ⟨_, eq, trivial⟩
      · rw [if_neg h1, if_neg h2] at h
        split at h
        · rename_i hx
          obtain ⟨ps, hx⟩ := hx
          exact ⟨.tbl ps, by rw [el h1 h2]; exact hx, trivial⟩
        · cases h
  · by_cases h1 : a = p
    · subst h1; rw [upd_same] at h; cases h
    · by_cases h2 : a = q
      · subst h2; rw [eq] at h; cases h
      · rw [el h1 h2] at h
        exact tt h
  · have e := hT t ht
    obtain ⟨n1, n2⟩ := te e
    exact ⟨tt e, #[], by rw [el n1 n2]; exact e, trivial, fun pos cv hc => by cases hc⟩
variable {st : Stmt} {f fs : Addr} {fd fds : FuncData} {N : List Str} {rest : List Stmt} {q1 q2 q3 q4 q5 : Pos} {k : Nat} {c : Int} {Sl : S}
theorem law_core {x qual : Str} {cdv : Value} {A : Around} {outer : List Env} {s : Shared} {H : Hp} {E : XK} {vs : List V} {Q : VK} (Sc : FnScope N ["script"] (defScope st)) (h0 : N[0]? = some (Str.ofString "script")) (h1 : N[1]? = some (Str.ofString "stream"))
    (FS : FnOk P w K mg base (L2.CX P w) 1 fs fds ["script"] (spStart K c)) (ms : mg "_law_start" = some (.ref fs)) (ks : PySem.W.keepIn K (.ref fs) = true) (bs : Binds K fds ["script"] []) (hk : 1 ≤ k)
    (l1 : Loc (defScope st) "stream") (g1 : (defScope st).names.lookup ("_law_start" : Str) = some .globalImplicit)
    (hbody : defBody st = .Assign [.Name "stream" q1] (.Call (.Name "_law_start" q2) [.Name "script" q3] [] q4) q5 :: rest)
    (hr : Room k (A.deeper (envOfC qual (defScope st) s.heap.objs.size f cdv))) (hb : DSs (cxOf (L2.CX P w) P w K mg base N qual (defScope st) f cdv A outer s H E) cn rest Sl)
    (h : spLaw K cn N.length c Sl vs H Q E) : ∃ t, PSs (cxOf (L2.CX P w) P w K mg base N qual (defScope st) f cdv A outer s H E) (defBody st) t ∧ t { nx := fun _ H' => Q .non H', rt := Q } (L2.start N vs) H := by
  obtain ⟨a, ns, es', rfl, ha, hT, hS, hq⟩ := h
  have vis : Vis (defScope st) "script" := by
    rcases Sc.par "script" (by simp) with q | q
    · exact .inl q
    · exact .inr (.inl q)
  have tk : Takes (cxOf (L2.CX P w) P w K mg base N qual (defScope st) f cdv A outer s H E) (fun cls d _ H => E cls d H) := takes_of rfl rfl rfl rfl
  rw [hbody]
  refine ⟨_, pss_cons (ps_set (i := 1) Sc.nd h1 l1 (pe_callSD (E := WE fun cls d _ H => E cls d H) FS (hr.mono hk) g1 ms ks bs .nil (fun σ => passAt tk σ) (pa_cons (pe_var (i := 0) h0 vis rfl rfl) pa_nil rfl) rfl rfl rfl) rfl (.inl rfl)) (hb _ tk), ?_⟩
  have hn : 1 < N.length := (List.getElem?_eq_some_iff.mp h1).1
  refine ⟨.ref a, by unfold L2.start; simp, a, ns, rfl, ha, fun q p nq pq np => ?_⟩
  refine ⟨ownL H p q, es0 N.length ns c, _, law_rel hn hT nq pq np, hS, fun o' H' v x' G' d' => ?_⟩
  cases d'
  exact hq H'
theorem spLaw_len {n : Nat} {vs : List V} {H : Hp} {Q : VK} {E : XK} (h : spLaw K cn n c Sl vs H Q E) : vs.length = 1 := by obtain ⟨_, _, _, rfl, _⟩ := h; rfl
/-- what is told of a law's def at last -/
def LawOk (P : Program) (w : World) (K : PySem.W.Frag) (mg : Str → Option Value) (base : Heap) (cn : Wd) (k n : Nat) (c : Int) (Sl : S) (fa : Addr) (st : Stmt) : Prop :=
  ∃ fd, FnOk P w K mg base (L2.CX P w) k fa fd ["script"] (spLaw K cn n c Sl) ∧ mg "law" = some (.ref fa) ∧ Fun K "law" "law" st fa fd
theorem HFunL.law (U : HFunL K mg base cn "law" st) (Sc : FnScope N ["script"] (defScope st)) (h0 : N[0]? = some (Str.ofString "script")) (h1 : N[1]? = some (Str.ofString "stream"))
    (FS : FnOk P w K mg base (L2.CX P w) 1 fs fds ["script"] (spStart K c)) (ms : mg "_law_start" = some (.ref fs)) (ks : PySem.W.keepIn K (.ref fs) = true) (bs : Binds K fds ["script"] []) (hk : 1 ≤ k)
    (l1 : Loc (defScope st) "stream") (g1 : (defScope st).names.lookup ("_law_start" : Str) = some .globalImplicit)
    (hbody : defBody st = .Assign [.Name "stream" q1] (.Call (.Name "_law_start" q2) [.Name "script" q3] [] q4) q5 :: rest)
    (hb : ∀ (cdv : Value) (f : Addr) (A : Around) (outer : List Env) (s : Shared) (H : Hp) (E : XK), Room k (A.deeper (envOfC "law" (defScope st) s.heap.objs.size f cdv)) → (A.deeper (envOfC "law" (defScope st) s.heap.objs.size f cdv)).units + 65 < cLine → N.Nodup →
      PassesOwn (model P w) (A.deeper (envOfC "law" (defScope st) s.heap.objs.size f cdv)) (envOfC "law" (defScope st) s.heap.objs.size f cdv) (cxOf (L2.CX P w) P w K mg base N "law" (defScope st) f cdv A outer s H E).xe →
      LamAt (cxOf (L2.CX P w) P w K mg base N "law" (defScope st) f cdv A outer s H E) cn → DSs (cxOf (L2.CX P w) P w K mg base N "law" (defScope st) f cdv A outer s H E) cn rest Sl) :
    ∃ fa, LawOk P w K mg base cn (k + 1) N.length c Sl fa st := by
  obtain ⟨f, oc, od, kV, doc, pm, an, cc, Pt, ct, osl, lk, hcd, hkp, hm, TB, hT, hu⟩ := U.ex
  refine ⟨f, _, fn_of lk hcd Sc (fun vs H Q E h => spLaw_len h) fun A outer s H vs Q E hr h => ?_, hm, ⟨⟨oc, od, kV, doc, pm, an, _, ct, osl, rfl, lk, hcd⟩, hkp⟩⟩
  have hun : (A.deeper (envOfC "law" (defScope st) s.heap.objs.size f (.ref cc))).units + 65 < cLine := by have := hr.un; omega
  exact law_core (x := "law") Sc h0 h1 FS ms ks bs hk l1 g1 hbody hr (hb (.ref cc) f A outer s H E hr hun Sc.nd (passes_of (X := cxOf (L2.CX P w) P w K mg base N "law" (defScope st) f (.ref cc) A outer s H E) rfl) ⟨cc, Pt, TB, rfl, hT, hu⟩) h
theorem HFun.law (U : HFun K mg "law" st) (Sc : FnScope N ["script"] (defScope st)) (h0 : N[0]? = some (Str.ofString "script")) (h1 : N[1]? = some (Str.ofString "stream"))
    (FS : FnOk P w K mg base (L2.CX P w) 1 fs fds ["script"] (spStart K c)) (ms : mg "_law_start" = some (.ref fs)) (ks : PySem.W.keepIn K (.ref fs) = true) (bs : Binds K fds ["script"] []) (hk : 1 ≤ k)
    (l1 : Loc (defScope st) "stream") (g1 : (defScope st).names.lookup ("_law_start" : Str) = some .globalImplicit)
    (hbody : defBody st = .Assign [.Name "stream" q1] (.Call (.Name "_law_start" q2) [.Name "script" q3] [] q4) q5 :: rest)
    (hb : ∀ (cdv : Value) (f : Addr) (A : Around) (outer : List Env) (s : Shared) (H : Hp) (E : XK), Room k (A.deeper (envOfC "law" (defScope st) s.heap.objs.size f cdv)) → (A.deeper (envOfC "law" (defScope st) s.heap.objs.size f cdv)).units + 65 < cLine → N.Nodup →
      PassesOwn (model P w) (A.deeper (envOfC "law" (defScope st) s.heap.objs.size f cdv)) (envOfC "law" (defScope st) s.heap.objs.size f cdv) (cxOf (L2.CX P w) P w K mg base N "law" (defScope st) f cdv A outer s H E).xe →
      DSs (cxOf (L2.CX P w) P w K mg base N "law" (defScope st) f cdv A outer s H E) cn rest Sl) :
    ∃ fa, LawOk P w K mg base cn (k + 1) N.length c Sl fa st := by
  obtain ⟨f, fd, FU, hm⟩ := U.ex
  refine ⟨f, fd, FU.okX Sc (fun vs H Q E h => spLaw_len h) fun cdv A outer s H vs Q E hr h => ?_, hm, FU⟩
  have hun : (A.deeper (envOfC "law" (defScope st) s.heap.objs.size f cdv)).units + 65 < cLine := by have := hr.un; omega
  exact law_core (x := "law") Sc h0 h1 FS ms ks bs hk l1 g1 hbody hr (hb cdv f A outer s H E hr hun Sc.nd (passes_of (X := cxOf (L2.CX P w) P w K mg base N "law" (defScope st) f cdv A outer s H E) rfl)) h
end
end Dl
end
section
set_option Elab.async false
set_option linter.all false
set_option maxRecDepth 100000
set_option maxHeartbeats 8000000
namespace K76
open PySem PySem.Spec PyProof.Rows L2 Dl
def stAt (i : Nat) : Stmt := (PySem.Challenge.pw_cutintwo_k76_whole_texts_of_deeds.main.body[i]?).getD (.Pass ⟨0, 0, 0, 0⟩)
variable {P : Program} {w : World} {K : PySem.W.Frag} {mg : Str → Option Value} {base : Heap} {cn : Wd}
def K__law_mwords : List Cl := [⟨"BadText", "text", "line"⟩, ⟨"BadDeed", "deed", "index"⟩]
def K_SIZES : List (Str × Int) := [("words", 3), ("drop", 2), ("both", 4), ("join", 4), ("star", 3)]
def S_is_row : S := S.seq (S.of (Dl.lk (isiM (nmM 0) ["list", "tuple"])) fun d es => some (.rt d es)) (S.skip)
def F_is_row : F := bodyF 1 1 (S_is_row)
theorem C_is_row (U : HFun K mg "is_row" (stAt 6)) (B : Bi mg bns) : Cal P w K mg base cn 1 "is_row" 1 (F_is_row) :=
  U.cal (N := ["thing"]) (ps := ["thing"]) (k := 0) (scope_by (by decide)) (fun _ _ FU => FU.binds fun _ _ _ _ _ _ us hl => match us, hl with | [_], _ => rfl) fun cdv f A outer s H E hr hu hN hp => DSs.cons (R.ret (R.lk (R.isiT B (R.nm 0) (R.ty1 B (R.ty1 B (R.ty0) boot_tuple h_tuple) boot_list h_list) h_isinstance))) (DSs.nil)
def S_is_name : S := S.seq (iteS (orB (notB (Dl.tru (isiM (nmM 0) ["str"]))) (orB (notB (asB (chO .LtE .LtE (cM (.int 1)) (callN (consR (nmM 0) (M.ret [])) lenD) (cM (.int 8))))) (asB (relO .NotIn (ixO (nmM 0) (cM (.int 0))) (cM (.str "abcdefghijklmnopqrstuvwxyz")))))) (S.seq (S.of (Dl.lk (cM (.bl false))) fun d es => some (.rt d es)) (S.skip)) (S.skip)) (S.seq (S.of (Dl.lk (relO .Eq (lcM [1] (seqM (Dl.lk (nmM 0))) (setG 1) (asB (relO .NotIn (nmM 1) (binO .Add (cM (.str "abcdefghijklmnopqrstuvwxyz")) (cM (.str "0123456789"))))) (Dl.lk (nmM 1))) (lstM (M.ret [])))) fun d es => some (.rt d es)) (S.skip))
def F_is_name : F := bodyF 2 1 (S_is_name)
theorem C_is_name (U : HFun K mg "is_name" (stAt 11)) (B : Bi mg bns) (G_SMALL : GcS mg "SMALL" "abcdefghijklmnopqrstuvwxyz") (G_FIGURES : GcS mg "FIGURES" "0123456789") : Cal P w K mg base cn 1 "is_name" 1 (F_is_name) :=
  U.cal (N := ["thing", "sign"]) (ps := ["thing"]) (k := 0) (scope_by (by decide)) (fun _ _ FU => FU.binds fun _ _ _ _ _ _ us hl => match us, hl with | [_], _ => rfl) fun cdv f A outer s H E hr hu hN hp => DSs.cons (DS.ite (DT.ofW (DW.or (DT.not (R.tru (R.isi1 B (R.nm 0) boot_str h_str h_isinstance))) (DW.or (DT.not (R.chT hu (R.int) (R.blt B sem_len (R.a1 (R.nm 0) (R.a0)) boot_len h_len) (R.int))) (DW.one_or (R.relT hu (R.ix hu (R.nm 0) (R.int)) (R.globS G_SMALL)))))) (DSs.cons (R.ret (R.lk (R.bl))) (DSs.nil)) (DSs.nil)) (DSs.cons (R.ret (R.lk (R.rel hu (R.lc [("sign", 1)] hN (R.seq (R.lk (R.nm 0))) (fun _ _ _ _ _ => R.gn 1 hN) (fun _ _ _ _ _ => DTs.one (R.relT hu (R.nm 1) (R.bin (R.globS G_SMALL) (R.globS G_FIGURES)))) (fun _ _ _ _ _ => R.lk (R.nm 1))) (DE.lst (R.d0))))) (DSs.nil))
def S_is_deed : S := S.seq (iteS (orB (notB (Dl.tru (isiM (nmM 0) ["list", "tuple"]))) (orB (notB (Dl.tru (nmM 0))) (notB (Dl.tru (isiM (ixO (nmM 0) (cM (.int 0))) ["str"]))))) (S.seq (S.of (Dl.lk (cM (.bl false))) fun d es => some (.rt d es)) (S.skip)) (S.skip)) (S.seq (S.of (Dl.lk (andV (inKM K_SIZES (ixO (nmM 0) (cM (.int 0)))) (relO .Eq (callN (consR (nmM 0) (M.ret [])) lenD) (ixKM K_SIZES (ixO (nmM 0) (cM (.int 0))))))) fun d es => some (.rt d es)) (S.skip))
def F_is_deed : F := bodyF 1 1 (S_is_deed)
theorem C_is_deed (U : HFun K mg "is_deed" (stAt 13)) (B : Bi mg bns) (G_SIZES : GcD K w mg "SIZES" K_SIZES) : Cal P w K mg base cn 1 "is_deed" 1 (F_is_deed) :=
  U.cal (N := ["thing"]) (ps := ["thing"]) (k := 0) (scope_by (by decide)) (fun _ _ FU => FU.binds fun _ _ _ _ _ _ us hl => match us, hl with | [_], _ => rfl) fun cdv f A outer s H E hr hu hN hp => DSs.cons (DS.ite (DT.ofW (DW.or (DT.not (R.tru (R.isiT B (R.nm 0) (R.ty1 B (R.ty1 B (R.ty0) boot_tuple h_tuple) boot_list h_list) h_isinstance))) (DW.or (DT.not (R.tru (R.nm 0))) (DW.one_or (DT.not (R.tru (R.isi1 B (R.ix hu (R.nm 0) (R.int)) boot_str h_str h_isinstance))))))) (DSs.cons (R.ret (R.lk (R.bl))) (DSs.nil)) (DSs.nil)) (DSs.cons (R.ret (R.lk (DE.and (R.inK G_SIZES (R.ix hu (R.nm 0) (R.int))) (DE.one (R.rel hu (R.blt B sem_len (R.a1 (R.nm 0) (R.a0)) boot_len h_len) (R.ixK G_SIZES (R.ix hu (R.nm 0) (R.int)))))))) (DSs.nil))
def S_deed_line : S := S.seq (S.of (iteV (asB (relO .Eq (ixO (nmM 0) (cM (.int 0))) (cM (.str "words")))) (lcM [2] (seqM (Dl.lk (ixO (nmM 0) (cM (.int 2))))) (setG 2) (M.ret true) (Dl.lk (orV (nmM 2) (cM (.str "-"))))) (callN (consR (sliceM (nmM 0) (partM (some (cM (.int 2)))) (partM none)) (M.ret [])) listD)) (setIf 1)) (S.seq (S.of (Dl.lk (mtM "str" (cM (.str " ")) (consR (binO .Add (callN (consR (sliceM (nmM 0) (partM none) (partM (some (cM (.int 2))))) (M.ret [])) listD) (nmM 1)) (M.ret [])) joinD)) fun d es => some (.rt d es)) (S.skip))
def F_deed_line : F := bodyF 3 1 (S_deed_line)
theorem C_deed_line (U : HFun K mg "deed_line" (stAt 17)) (B : Bi mg bns) : Cal P w K mg base cn 1 "deed_line" 1 (F_deed_line) :=
  U.cal (N := ["deed", "rest", "word"]) (ps := ["deed"]) (k := 0) (scope_by (by decide)) (fun _ _ FU => FU.binds fun _ _ _ _ _ _ us hl => match us, hl with | [_], _ => rfl) fun cdv f A outer s H E hr hu hN hp => DSs.cons (R.setv 1 hN (DE.ite (R.relT hu (R.ix hu (R.nm 0) (R.int)) (R.str)) (R.lc [("word", 2)] hN (R.seq (R.lk (R.ix hu (R.nm 0) (R.int)))) (fun _ _ _ _ _ => R.gn 2 hN) (fun _ _ _ _ _ => DTs.nil) (fun _ _ _ _ _ => R.lk (DE.or (R.nm 2) (DE.one (R.str))))) (R.bty B (sem_list rfl) (R.a1 (DE.slice (R.nm 0) (DP.some (R.int)) (DP.none)) (R.a0)) boot_list h_list))) (DSs.cons (R.ret (R.lk (R.join (R.str) (R.a1 (R.bin (R.bty B (sem_list rfl) (R.a1 (DE.slice (R.nm 0) (DP.none) (DP.some (R.int))) (R.a0)) boot_list h_list) (R.nm 1)) (R.a0))))) (DSs.nil))
def S__law_mtext : S := S.seq (S.of (Dl.lk (mtM "str" (cM (.str "")) (consR (lcM [1] (seqM (Dl.lk (nmM 0))) (setG 1) (M.ret true) (Dl.lk (binO .Add (nmM 1) (cM (.str "\n"))))) (M.ret [])) joinD)) fun d es => some (.rt d es)) (S.skip)
def F__law_mtext : F := bodyF 2 1 (S__law_mtext)
theorem C__law_mtext (U : HFun K mg "_law_mtext" (stAt 25)) (B : Bi mg bns) : Cal P w K mg base cn 1 "_law_mtext" 1 (F__law_mtext) :=
  U.cal (N := ["lines", "line"]) (ps := ["lines"]) (k := 0) (scope_by (by decide)) (fun _ _ FU => FU.binds fun _ _ _ _ _ _ us hl => match us, hl with | [_], _ => rfl) fun cdv f A outer s H E hr hu hN hp => DSs.cons (R.ret (R.lk (R.join (R.str) (R.a1 (R.lc [("line", 1)] hN (R.seq (R.lk (R.nm 0))) (fun _ _ _ _ _ => R.gn 1 hN) (fun _ _ _ _ _ => DTs.nil) (fun _ _ _ _ _ => R.lk (R.bin (R.nm 1) (R.str)))) (R.a0))))) (DSs.nil)
def S__law_below : S := S.seq (Dl.bxSet 2 (nmM 0) (binO .Add (bxIx 2 (nmM 0)) (cM (.int 1)))) (S.seq (whileS (andB (asB (relO .Eq (bxIx 1 (nmM 0)) (cM (.int 0)))) (Dl.bxNE (nmM 0))) (S.seq (S.of (bxPop (nmM 0)) (setIf 2)) (S.seq (Dl.bxSet 3 (nmM 0) (binO .Mod (callN (consR (binO .Add (binO .Add (binO .Mult (bxIx 3 (nmM 0)) (cM (.int 69031))) (nmM 2)) (cM (.int 13))) (M.ret [])) intD) (cM (.int 2147483647)))) (S.seq (Dl.bxSet 1 (nmM 0) (iteV (asB (relO .GtE (nmM 2) (binO .Pow (cM (.int 10)) (cM (.int 18))))) (nmM 2) (cM (.int 0)))) (S.skip)))) 100000) (S.seq (iteS (asB (relO .Gt (bxIx 1 (nmM 0)) (cM (.int 0)))) (S.seq (S.of (binO .Mod (callN (consR (bxIx 1 (nmM 0)) (M.ret [])) intD) (nmM 1)) (setIf 3)) (S.seq (Dl.bxSet 1 (nmM 0) (binO .FloorDiv (bxIx 1 (nmM 0)) (nmM 1))) (S.seq (S.of (Dl.lk (nmM 3)) fun d es => some (.rt d es)) (S.skip)))) (S.skip)) (S.seq (S.of (binO .Mod (callN (consR (binO .Pow (binO .Add (binO .Add (bxIx 3 (nmM 0)) (binO .Mult (cM (.int 9049)) (bxIx 2 (nmM 0)))) (cM (.int 130073))) (cM (.int 5))) (M.ret [])) intD) (cM (.int 2147483629))) (setIf 4)) (S.seq (S.of (Dl.lk (binO .Mod (binO .Mod (callN (consR (binO .Pow (binO .Add (binO .Add (binO .Mult (nmM 4) (cM (.int 44089))) (binO .Mult (cM (.int 60077)) (bxIx 2 (nmM 0)))) (cM (.int 47))) (cM (.int 3))) (M.ret [])) intD) (cM (.int 1000000007))) (nmM 1))) fun d es => some (.rt d es)) (S.skip)))))
def F__law_below : F := bodyF 5 2 (S__law_below)
theorem C__law_below (U : HFun K mg "_law_below" (stAt 27)) (B : Bi mg bns) : Cal P w K mg base cn 1 "_law_below" 2 (F__law_below) :=
  U.cal (N := ["stream", "many", "cell", "digit", "mixed"]) (ps := ["stream", "many"]) (k := 0) (scope_by (by decide)) (fun _ _ FU => FU.binds fun _ _ _ _ _ _ us hl => match us, hl with | [_, _], _ => rfl) fun cdv f A outer s H E hr hu hN hp => DSs.cons (R.bxSet 2 (R.nm 0) (R.bin (R.bxIx 2 (R.nm 0)) (R.int))) (DSs.cons (R.whil 100000 hp (DT.ofW (DW.and (R.relT hu (R.bxIx 1 (R.nm 0)) (R.int)) (DW.one_and (R.bxNE hu (R.nm 0))))) (DSs.cons (R.setv 2 hN (R.bxPop (R.nm 0))) (DSs.cons (R.bxSet 3 (R.nm 0) (R.bin (R.bty B sem_int (R.a1 (R.bin (R.bin (R.bin (R.bxIx 3 (R.nm 0)) (R.int)) (R.nm 2)) (R.int)) (R.a0)) boot_int h_int) (R.int))) (DSs.cons (R.bxSet 1 (R.nm 0) (DE.ite (R.relT hu (R.nm 2) (R.bin (R.int) (R.int))) (R.nm 2) (R.int))) (DSs.nil))))) (DSs.cons (DS.ite (R.relT hu (R.bxIx 1 (R.nm 0)) (R.int)) (DSs.cons (R.setv 3 hN (R.bin (R.bty B sem_int (R.a1 (R.bxIx 1 (R.nm 0)) (R.a0)) boot_int h_int) (R.nm 1))) (DSs.cons (R.bxSet 1 (R.nm 0) (R.bin (R.bxIx 1 (R.nm 0)) (R.nm 1))) (DSs.cons (R.ret (R.lk (R.nm 3))) (DSs.nil)))) (DSs.nil)) (DSs.cons (R.setv 4 hN (R.bin (R.bty B sem_int (R.a1 (R.bin (R.bin (R.bin (R.bxIx 3 (R.nm 0)) (R.bin (R.int) (R.bxIx 2 (R.nm 0)))) (R.int)) (R.int)) (R.a0)) boot_int h_int) (R.int))) (DSs.cons (R.ret (R.lk (R.bin (R.bin (R.bty B sem_int (R.a1 (R.bin (R.bin (R.bin (R.bin (R.nm 4) (R.int)) (R.bin (R.int) (R.bxIx 2 (R.nm 0)))) (R.int)) (R.int)) (R.a0)) boot_int h_int) (R.int)) (R.nm 1)))) (DSs.nil)))))
def S__law_mname : S := S.seq (iteS (orB (notB (asB (chO .Lt .Lt (cM (.int 0)) (callN (consR (nmM 0) (M.ret [])) lenD) (cM (.int 9))))) (asB (relO .NotIn (ixO (nmM 0) (cM (.int 0))) (cM (.str "abcdefghijklmnopqrstuvwxyz"))))) (S.seq (S.of (Dl.lk (cM (.bl false))) fun d es => some (.rt d es)) (S.skip)) (S.skip)) (S.seq (S.of (Dl.lk (relO .Eq (lcM [1] (seqM (Dl.lk (nmM 0))) (setG 1) (asB (relO .NotIn (nmM 1) (cM (.str "abcdefghijklmnopqrstuvwxyz0123456789")))) (Dl.lk (nmM 1))) (lstM (M.ret [])))) fun d es => some (.rt d es)) (S.skip))
def F__law_mname : F := bodyF 2 1 (S__law_mname)
theorem C__law_mname (U : HFun K mg "_law_mname" (stAt 35)) (B : Bi mg bns) : Cal P w K mg base cn 1 "_law_mname" 1 (F__law_mname) :=
  U.cal (N := ["word", "sign"]) (ps := ["word"]) (k := 0) (scope_by (by decide)) (fun _ _ FU => FU.binds fun _ _ _ _ _ _ us hl => match us, hl with | [_], _ => rfl) fun cdv f A outer s H E hr hu hN hp => DSs.cons (DS.ite (DT.ofW (DW.or (DT.not (R.chT hu (R.int) (R.blt B sem_len (R.a1 (R.nm 0) (R.a0)) boot_len h_len) (R.int))) (DW.one_or (R.relT hu (R.ix hu (R.nm 0) (R.int)) (R.str))))) (DSs.cons (R.ret (R.lk (R.bl))) (DSs.nil)) (DSs.nil)) (DSs.cons (R.ret (R.lk (R.rel hu (R.lc [("sign", 1)] hN (R.seq (R.lk (R.nm 0))) (fun _ _ _ _ _ => R.gn 1 hN) (fun _ _ _ _ _ => DTs.one (R.relT hu (R.nm 1) (R.str))) (fun _ _ _ _ _ => R.lk (R.nm 1))) (DE.lst (R.d0))))) (DSs.nil))
def S__law_mline : S := S.seq (iteS (asB (relO .NotEq (ixO (nmM 0) (cM (.int 0))) (cM (.str "words")))) (S.seq (S.of (Dl.lk (mtM "str" (cM (.str " ")) (consR (nmM 0) (M.ret [])) joinD)) fun d es => some (.rt d es)) (S.skip)) (S.skip)) (S.seq (S.of (Dl.lk (mtM "str" (cM (.str " ")) (consR (binO .Add (callN (consR (sliceM (nmM 0) (partM none) (partM (some (cM (.int 2))))) (M.ret [])) listD) (lcM [1] (seqM (Dl.lk (ixO (nmM 0) (cM (.int 2))))) (setG 1) (M.ret true) (Dl.lk (iteV (asB (relO .NotEq (nmM 1) (cM (.str "")))) (nmM 1) (cM (.str "-")))))) (M.ret [])) joinD)) fun d es => some (.rt d es)) (S.skip))
def F__law_mline : F := bodyF 2 1 (S__law_mline)
theorem C__law_mline (U : HFun K mg "_law_mline" (stAt 38)) (B : Bi mg bns) : Cal P w K mg base cn 1 "_law_mline" 1 (F__law_mline) :=
  U.cal (N := ["deed", "word"]) (ps := ["deed"]) (k := 0) (scope_by (by decide)) (fun _ _ FU => FU.binds fun _ _ _ _ _ _ us hl => match us, hl with | [_], _ => rfl) fun cdv f A outer s H E hr hu hN hp => DSs.cons (DS.ite (R.relT hu (R.ix hu (R.nm 0) (R.int)) (R.str)) (DSs.cons (R.ret (R.lk (R.join (R.str) (R.a1 (R.nm 0) (R.a0))))) (DSs.nil)) (DSs.nil)) (DSs.cons (R.ret (R.lk (R.join (R.str) (R.a1 (R.bin (R.bty B (sem_list rfl) (R.a1 (DE.slice (R.nm 0) (DP.none) (DP.some (R.int))) (R.a0)) boot_list h_list) (R.lc [("word", 1)] hN (R.seq (R.lk (R.ix hu (R.nm 0) (R.int)))) (fun _ _ _ _ _ => R.gn 1 hN) (fun _ _ _ _ _ => DTs.nil) (fun _ _ _ _ _ => R.lk (DE.ite (R.relT hu (R.nm 1) (R.str)) (R.nm 1) (R.str))))) (R.a0))))) (DSs.nil))
def S_plain_words : S := S.seq (iteS (orB (notB (Dl.tru (valM (callF (consD (Dl.lk (nmM 0)) (M.ret [])) F_is_row)))) (asB (relO .Gt (callN (consR (nmM 0) (M.ret [])) lenD) (cM (.int 6))))) (S.seq (S.of (Dl.lk (cM .non)) fun d es => some (.rt d es)) (S.skip)) (S.skip)) (S.seq (S.of (seqM (Dl.lk (nmM 0))) fun ds => loopS (setG 1) (S.seq (iteS (orB (notB (Dl.tru (isiM (nmM 1) ["str"]))) (orB (asB (relO .Gt (callN (consR (nmM 1) (M.ret [])) lenD) (cM (.int 4)))) (Dl.tru (lcM [2] (seqM (Dl.lk (nmM 1))) (setG 2) (asB (relO .NotIn (nmM 2) (cM (.str "abcdefghijklmnopqrstuvwxyz")))) (Dl.lk (nmM 2)))))) (S.seq (S.of (Dl.lk (cM .non)) fun d es => some (.rt d es)) (S.skip)) (S.skip)) (S.skip)) ds) (S.seq (S.of (sortLenM (dcM [1] (seqM (Dl.lk (nmM 0))) (setG 1) (M.ret true) (Dl.lk (nmM 1)) (Dl.lk (cM (.bl true))))) (setIf 3)) (S.seq (S.of (Dl.lk (iteV (asB (relO .Eq (callN (consR (nmM 3) (M.ret [])) lenD) (callN (consR (nmM 0) (M.ret [])) lenD))) (callN (consR (nmM 3) (M.ret [])) tupleD) (cM .non))) fun d es => some (.rt d es)) (S.skip))))
def F_plain_words : F := bodyF 4 1 (S_plain_words)
theorem C_plain_words (U : HFunL K mg base cn "plain_words" (stAt 15)) (B : Bi mg bns) (G_WORDS : GcI mg "WORDS" (6)) (G_LETTERS : GcI mg "LETTERS" (4)) (G_SMALL : GcS mg "SMALL" "abcdefghijklmnopqrstuvwxyz") (C_is_row : Cal P w K mg base cn 1 "is_row" 1 F_is_row) : Cal P w K mg base cn 2 "plain_words" 1 (F_plain_words) :=
  U.cal (N := ["thing", "word", "sign", "found"]) (ps := ["thing"]) (k := 1) (scope_by (by decide)) (fun _ _ FU => FU.binds fun _ _ _ _ _ _ us hl => match us, hl with | [_], _ => rfl) fun cdv f A outer s H E hr hu hN hp LA => DSs.cons (DS.ite (DT.ofW (DW.or (DT.not (R.tru (R.val (R.call C_is_row hr (by decide) (R.d1 (R.lk (R.nm 0)) (R.d0)))))) (DW.one_or (R.relT hu (R.blt B sem_len (R.a1 (R.nm 0) (R.a0)) boot_len h_len) (R.globI G_WORDS))))) (DSs.cons (R.ret (R.lk (R.non))) (DSs.nil)) (DSs.nil)) (DSs.cons (R.loop hp (R.seq (R.lk (R.nm 0))) (R.gn 1 hN) (DSs.cons (DS.ite (DT.ofW (DW.or (DT.not (R.tru (R.isi1 B (R.nm 1) boot_str h_str h_isinstance))) (DW.or (R.relT hu (R.blt B sem_len (R.a1 (R.nm 1) (R.a0)) boot_len h_len) (R.globI G_LETTERS)) (DW.one_or (R.tru (R.lc [("sign", 2)] hN (R.seq (R.lk (R.nm 1))) (fun _ _ _ _ _ => R.gn 2 hN) (fun _ _ _ _ _ => DTs.one (R.relT hu (R.nm 2) (R.globS G_SMALL))) (fun _ _ _ _ _ => R.lk (R.nm 2)))))))) (DSs.cons (R.ret (R.lk (R.non))) (DSs.nil)) (DSs.nil)) (DSs.nil))) (DSs.cons (R.setv 3 hN (R.sortLen "word" B LA hu hr (R.dc [("word", 1)] hN (R.seq (R.lk (R.nm 0))) (fun _ _ _ _ _ => R.gn 1 hN) (fun _ _ _ _ _ => DTs.nil) (fun _ _ _ _ _ => R.lk (R.nm 1)) (fun _ _ _ _ _ => R.lk (R.bl))) ⟨rfl, rfl, rfl, by decide, rfl, rfl, rfl, fun _ _ _ _ _ _ _ => rfl, ⟨_, _, _, _, _, _, rfl⟩⟩ (by decide) h_sorted h_len)) (DSs.cons (R.ret (R.lk (DE.ite (R.relT hu (R.blt B sem_len (R.a1 (R.nm 3) (R.a0)) boot_len h_len) (R.blt B sem_len (R.a1 (R.nm 0) (R.a0)) boot_len h_len)) (R.bty B sem_tuple (R.a1 (R.nm 3) (R.a0)) boot_tuple h_tuple) (R.non)))) (DSs.nil))))
def S__law_pick : S := S.seq (S.of (Dl.lk (ixO (nmM 1) (valM (callF (consD (Dl.lk (nmM 0)) (consD (Dl.lk (callN (consR (nmM 1) (M.ret [])) lenD)) (M.ret []))) F__law_below)))) fun d es => some (.rt d es)) (S.skip)
def F__law_pick : F := bodyF 2 2 (S__law_pick)
theorem C__law_pick (U : HFun K mg "_law_pick" (stAt 28)) (B : Bi mg bns) (C__law_below : Cal P w K mg base cn 1 "_law_below" 2 F__law_below) : Cal P w K mg base cn 2 "_law_pick" 2 (F__law_pick) :=
  U.cal (N := ["stream", "some"]) (ps := ["stream", "some"]) (k := 1) (scope_by (by decide)) (fun _ _ FU => FU.binds fun _ _ _ _ _ _ us hl => match us, hl with | [_, _], _ => rfl) fun cdv f A outer s H E hr hu hN hp => DSs.cons (R.ret (R.lk (R.ix hu (R.nm 1) (R.val (R.call C__law_below hr (by decide) (R.d1 (R.lk (R.nm 0)) (R.d1 (R.lk (R.blt B sem_len (R.a1 (R.nm 1) (R.a0)) boot_len h_len)) (R.d0)))))))) (DSs.nil)
def S__law_mixed : S := S.seq (S.of (callN (consR (nmM 1) (M.ret [])) listD) (setIf 2)) (S.seq (S.of (Dl.lk (lcM [3] (M.bind (consR (callN (consR (nmM 2) (M.ret [])) lenD) (M.ret [])) fun rs => M.bind (peeks rs) fun ds => M.lift (Dl.rng1 ds)) (setG 3) (M.ret true) (Dl.lk (pop1M (nmM 2) (valM (callF (consD (Dl.lk (nmM 0)) (consD (Dl.lk (callN (consR (nmM 2) (M.ret [])) lenD)) (M.ret []))) F__law_below)))))) fun d es => some (.rt d es)) (S.skip))
def F__law_mixed : F := bodyF 4 2 (S__law_mixed)
theorem C__law_mixed (U : HFun K mg "_law_mixed" (stAt 29)) (B : Bi mg bns) (C__law_below : Cal P w K mg base cn 1 "_law_below" 2 F__law_below) : Cal P w K mg base cn 2 "_law_mixed" 2 (F__law_mixed) :=
  U.cal (N := ["stream", "some", "left", "k"]) (ps := ["stream", "some"]) (k := 1) (scope_by (by decide)) (fun _ _ FU => FU.binds fun _ _ _ _ _ _ us hl => match us, hl with | [_, _], _ => rfl) fun cdv f A outer s H E hr hu hN hp => DSs.cons (R.setv 2 hN (R.bty B (sem_list rfl) (R.a1 (R.nm 1) (R.a0)) boot_list h_list)) (DSs.cons (R.ret (R.lk (R.lc [("k", 3)] hN (R.rng1 B (R.a1 (R.blt B sem_len (R.a1 (R.nm 2) (R.a0)) boot_len h_len) (R.a0)) h_range) (fun _ _ _ _ _ => R.gn 3 hN) (fun _ _ _ _ _ => DTs.nil) (fun _ _ _ _ _ => R.lk (R.popAt (R.nm 2) (R.val (R.call C__law_below hr (by decide) (R.d1 (R.lk (R.nm 0)) (R.d1 (R.lk (R.blt B sem_len (R.a1 (R.nm 2) (R.a0)) boot_len h_len)) (R.d0)))))))))) (DSs.nil))
def S__law_mread : S := S.seq (par2S 1 2 (mtM "str" (nmM 0) (consR (cM (.str " ")) (M.ret [])) splitD) (dispM [(Dl.lk (cM (.str "drop")), Dl.lk (cM (.int 2))), (Dl.lk (cM (.str "star")), Dl.lk (cM (.int 3))), (Dl.lk (cM (.str "both")), Dl.lk (cM (.int 4))), (Dl.lk (cM (.str "join")), Dl.lk (cM (.int 4)))])) (S.seq (iteS (asB (relO .In (ixO (nmM 1) (cM (.int 0))) (nmM 2))) (S.seq (S.of (Dl.lk (iteV (andB (asB (relO .Eq (callN (consR (nmM 1) (M.ret [])) lenD) (ixO (nmM 2) (ixO (nmM 1) (cM (.int 0)))))) (asB (relO .Eq (lcM [3] (seqM (Dl.lk (sliceM (nmM 1) (partM (some (cM (.int 1)))) (partM none)))) (setG 3) (notB (Dl.tru (valM (callF (consD (Dl.lk (nmM 3)) (M.ret [])) F__law_mname)))) (Dl.lk (nmM 3))) (lstM (M.ret []))))) (callN (consR (nmM 1) (M.ret [])) tupleD) (cM .non))) fun d es => some (.rt d es)) (S.skip)) (S.skip)) (S.seq (iteS (orB (asB (relO .NotEq (ixO (nmM 1) (cM (.int 0))) (cM (.str "words")))) (orB (asB (relO .Lt (callN (consR (nmM 1) (M.ret [])) lenD) (cM (.int 2)))) (orB (notB (Dl.tru (valM (callF (consD (Dl.lk (ixO (nmM 1) (cM (.int 1)))) (M.ret [])) F__law_mname)))) (orB (asB (relO .In (cM (.str "")) (nmM 1))) (asB (relO .Gt (callN (consR (nmM 1) (M.ret [])) lenD) (cM (.int 8)))))))) (S.seq (S.of (Dl.lk (cM .non)) fun d es => some (.rt d es)) (S.skip)) (S.skip)) (S.seq (S.of (lcM [3] (seqM (Dl.lk (sliceM (nmM 1) (partM (some (cM (.int 2)))) (partM none)))) (setG 3) (M.ret true) (Dl.lk (iteV (asB (relO .Eq (nmM 3) (cM (.str "-")))) (cM (.str "")) (nmM 3)))) (setIf 4)) (S.seq (S.of (relO .Eq (sortLenM (callN (consR (lcM [3] (seqM (Dl.lk (nmM 4))) (setG 3) (M.ret true) (Dl.lk (tupM (consD (Dl.lk (nmM 3)) (consD (Dl.lk (cM (.int 0))) (M.ret [])))))) (M.ret [])) dictD)) (nmM 4)) (setIf 5)) (S.seq (S.of (lcM [3] (seqM (Dl.lk (nmM 4))) (setG 3) (orB (asB (relO .Gt (callN (consR (nmM 3) (M.ret [])) lenD) (cM (.int 4)))) (asB (relO .NotEq (lcM [7] (seqM (Dl.lk (nmM 3))) (setG 7) (asB (relO .NotIn (nmM 7) (cM (.str "abcdefghijklmnopqrstuvwxyz")))) (Dl.lk (nmM 7))) (lstM (M.ret []))))) (Dl.lk (nmM 3))) (setIf 6)) (S.seq (S.of (Dl.lk (iteV (andB (Dl.tru (nmM 5)) (asB (relO .Eq (nmM 6) (lstM (M.ret []))))) (tupM (consD (Dl.lk (cM (.str "words"))) (consD (Dl.lk (ixO (nmM 1) (cM (.int 1)))) (consD (Dl.lk (callN (consR (nmM 4) (M.ret [])) tupleD)) (M.ret []))))) (cM .non))) fun d es => some (.rt d es)) (S.skip)))))))
def F__law_mread : F := bodyF 8 1 (S__law_mread)
theorem C__law_mread (U : HFunL K mg base cn "_law_mread" (stAt 36)) (B : Bi mg bns) (C__law_mname : Cal P w K mg base cn 1 "_law_mname" 1 F__law_mname) : Cal P w K mg base cn 2 "_law_mread" 1 (F__law_mread) :=
  U.cal (N := ["line", "words", "sizes", "word", "found", "good", "strange", "sign"]) (ps := ["line"]) (k := 1) (scope_by (by decide)) (fun _ _ FU => FU.binds fun _ _ _ _ _ _ us hl => match us, hl with | [_], _ => rfl) fun cdv f A outer s H E hr hu hN hp LA => DSs.cons ((by first | exact R.par2 1 2 hN (R.split (R.nm 0) (R.a1 (R.str) (R.a0))) (DE.disp (fun Wx tk => pps_cons ((R.lk (R.str)) Wx tk) ((R.lk (R.int)) Wx tk) (pps_cons ((R.lk (R.str)) Wx tk) ((R.lk (R.int)) Wx tk) (pps_cons ((R.lk (R.str)) Wx tk) ((R.lk (R.int)) Wx tk) (pps_cons ((R.lk (R.str)) Wx tk) ((R.lk (R.int)) Wx tk) (pps_nil))))) rfl rfl (by simp) (by decide)) | exact R.pair 1 2 hN (R.split (R.nm 0) (R.a1 (R.str) (R.a0))) (DE.disp (fun Wx tk => pps_cons ((R.lk (R.str)) Wx tk) ((R.lk (R.int)) Wx tk) (pps_cons ((R.lk (R.str)) Wx tk) ((R.lk (R.int)) Wx tk) (pps_cons ((R.lk (R.str)) Wx tk) ((R.lk (R.int)) Wx tk) (pps_cons ((R.lk (R.str)) Wx tk) ((R.lk (R.int)) Wx tk) (pps_nil))))) rfl rfl (by simp) (by decide)))) (DSs.cons (DS.ite (R.relT hu (R.ix hu (R.nm 1) (R.int)) (R.nm 2)) (DSs.cons (R.ret (R.lk (DE.ite (DT.ofW (DW.and (R.relT hu (R.blt B sem_len (R.a1 (R.nm 1) (R.a0)) boot_len h_len) (R.ix hu (R.nm 2) (R.ix hu (R.nm 1) (R.int)))) (DW.one_and (R.relT hu (R.lc [("word", 3)] hN (R.seq (R.lk (DE.slice (R.nm 1) (DP.some (R.int)) (DP.none)))) (fun _ _ _ _ _ => R.gn 3 hN) (fun _ _ _ _ _ => DTs.one (DT.not (R.tru (R.val (R.call C__law_mname hr (by decide) (R.d1 (R.lk (R.nm 3)) (R.d0))))))) (fun _ _ _ _ _ => R.lk (R.nm 3))) (DE.lst (R.d0)))))) (R.bty B sem_tuple (R.a1 (R.nm 1) (R.a0)) boot_tuple h_tuple) (R.non)))) (DSs.nil)) (DSs.nil)) (DSs.cons (DS.ite (DT.ofW (DW.or (R.relT hu (R.ix hu (R.nm 1) (R.int)) (R.str)) (DW.or (R.relT hu (R.blt B sem_len (R.a1 (R.nm 1) (R.a0)) boot_len h_len) (R.int)) (DW.or (DT.not (R.tru (R.val (R.call C__law_mname hr (by decide) (R.d1 (R.lk (R.ix hu (R.nm 1) (R.int))) (R.d0)))))) (DW.or (R.relT hu (R.str) (R.nm 1)) (DW.one_or (R.relT hu (R.blt B sem_len (R.a1 (R.nm 1) (R.a0)) boot_len h_len) (R.int)))))))) (DSs.cons (R.ret (R.lk (R.non))) (DSs.nil)) (DSs.nil)) (DSs.cons ((by first | exact R.setlc 4 [("word", 3)] hN (R.seq (R.lk (DE.slice (R.nm 1) (DP.some (R.int)) (DP.none)))) (fun _ _ _ _ _ => R.gn 3 hN) (fun _ _ _ _ _ => DTs.nil) (fun _ _ _ _ _ => R.lk (DE.ite (R.relT hu (R.nm 3) (R.str)) (R.str) (R.nm 3))) | exact R.setv 4 hN (R.lc [("word", 3)] hN (R.seq (R.lk (DE.slice (R.nm 1) (DP.some (R.int)) (DP.none)))) (fun _ _ _ _ _ => R.gn 3 hN) (fun _ _ _ _ _ => DTs.nil) (fun _ _ _ _ _ => R.lk (DE.ite (R.relT hu (R.nm 3) (R.str)) (R.str) (R.nm 3)))))) (DSs.cons (R.setv 5 hN (R.rel hu (R.sortLen "word" B LA hu hr (R.bty B (sem_dict rfl) (R.a1 (R.lc [("word", 3)] hN (R.seq (R.lk (R.nm 4))) (fun _ _ _ _ _ => R.gn 3 hN) (fun _ _ _ _ _ => DTs.nil) (fun _ _ _ _ _ => R.lk (DE.tup (R.d1 (R.lk (R.nm 3)) (R.d1 (R.lk (R.int)) (R.d0)))))) (R.a0)) boot_dict h_dict) ⟨rfl, rfl, rfl, by decide, rfl, rfl, rfl, fun _ _ _ _ _ _ _ => rfl, ⟨_, _, _, _, _, _, rfl⟩⟩ (by decide) h_sorted h_len) (R.nm 4))) (DSs.cons ((by first | exact R.setlc 6 [("word", 3)] hN (R.seq (R.lk (R.nm 4))) (fun _ _ _ _ _ => R.gn 3 hN) (fun _ _ _ _ _ => DTs.one (DT.ofW (DW.or (R.relT hu (R.blt B sem_len (R.a1 (R.nm 3) (R.a0)) boot_len h_len) (R.int)) (DW.one_or (R.relT hu (R.lc [("sign", 7)] hN (R.seq (R.lk (R.nm 3))) (fun _ _ _ _ _ => R.gn 7 hN) (fun _ _ _ _ _ => DTs.one (R.relT hu (R.nm 7) (R.str))) (fun _ _ _ _ _ => R.lk (R.nm 7))) (DE.lst (R.d0))))))) (fun _ _ _ _ _ => R.lk (R.nm 3)) | exact R.setv 6 hN (R.lc [("word", 3)] hN (R.seq (R.lk (R.nm 4))) (fun _ _ _ _ _ => R.gn 3 hN) (fun _ _ _ _ _ => DTs.one (DT.ofW (DW.or (R.relT hu (R.blt B sem_len (R.a1 (R.nm 3) (R.a0)) boot_len h_len) (R.int)) (DW.one_or (R.relT hu (R.lc [("sign", 7)] hN (R.seq (R.lk (R.nm 3))) (fun _ _ _ _ _ => R.gn 7 hN) (fun _ _ _ _ _ => DTs.one (R.relT hu (R.nm 7) (R.str))) (fun _ _ _ _ _ => R.lk (R.nm 7))) (DE.lst (R.d0))))))) (fun _ _ _ _ _ => R.lk (R.nm 3))))) (DSs.cons (R.ret (R.lk (DE.ite (DT.ofW (DW.and (R.tru (R.nm 5)) (DW.one_and (R.relT hu (R.nm 6) (DE.lst (R.d0)))))) (DE.tup (R.d1 (R.lk (R.str)) (R.d1 (R.lk (R.ix hu (R.nm 1) (R.int))) (R.d1 (R.lk (R.bty B sem_tuple (R.a1 (R.nm 4) (R.a0)) boot_tuple h_tuple)) (R.d0))))) (R.non)))) (DSs.nil)))))))
def S_plain_deed : S := S.seq (iteS (notB (Dl.tru (valM (callF (consD (Dl.lk (nmM 0)) (M.ret [])) F_is_deed)))) (S.seq (S.of (Dl.lk (cM .non)) fun d es => some (.rt d es)) (S.skip)) (S.skip)) (S.seq (S.of (iteV (asB (relO .Eq (ixO (nmM 0) (cM (.int 0))) (cM (.str "words")))) (sliceM (nmM 0) (partM (some (cM (.int 1)))) (partM (some (cM (.int 2))))) (sliceM (nmM 0) (partM (some (cM (.int 1)))) (partM none))) (setIf 1)) (S.seq (iteS (Dl.tru (lcM [2] (seqM (Dl.lk (nmM 1))) (setG 2) (notB (Dl.tru (valM (callF (consD (Dl.lk (nmM 2)) (M.ret [])) F_is_name)))) (Dl.lk (nmM 2)))) (S.seq (S.of (Dl.lk (cM .non)) fun d es => some (.rt d es)) (S.skip)) (S.skip)) (S.seq (iteS (asB (relO .NotEq (ixO (nmM 0) (cM (.int 0))) (cM (.str "words")))) (S.seq (S.of (Dl.lk (callN (consR (nmM 0) (M.ret [])) tupleD)) fun d es => some (.rt d es)) (S.skip)) (S.skip)) (S.seq (S.of (valM (callF (consD (Dl.lk (ixO (nmM 0) (cM (.int 2)))) (M.ret [])) F_plain_words)) (setIf 3)) (S.seq (S.of (Dl.lk (iteV (asB (relO .Is (nmM 3) (cM .non))) (cM .non) (tupM (consD (Dl.lk (cM (.str "words"))) (consD (Dl.lk (ixO (nmM 0) (cM (.int 1)))) (consD (Dl.lk (nmM 3)) (M.ret []))))))) fun d es => some (.rt d es)) (S.skip))))))
def F_plain_deed : F := bodyF 4 1 (S_plain_deed)
theorem C_plain_deed (U : HFun K mg "plain_deed" (stAt 16)) (B : Bi mg bns) (C_is_deed : Cal P w K mg base cn 1 "is_deed" 1 F_is_deed) (C_is_name : Cal P w K mg base cn 1 "is_name" 1 F_is_name) (C_plain_words : Cal P w K mg base cn 2 "plain_words" 1 F_plain_words) : Cal P w K mg base cn 3 "plain_deed" 1 (F_plain_deed) :=
  U.cal (N := ["thing", "names", "name", "words"]) (ps := ["thing"]) (k := 2) (scope_by (by decide)) (fun _ _ FU => FU.binds fun _ _ _ _ _ _ us hl => match us, hl with | [_], _ => rfl) fun cdv f A outer s H E hr hu hN hp => DSs.cons (DS.ite (DT.not (R.tru (R.val (R.call C_is_deed hr (by decide) (R.d1 (R.lk (R.nm 0)) (R.d0)))))) (DSs.cons (R.ret (R.lk (R.non))) (DSs.nil)) (DSs.nil)) (DSs.cons (R.setv 1 hN (DE.ite (R.relT hu (R.ix hu (R.nm 0) (R.int)) (R.str)) (DE.slice (R.nm 0) (DP.some (R.int)) (DP.some (R.int))) (DE.slice (R.nm 0) (DP.some (R.int)) (DP.none)))) (DSs.cons (DS.ite (R.tru (R.lc [("name", 2)] hN (R.seq (R.lk (R.nm 1))) (fun _ _ _ _ _ => R.gn 2 hN) (fun _ _ _ _ _ => DTs.one (DT.not (R.tru (R.val (R.call C_is_name hr (by decide) (R.d1 (R.lk (R.nm 2)) (R.d0))))))) (fun _ _ _ _ _ => R.lk (R.nm 2)))) (DSs.cons (R.ret (R.lk (R.non))) (DSs.nil)) (DSs.nil)) (DSs.cons (DS.ite (R.relT hu (R.ix hu (R.nm 0) (R.int)) (R.str)) (DSs.cons (R.ret (R.lk (R.bty B sem_tuple (R.a1 (R.nm 0) (R.a0)) boot_tuple h_tuple))) (DSs.nil)) (DSs.nil)) (DSs.cons (R.setv 3 hN (R.val (R.call C_plain_words hr (by decide) (R.d1 (R.lk (R.ix hu (R.nm 0) (R.int))) (R.d0))))) (DSs.cons (R.ret (R.lk (DE.ite (R.relT hu (R.nm 3) (R.non)) (R.non) (DE.tup (R.d1 (R.lk (R.str)) (R.d1 (R.lk (R.ix hu (R.nm 0) (R.int))) (R.d1 (R.lk (R.nm 3)) (R.d0)))))))) (DSs.nil))))))
def S__law_mbent : S := S.seq (par2S 3 4 (valM (callF (consD (Dl.lk (nmM 0)) (consD (Dl.lk (callN (consR (nmM 1) (M.ret [])) lenD)) (M.ret []))) F__law_below)) (valM (callF (consD (Dl.lk (nmM 0)) (consD (Dl.lk (cM (.int 9))) (M.ret []))) F__law_below))) (S.seq (S.of (mtM "str" (ixO (nmM 1) (nmM 3)) (consR (cM (.str " ")) (M.ret [])) splitD) (setIf 5)) (S.seq (S.of (valM (callF (consD (Dl.lk (nmM 0)) (consD (Dl.lk (callN (consR (nmM 5) (M.ret [])) lenD)) (M.ret []))) F__law_below)) (setIf 6)) (S.seq (iteS (asB (relO .Eq (nmM 4) (cM (.int 0)))) (S.seq (S.of (binO .Add (sliceM (nmM 5) (partM none) (partM (some (nmM 6)))) (sliceM (nmM 5) (partM (some (binO .Add (nmM 6) (cM (.int 1))))) (partM none))) (setIf 5)) (S.skip)) (S.skip)) (S.seq (iteS (asB (relO .In (nmM 4) (tupM (consD (Dl.lk (cM (.int 1))) (consD (Dl.lk (cM (.int 8))) (M.ret [])))))) (S.seq (S.of (binO .Add (binO .Add (sliceM (nmM 5) (partM none) (partM (some (nmM 6)))) (lstM (consD (callF (consD (Dl.lk (nmM 0)) (consD (Dl.lk (binO .Add (nmM 2) (nmM 5))) (M.ret []))) F__law_pick) (M.ret [])))) (sliceM (nmM 5) (partM (some (binO .Add (nmM 6) (callN (consR (relO .Eq (nmM 4) (cM (.int 8))) (M.ret [])) intD)))) (partM none))) (setIf 5)) (S.skip)) (S.skip)) (S.seq (S.of (binO .Add (binO .Add (sliceM (nmM 1) (partM none) (partM (some (nmM 3)))) (lstM (consD (Dl.lk (mtM "str" (cM (.str " ")) (consR (nmM 5) (M.ret [])) joinD)) (M.ret [])))) (sliceM (nmM 1) (partM (some (binO .Add (nmM 3) (cM (.int 1))))) (partM none))) (setIf 1)) (S.seq (iteS (asB (relO .Eq (nmM 4) (cM (.int 2)))) (S.seq (S.of (binO .Add (sliceM (nmM 1) (partM none) (partM (some (nmM 3)))) (sliceM (nmM 1) (partM (some (binO .Add (nmM 3) (cM (.int 1))))) (partM none))) (setIf 1)) (S.skip)) (S.skip)) (S.seq (iteS (asB (relO .Eq (nmM 4) (cM (.int 3)))) (S.seq (S.of (binO .Add (sliceM (nmM 1) (partM none) (partM (some (binO .Add (nmM 3) (cM (.int 1)))))) (sliceM (nmM 1) (partM (some (nmM 3))) (partM none))) (setIf 1)) (S.skip)) (S.skip)) (S.seq (iteS (andB (asB (relO .Eq (nmM 4) (cM (.int 4)))) (asB (relO .Gt (nmM 3) (cM (.int 0))))) (S.seq (S.of (binO .Add (binO .Add (sliceM (nmM 1) (partM none) (partM (some (binO .Sub (nmM 3) (cM (.int 1)))))) (lstM (consD (Dl.lk (ixO (nmM 1) (nmM 3))) (consD (Dl.lk (ixO (nmM 1) (binO .Sub (nmM 3) (cM (.int 1))))) (M.ret []))))) (sliceM (nmM 1) (partM (some (binO .Add (nmM 3) (cM (.int 1))))) (partM none))) (setIf 1)) (S.skip)) (S.skip)) (S.seq (iteS (asB (relO .Eq (nmM 4) (cM (.int 5)))) (S.seq (S.of (sliceM (nmM 1) (partM none) (partM (some (nmM 3)))) (setIf 1)) (S.skip)) (S.skip)) (S.seq (S.of (mtM "str" (cM (.str "")) (consR (lcM [8] (seqM (Dl.lk (nmM 1))) (setG 8) (M.ret true) (Dl.lk (binO .Add (nmM 8) (cM (.str "\n"))))) (M.ret [])) joinD) (setIf 7)) (S.seq (iteS (asB (relO .Eq (nmM 4) (cM (.int 6)))) (S.seq (S.of (valM (callF (consD (Dl.lk (nmM 0)) (consD (Dl.lk (binO .Add (callN (consR (nmM 7) (M.ret [])) lenD) (cM (.int 1)))) (M.ret []))) F__law_below)) (setIf 6)) (S.seq (S.of (Dl.lk (binO .Add (binO .Add (sliceM (nmM 7) (partM none) (partM (some (nmM 6)))) (valM (callF (consD (Dl.lk (nmM 0)) (consD (Dl.lk (callN (consR (cM (.str " \nab01w-*\t")) (M.ret [])) listD)) (M.ret []))) F__law_pick))) (sliceM (nmM 7) (partM (some (binO .Add (nmM 6) (valM (callF (consD (Dl.lk (nmM 0)) (consD (Dl.lk (cM (.int 2))) (M.ret []))) F__law_below))))) (partM none)))) fun d es => some (.rt d es)) (S.skip))) (S.skip)) (S.seq (S.of (Dl.lk (iteV (andB (asB (relO .Eq (nmM 4) (cM (.int 7)))) (asB (relO .NotEq (nmM 7) (cM (.str ""))))) (sliceM (nmM 7) (partM none) (partM (some (binO .Sub (callN (consR (nmM 7) (M.ret [])) lenD) (cM (.int 1)))))) (nmM 7))) fun d es => some (.rt d es)) (S.skip)))))))))))))
def F__law_mbent : F := bodyF 9 3 (S__law_mbent)
theorem C__law_mbent (U : HFun K mg "_law_mbent" (stAt 24)) (B : Bi mg bns) (C__law_below : Cal P w K mg base cn 1 "_law_below" 2 F__law_below) (C__law_pick : Cal P w K mg base cn 2 "_law_pick" 2 F__law_pick) : Cal P w K mg base cn 3 "_law_mbent" 3 (F__law_mbent) :=
  U.cal (N := ["stream", "lines", "more", "at", "kind", "words", "place", "bent", "line"]) (ps := ["stream", "lines", "more"]) (k := 2) (scope_by (by decide)) (fun _ _ FU => FU.binds fun _ _ _ _ _ _ us hl => match us, hl with | [_, _, _], _ => rfl) fun cdv f A outer s H E hr hu hN hp => DSs.cons ((by first | exact R.par2 3 4 hN (R.val (R.call C__law_below hr (by decide) (R.d1 (R.lk (R.nm 0)) (R.d1 (R.lk (R.blt B sem_len (R.a1 (R.nm 1) (R.a0)) boot_len h_len)) (R.d0))))) (R.val (R.call C__law_below hr (by decide) (R.d1 (R.lk (R.nm 0)) (R.d1 (R.lk (R.int)) (R.d0))))) | exact R.pair 3 4 hN (R.val (R.call C__law_below hr (by decide) (R.d1 (R.lk (R.nm 0)) (R.d1 (R.lk (R.blt B sem_len (R.a1 (R.nm 1) (R.a0)) boot_len h_len)) (R.d0))))) (R.val (R.call C__law_below hr (by decide) (R.d1 (R.lk (R.nm 0)) (R.d1 (R.lk (R.int)) (R.d0))))))) (DSs.cons (R.setv 5 hN (R.split (R.ix hu (R.nm 1) (R.nm 3)) (R.a1 (R.str) (R.a0)))) (DSs.cons (R.setv 6 hN (R.val (R.call C__law_below hr (by decide) (R.d1 (R.lk (R.nm 0)) (R.d1 (R.lk (R.blt B sem_len (R.a1 (R.nm 5) (R.a0)) boot_len h_len)) (R.d0)))))) (DSs.cons (DS.ite (R.relT hu (R.nm 4) (R.int)) (DSs.cons (R.setv 5 hN (R.bin (DE.slice (R.nm 5) (DP.none) (DP.some (R.nm 6))) (DE.slice (R.nm 5) (DP.some (R.bin (R.nm 6) (R.int))) (DP.none)))) (DSs.nil)) (DSs.nil)) (DSs.cons (DS.ite (R.relT hu (R.nm 4) (DE.tup (R.d1 (R.lk (R.int)) (R.d1 (R.lk (R.int)) (R.d0))))) (DSs.cons (R.setv 5 hN (R.bin (R.bin (DE.slice (R.nm 5) (DP.none) (DP.some (R.nm 6))) (DE.lst (R.d1 (R.call C__law_pick hr (by decide) (R.d1 (R.lk (R.nm 0)) (R.d1 (R.lk (R.bin (R.nm 2) (R.nm 5))) (R.d0)))) (R.d0)))) (DE.slice (R.nm 5) (DP.some (R.bin (R.nm 6) (R.bty B sem_int (R.a1 (R.rel hu (R.nm 4) (R.int)) (R.a0)) boot_int h_int))) (DP.none)))) (DSs.nil)) (DSs.nil)) (DSs.cons (R.setv 1 hN (R.bin (R.bin (DE.slice (R.nm 1) (DP.none) (DP.some (R.nm 3))) (DE.lst (R.d1 (R.lk (R.join (R.str) (R.a1 (R.nm 5) (R.a0)))) (R.d0)))) (DE.slice (R.nm 1) (DP.some (R.bin (R.nm 3) (R.int))) (DP.none)))) (DSs.cons (DS.ite (R.relT hu (R.nm 4) (R.int)) (DSs.cons (R.setv 1 hN (R.bin (DE.slice (R.nm 1) (DP.none) (DP.some (R.nm 3))) (DE.slice (R.nm 1) (DP.some (R.bin (R.nm 3) (R.int))) (DP.none)))) (DSs.nil)) (DSs.nil)) (DSs.cons (DS.ite (R.relT hu (R.nm 4) (R.int)) (DSs.cons (R.setv 1 hN (R.bin (DE.slice (R.nm 1) (DP.none) (DP.some (R.bin (R.nm 3) (R.int)))) (DE.slice (R.nm 1) (DP.some (R.nm 3)) (DP.none)))) (DSs.nil)) (DSs.nil)) (DSs.cons (DS.ite (DT.ofW (DW.and (R.relT hu (R.nm 4) (R.int)) (DW.one_and (R.relT hu (R.nm 3) (R.int))))) (DSs.cons (R.setv 1 hN (R.bin (R.bin (DE.slice (R.nm 1) (DP.none) (DP.some (R.bin (R.nm 3) (R.int)))) (DE.lst (R.d1 (R.lk (R.ix hu (R.nm 1) (R.nm 3))) (R.d1 (R.lk (R.ix hu (R.nm 1) (R.bin (R.nm 3) (R.int)))) (R.d0))))) (DE.slice (R.nm 1) (DP.some (R.bin (R.nm 3) (R.int))) (DP.none)))) (DSs.nil)) (DSs.nil)) (DSs.cons (DS.ite (R.relT hu (R.nm 4) (R.int)) (DSs.cons (R.setv 1 hN (DE.slice (R.nm 1) (DP.none) (DP.some (R.nm 3)))) (DSs.nil)) (DSs.nil)) (DSs.cons (R.setv 7 hN (R.join (R.str) (R.a1 (R.lc [("line", 8)] hN (R.seq (R.lk (R.nm 1))) (fun _ _ _ _ _ => R.gn 8 hN) (fun _ _ _ _ _ => DTs.nil) (fun _ _ _ _ _ => R.lk (R.bin (R.nm 8) (R.str)))) (R.a0)))) (DSs.cons (DS.ite (R.relT hu (R.nm 4) (R.int)) (DSs.cons (R.setv 6 hN (R.val (R.call C__law_below hr (by decide) (R.d1 (R.lk (R.nm 0)) (R.d1 (R.lk (R.bin (R.blt B sem_len (R.a1 (R.nm 7) (R.a0)) boot_len h_len) (R.int))) (R.d0)))))) (DSs.cons (R.ret (R.lk (R.bin (R.bin (DE.slice (R.nm 7) (DP.none) (DP.some (R.nm 6))) (R.val (R.call C__law_pick hr (by decide) (R.d1 (R.lk (R.nm 0)) (R.d1 (R.lk (R.bty B (sem_list rfl) (R.a1 (R.str) (R.a0)) boot_list h_list)) (R.d0)))))) (DE.slice (R.nm 7) (DP.some (R.bin (R.nm 6) (R.val (R.call C__law_below hr (by decide) (R.d1 (R.lk (R.nm 0)) (R.d1 (R.lk (R.int)) (R.d0))))))) (DP.none))))) (DSs.nil))) (DSs.nil)) (DSs.cons (R.ret (R.lk (DE.ite (DT.ofW (DW.and (R.relT hu (R.nm 4) (R.int)) (DW.one_and (R.relT hu (R.nm 7) (R.str))))) (DE.slice (R.nm 7) (DP.none) (DP.some (R.bin (R.blt B sem_len (R.a1 (R.nm 7) (R.a0)) boot_len h_len) (R.int)))) (R.nm 7)))) (DSs.nil)))))))))))))
def S__law_mform : S := S.seq (asgS (Dl.lk (lcM [4] (M.bind (consR (cM (.int 3)) (M.ret [])) fun rs => M.bind (peeks rs) fun ds => M.lift (Dl.rng1 ds)) (setG 4) (M.ret true) (callF (consD (Dl.lk (nmM 0)) (consD (Dl.lk (lstM (consD (Dl.lk (cM (.str "a"))) (consD (Dl.lk (cM (.str "b1"))) (consD (Dl.lk (cM (.str "zzzzzzzz"))) (consD (Dl.lk (cM (.str "c"))) (M.ret []))))))) (M.ret []))) F__law_pick))) (sqG 3 (gsCons (setG 1) (gsCons (setG 2) (gsCons (setG 3) (gsNil)))))) (S.seq (S.of (lcM [6] (M.bind (consR (valM (callF (consD (Dl.lk (nmM 0)) (consD (Dl.lk (cM (.int 6))) (M.ret []))) F__law_below)) (M.ret [])) fun rs => M.bind (peeks rs) fun ds => M.lift (Dl.rng1 ds)) (setG 6) (M.ret true) (Dl.lk (mtM "str" (cM (.str "")) (consR (lcM [4] (M.bind (consR (valM (callF (consD (Dl.lk (nmM 0)) (consD (Dl.lk (cM (.int 5))) (M.ret []))) F__law_below)) (M.ret [])) fun rs => M.bind (peeks rs) fun ds => M.lift (Dl.rng1 ds)) (setG 4) (M.ret true) (callF (consD (Dl.lk (nmM 0)) (consD (Dl.lk (callN (consR (cM (.str "abz")) (M.ret [])) listD)) (M.ret []))) F__law_pick)) (M.ret [])) joinD))) (setIf 5)) (S.seq (S.of (sortLenM (callN (consR (lcM [8] (seqM (Dl.lk (nmM 5))) (setG 8) (M.ret true) (Dl.lk (tupM (consD (Dl.lk (nmM 8)) (consD (Dl.lk (cM (.int 0))) (M.ret [])))))) (M.ret [])) dictD)) (setIf 7)) (S.seq (S.of (callF (consD (Dl.lk (nmM 0)) (consD (Dl.lk (lstM (consD (Dl.lk (tupM (consD (Dl.lk (cM (.str "words"))) (consD (Dl.lk (nmM 1)) (consD (Dl.lk (callN (consR (nmM 7) (M.ret [])) tupleD)) (M.ret [])))))) (consD (Dl.lk (tupM (consD (Dl.lk (cM (.str "drop"))) (consD (Dl.lk (nmM 1)) (M.ret []))))) (consD (Dl.lk (tupM (consD (Dl.lk (cM (.str "star"))) (consD (Dl.lk (nmM 1)) (consD (Dl.lk (nmM 2)) (M.ret [])))))) (consD (Dl.lk (tupM (consD (Dl.lk (cM (.str "both"))) (consD (Dl.lk (nmM 1)) (consD (Dl.lk (nmM 2)) (consD (Dl.lk (nmM 3)) (M.ret []))))))) (consD (Dl.lk (tupM (consD (Dl.lk (cM (.str "join"))) (consD (Dl.lk (nmM 1)) (consD (Dl.lk (nmM 2)) (consD (Dl.lk (nmM 3)) (M.ret []))))))) (M.ret [])))))))) (M.ret []))) F__law_pick) fun d es => some (.rt d es)) (S.skip))))
def F__law_mform : F := bodyF 9 1 (S__law_mform)
theorem C__law_mform (U : HFunL K mg base cn "_law_mform" (stAt 37)) (B : Bi mg bns) (C__law_pick : Cal P w K mg base cn 2 "_law_pick" 2 F__law_pick) (C__law_below : Cal P w K mg base cn 1 "_law_below" 2 F__law_below) : Cal P w K mg base cn 3 "_law_mform" 1 (F__law_mform) :=
  U.cal (N := ["stream", "name", "one", "two", "k", "words", "turn", "found", "word"]) (ps := ["stream"]) (k := 2) (scope_by (by decide)) (fun _ _ FU => FU.binds fun _ _ _ _ _ _ us hl => match us, hl with | [_], _ => rfl) fun cdv f A outer s H E hr hu hN hp LA => DSs.cons (R.asg (R.lk (R.lc [("k", 4)] hN (R.rng1 B (R.a1 (R.int) (R.a0)) h_range) (fun _ _ _ _ _ => R.gn 4 hN) (fun _ _ _ _ _ => DTs.nil) (fun _ _ _ _ _ => R.call C__law_pick hr (by decide) (R.d1 (R.lk (R.nm 0)) (R.d1 (R.lk (DE.lst (R.d1 (R.lk (R.str)) (R.d1 (R.lk (R.str)) (R.d1 (R.lk (R.str)) (R.d1 (R.lk (R.str)) (R.d0))))))) (R.d0)))))) (R.gt 3 K (R.g1 (R.gn 1 hN) (R.g1 (R.gn 2 hN) (R.g1 (R.gn 3 hN) (R.g0)))))) (DSs.cons ((by first | exact R.setlc 5 [("turn", 6)] hN (R.rng1 B (R.a1 (R.val (R.call C__law_below hr (by decide) (R.d1 (R.lk (R.nm 0)) (R.d1 (R.lk (R.int)) (R.d0))))) (R.a0)) h_range) (fun _ _ _ _ _ => R.gn 6 hN) (fun _ _ _ _ _ => DTs.nil) (fun _ _ _ _ _ => R.lk (R.join (R.str) (R.a1 (R.lc [("k", 4)] hN (R.rng1 B (R.a1 (R.val (R.call C__law_below hr (by decide) (R.d1 (R.lk (R.nm 0)) (R.d1 (R.lk (R.int)) (R.d0))))) (R.a0)) h_range) (fun _ _ _ _ _ => R.gn 4 hN) (fun _ _ _ _ _ => DTs.nil) (fun _ _ _ _ _ => R.call C__law_pick hr (by decide) (R.d1 (R.lk (R.nm 0)) (R.d1 (R.lk (R.bty B (sem_list rfl) (R.a1 (R.str) (R.a0)) boot_list h_list)) (R.d0))))) (R.a0)))) | exact R.setv 5 hN (R.lc [("turn", 6)] hN (R.rng1 B (R.a1 (R.val (R.call C__law_below hr (by decide) (R.d1 (R.lk (R.nm 0)) (R.d1 (R.lk (R.int)) (R.d0))))) (R.a0)) h_range) (fun _ _ _ _ _ => R.gn 6 hN) (fun _ _ _ _ _ => DTs.nil) (fun _ _ _ _ _ => R.lk (R.join (R.str) (R.a1 (R.lc [("k", 4)] hN (R.rng1 B (R.a1 (R.val (R.call C__law_below hr (by decide) (R.d1 (R.lk (R.nm 0)) (R.d1 (R.lk (R.int)) (R.d0))))) (R.a0)) h_range) (fun _ _ _ _ _ => R.gn 4 hN) (fun _ _ _ _ _ => DTs.nil) (fun _ _ _ _ _ => R.call C__law_pick hr (by decide) (R.d1 (R.lk (R.nm 0)) (R.d1 (R.lk (R.bty B (sem_list rfl) (R.a1 (R.str) (R.a0)) boot_list h_list)) (R.d0))))) (R.a0))))))) (DSs.cons (R.setv 7 hN (R.sortLen "word" B LA hu hr (R.bty B (sem_dict rfl) (R.a1 (R.lc [("word", 8)] hN (R.seq (R.lk (R.nm 5))) (fun _ _ _ _ _ => R.gn 8 hN) (fun _ _ _ _ _ => DTs.nil) (fun _ _ _ _ _ => R.lk (DE.tup (R.d1 (R.lk (R.nm 8)) (R.d1 (R.lk (R.int)) (R.d0)))))) (R.a0)) boot_dict h_dict) ⟨rfl, rfl, rfl, by decide, rfl, rfl, rfl, fun _ _ _ _ _ _ _ => rfl, ⟨_, _, _, _, _, _, rfl⟩⟩ (by decide) h_sorted h_len)) (DSs.cons (R.ret (R.call C__law_pick hr (by decide) (R.d1 (R.lk (R.nm 0)) (R.d1 (R.lk (DE.lst (R.d1 (R.lk (DE.tup (R.d1 (R.lk (R.str)) (R.d1 (R.lk (R.nm 1)) (R.d1 (R.lk (R.bty B sem_tuple (R.a1 (R.nm 7) (R.a0)) boot_tuple h_tuple)) (R.d0)))))) (R.d1 (R.lk (DE.tup (R.d1 (R.lk (R.str)) (R.d1 (R.lk (R.nm 1)) (R.d0))))) (R.d1 (R.lk (DE.tup (R.d1 (R.lk (R.str)) (R.d1 (R.lk (R.nm 1)) (R.d1 (R.lk (R.nm 2)) (R.d0)))))) (R.d1 (R.lk (DE.tup (R.d1 (R.lk (R.str)) (R.d1 (R.lk (R.nm 1)) (R.d1 (R.lk (R.nm 2)) (R.d1 (R.lk (R.nm 3)) (R.d0))))))) (R.d1 (R.lk (DE.tup (R.d1 (R.lk (R.str)) (R.d1 (R.lk (R.nm 1)) (R.d1 (R.lk (R.nm 2)) (R.d1 (R.lk (R.nm 3)) (R.d0))))))) (R.d0)))))))) (R.d0))))) (DSs.nil))))
def S_deeds_text : S := S.seq (iteS (notB (Dl.tru (valM (callF (consD (Dl.lk (nmM 0)) (M.ret [])) F_is_row)))) (S.seq (raiseS "BadDeed" "index" (consD (Dl.lk (cM (.int 0))) (M.ret []))) (S.skip)) (S.skip)) (S.seq (S.of (lstM (M.ret [])) (setIf 1)) (S.seq (S.of (enum1M (consD (Dl.lk (nmM 0)) (M.ret []))) fun ds => loopS (sqG 2 (gsCons (setG 2) (gsCons (setG 3) (gsNil)))) (S.seq (S.of (valM (callF (consD (Dl.lk (nmM 3)) (M.ret [])) F_plain_deed)) (setIf 4)) (S.seq (iteS (asB (relO .Is (nmM 4) (cM .non))) (S.seq (raiseS "BadDeed" "index" (consD (Dl.lk (nmM 2)) (M.ret []))) (S.skip)) (S.skip)) (S.seq (S.of (apndM (nmM 1) (Dl.lk (binO .Add (valM (callF (consD (Dl.lk (nmM 4)) (M.ret [])) F_deed_line)) (cM (.str "\n"))))) fun _ es => some (.nx es)) (S.skip)))) ds) (S.seq (S.of (Dl.lk (mtM "str" (cM (.str "")) (consR (nmM 1) (M.ret [])) joinD)) fun d es => some (.rt d es)) (S.skip))))
def F_deeds_text : F := bodyF 5 1 (S_deeds_text)
theorem C_deeds_text (U : HFun K mg "deeds_text" (stAt 18)) (B : Bi mg bns) (X_BadDeed : Exc1 P w K mg base cn 1 "BadDeed" "index") (C_is_row : Cal P w K mg base cn 1 "is_row" 1 F_is_row) (C_plain_deed : Cal P w K mg base cn 3 "plain_deed" 1 F_plain_deed) (C_deed_line : Cal P w K mg base cn 1 "deed_line" 1 F_deed_line) : Cal P w K mg base cn 4 "deeds_text" 1 (F_deeds_text) :=
  U.cal (N := ["deeds", "lines", "index", "thing", "deed"]) (ps := ["deeds"]) (k := 3) (scope_by (by decide)) (fun _ _ FU => FU.binds fun _ _ _ _ _ _ us hl => match us, hl with | [_], _ => rfl) fun cdv f A outer s H E hr hu hN hp => DSs.cons (DS.ite (DT.not (R.tru (R.val (R.call C_is_row hr (by decide) (R.d1 (R.lk (R.nm 0)) (R.d0)))))) (DSs.cons (R.raise X_BadDeed hr (by decide) (R.d1 (R.lk (R.int)) (R.d0))) (DSs.nil)) (DSs.nil)) (DSs.cons (R.setv 1 hN (DE.lst (R.d0))) (DSs.cons (R.loop hp (R.enum1 B (R.d1 (R.lk (R.nm 0)) (R.d0)) h_enumerate) (R.gt 2 K (R.g1 (R.gn 2 hN) (R.g1 (R.gn 3 hN) (R.g0)))) (DSs.cons (R.setv 4 hN (R.val (R.call C_plain_deed hr (by decide) (R.d1 (R.lk (R.nm 3)) (R.d0))))) (DSs.cons (DS.ite (R.relT hu (R.nm 4) (R.non)) (DSs.cons (R.raise X_BadDeed hr (by decide) (R.d1 (R.lk (R.nm 2)) (R.d0))) (DSs.nil)) (DSs.nil)) (DSs.cons (R.expr (R.append (R.nm 1) (R.lk (R.bin (R.val (R.call C_deed_line hr (by decide) (R.d1 (R.lk (R.nm 4)) (R.d0)))) (R.str))))) (DSs.nil))))) (DSs.cons (R.ret (R.lk (R.join (R.str) (R.a1 (R.nm 1) (R.a0))))) (DSs.nil))))
def S_deed_of : S := S.seq (S.of (mtM "str" (nmM 0) (consR (cM (.str " ")) (M.ret [])) splitD) (setIf 1)) (S.seq (iteS (asB (relO .NotEq (ixO (nmM 1) (cM (.int 0))) (cM (.str "words")))) (S.seq (S.of (callF (consD (Dl.lk (nmM 1)) (M.ret [])) F_plain_deed) fun d es => some (.rt d es)) (S.skip)) (S.skip)) (S.seq (iteS (orB (asB (relO .Lt (callN (consR (nmM 1) (M.ret [])) lenD) (cM (.int 2)))) (asB (relO .In (cM (.str "")) (sliceM (nmM 1) (partM (some (cM (.int 2)))) (partM none))))) (S.seq (S.of (Dl.lk (cM .non)) fun d es => some (.rt d es)) (S.skip)) (S.skip)) (S.seq (S.of (valM (callF (consD (Dl.lk (lstM (consD (Dl.lk (cM (.str "words"))) (consD (Dl.lk (ixO (nmM 1) (cM (.int 1)))) (consD (Dl.lk (lcM [3] (seqM (Dl.lk (sliceM (nmM 1) (partM (some (cM (.int 2)))) (partM none)))) (setG 3) (M.ret true) (Dl.lk (iteV (asB (relO .Eq (nmM 3) (cM (.str "-")))) (cM (.str "")) (nmM 3))))) (M.ret [])))))) (M.ret [])) F_plain_deed)) (setIf 2)) (S.seq (S.of (Dl.lk (iteV (andB (asB (relO .IsNot (nmM 2) (cM .non))) (asB (relO .Eq (valM (callF (consD (Dl.lk (nmM 2)) (M.ret [])) F_deed_line)) (nmM 0)))) (nmM 2) (cM .non))) fun d es => some (.rt d es)) (S.skip)))))
def F_deed_of : F := bodyF 4 1 (S_deed_of)
theorem C_deed_of (U : HFun K mg "deed_of" (stAt 19)) (B : Bi mg bns) (C_plain_deed : Cal P w K mg base cn 3 "plain_deed" 1 F_plain_deed) (C_deed_line : Cal P w K mg base cn 1 "deed_line" 1 F_deed_line) : Cal P w K mg base cn 4 "deed_of" 1 (F_deed_of) :=
  U.cal (N := ["line", "words", "deed", "word"]) (ps := ["line"]) (k := 3) (scope_by (by decide)) (fun _ _ FU => FU.binds fun _ _ _ _ _ _ us hl => match us, hl with | [_], _ => rfl) fun cdv f A outer s H E hr hu hN hp => DSs.cons (R.setv 1 hN (R.split (R.nm 0) (R.a1 (R.str) (R.a0)))) (DSs.cons (DS.ite (R.relT hu (R.ix hu (R.nm 1) (R.int)) (R.str)) (DSs.cons (R.ret (R.call C_plain_deed hr (by decide) (R.d1 (R.lk (R.nm 1)) (R.d0)))) (DSs.nil)) (DSs.nil)) (DSs.cons (DS.ite (DT.ofW (DW.or (R.relT hu (R.blt B sem_len (R.a1 (R.nm 1) (R.a0)) boot_len h_len) (R.int)) (DW.one_or (R.relT hu (R.str) (DE.slice (R.nm 1) (DP.some (R.int)) (DP.none)))))) (DSs.cons (R.ret (R.lk (R.non))) (DSs.nil)) (DSs.nil)) (DSs.cons (R.setv 2 hN (R.val (R.call C_plain_deed hr (by decide) (R.d1 (R.lk (DE.lst (R.d1 (R.lk (R.str)) (R.d1 (R.lk (R.ix hu (R.nm 1) (R.int))) (R.d1 (R.lk (R.lc [("word", 3)] hN (R.seq (R.lk (DE.slice (R.nm 1) (DP.some (R.int)) (DP.none)))) (fun _ _ _ _ _ => R.gn 3 hN) (fun _ _ _ _ _ => DTs.nil) (fun _ _ _ _ _ => R.lk (DE.ite (R.relT hu (R.nm 3) (R.str)) (R.str) (R.nm 3))))) (R.d0)))))) (R.d0))))) (DSs.cons (R.ret (R.lk (DE.ite (DT.ofW (DW.and (R.relT hu (R.nm 2) (R.non)) (DW.one_and (R.relT hu (R.val (R.call C_deed_line hr (by decide) (R.d1 (R.lk (R.nm 2)) (R.d0)))) (R.nm 0))))) (R.nm 2) (R.non)))) (DSs.nil)))))
def S_lines_read : S := S.seq (S.of (lstM (M.ret [])) (setIf 1)) (S.seq (iteS (notB (Dl.tru (isiM (nmM 0) ["str"]))) (S.seq (S.of (Dl.lk (tupM (consD (Dl.lk (nmM 1)) (consD (Dl.lk (cM (.int 0))) (M.ret []))))) fun d es => some (.rt d es)) (S.skip)) (S.skip)) (S.seq (S.of (mtM "str" (nmM 0) (consR (cM (.str "\n")) (M.ret [])) splitD) (setIf 2)) (S.seq (S.of (enum2M (consD (Dl.lk (sliceM (nmM 2) (partM none) (partM (some (negM (cM (.int 1))))))) (consD (Dl.lk (cM (.int 1))) (M.ret [])))) fun ds => loopS (sqG 2 (gsCons (setG 3) (gsCons (setG 4) (gsNil)))) (S.seq (S.of (valM (callF (consD (Dl.lk (nmM 4)) (M.ret [])) F_deed_of)) (setIf 5)) (S.seq (iteS (asB (relO .Is (nmM 5) (cM .non))) (S.seq (S.of (Dl.lk (tupM (consD (Dl.lk (nmM 1)) (consD (Dl.lk (nmM 3)) (M.ret []))))) fun d es => some (.rt d es)) (S.skip)) (S.skip)) (S.seq (S.of (apndM (nmM 1) (Dl.lk (nmM 5))) fun _ es => some (.nx es)) (S.skip)))) ds) (S.seq (S.of (Dl.lk (tupM (consD (Dl.lk (nmM 1)) (consD (Dl.lk (iteV (asB (relO .Eq (ixO (nmM 2) (negM (cM (.int 1)))) (cM (.str "")))) (cM .non) (callN (consR (nmM 2) (M.ret [])) lenD))) (M.ret []))))) fun d es => some (.rt d es)) (S.skip)))))
def F_lines_read : F := bodyF 6 1 (S_lines_read)
theorem C_lines_read (U : HFun K mg "lines_read" (stAt 20)) (B : Bi mg bns) (C_deed_of : Cal P w K mg base cn 4 "deed_of" 1 F_deed_of) : Cal P w K mg base cn 5 "lines_read" 1 (F_lines_read) :=
  U.cal (N := ["text", "found", "lines", "number", "line", "deed"]) (ps := ["text"]) (k := 4) (scope_by (by decide)) (fun _ _ FU => FU.binds fun _ _ _ _ _ _ us hl => match us, hl with | [_], _ => rfl) fun cdv f A outer s H E hr hu hN hp => DSs.cons (R.setv 1 hN (DE.lst (R.d0))) (DSs.cons (DS.ite (DT.not (R.tru (R.isi1 B (R.nm 0) boot_str h_str h_isinstance))) (DSs.cons (R.ret (R.lk (DE.tup (R.d1 (R.lk (R.nm 1)) (R.d1 (R.lk (R.int)) (R.d0)))))) (DSs.nil)) (DSs.nil)) (DSs.cons (R.setv 2 hN (R.split (R.nm 0) (R.a1 (R.str) (R.a0)))) (DSs.cons (R.loop hp (R.enum2 B (R.d1 (R.lk (DE.slice (R.nm 2) (DP.none) (DP.some (R.neg (R.int))))) (R.d1 (R.lk (R.int)) (R.d0))) h_enumerate) (R.gt 2 K (R.g1 (R.gn 3 hN) (R.g1 (R.gn 4 hN) (R.g0)))) (DSs.cons (R.setv 5 hN (R.val (R.call C_deed_of hr (by decide) (R.d1 (R.lk (R.nm 4)) (R.d0))))) (DSs.cons (DS.ite (R.relT hu (R.nm 5) (R.non)) (DSs.cons (R.ret (R.lk (DE.tup (R.d1 (R.lk (R.nm 1)) (R.d1 (R.lk (R.nm 3)) (R.d0)))))) (DSs.nil)) (DSs.nil)) (DSs.cons (R.expr (R.append (R.nm 1) (R.lk (R.nm 5)))) (DSs.nil))))) (DSs.cons (R.ret (R.lk (DE.tup (R.d1 (R.lk (R.nm 1)) (R.d1 (R.lk (DE.ite (R.relT hu (R.ix hu (R.nm 2) (R.neg (R.int))) (R.str)) (R.non) (R.blt B sem_len (R.a1 (R.nm 2) (R.a0)) boot_len h_len))) (R.d0)))))) (DSs.nil)))))
def S_deeds_fault : S := S.seq (S.of (Dl.lk (ixO (valM (callF (consD (Dl.lk (nmM 0)) (M.ret [])) F_lines_read)) (cM (.int 1)))) fun d es => some (.rt d es)) (S.skip)
def F_deeds_fault : F := bodyF 1 1 (S_deeds_fault)
theorem C_deeds_fault (U : HFun K mg "deeds_fault" (stAt 21)) (B : Bi mg bns) (C_lines_read : Cal P w K mg base cn 5 "lines_read" 1 F_lines_read) : Cal P w K mg base cn 6 "deeds_fault" 1 (F_deeds_fault) :=
  U.cal (N := ["text"]) (ps := ["text"]) (k := 5) (scope_by (by decide)) (fun _ _ FU => FU.binds fun _ _ _ _ _ _ us hl => match us, hl with | [_], _ => rfl) fun cdv f A outer s H E hr hu hN hp => DSs.cons (R.ret (R.lk (R.ix hu (R.val (R.call C_lines_read hr (by decide) (R.d1 (R.lk (R.nm 0)) (R.d0)))) (R.int)))) (DSs.nil)
def S_read_deeds : S := S.seq (asgS (callF (consD (Dl.lk (nmM 0)) (M.ret [])) F_lines_read) (sqG 2 (gsCons (setG 1) (gsCons (setG 2) (gsNil))))) (S.seq (iteS (asB (relO .IsNot (nmM 2) (cM .non))) (S.seq (raiseS "BadText" "line" (consD (Dl.lk (nmM 2)) (M.ret []))) (S.skip)) (S.skip)) (S.seq (S.of (Dl.lk (nmM 1)) fun d es => some (.rt d es)) (S.skip)))
def F_read_deeds : F := bodyF 3 1 (S_read_deeds)
theorem C_read_deeds (U : HFun K mg "read_deeds" (stAt 22)) (B : Bi mg bns) (X_BadText : Exc1 P w K mg base cn 1 "BadText" "line") (C_lines_read : Cal P w K mg base cn 5 "lines_read" 1 F_lines_read) : Cal P w K mg base cn 6 "read_deeds" 1 (F_read_deeds) :=
  U.cal (N := ["text", "found", "number"]) (ps := ["text"]) (k := 5) (scope_by (by decide)) (fun _ _ FU => FU.binds fun _ _ _ _ _ _ us hl => match us, hl with | [_], _ => rfl) fun cdv f A outer s H E hr hu hN hp => DSs.cons (R.asg (R.call C_lines_read hr (by decide) (R.d1 (R.lk (R.nm 0)) (R.d0))) (R.gt 2 K (R.g1 (R.gn 1 hN) (R.g1 (R.gn 2 hN) (R.g0))))) (DSs.cons (DS.ite (R.relT hu (R.nm 2) (R.non)) (DSs.cons (R.raise X_BadText hr (by decide) (R.d1 (R.lk (R.nm 2)) (R.d0))) (DSs.nil)) (DSs.nil)) (DSs.cons (R.ret (R.lk (R.nm 1))) (DSs.nil)))
def S__law_same (F__law_same : F) : S := S.seq (iteS (Dl.tru (isiM (nmM 1) ["list", "tuple"])) (S.seq (iteS (orB (asB (relO .NotEq (isiM (nmM 0) ["list"]) (isiM (nmM 1) ["list"]))) (asB (relO .NotEq (isiM (nmM 0) ["tuple"]) (isiM (nmM 1) ["tuple"])))) (S.seq (S.of (Dl.lk (cM (.bl false))) fun d es => some (.rt d es)) (S.skip)) (S.skip)) (S.seq (S.of (Dl.lk (andV (relO .Eq (callN (consR (nmM 0) (M.ret [])) lenD) (callN (consR (nmM 1) (M.ret [])) lenD)) (callN (consR (lcM [2, 3] (zipM (consD (Dl.lk (nmM 0)) (consD (Dl.lk (nmM 1)) (M.ret [])))) (sqG 2 (gsCons (setG 2) (gsCons (setG 3) (gsNil)))) (M.ret true) (callF (consD (Dl.lk (nmM 2)) (consD (Dl.lk (nmM 3)) (M.ret []))) F__law_same)) (M.ret [])) (allD fun bs => bs.all id)))) fun d es => some (.rt d es)) (S.skip))) (S.skip)) (S.seq (iteS (Dl.tru (isiM (nmM 1) ["dict"])) (S.seq (S.of (Dl.lk (andV (isiM (nmM 0) ["dict"]) (valM (callF (consD (Dl.lk (callN (consR (noM) (M.ret [])) listD)) (consD (Dl.lk (callN (consR (noM) (M.ret [])) listD)) (M.ret []))) F__law_same)))) fun d es => some (.rt d es)) (S.skip)) (S.skip)) (S.seq (iteS (Dl.tru (isiM (nmM 1) ["int"])) (S.seq (S.of (Dl.lk (andV (isiM (nmM 0) ["int"]) (andV (relO .Eq (isiM (nmM 0) ["bool"]) (isiM (nmM 1) ["bool"])) (relO .Eq (nmM 0) (nmM 1))))) fun d es => some (.rt d es)) (S.skip)) (S.skip)) (S.seq (iteS (asB (relO .Is (nmM 1) (cM .non))) (S.seq (S.of (Dl.lk (relO .Is (nmM 0) (cM .non))) fun d es => some (.rt d es)) (S.skip)) (S.skip)) (S.seq (iteS (Dl.tru (isiM (nmM 1) ["str"])) (S.seq (S.of (Dl.lk (andV (isiM (nmM 0) ["str"]) (relO .Eq (nmM 0) (nmM 1)))) fun d es => some (.rt d es)) (S.skip)) (S.skip)) (S.seq (S.of (Dl.lk (andV (notE (isiM (nmM 0) ["int", "str", "list", "tuple", "dict"])) (relO .Eq (nmM 0) (nmM 1)))) fun d es => some (.rt d es)) (S.skip))))))
def F__law_same : Nat → F
  | 0 => F0
  | i + 1 => bodyF 4 2 (S__law_same (F__law_same i))
theorem C__law_same (U : HFun K mg "_law_same" (stAt 30)) (B : Bi mg bns) : ∀ i : Nat, Cal P w K mg base cn (1 + i) "_law_same" 2 (F__law_same i)
  | 0 => U.nought (N := ["found", "due", "x", "y"]) (ps := ["found", "due"]) (k := 0) (scope_by (by decide)) (fun _ _ FU => FU.binds fun _ _ _ _ _ _ us hl => match us, hl with | [_, _], _ => rfl)
  | i + 1 => by
    have C__law_same := C__law_same U B  i
    exact U.cal (N := ["found", "due", "x", "y"]) (ps := ["found", "due"]) (k := 1 + i) (scope_by (by decide)) (fun _ _ FU => FU.binds fun _ _ _ _ _ _ us hl => match us, hl with | [_, _], _ => rfl) fun cdv f A outer s H E hr hu hN hp => DSs.cons (DS.ite (R.tru (R.isiT B (R.nm 1) (R.ty1 B (R.ty1 B (R.ty0) boot_tuple h_tuple) boot_list h_list) h_isinstance)) (DSs.cons (DS.ite (DT.ofW (DW.or (R.relT hu (R.isi1 B (R.nm 0) boot_list h_list h_isinstance) (R.isi1 B (R.nm 1) boot_list h_list h_isinstance)) (DW.one_or (R.relT hu (R.isi1 B (R.nm 0) boot_tuple h_tuple h_isinstance) (R.isi1 B (R.nm 1) boot_tuple h_tuple h_isinstance))))) (DSs.cons (R.ret (R.lk (R.bl))) (DSs.nil)) (DSs.nil)) (DSs.cons (R.ret (R.lk (DE.and (R.rel hu (R.blt B sem_len (R.a1 (R.nm 0) (R.a0)) boot_len h_len) (R.blt B sem_len (R.a1 (R.nm 1) (R.a0)) boot_len h_len)) (DE.one (R.blt B (sem_all rfl) (R.a1 (R.lc [("x", 2), ("y", 3)] hN (R.zip B (R.d1 (R.lk (R.nm 0)) (R.d1 (R.lk (R.nm 1)) (R.d0))) h_zip) (fun _ _ _ _ _ => R.gt 2 K (R.g1 (R.gn 2 hN) (R.g1 (R.gn 3 hN) (R.g0)))) (fun _ _ _ _ _ => DTs.nil) (fun _ _ _ _ _ => R.call C__law_same hr (by omega) (R.d1 (R.lk (R.nm 2)) (R.d1 (R.lk (R.nm 3)) (R.d0))))) (R.a0)) boot_all h_all))))) (DSs.nil))) (DSs.nil)) (DSs.cons (DS.ite (R.tru (R.isi1 B (R.nm 1) boot_dict h_dict h_isinstance)) (DSs.cons (R.ret (R.lk (DE.and (R.isi1 B (R.nm 0) boot_dict h_dict h_isinstance) (DE.one (R.val (R.call C__law_same hr (by omega) (R.d1 (R.lk (R.bty B (sem_list rfl) (R.a1 (R.noE) (R.a0)) boot_list h_list)) (R.d1 (R.lk (R.bty B (sem_list rfl) (R.a1 (R.noE) (R.a0)) boot_list h_list)) (R.d0))))))))) (DSs.nil)) (DSs.nil)) (DSs.cons (DS.ite (R.tru (R.isi1 B (R.nm 1) boot_int h_int h_isinstance)) (DSs.cons (R.ret (R.lk (DE.and (R.isi1 B (R.nm 0) boot_int h_int h_isinstance) (DE.and (R.rel hu (R.isi1 B (R.nm 0) boot_bool h_bool h_isinstance) (R.isi1 B (R.nm 1) boot_bool h_bool h_isinstance)) (DE.one (R.rel hu (R.nm 0) (R.nm 1))))))) (DSs.nil)) (DSs.nil)) (DSs.cons (DS.ite (R.relT hu (R.nm 1) (R.non)) (DSs.cons (R.ret (R.lk (R.rel hu (R.nm 0) (R.non)))) (DSs.nil)) (DSs.nil)) (DSs.cons (DS.ite (R.tru (R.isi1 B (R.nm 1) boot_str h_str h_isinstance)) (DSs.cons (R.ret (R.lk (DE.and (R.isi1 B (R.nm 0) boot_str h_str h_isinstance) (DE.one (R.rel hu (R.nm 0) (R.nm 1)))))) (DSs.nil)) (DSs.nil)) (DSs.cons (R.ret (R.lk (DE.and (DE.not (R.isiT B (R.nm 0) (R.ty1 B (R.ty1 B (R.ty1 B (R.ty1 B (R.ty1 B (R.ty0) boot_dict h_dict) boot_tuple h_tuple) boot_list h_list) boot_str h_str) boot_int h_int) h_isinstance)) (DE.one (R.rel hu (R.nm 0) (R.nm 1)))))) (DSs.nil))))))
def S__law_is_once (F__law_is_once : F) : S := S.seq (iteS (Dl.tru (isiM (nmM 0) ["dict"])) (S.seq (S.of (Dl.lk (andV (relO .Eq (ixO (nmM 0) (cM (.str "LATE"))) (cM (.int 1))) (callN (consR (lcM [1] (seqM (Dl.lk (nmM 0))) (setG 1) (asB (relO .NotEq (nmM 1) (cM (.str "LATE")))) (callF (consD (Dl.lk (ixO (nmM 0) (nmM 1))) (M.ret [])) F__law_is_once)) (M.ret [])) (allD fun bs => bs.all id)))) fun d es => some (.rt d es)) (S.skip)) (S.skip)) (S.seq (iteS (Dl.tru (isiM (nmM 0) ["list", "tuple"])) (S.seq (S.of (callN (consR (isiM (nmM 0) ["list"]) (M.ret [])) intD) (setIf 2)) (S.seq (S.of (Dl.lk (andV (relO .Eq (mtM "list" (callN (consR (nmM 0) (M.ret [])) listD) (consR (cM (.str "LATE")) (M.ret [])) countD) (nmM 2)) (callN (consR (lcM [3] (seqM (Dl.lk (nmM 0))) (setG 3) (M.ret true) (callF (consD (Dl.lk (nmM 3)) (M.ret [])) F__law_is_once)) (M.ret [])) (allD fun bs => bs.all id)))) fun d es => some (.rt d es)) (S.skip))) (S.skip)) (S.seq (S.of (Dl.lk (cM (.bl true))) fun d es => some (.rt d es)) (S.skip)))
def F__law_is_once : Nat → F
  | 0 => F0
  | i + 1 => bodyF 4 1 (S__law_is_once (F__law_is_once i))
theorem C__law_is_once (U : HFun K mg "_law_is_once" (stAt 33)) (B : Bi mg bns) : ∀ i : Nat, Cal P w K mg base cn (1 + i) "_law_is_once" 1 (F__law_is_once i)
  | 0 => U.nought (N := ["thing", "key", "many", "part"]) (ps := ["thing"]) (k := 0) (scope_by (by decide)) (fun _ _ FU => FU.binds fun _ _ _ _ _ _ us hl => match us, hl with | [_], _ => rfl)
  | i + 1 => by
    have C__law_is_once := C__law_is_once U B  i
    exact U.cal (N := ["thing", "key", "many", "part"]) (ps := ["thing"]) (k := 1 + i) (scope_by (by decide)) (fun _ _ FU => FU.binds fun _ _ _ _ _ _ us hl => match us, hl with | [_], _ => rfl) fun cdv f A outer s H E hr hu hN hp => DSs.cons (DS.ite (R.tru (R.isi1 B (R.nm 0) boot_dict h_dict h_isinstance)) (DSs.cons (R.ret (R.lk (DE.and (R.rel hu (R.ix hu (R.nm 0) (R.str)) (R.int)) (DE.one (R.blt B (sem_all rfl) (R.a1 (R.lc [("key", 1)] hN (R.seq (R.lk (R.nm 0))) (fun _ _ _ _ _ => R.gn 1 hN) (fun _ _ _ _ _ => DTs.one (R.relT hu (R.nm 1) (R.str))) (fun _ _ _ _ _ => R.call C__law_is_once hr (by omega) (R.d1 (R.lk (R.ix hu (R.nm 0) (R.nm 1))) (R.d0)))) (R.a0)) boot_all h_all))))) (DSs.nil)) (DSs.nil)) (DSs.cons (DS.ite (R.tru (R.isiT B (R.nm 0) (R.ty1 B (R.ty1 B (R.ty0) boot_tuple h_tuple) boot_list h_list) h_isinstance)) (DSs.cons (R.setv 2 hN (R.bty B sem_int (R.a1 (R.isi1 B (R.nm 0) boot_list h_list h_isinstance) (R.a0)) boot_int h_int)) (DSs.cons (R.ret (R.lk (DE.and (R.rel hu (R.count hu (R.bty B (sem_list rfl) (R.a1 (R.nm 0) (R.a0)) boot_list h_list) (R.a1 (R.str) (R.a0))) (R.nm 2)) (DE.one (R.blt B (sem_all rfl) (R.a1 (R.lc [("part", 3)] hN (R.seq (R.lk (R.nm 0))) (fun _ _ _ _ _ => R.gn 3 hN) (fun _ _ _ _ _ => DTs.nil) (fun _ _ _ _ _ => R.call C__law_is_once hr (by omega) (R.d1 (R.lk (R.nm 3)) (R.d0)))) (R.a0)) boot_all h_all))))) (DSs.nil))) (DSs.nil)) (DSs.cons (R.ret (R.lk (R.bl))) (DSs.nil)))
def S__law_loose (F__law_loose : F) : S := S.seq (iteS (Dl.tru (isiM (nmM 1) ["dict"])) (S.seq (S.of (Dl.lk (callN (consR (lcM [2] (seqM (callF (consD (Dl.lk (nmM 0)) (consD (Dl.lk (callN (consR (nmM 1) (M.ret [])) listD)) (M.ret []))) F__law_mixed)) (setG 2) (M.ret true) (Dl.lk (tupM (consD (Dl.lk (nmM 2)) (consD (callF (consD (Dl.lk (nmM 0)) (consD (Dl.lk (ixO (nmM 1) (nmM 2))) (M.ret []))) F__law_loose) (M.ret [])))))) (M.ret [])) dictD)) fun d es => some (.rt d es)) (S.skip)) (S.skip)) (S.seq (iteS (notB (Dl.tru (isiM (nmM 1) ["list", "tuple"]))) (S.seq (S.of (Dl.lk (nmM 1)) fun d es => some (.rt d es)) (S.skip)) (S.skip)) (S.seq (S.of (lcM [4] (seqM (Dl.lk (nmM 1))) (setG 4) (M.ret true) (callF (consD (Dl.lk (nmM 0)) (consD (Dl.lk (nmM 4)) (M.ret []))) F__law_loose)) (setIf 3)) (S.seq (S.of (Dl.lk (iteV (asB (relO .Eq (valM (callF (consD (Dl.lk (nmM 0)) (consD (Dl.lk (cM (.int 2))) (M.ret []))) F__law_below)) (cM (.int 0)))) (nmM 3) (callN (consR (nmM 3) (M.ret [])) tupleD))) fun d es => some (.rt d es)) (S.skip))))
def F__law_loose : Nat → F
  | 0 => F0
  | i + 1 => bodyF 5 2 (S__law_loose (F__law_loose i))
theorem C__law_loose (U : HFun K mg "_law_loose" (stAt 31)) (B : Bi mg bns) (C__law_mixed : Cal P w K mg base cn 2 "_law_mixed" 2 F__law_mixed) (C__law_below : Cal P w K mg base cn 1 "_law_below" 2 F__law_below) : ∀ i : Nat, Cal P w K mg base cn (3 + i) "_law_loose" 2 (F__law_loose i)
  | 0 => U.nought (N := ["stream", "thing", "key", "found", "part"]) (ps := ["stream", "thing"]) (k := 2) (scope_by (by decide)) (fun _ _ FU => FU.binds fun _ _ _ _ _ _ us hl => match us, hl with | [_, _], _ => rfl)
  | i + 1 => by
    have C__law_loose := C__law_loose U B C__law_mixed C__law_below i
    exact U.cal (N := ["stream", "thing", "key", "found", "part"]) (ps := ["stream", "thing"]) (k := 3 + i) (scope_by (by decide)) (fun _ _ FU => FU.binds fun _ _ _ _ _ _ us hl => match us, hl with | [_, _], _ => rfl) fun cdv f A outer s H E hr hu hN hp => DSs.cons (DS.ite (R.tru (R.isi1 B (R.nm 1) boot_dict h_dict h_isinstance)) (DSs.cons (R.ret (R.lk (R.bty B (sem_dict rfl) (R.a1 (R.lc [("key", 2)] hN (R.seq (R.call C__law_mixed hr (by omega) (R.d1 (R.lk (R.nm 0)) (R.d1 (R.lk (R.bty B (sem_list rfl) (R.a1 (R.nm 1) (R.a0)) boot_list h_list)) (R.d0))))) (fun _ _ _ _ _ => R.gn 2 hN) (fun _ _ _ _ _ => DTs.nil) (fun _ _ _ _ _ => R.lk (DE.tup (R.d1 (R.lk (R.nm 2)) (R.d1 (R.call C__law_loose hr (by omega) (R.d1 (R.lk (R.nm 0)) (R.d1 (R.lk (R.ix hu (R.nm 1) (R.nm 2))) (R.d0)))) (R.d0)))))) (R.a0)) boot_dict h_dict))) (DSs.nil)) (DSs.nil)) (DSs.cons (DS.ite (DT.not (R.tru (R.isiT B (R.nm 1) (R.ty1 B (R.ty1 B (R.ty0) boot_tuple h_tuple) boot_list h_list) h_isinstance))) (DSs.cons (R.ret (R.lk (R.nm 1))) (DSs.nil)) (DSs.nil)) (DSs.cons ((by first | exact R.setlc 3 [("part", 4)] hN (R.seq (R.lk (R.nm 1))) (fun _ _ _ _ _ => R.gn 4 hN) (fun _ _ _ _ _ => DTs.nil) (fun _ _ _ _ _ => R.call C__law_loose hr (by omega) (R.d1 (R.lk (R.nm 0)) (R.d1 (R.lk (R.nm 4)) (R.d0)))) | exact R.setv 3 hN (R.lc [("part", 4)] hN (R.seq (R.lk (R.nm 1))) (fun _ _ _ _ _ => R.gn 4 hN) (fun _ _ _ _ _ => DTs.nil) (fun _ _ _ _ _ => R.call C__law_loose hr (by omega) (R.d1 (R.lk (R.nm 0)) (R.d1 (R.lk (R.nm 4)) (R.d0))))))) (DSs.cons (R.ret (R.lk (DE.ite (R.relT hu (R.val (R.call C__law_below hr (by omega) (R.d1 (R.lk (R.nm 0)) (R.d1 (R.lk (R.int)) (R.d0))))) (R.int)) (R.nm 3) (R.bty B sem_tuple (R.a1 (R.nm 3) (R.a0)) boot_tuple h_tuple)))) (DSs.nil))))
def S_law : S := S.seq (S.of (M.bind (consR (cM (.int 4)) (M.ret [])) fun rs => M.bind (peeks rs) fun ds => M.lift (Dl.rng1 ds)) fun ds => loopS (setG 2) (S.seq (S.of (lcM [4] (M.bind (consR (binO .Add (cM (.int 1)) (valM (callF (consD (Dl.lk (nmM 1)) (consD (Dl.lk (cM (.int 9))) (M.ret []))) F__law_below))) (M.ret [])) fun rs => M.bind (peeks rs) fun ds => M.lift (Dl.rng1 ds)) (setG 4) (M.ret true) (callF (consD (Dl.lk (nmM 1)) (M.ret [])) F__law_mform)) (setIf 3)) (S.seq (S.of (lcM [6] (seqM (Dl.lk (nmM 3))) (setG 6) (M.ret true) (callF (consD (Dl.lk (nmM 6)) (M.ret [])) F__law_mline)) (setIf 5)) (S.seq (S.of (valM (callF (consD (Dl.lk (nmM 5)) (M.ret [])) F__law_mtext)) (setIf 7)) (S.seq (S.of (lstM (consD (catchM "told" K__law_mwords (callF (consD (callF (consD (Dl.lk (nmM 1)) (consD (Dl.lk (nmM 3)) (M.ret []))) (F__law_loose 8)) (M.ret [])) F_deeds_text)) (M.ret []))) (setIf 8)) (S.seq (unitS 8 [3, 5] 8 (catchM "told" K__law_mwords (callF (consD (Dl.lk (nmM 7)) (M.ret [])) F_read_deeds)) (orB (notB (Dl.tru (valM (callF (consD (Dl.lk (nmM 8)) (consD (Dl.lk (lstM (consD (Dl.lk (tupM (consD (Dl.lk (cM (.str "told"))) (consD (Dl.lk (nmM 7)) (M.ret []))))) (consD (Dl.lk (tupM (consD (Dl.lk (cM (.str "told"))) (consD (Dl.lk (nmM 3)) (M.ret []))))) (M.ret []))))) (M.ret []))) (F__law_same 8))))) (asB (relO .IsNot (valM (callF (consD (Dl.lk (nmM 7)) (M.ret [])) F_deeds_fault)) (cM .non)))) (F__law_is_once 8) (notB (Dl.tru (valM (callF (consD (callF (consD (Dl.lk (nmM 7)) (M.ret [])) F_read_deeds) (consD (Dl.lk (nmM 3)) (M.ret []))) (F__law_same 8)))))) (S.seq (S.of (M.bind (consR (cM (.int 12)) (M.ret [])) fun rs => M.bind (peeks rs) fun ds => M.lift (Dl.rng1 ds)) fun ds => loopS (setG 4) (S.seq (S.of (valM (callF (consD (Dl.lk (nmM 1)) (consD (Dl.lk (nmM 5)) (consD (Dl.lk (lstM (consD (Dl.lk (cM (.str "words"))) (consD (Dl.lk (cM (.str "drop"))) (consD (Dl.lk (cM (.str "star"))) (consD (Dl.lk (cM (.str "both"))) (consD (Dl.lk (cM (.str "join"))) (consD (Dl.lk (cM (.str "-"))) (consD (Dl.lk (cM (.str "a"))) (consD (Dl.lk (cM (.str "b1"))) (consD (Dl.lk (cM (.str "aaaaa"))) (consD (Dl.lk (cM (.str "A"))) (consD (Dl.lk (cM (.str "1a"))) (consD (Dl.lk (cM (.str ""))) (consD (Dl.lk (cM (.str "zzzzzzzzz"))) (M.ret [])))))))))))))))) (M.ret [])))) F__law_mbent)) (setIf 9)) (S.seq (S.of (mtM "str" (nmM 9) (consR (cM (.str "\n")) (M.ret [])) splitD) (setIf 10)) (S.seq (S.of (lcM [12, 13] (enum1M (consD (Dl.lk (sliceM (nmM 10) (partM none) (partM (some (negM (cM (.int 1))))))) (M.ret []))) (sqG 2 (gsCons (setG 12) (gsCons (setG 13) (gsNil)))) (asB (relO .Is (valM (callF (consD (Dl.lk (nmM 13)) (M.ret [])) F__law_mread)) (cM .non))) (Dl.lk (binO .Add (nmM 12) (cM (.int 1))))) (setIf 11)) (S.seq (S.of (ixO (binO .Add (binO .Add (nmM 11) (iteV (asB (relO .NotEq (ixO (nmM 10) (negM (cM (.int 1)))) (cM (.str "")))) (lstM (consD (Dl.lk (callN (consR (nmM 10) (M.ret [])) lenD)) (M.ret []))) (lstM (M.ret [])))) (lstM (consD (Dl.lk (cM .non)) (M.ret [])))) (cM (.int 0))) (setIf 14)) (S.seq (iteS (notB (Dl.tru (valM (callF (consD (callF (consD (Dl.lk (nmM 9)) (M.ret [])) F_deeds_fault) (consD (Dl.lk (nmM 14)) (M.ret []))) (F__law_same 8))))) (S.seq (S.of (Dl.lk (cM (.bl false))) fun d es => some (.rt d es)) (S.skip)) (S.skip)) (S.seq (S.of (valM (catchM "told" K__law_mwords (callF (consD (Dl.lk (nmM 9)) (M.ret [])) F_read_deeds))) (setIf 8)) (S.seq (iteS (notB (Dl.tru (valM (callF (consD (Dl.lk (nmM 8)) (consD (Dl.lk (iteV (asB (relO .IsNot (nmM 14) (cM .non))) (tupM (consD (Dl.lk (cM (.str "text"))) (consD (Dl.lk (nmM 14)) (M.ret [])))) (tupM (consD (Dl.lk (cM (.str "told"))) (consD (Dl.lk (lcM [13] (seqM (Dl.lk (sliceM (nmM 10) (partM none) (partM (some (negM (cM (.int 1)))))))) (setG 13) (M.ret true) (callF (consD (Dl.lk (nmM 13)) (M.ret [])) F__law_mread))) (M.ret [])))))) (M.ret []))) (F__law_same 8))))) (S.seq (S.of (Dl.lk (cM (.bl false))) fun d es => some (.rt d es)) (S.skip)) (S.skip)) (S.skip)))))))) ds) (S.seq (S.of (lstM (consD (Dl.lk (cM .non)) (consD (Dl.lk (cM (.int 5))) (consD (Dl.lk (tupM (consD (Dl.lk (cM (.str "stop"))) (M.ret [])))) (consD (Dl.lk (tupM (consD (Dl.lk (cM (.str "words"))) (consD (Dl.lk (cM (.str "a"))) (M.ret []))))) (consD (Dl.lk (tupM (consD (Dl.lk (cM (.str "words"))) (consD (Dl.lk (cM (.str "A"))) (consD (Dl.lk (lstM (M.ret []))) (M.ret [])))))) (consD (Dl.lk (tupM (consD (Dl.lk (cM (.str "words"))) (consD (Dl.lk (cM (.str "a"))) (consD (Dl.lk (lstM (consD (Dl.lk (cM (.str "a"))) (consD (Dl.lk (cM (.str "a"))) (M.ret []))))) (M.ret [])))))) (consD (Dl.lk (tupM (consD (Dl.lk (cM (.str "words"))) (consD (Dl.lk (cM (.str "a"))) (consD (Dl.lk (lstM (consD (Dl.lk (cM (.str "aaaaa"))) (M.ret [])))) (M.ret [])))))) (M.ret []))))))))) (setIf 15)) (S.seq (S.of (binO .Add (nmM 15) (lstM (consD (Dl.lk (tupM (consD (Dl.lk (cM (.str "drop"))) (consD (Dl.lk (cM (.str "a_"))) (M.ret []))))) (consD (Dl.lk (tupM (consD (Dl.lk (cM (.str "star"))) (consD (Dl.lk (cM (.str "a"))) (M.ret []))))) (consD (Dl.lk (tupM (consD (Dl.lk (cM (.str "both"))) (consD (Dl.lk (cM (.str "a"))) (consD (Dl.lk (cM (.str "b"))) (M.ret [])))))) (consD (Dl.lk (tupM (consD (Dl.lk (cM (.str "words"))) (consD (Dl.lk (cM (.str "a"))) (consD (Dl.lk (lstM (consD (Dl.lk (cM (.str ""))) (consD (Dl.lk (cM (.str "a"))) (consD (Dl.lk (cM (.str "b"))) (consD (Dl.lk (cM (.str "aa"))) (consD (Dl.lk (cM (.str "ab"))) (consD (Dl.lk (cM (.str "ba"))) (consD (Dl.lk (cM (.str "bb"))) (M.ret [])))))))))) (M.ret [])))))) (M.ret []))))))) (setIf 15)) (S.seq (S.of (valM (callF (consD (Dl.lk (nmM 1)) (consD (Dl.lk (binO .Add (callN (consR (nmM 3) (M.ret [])) lenD) (cM (.int 1)))) (M.ret []))) F__law_below)) (setIf 12)) (S.seq (S.of (seqM (Dl.lk (nmM 15))) fun ds => loopS (setG 16) (S.seq (iteS (notB (Dl.tru (valM (callF (consD (catchM "told" K__law_mwords (callF (consD (Dl.lk (binO .Add (binO .Add (sliceM (nmM 3) (partM none) (partM (some (nmM 12)))) (lstM (consD (Dl.lk (nmM 16)) (M.ret [])))) (sliceM (nmM 3) (partM (some (nmM 12))) (partM none)))) (M.ret [])) F_deeds_text)) (consD (Dl.lk (tupM (consD (Dl.lk (cM (.str "deed"))) (consD (Dl.lk (nmM 12)) (M.ret []))))) (M.ret []))) (F__law_same 8))))) (S.seq (S.of (Dl.lk (cM (.bl false))) fun d es => some (.rt d es)) (S.skip)) (S.skip)) (S.skip)) ds) (S.seq (S.of (seqM (Dl.lk (lstM (consD (Dl.lk (cM .non)) (consD (Dl.lk (cM (.int 5))) (consD (Dl.lk (cM (.str "ab"))) (consD (Dl.lk (M.ret (.fr (.dct false [] [])))) (M.ret [])))))))) fun ds => loopS (setG 16) (S.seq (S.of (lstM (consD (catchM "told" K__law_mwords (callF (consD (Dl.lk (nmM 16)) (M.ret [])) F_deeds_text)) (M.ret []))) (setIf 17)) (S.seq (S.of (apndM (nmM 17) (catchM "told" K__law_mwords (callF (consD (Dl.lk (lstM (consD (Dl.lk (nmM 16)) (M.ret [])))) (M.ret [])) F_read_deeds))) fun _ es => some (.nx es)) (S.seq (iteS (orB (notB (Dl.tru (valM (callF (consD (Dl.lk (nmM 17)) (consD (Dl.lk (lstM (consD (Dl.lk (tupM (consD (Dl.lk (cM (.str "deed"))) (consD (Dl.lk (cM (.int 0))) (M.ret []))))) (consD (Dl.lk (tupM (consD (Dl.lk (cM (.str "text"))) (consD (Dl.lk (cM (.int 0))) (M.ret []))))) (M.ret []))))) (M.ret []))) (F__law_same 8))))) (notB (Dl.tru (valM (callF (consD (callF (consD (Dl.lk (lstM (consD (Dl.lk (nmM 16)) (M.ret [])))) (M.ret [])) F_deeds_fault) (consD (Dl.lk (cM (.int 0))) (M.ret []))) (F__law_same 8)))))) (S.seq (S.of (Dl.lk (cM (.bl false))) fun d es => some (.rt d es)) (S.skip)) (S.skip)) (S.skip)))) ds) (S.skip)))))))))))) ds) (S.seq (S.of (lstM (consD (catchM "told" K__law_mwords (callF (consD (Dl.lk (lstM (M.ret []))) (M.ret [])) F_deeds_text)) (M.ret []))) (setIf 17)) (S.seq (S.of (apndM (nmM 17) (catchM "told" K__law_mwords (callF (consD (Dl.lk (cM (.str ""))) (M.ret [])) F_read_deeds))) fun _ es => some (.nx es)) (S.seq (S.of (callF (consD (Dl.lk (nmM 17)) (consD (Dl.lk (lstM (consD (Dl.lk (tupM (consD (Dl.lk (cM (.str "told"))) (consD (Dl.lk (cM (.str ""))) (M.ret []))))) (consD (Dl.lk (tupM (consD (Dl.lk (cM (.str "told"))) (consD (Dl.lk (lstM (M.ret []))) (M.ret []))))) (M.ret []))))) (M.ret []))) (F__law_same 8)) fun d es => some (.rt d es)) (S.skip))))
theorem C_law (U : HFunL K mg base cn "law" (stAt 40)) (B : Bi mg bns) (CT__law_mwords : Ctch K mg cn "_law_mwords" "call" "e" "told" K__law_mwords (stAt 39)) (C__law_below : Cal P w K mg base cn 1 "_law_below" 2 F__law_below) (C__law_mform : Cal P w K mg base cn 3 "_law_mform" 1 F__law_mform) (C__law_mline : Cal P w K mg base cn 1 "_law_mline" 1 F__law_mline) (C__law_mtext : Cal P w K mg base cn 1 "_law_mtext" 1 F__law_mtext) (C_deeds_text : Cal P w K mg base cn 4 "deeds_text" 1 F_deeds_text) (C__law_loose : Cal P w K mg base cn 11 "_law_loose" 2 (F__law_loose 8)) {fa : Addr} {fd : FuncData} {kk : Nat} (C__law_apart : FnOk P w K mg base (L2.CX P w) 10 fa fd ["thing"] (spA K cn kk 8 (F__law_is_once 8)) ∧ mg "_law_apart" = some (.ref fa) ∧ PySem.W.keepIn K (.ref fa) = true ∧ Binds K fd ["thing"] []) (C_read_deeds : Cal P w K mg base cn 6 "read_deeds" 1 F_read_deeds) (C__law_same : Cal P w K mg base cn 9 "_law_same" 2 (F__law_same 8)) (C_deeds_fault : Cal P w K mg base cn 6 "deeds_fault" 1 F_deeds_fault) (C__law_mbent : Cal P w K mg base cn 3 "_law_mbent" 3 F__law_mbent) (C__law_mread : Cal P w K mg base cn 2 "_law_mread" 1 F__law_mread) {fs : Addr} {fds : FuncData} (FS : FnOk P w K mg base (L2.CX P w) 1 fs fds ["script"] (spStart K 43)) (ms : mg "_law_start" = some (.ref fs)) (ks : PySem.W.keepIn K (.ref fs) = true) (bs : Binds K fds ["script"] []) : ∃ fa, LawOk P w K mg base cn 15 18 43 S_law fa (stAt 40) :=
  U.law (N := ["script", "stream", "turn", "deeds", "again", "lines", "deed", "text", "told", "bent", "rows", "wrong", "at", "line", "due", "some", "odd", "found"]) (k := 14) (scope_by (by decide)) rfl rfl FS ms ks bs (by decide) (by first | exact .inl rfl | exact .inr rfl) rfl rfl fun cdv f A outer s H E hr hu hN hp LA => DSs.cons (R.loop hp (R.rng1 B (R.a1 (R.int) (R.a0)) h_range) (R.gn 2 hN) (DSs.cons ((by first | exact R.setlc 3 [("again", 4)] hN (R.rng1 B (R.a1 (R.bin (R.int) (R.val (R.call C__law_below hr (by decide) (R.d1 (R.lk (R.nm 1)) (R.d1 (R.lk (R.int)) (R.d0)))))) (R.a0)) h_range) (fun _ _ _ _ _ => R.gn 4 hN) (fun _ _ _ _ _ => DTs.nil) (fun _ _ _ _ _ => R.call C__law_mform hr (by decide) (R.d1 (R.lk (R.nm 1)) (R.d0))) | exact R.setv 3 hN (R.lc [("again", 4)] hN (R.rng1 B (R.a1 (R.bin (R.int) (R.val (R.call C__law_below hr (by decide) (R.d1 (R.lk (R.nm 1)) (R.d1 (R.lk (R.int)) (R.d0)))))) (R.a0)) h_range) (fun _ _ _ _ _ => R.gn 4 hN) (fun _ _ _ _ _ => DTs.nil) (fun _ _ _ _ _ => R.call C__law_mform hr (by decide) (R.d1 (R.lk (R.nm 1)) (R.d0)))))) (DSs.cons ((by first | exact R.setlc 5 [("deed", 6)] hN (R.seq (R.lk (R.nm 3))) (fun _ _ _ _ _ => R.gn 6 hN) (fun _ _ _ _ _ => DTs.nil) (fun _ _ _ _ _ => R.call C__law_mline hr (by decide) (R.d1 (R.lk (R.nm 6)) (R.d0))) | exact R.setv 5 hN (R.lc [("deed", 6)] hN (R.seq (R.lk (R.nm 3))) (fun _ _ _ _ _ => R.gn 6 hN) (fun _ _ _ _ _ => DTs.nil) (fun _ _ _ _ _ => R.call C__law_mline hr (by decide) (R.d1 (R.lk (R.nm 6)) (R.d0)))))) (DSs.cons (R.setv 7 hN (R.val (R.call C__law_mtext hr (by decide) (R.d1 (R.lk (R.nm 5)) (R.d0))))) (DSs.cons (R.setv 8 hN (DE.lst (R.d1 (R.ctch 12 CT__law_mwords LA hr (by decide) (fun A outer s H E f c hr hu => R.call C_deeds_text hr (by decide) (R.d1 (R.call C__law_loose hr (by decide) (R.d1 (R.lk (R.nm 1)) (R.d1 (R.lk (R.nm 3)) (R.d0)))) (R.d0)))) (R.d0)))) ((by apply DSs.unit (i := 8) (n := 8) (ks := [3, 5]) (told := "told") (fr := S.seq (S.of (Dl.lk (cM (.bl false))) fun d es => some (.rt d es)) (S.skip)); rfl; (first | exact .inl rfl | exact .inr (.inl rfl)); rfl; rfl; exact R.append (R.nm 8) (R.ctch 12 CT__law_mwords LA hr (by decide) (fun A outer s H E f c hr hu => R.call C_read_deeds hr (by decide) (R.d1 (R.lk (R.nm 7)) (R.d0)))); rfl; exact DT.ofW (DW.or (DT.not (R.tru (R.val (R.call C__law_same hr (by decide) (R.d1 (R.lk (R.nm 8)) (R.d1 (R.lk (DE.lst (R.d1 (R.lk (DE.tup (R.d1 (R.lk (R.str)) (R.d1 (R.lk (R.nm 7)) (R.d0))))) (R.d1 (R.lk (DE.tup (R.d1 (R.lk (R.str)) (R.d1 (R.lk (R.nm 3)) (R.d0))))) (R.d0))))) (R.d0))))))) (DW.one_or (R.relT hu (R.val (R.call C_deeds_fault hr (by decide) (R.d1 (R.lk (R.nm 7)) (R.d0)))) (R.non)))); exact DT.not (R.tru (R.val (R.call C__law_same hr (by decide) (R.d1 (R.call C_read_deeds hr (by decide) (R.d1 (R.lk (R.nm 7)) (R.d0))) (R.d1 (R.lk (R.nm 3)) (R.d0)))))); exact DSs.cons (R.ret (R.lk (R.bl))) (DSs.nil); exact DSs.cons (R.ret (R.lk (R.bl))) (DSs.nil); exact (fun _ => rfl); exact C__law_apart.1; exact (hr.mono (by decide)); rfl; exact C__law_apart.2.1; exact C__law_apart.2.2.1; exact C__law_apart.2.2.2; exact DSs.cons (R.loop hp (R.rng1 B (R.a1 (R.int) (R.a0)) h_range) (R.gn 4 hN) (DSs.cons (R.setv 9 hN (R.val (R.call C__law_mbent hr (by decide) (R.d1 (R.lk (R.nm 1)) (R.d1 (R.lk (R.nm 5)) (R.d1 (R.lk (DE.lst (R.d1 (R.lk (R.str)) (R.d1 (R.lk (R.str)) (R.d1 (R.lk (R.str)) (R.d1 (R.lk (R.str)) (R.d1 (R.lk (R.str)) (R.d1 (R.lk (R.str)) (R.d1 (R.lk (R.str)) (R.d1 (R.lk (R.str)) (R.d1 (R.lk (R.str)) (R.d1 (R.lk (R.str)) (R.d1 (R.lk (R.str)) (R.d1 (R.lk (R.str)) (R.d1 (R.lk (R.str)) (R.d0)))))))))))))))) (R.d0))))))) (DSs.cons (R.setv 10 hN (R.split (R.nm 9) (R.a1 (R.str) (R.a0)))) (DSs.cons ((by first | exact R.setlc 11 [("at", 12), ("line", 13)] hN (R.enum1 B (R.d1 (R.lk (DE.slice (R.nm 10) (DP.none) (DP.some (R.neg (R.int))))) (R.d0)) h_enumerate) (fun _ _ _ _ _ => R.gt 2 K (R.g1 (R.gn 12 hN) (R.g1 (R.gn 13 hN) (R.g0)))) (fun _ _ _ _ _ => DTs.one (R.relT hu (R.val (R.call C__law_mread hr (by decide) (R.d1 (R.lk (R.nm 13)) (R.d0)))) (R.non))) (fun _ _ _ _ _ => R.lk (R.bin (R.nm 12) (R.int))) | exact R.setv 11 hN (R.lc [("at", 12), ("line", 13)] hN (R.enum1 B (R.d1 (R.lk (DE.slice (R.nm 10) (DP.none) (DP.some (R.neg (R.int))))) (R.d0)) h_enumerate) (fun _ _ _ _ _ => R.gt 2 K (R.g1 (R.gn 12 hN) (R.g1 (R.gn 13 hN) (R.g0)))) (fun _ _ _ _ _ => DTs.one (R.relT hu (R.val (R.call C__law_mread hr (by decide) (R.d1 (R.lk (R.nm 13)) (R.d0)))) (R.non))) (fun _ _ _ _ _ => R.lk (R.bin (R.nm 12) (R.int)))))) (DSs.cons (R.setv 14 hN (R.ix hu (R.bin (R.bin (R.nm 11) (DE.ite (R.relT hu (R.ix hu (R.nm 10) (R.neg (R.int))) (R.str)) (DE.lst (R.d1 (R.lk (R.blt B sem_len (R.a1 (R.nm 10) (R.a0)) boot_len h_len)) (R.d0))) (DE.lst (R.d0)))) (DE.lst (R.d1 (R.lk (R.non)) (R.d0)))) (R.int))) (DSs.cons (DS.ite (DT.not (R.tru (R.val (R.call C__law_same hr (by decide) (R.d1 (R.call C_deeds_fault hr (by decide) (R.d1 (R.lk (R.nm 9)) (R.d0))) (R.d1 (R.lk (R.nm 14)) (R.d0))))))) (DSs.cons (R.ret (R.lk (R.bl))) (DSs.nil)) (DSs.nil)) (DSs.cons (R.setv 8 hN (R.val (R.ctch 12 CT__law_mwords LA hr (by decide) (fun A outer s H E f c hr hu => R.call C_read_deeds hr (by decide) (R.d1 (R.lk (R.nm 9)) (R.d0)))))) (DSs.cons (DS.ite (DT.not (R.tru (R.val (R.call C__law_same hr (by decide) (R.d1 (R.lk (R.nm 8)) (R.d1 (R.lk (DE.ite (R.relT hu (R.nm 14) (R.non)) (DE.tup (R.d1 (R.lk (R.str)) (R.d1 (R.lk (R.nm 14)) (R.d0)))) (DE.tup (R.d1 (R.lk (R.str)) (R.d1 (R.lk (R.lc [("line", 13)] hN (R.seq (R.lk (DE.slice (R.nm 10) (DP.none) (DP.some (R.neg (R.int)))))) (fun _ _ _ _ _ => R.gn 13 hN) (fun _ _ _ _ _ => DTs.nil) (fun _ _ _ _ _ => R.call C__law_mread hr (by decide) (R.d1 (R.lk (R.nm 13)) (R.d0))))) (R.d0)))))) (R.d0))))))) (DSs.cons (R.ret (R.lk (R.bl))) (DSs.nil)) (DSs.nil)) (DSs.nil))))))))) (DSs.cons (R.setv 15 hN (DE.lst (R.d1 (R.lk (R.non)) (R.d1 (R.lk (R.int)) (R.d1 (R.lk (DE.tup (R.d1 (R.lk (R.str)) (R.d0)))) (R.d1 (R.lk (DE.tup (R.d1 (R.lk (R.str)) (R.d1 (R.lk (R.str)) (R.d0))))) (R.d1 (R.lk (DE.tup (R.d1 (R.lk (R.str)) (R.d1 (R.lk (R.str)) (R.d1 (R.lk (DE.lst (R.d0))) (R.d0)))))) (R.d1 (R.lk (DE.tup (R.d1 (R.lk (R.str)) (R.d1 (R.lk (R.str)) (R.d1 (R.lk (DE.lst (R.d1 (R.lk (R.str)) (R.d1 (R.lk (R.str)) (R.d0))))) (R.d0)))))) (R.d1 (R.lk (DE.tup (R.d1 (R.lk (R.str)) (R.d1 (R.lk (R.str)) (R.d1 (R.lk (DE.lst (R.d1 (R.lk (R.str)) (R.d0)))) (R.d0)))))) (R.d0)))))))))) (DSs.cons (R.setv 15 hN (R.bin (R.nm 15) (DE.lst (R.d1 (R.lk (DE.tup (R.d1 (R.lk (R.str)) (R.d1 (R.lk (R.str)) (R.d0))))) (R.d1 (R.lk (DE.tup (R.d1 (R.lk (R.str)) (R.d1 (R.lk (R.str)) (R.d0))))) (R.d1 (R.lk (DE.tup (R.d1 (R.lk (R.str)) (R.d1 (R.lk (R.str)) (R.d1 (R.lk (R.str)) (R.d0)))))) (R.d1 (R.lk (DE.tup (R.d1 (R.lk (R.str)) (R.d1 (R.lk (R.str)) (R.d1 (R.lk (DE.lst (R.d1 (R.lk (R.str)) (R.d1 (R.lk (R.str)) (R.d1 (R.lk (R.str)) (R.d1 (R.lk (R.str)) (R.d1 (R.lk (R.str)) (R.d1 (R.lk (R.str)) (R.d1 (R.lk (R.str)) (R.d0)))))))))) (R.d0)))))) (R.d0)))))))) (DSs.cons (R.setv 12 hN (R.val (R.call C__law_below hr (by decide) (R.d1 (R.lk (R.nm 1)) (R.d1 (R.lk (R.bin (R.blt B sem_len (R.a1 (R.nm 3) (R.a0)) boot_len h_len) (R.int))) (R.d0)))))) (DSs.cons (R.loop hp (R.seq (R.lk (R.nm 15))) (R.gn 16 hN) (DSs.cons (DS.ite (DT.not (R.tru (R.val (R.call C__law_same hr (by decide) (R.d1 (R.ctch 12 CT__law_mwords LA hr (by decide) (fun A outer s H E f c hr hu => R.call C_deeds_text hr (by decide) (R.d1 (R.lk (R.bin (R.bin (DE.slice (R.nm 3) (DP.none) (DP.some (R.nm 12))) (DE.lst (R.d1 (R.lk (R.nm 16)) (R.d0)))) (DE.slice (R.nm 3) (DP.some (R.nm 12)) (DP.none)))) (R.d0)))) (R.d1 (R.lk (DE.tup (R.d1 (R.lk (R.str)) (R.d1 (R.lk (R.nm 12)) (R.d0))))) (R.d0))))))) (DSs.cons (R.ret (R.lk (R.bl))) (DSs.nil)) (DSs.nil)) (DSs.nil))) (DSs.cons (R.loop hp (R.seq (R.lk (DE.lst (R.d1 (R.lk (R.non)) (R.d1 (R.lk (R.int)) (R.d1 (R.lk (R.str)) (R.d1 (R.lk (DE.dctN false)) (R.d0)))))))) (R.gn 16 hN) (DSs.cons (R.setv 17 hN (DE.lst (R.d1 (R.ctch 12 CT__law_mwords LA hr (by decide) (fun A outer s H E f c hr hu => R.call C_deeds_text hr (by decide) (R.d1 (R.lk (R.nm 16)) (R.d0)))) (R.d0)))) (DSs.cons (R.expr (R.append (R.nm 17) (R.ctch 12 CT__law_mwords LA hr (by decide) (fun A outer s H E f c hr hu => R.call C_read_deeds hr (by decide) (R.d1 (R.lk (DE.lst (R.d1 (R.lk (R.nm 16)) (R.d0)))) (R.d0)))))) (DSs.cons (DS.ite (DT.ofW (DW.or (DT.not (R.tru (R.val (R.call C__law_same hr (by decide) (R.d1 (R.lk (R.nm 17)) (R.d1 (R.lk (DE.lst (R.d1 (R.lk (DE.tup (R.d1 (R.lk (R.str)) (R.d1 (R.lk (R.int)) (R.d0))))) (R.d1 (R.lk (DE.tup (R.d1 (R.lk (R.str)) (R.d1 (R.lk (R.int)) (R.d0))))) (R.d0))))) (R.d0))))))) (DW.one_or (DT.not (R.tru (R.val (R.call C__law_same hr (by decide) (R.d1 (R.call C_deeds_fault hr (by decide) (R.d1 (R.lk (DE.lst (R.d1 (R.lk (R.nm 16)) (R.d0)))) (R.d0))) (R.d1 (R.lk (R.int)) (R.d0)))))))))) (DSs.cons (R.ret (R.lk (R.bl))) (DSs.nil)) (DSs.nil)) (DSs.nil))))) (DSs.nil))))))))))))) (DSs.cons (R.setv 17 hN (DE.lst (R.d1 (R.ctch 12 CT__law_mwords LA hr (by decide) (fun A outer s H E f c hr hu => R.call C_deeds_text hr (by decide) (R.d1 (R.lk (DE.lst (R.d0))) (R.d0)))) (R.d0)))) (DSs.cons (R.expr (R.append (R.nm 17) (R.ctch 12 CT__law_mwords LA hr (by decide) (fun A outer s H E f c hr hu => R.call C_read_deeds hr (by decide) (R.d1 (R.lk (R.str)) (R.d0)))))) (DSs.cons (R.ret (R.call C__law_same hr (by decide) (R.d1 (R.lk (R.nm 17)) (R.d1 (R.lk (DE.lst (R.d1 (R.lk (DE.tup (R.d1 (R.lk (R.str)) (R.d1 (R.lk (R.str)) (R.d0))))) (R.d1 (R.lk (DE.tup (R.d1 (R.lk (R.str)) (R.d1 (R.lk (DE.lst (R.d0))) (R.d0))))) (R.d0))))) (R.d0))))) (DSs.nil))))
end K76
end
section
set_option Elab.async false
set_option linter.all false
set_option maxRecDepth 100000
set_option maxHeartbeats 0
namespace K76
open PySem PySem.Spec PyProof.Rows L2 Dl
variable {w : World} {mg : Str → Option Value} {h base : Heap} {cn : Wd}
noncomputable abbrev KK (w : World) : PySem.W.Frag := head.heap_39 w.params
theorem bi (KX : (KK w).In h) (G : h.Ns mainGlobals mg) : Bi mg bns := bi_at KX G (by kernel_rfl)
theorem f_is_row (KX : (KK w).In h) (G : h.Ns mainGlobals mg) : HFun (KK w) mg "is_row" (stAt 6) := hfun_at 72 KX G (by kernel_rfl) (by kernel_rfl) (by kernel_rfl) (by kernel_rfl)
theorem f_is_name (KX : (KK w).In h) (G : h.Ns mainGlobals mg) : HFun (KK w) mg "is_name" (stAt 11) := hfun_at 77 KX G (by kernel_rfl) (by kernel_rfl) (by kernel_rfl) (by kernel_rfl)
theorem g_SMALL (KX : (KK w).In h) (G : h.Ns mainGlobals mg) : GcS mg "SMALL" "abcdefghijklmnopqrstuvwxyz" := gcs_at 259 KX G (by kernel_rfl)
theorem g_FIGURES (KX : (KK w).In h) (G : h.Ns mainGlobals mg) : GcS mg "FIGURES" "0123456789" := gcs_at 274 KX G (by kernel_rfl)
theorem f_is_deed (KX : (KK w).In h) (G : h.Ns mainGlobals mg) : HFun (KK w) mg "is_deed" (stAt 13) := hfun_at 85 KX G (by kernel_rfl) (by kernel_rfl) (by kernel_rfl) (by kernel_rfl)
theorem g_SIZES (KX : (KK w).In h) (G : h.Ns mainGlobals mg) : GcD (KK w) w mg "SIZES" K_SIZES := gcd_at 78 _ KX G (by kernel_rfl) (by kernel_rfl) (by kernel_rfl) (by kernel_rfl)
theorem f_deed_line (KX : (KK w).In h) (G : h.Ns mainGlobals mg) : HFun (KK w) mg "deed_line" (stAt 17) := hfun_at 100 KX G (by kernel_rfl) (by kernel_rfl) (by kernel_rfl) (by kernel_rfl)
theorem f__law_mtext (KX : (KK w).In h) (G : h.Ns mainGlobals mg) : HFun (KK w) mg "_law_mtext" (stAt 25) := hfun_at 143 KX G (by kernel_rfl) (by kernel_rfl) (by kernel_rfl) (by kernel_rfl)
theorem f__law_below (KX : (KK w).In h) (G : h.Ns mainGlobals mg) : HFun (KK w) mg "_law_below" (stAt 27) := hfun_at 157 KX G (by kernel_rfl) (by kernel_rfl) (by kernel_rfl) (by kernel_rfl)
theorem f__law_mname (KX : (KK w).In h) (G : h.Ns mainGlobals mg) : HFun (KK w) mg "_law_mname" (stAt 35) := hfun_at 203 KX G (by kernel_rfl) (by kernel_rfl) (by kernel_rfl) (by kernel_rfl)
theorem f__law_mline (KX : (KK w).In h) (G : h.Ns mainGlobals mg) : HFun (KK w) mg "_law_mline" (stAt 38) := hfun_at 218 KX G (by kernel_rfl) (by kernel_rfl) (by kernel_rfl) (by kernel_rfl)
theorem cd_plain_words (KX : (KK w).In h) : PySem.W.CodeHd h 89 87 := codehd_at 89 87 KX (by kernel_rfl) (by kernel_rfl) (by kernel_rfl) (by kernel_rfl) (by kernel_rfl) (by kernel_rfl) (by kernel_rfl) (by kernel_rfl) (by kernel_rfl) (by decide)
theorem f_plain_words (KX : (KK w).In h) (G : h.Ns mainGlobals mg) (TB : LamX.TabB base mg 89 87) (hm : (87, Str.ofString "plain_words.<locals>.<lambda>") ∈ cn.T) (hu : ∀ p ∈ cn.T, p.1 = 87 → p.2 = Str.ofString "plain_words.<locals>.<lambda>") : HFunL (KK w) mg base cn "plain_words" (stAt 15) := hfunl_at 90 89 87 KX G (by kernel_rfl) (by kernel_rfl) (by kernel_rfl) (by kernel_rfl) TB hm hu
theorem g_WORDS (KX : (KK w).In h) (G : h.Ns mainGlobals mg) : GcI mg "WORDS" (6) := gci_at 270 KX G (by kernel_rfl)
theorem g_LETTERS (KX : (KK w).In h) (G : h.Ns mainGlobals mg) : GcI mg "LETTERS" (4) := gci_at 272 KX G (by kernel_rfl)
theorem f__law_pick (KX : (KK w).In h) (G : h.Ns mainGlobals mg) : HFun (KK w) mg "_law_pick" (stAt 28) := hfun_at 164 KX G (by kernel_rfl) (by kernel_rfl) (by kernel_rfl) (by kernel_rfl)
theorem f__law_mixed (KX : (KK w).In h) (G : h.Ns mainGlobals mg) : HFun (KK w) mg "_law_mixed" (stAt 29) := hfun_at 169 KX G (by kernel_rfl) (by kernel_rfl) (by kernel_rfl) (by kernel_rfl)
theorem cd__law_mread (KX : (KK w).In h) : PySem.W.CodeHd h 207 205 := codehd_at 207 205 KX (by kernel_rfl) (by kernel_rfl) (by kernel_rfl) (by kernel_rfl) (by kernel_rfl) (by kernel_rfl) (by kernel_rfl) (by kernel_rfl) (by kernel_rfl) (by decide)
theorem f__law_mread (KX : (KK w).In h) (G : h.Ns mainGlobals mg) (TB : LamX.TabB base mg 207 205) (hm : (205, Str.ofString "_law_mread.<locals>.<lambda>") ∈ cn.T) (hu : ∀ p ∈ cn.T, p.1 = 205 → p.2 = Str.ofString "_law_mread.<locals>.<lambda>") : HFunL (KK w) mg base cn "_law_mread" (stAt 36) := hfunl_at 208 207 205 KX G (by kernel_rfl) (by kernel_rfl) (by kernel_rfl) (by kernel_rfl) TB hm hu
theorem f_plain_deed (KX : (KK w).In h) (G : h.Ns mainGlobals mg) : HFun (KK w) mg "plain_deed" (stAt 16) := hfun_at 95 KX G (by kernel_rfl) (by kernel_rfl) (by kernel_rfl) (by kernel_rfl)
theorem f__law_mbent (KX : (KK w).In h) (G : h.Ns mainGlobals mg) : HFun (KK w) mg "_law_mbent" (stAt 24) := hfun_at 138 KX G (by kernel_rfl) (by kernel_rfl) (by kernel_rfl) (by kernel_rfl)
theorem cd__law_mform (KX : (KK w).In h) : PySem.W.CodeHd h 212 210 := codehd_at 212 210 KX (by kernel_rfl) (by kernel_rfl) (by kernel_rfl) (by kernel_rfl) (by kernel_rfl) (by kernel_rfl) (by kernel_rfl) (by kernel_rfl) (by kernel_rfl) (by decide)
theorem f__law_mform (KX : (KK w).In h) (G : h.Ns mainGlobals mg) (TB : LamX.TabB base mg 212 210) (hm : (210, Str.ofString "_law_mform.<locals>.<lambda>") ∈ cn.T) (hu : ∀ p ∈ cn.T, p.1 = 210 → p.2 = Str.ofString "_law_mform.<locals>.<lambda>") : HFunL (KK w) mg base cn "_law_mform" (stAt 37) := hfunl_at 213 212 210 KX G (by kernel_rfl) (by kernel_rfl) (by kernel_rfl) (by kernel_rfl) TB hm hu
theorem f_deeds_text (KX : (KK w).In h) (G : h.Ns mainGlobals mg) : HFun (KK w) mg "deeds_text" (stAt 18) := hfun_at 107 KX G (by kernel_rfl) (by kernel_rfl) (by kernel_rfl) (by kernel_rfl)
theorem k_44 : ClsAt (KK w) 44 := ⟨by kernel_rfl, by kernel_rfl, by kernel_rfl, by kernel_rfl, by kernel_rfl, by kernel_rfl, by kernel_rfl, by kernel_rfl, by kernel_rfl⟩
theorem x_BadDeed {P : Program} (KX : (KK w).In h) (G : h.Ns mainGlobals mg) (hc : cn "BadDeed" = 44) : Exc1 P w (KK w) mg base cn 1 "BadDeed" "index" := exc1_at (qual := "BadDeed.__init__") (st := inCls (stAt 2) 0) 44 41 KX G (by kernel_rfl) hc k_44 (by kernel_rfl) (by kernel_rfl) (fun_at (x := "__init__") (qual := "BadDeed.__init__") (st := inCls (stAt 2) 0) 41 (by kernel_rfl) (by kernel_rfl) (by kernel_rfl)) (scope_by (by decide)) ((fun_at (x := "__init__") (qual := "BadDeed.__init__") (st := inCls (stAt 2) 0) 41 (by kernel_rfl) (by kernel_rfl) (by kernel_rfl)).binds fun _ _ _ _ _ _ us hl => match us, hl with | [_, _], _ => rfl) rfl (by kernel_rfl) (by rfl) (by rfl)
theorem f_deed_of (KX : (KK w).In h) (G : h.Ns mainGlobals mg) : HFun (KK w) mg "deed_of" (stAt 19) := hfun_at 112 KX G (by kernel_rfl) (by kernel_rfl) (by kernel_rfl) (by kernel_rfl)
theorem f_lines_read (KX : (KK w).In h) (G : h.Ns mainGlobals mg) : HFun (KK w) mg "lines_read" (stAt 20) := hfun_at 119 KX G (by kernel_rfl) (by kernel_rfl) (by kernel_rfl) (by kernel_rfl)
theorem f_deeds_fault (KX : (KK w).In h) (G : h.Ns mainGlobals mg) : HFun (KK w) mg "deeds_fault" (stAt 21) := hfun_at 126 KX G (by kernel_rfl) (by kernel_rfl) (by kernel_rfl) (by kernel_rfl)
theorem f_read_deeds (KX : (KK w).In h) (G : h.Ns mainGlobals mg) : HFun (KK w) mg "read_deeds" (stAt 22) := hfun_at 133 KX G (by kernel_rfl) (by kernel_rfl) (by kernel_rfl) (by kernel_rfl)
theorem k_63 : ClsAt (KK w) 63 := ⟨by kernel_rfl, by kernel_rfl, by kernel_rfl, by kernel_rfl, by kernel_rfl, by kernel_rfl, by kernel_rfl, by kernel_rfl, by kernel_rfl⟩
theorem x_BadText {P : Program} (KX : (KK w).In h) (G : h.Ns mainGlobals mg) (hc : cn "BadText" = 63) : Exc1 P w (KK w) mg base cn 1 "BadText" "line" := exc1_at (qual := "BadText.__init__") (st := inCls (stAt 3) 0) 63 60 KX G (by kernel_rfl) hc k_63 (by kernel_rfl) (by kernel_rfl) (fun_at (x := "__init__") (qual := "BadText.__init__") (st := inCls (stAt 3) 0) 60 (by kernel_rfl) (by kernel_rfl) (by kernel_rfl)) (scope_by (by decide)) ((fun_at (x := "__init__") (qual := "BadText.__init__") (st := inCls (stAt 3) 0) 60 (by kernel_rfl) (by kernel_rfl) (by kernel_rfl)).binds fun _ _ _ _ _ _ us hl => match us, hl with | [_, _], _ => rfl) rfl (by kernel_rfl) (by rfl) (by rfl)
theorem f__law_same (KX : (KK w).In h) (G : h.Ns mainGlobals mg) : HFun (KK w) mg "_law_same" (stAt 30) := hfun_at 174 KX G (by kernel_rfl) (by kernel_rfl) (by kernel_rfl) (by kernel_rfl)
theorem f__law_is_once (KX : (KK w).In h) (G : h.Ns mainGlobals mg) : HFun (KK w) mg "_law_is_once" (stAt 33) := hfun_at 191 KX G (by kernel_rfl) (by kernel_rfl) (by kernel_rfl) (by kernel_rfl)
theorem f__law_loose (KX : (KK w).In h) (G : h.Ns mainGlobals mg) : HFun (KK w) mg "_law_loose" (stAt 31) := hfun_at 179 KX G (by kernel_rfl) (by kernel_rfl) (by kernel_rfl) (by kernel_rfl)
theorem cd_law (KX : (KK w).In h) : PySem.W.CodeHd h 229 227 := codehd_at 229 227 KX (by kernel_rfl) (by kernel_rfl) (by kernel_rfl) (by kernel_rfl) (by kernel_rfl) (by kernel_rfl) (by kernel_rfl) (by kernel_rfl) (by kernel_rfl) (by decide)
theorem f_law (KX : (KK w).In h) (G : h.Ns mainGlobals mg) (TB : LamX.TabB base mg 229 227) (hm : (227, Str.ofString "law.<locals>.<lambda>") ∈ cn.T) (hu : ∀ p ∈ cn.T, p.1 = 227 → p.2 = Str.ofString "law.<locals>.<lambda>") : HFunL (KK w) mg base cn "law" (stAt 40) := hfunl_at 230 229 227 KX G (by kernel_rfl) (by kernel_rfl) (by kernel_rfl) (by kernel_rfl) TB hm hu
def tabL : List (Addr × Addr) := [(89, 87), (207, 205), (212, 210), (229, 227)]
def cnK : Wd := ⟨fun x => (([("CutError", 24), ("BadDeed", 44), ("BadText", 63)] : List (Str × Addr)).lookup x).getD 0, [(87, Str.ofString "plain_words.<locals>.<lambda>"), (205, Str.ofString "_law_mread.<locals>.<lambda>"), (210, Str.ofString "_law_mform.<locals>.<lambda>"), (227, Str.ofString "law.<locals>.<lambda>")]⟩
variable {P : Program}
theorem a_is_row (KX : (KK w).In h) (G : h.Ns mainGlobals mg) (TB : ∀ p ∈ tabL, LamX.TabB base mg p.1 p.2) : Cal P w (KK w) mg base cnK 1 "is_row" 1 (F_is_row) := C_is_row (U := f_is_row KX G) (B := bi KX G)
theorem a_is_name (KX : (KK w).In h) (G : h.Ns mainGlobals mg) (TB : ∀ p ∈ tabL, LamX.TabB base mg p.1 p.2) : Cal P w (KK w) mg base cnK 1 "is_name" 1 (F_is_name) := C_is_name (U := f_is_name KX G) (B := bi KX G) (G_SMALL := g_SMALL KX G) (G_FIGURES := g_FIGURES KX G)
theorem a_is_deed (KX : (KK w).In h) (G : h.Ns mainGlobals mg) (TB : ∀ p ∈ tabL, LamX.TabB base mg p.1 p.2) : Cal P w (KK w) mg base cnK 1 "is_deed" 1 (F_is_deed) := C_is_deed (U := f_is_deed KX G) (B := bi KX G) (G_SIZES := g_SIZES KX G)
theorem a_deed_line (KX : (KK w).In h) (G : h.Ns mainGlobals mg) (TB : ∀ p ∈ tabL, LamX.TabB base mg p.1 p.2) : Cal P w (KK w) mg base cnK 1 "deed_line" 1 (F_deed_line) := C_deed_line (U := f_deed_line KX G) (B := bi KX G)
theorem a__law_mtext (KX : (KK w).In h) (G : h.Ns mainGlobals mg) (TB : ∀ p ∈ tabL, LamX.TabB base mg p.1 p.2) : Cal P w (KK w) mg base cnK 1 "_law_mtext" 1 (F__law_mtext) := C__law_mtext (U := f__law_mtext KX G) (B := bi KX G)
theorem a__law_below (KX : (KK w).In h) (G : h.Ns mainGlobals mg) (TB : ∀ p ∈ tabL, LamX.TabB base mg p.1 p.2) : Cal P w (KK w) mg base cnK 1 "_law_below" 2 (F__law_below) := C__law_below (U := f__law_below KX G) (B := bi KX G)
theorem a__law_mname (KX : (KK w).In h) (G : h.Ns mainGlobals mg) (TB : ∀ p ∈ tabL, LamX.TabB base mg p.1 p.2) : Cal P w (KK w) mg base cnK 1 "_law_mname" 1 (F__law_mname) := C__law_mname (U := f__law_mname KX G) (B := bi KX G)
theorem a__law_mline (KX : (KK w).In h) (G : h.Ns mainGlobals mg) (TB : ∀ p ∈ tabL, LamX.TabB base mg p.1 p.2) : Cal P w (KK w) mg base cnK 1 "_law_mline" 1 (F__law_mline) := C__law_mline (U := f__law_mline KX G) (B := bi KX G)
theorem a_plain_words (KX : (KK w).In h) (G : h.Ns mainGlobals mg) (TB : ∀ p ∈ tabL, LamX.TabB base mg p.1 p.2) : Cal P w (KK w) mg base cnK 2 "plain_words" 1 (F_plain_words) := C_plain_words (U := f_plain_words KX G (TB (89, 87) (by decide)) (by decide) (by decide)) (B := bi KX G) (G_WORDS := g_WORDS KX G) (G_LETTERS := g_LETTERS KX G) (G_SMALL := g_SMALL KX G) (C_is_row := a_is_row KX G TB)
theorem a__law_pick (KX : (KK w).In h) (G : h.Ns mainGlobals mg) (TB : ∀ p ∈ tabL, LamX.TabB base mg p.1 p.2) : Cal P w (KK w) mg base cnK 2 "_law_pick" 2 (F__law_pick) := C__law_pick (U := f__law_pick KX G) (B := bi KX G) (C__law_below := a__law_below KX G TB)
theorem a__law_mixed (KX : (KK w).In h) (G : h.Ns mainGlobals mg) (TB : ∀ p ∈ tabL, LamX.TabB base mg p.1 p.2) : Cal P w (KK w) mg base cnK 2 "_law_mixed" 2 (F__law_mixed) := C__law_mixed (U := f__law_mixed KX G) (B := bi KX G) (C__law_below := a__law_below KX G TB)
theorem a__law_mread (KX : (KK w).In h) (G : h.Ns mainGlobals mg) (TB : ∀ p ∈ tabL, LamX.TabB base mg p.1 p.2) : Cal P w (KK w) mg base cnK 2 "_law_mread" 1 (F__law_mread) := C__law_mread (U := f__law_mread KX G (TB (207, 205) (by decide)) (by decide) (by decide)) (B := bi KX G) (C__law_mname := a__law_mname KX G TB)
theorem a_plain_deed (KX : (KK w).In h) (G : h.Ns mainGlobals mg) (TB : ∀ p ∈ tabL, LamX.TabB base mg p.1 p.2) : Cal P w (KK w) mg base cnK 3 "plain_deed" 1 (F_plain_deed) := C_plain_deed (U := f_plain_deed KX G) (B := bi KX G) (C_is_deed := a_is_deed KX G TB) (C_is_name := a_is_name KX G TB) (C_plain_words := a_plain_words KX G TB)
theorem a__law_mbent (KX : (KK w).In h) (G : h.Ns mainGlobals mg) (TB : ∀ p ∈ tabL, LamX.TabB base mg p.1 p.2) : Cal P w (KK w) mg base cnK 3 "_law_mbent" 3 (F__law_mbent) := C__law_mbent (U := f__law_mbent KX G) (B := bi KX G) (C__law_below := a__law_below KX G TB) (C__law_pick := a__law_pick KX G TB)
theorem a__law_mform (KX : (KK w).In h) (G : h.Ns mainGlobals mg) (TB : ∀ p ∈ tabL, LamX.TabB base mg p.1 p.2) : Cal P w (KK w) mg base cnK 3 "_law_mform" 1 (F__law_mform) := C__law_mform (U := f__law_mform KX G (TB (212, 210) (by decide)) (by decide) (by decide)) (B := bi KX G) (C__law_pick := a__law_pick KX G TB) (C__law_below := a__law_below KX G TB)
theorem a_deeds_text (KX : (KK w).In h) (G : h.Ns mainGlobals mg) (TB : ∀ p ∈ tabL, LamX.TabB base mg p.1 p.2) : Cal P w (KK w) mg base cnK 4 "deeds_text" 1 (F_deeds_text) := C_deeds_text (U := f_deeds_text KX G) (B := bi KX G) (X_BadDeed := x_BadDeed KX G (by kernel_rfl)) (C_is_row := a_is_row KX G TB) (C_plain_deed := a_plain_deed KX G TB) (C_deed_line := a_deed_line KX G TB)
theorem a_deed_of (KX : (KK w).In h) (G : h.Ns mainGlobals mg) (TB : ∀ p ∈ tabL, LamX.TabB base mg p.1 p.2) : Cal P w (KK w) mg base cnK 4 "deed_of" 1 (F_deed_of) := C_deed_of (U := f_deed_of KX G) (B := bi KX G) (C_plain_deed := a_plain_deed KX G TB) (C_deed_line := a_deed_line KX G TB)
theorem a_lines_read (KX : (KK w).In h) (G : h.Ns mainGlobals mg) (TB : ∀ p ∈ tabL, LamX.TabB base mg p.1 p.2) : Cal P w (KK w) mg base cnK 5 "lines_read" 1 (F_lines_read) := C_lines_read (U := f_lines_read KX G) (B := bi KX G) (C_deed_of := a_deed_of KX G TB)
theorem a_deeds_fault (KX : (KK w).In h) (G : h.Ns mainGlobals mg) (TB : ∀ p ∈ tabL, LamX.TabB base mg p.1 p.2) : Cal P w (KK w) mg base cnK 6 "deeds_fault" 1 (F_deeds_fault) := C_deeds_fault (U := f_deeds_fault KX G) (B := bi KX G) (C_lines_read := a_lines_read KX G TB)
theorem a_read_deeds (KX : (KK w).In h) (G : h.Ns mainGlobals mg) (TB : ∀ p ∈ tabL, LamX.TabB base mg p.1 p.2) : Cal P w (KK w) mg base cnK 6 "read_deeds" 1 (F_read_deeds) := C_read_deeds (U := f_read_deeds KX G) (B := bi KX G) (X_BadText := x_BadText KX G (by kernel_rfl)) (C_lines_read := a_lines_read KX G TB)
theorem a__law_same (KX : (KK w).In h) (G : h.Ns mainGlobals mg) (TB : ∀ p ∈ tabL, LamX.TabB base mg p.1 p.2) : ∀ i : Nat, Cal P w (KK w) mg base cnK (1 + i) "_law_same" 2 (F__law_same i) := C__law_same (U := f__law_same KX G) (B := bi KX G)
theorem a__law_is_once (KX : (KK w).In h) (G : h.Ns mainGlobals mg) (TB : ∀ p ∈ tabL, LamX.TabB base mg p.1 p.2) : ∀ i : Nat, Cal P w (KK w) mg base cnK (1 + i) "_law_is_once" 1 (F__law_is_once i) := C__law_is_once (U := f__law_is_once KX G) (B := bi KX G)
theorem a__law_loose (KX : (KK w).In h) (G : h.Ns mainGlobals mg) (TB : ∀ p ∈ tabL, LamX.TabB base mg p.1 p.2) : ∀ i : Nat, Cal P w (KK w) mg base cnK (3 + i) "_law_loose" 2 (F__law_loose i) := C__law_loose (U := f__law_loose KX G) (B := bi KX G) (C__law_mixed := a__law_mixed KX G TB) (C__law_below := a__law_below KX G TB)
theorem ct__law_mwords (KX : (KK w).In h) (G : h.Ns mainGlobals mg) : Ctch (KK w) mg cnK "_law_mwords" "call" "e" "told" K__law_mwords (stAt 39) := by
  refine ctch_at 225 KX G (by kernel_rfl) (by kernel_rfl) (by kernel_rfl) (by kernel_rfl) rfl ?_ (fun _ _ FU => FU.binds fun _ _ _ _ _ _ us hl => match us, hl with | [_], _ => rfl) (scope_by (by decide)) (by rfl) ?_ ?_ ⟨by decide, by decide⟩ ⟨by rfl, by rfl, by rfl, by rfl⟩
  · exact .cons (k := ⟨"BadText", "text", "line"⟩) (.cons (k := ⟨"BadDeed", "deed", "index"⟩) (.nil))
  · intro k hk
    simp only [K__law_mwords, List.mem_cons, List.not_mem_nil, or_false] at hk
    rcases hk with rfl | rfl
    · exact ⟨k_63, by kernel_rfl, by rfl, by rfl, by kernel_rfl⟩
    · exact ⟨k_44, by kernel_rfl, by rfl, by rfl, by kernel_rfl⟩
  · intro k hk k' hk'
    simp only [K__law_mwords, List.mem_cons, List.not_mem_nil, or_false] at hk hk'
    rcases hk with rfl | rfl <;> rcases hk' with rfl | rfl <;> kernel_rfl
theorem u_law_spoilt (w : World) : Fun (KK w) "_law_spoilt" "_law_spoilt" (stAt 32) 186 (fdOf (KK w) 186 "_law_spoilt" "_law_spoilt" (stAt 32)) := fun_at (x := "_law_spoilt") (qual := "_law_spoilt") (st := stAt 32) 186 (by kernel_rfl) (by kernel_rfl) (by kernel_rfl)
theorem u_law_apart (w : World) : Fun (KK w) "_law_apart" "_law_apart" (stAt 34) 198 (fdOf (KK w) 198 "_law_apart" "_law_apart" (stAt 34)) := fun_at (x := "_law_apart") (qual := "_law_apart") (st := stAt 34) 198 (by kernel_rfl) (by kernel_rfl) (by kernel_rfl)
theorem a__law_apart (KX : (KK w).In h) (G : h.Ns mainGlobals mg) (TB : ∀ p ∈ tabL, LamX.TabB base mg p.1 p.2) : ∃ fd, FnOk P w (KK w) mg base (L2.CX P w) 10 198 fd ["thing"] (spA (KK w) cnK 0 8 (F__law_is_once 8)) ∧ mg "_law_apart" = some (.ref 198) ∧ PySem.W.keepIn (KK w) (.ref 198) = true ∧ Binds (KK w) fd ["thing"] [] := by
  obtain ⟨fo, fdo, pso, FO, mo, ko, bo⟩ := (a__law_is_once (P := P) (w := w) (base := base) KX G TB 8).1
  have ms : mg "_law_spoilt" = some (.ref 186) := PySem.W.mg_of KX G (by kernel_rfl)
  exact ⟨_, apart_fn 0 (u_law_apart w) (scope_by (by decide)) (spoilt_fn (j := 0) 0 (u_law_spoilt w) (scope_by (by decide)) (bi KX G) ms ((u_law_spoilt w).binds fun _ _ _ _ _ _ us hl => match us, hl with | [_], _ => rfl) h_dict h_list h_tuple h_isinstance rfl rfl rfl rfl rfl rfl rfl rfl 8) ms (u_law_spoilt w).kp ((u_law_spoilt w).binds fun _ _ _ _ _ _ us hl => match us, hl with | [_], _ => rfl) FO mo ko bo (by decide) rfl rfl rfl, PySem.W.mg_of KX G (by kernel_rfl), (u_law_apart w).kp, (u_law_apart w).binds fun _ _ _ _ _ _ us hl => match us, hl with | [_], _ => rfl⟩
theorem u_law_start (w : World) : Fun (KK w) "_law_start" "_law_start" (stAt 26) 150 (fdOf (KK w) 150 "_law_start" "_law_start" (stAt 26)) := fun_at (x := "_law_start") (qual := "_law_start") (st := stAt 26) 150 (by kernel_rfl) (by kernel_rfl) (by kernel_rfl)
theorem u_law (w : World) : Fun (KK w) "law" "law" (stAt 40) 230 (fdOf (KK w) 230 "law" "law" (stAt 40)) := fun_at (x := "law") (qual := "law") (st := stAt 40) 230 (by kernel_rfl) (by kernel_rfl) (by kernel_rfl)
theorem m_law (KX : (KK w).In h) (G : h.Ns mainGlobals mg) : mg "law" = some (.ref 230) := PySem.W.mg_of KX G (by kernel_rfl)
theorem t2 (w : World) : ∀ p ∈ tabL, (KK w).lookup p.2 = none := by
  intro p hp
  simp only [tabL, List.mem_cons, List.not_mem_nil, or_false] at hp
  rcases hp with rfl | rfl | rfl | rfl <;> kernel_rfl
theorem t3 (KX : (KK w).In h) : ∀ p ∈ tabL, PySem.W.CodeHd h p.1 p.2 := by
  intro p hp
  simp only [tabL, List.mem_cons, List.not_mem_nil, or_false] at hp
  rcases hp with rfl | rfl | rfl | rfl
  · exact cd_plain_words KX
  · exact cd__law_mread KX
  · exact cd__law_mform KX
  · exact cd_law KX
theorem a_law (KX : (KK w).In h) (G : h.Ns mainGlobals mg) (TB : ∀ p ∈ tabL, LamX.TabB base mg p.1 p.2) : ∃ fa, LawOk P w (KK w) mg base cnK 15 18 43 S_law fa (stAt 40) := by
  have hst := start_fn (P := P) (w := w) (base := base) (u_law_start w) (scope_by (by decide)) (bi KX G) h_list rfl (by rfl) (by rfl) (by rfl)
  obtain ⟨fda, hap⟩ := a__law_apart (P := P) (w := w) (base := base) KX G TB
  exact C_law (U := f_law KX G (TB (229, 227) (by decide)) (by decide) (by decide)) (B := bi KX G) (CT__law_mwords := ct__law_mwords KX G) (C__law_below := a__law_below KX G TB) (C__law_mform := a__law_mform KX G TB) (C__law_mline := a__law_mline KX G TB) (C__law_mtext := a__law_mtext KX G TB) (C_deeds_text := a_deeds_text KX G TB) (C__law_loose := a__law_loose KX G TB 8) (C__law_apart := hap) (C_read_deeds := a_read_deeds KX G TB) (C__law_same := a__law_same KX G TB 8) (C_deeds_fault := a_deeds_fault KX G TB) (C__law_mbent := a__law_mbent KX G TB) (C__law_mread := a__law_mread KX G TB) (FS := hst) (ms := PySem.W.mg_of KX G (by kernel_rfl)) (ks := (u_law_start w).kp) (bs := (u_law_start w).binds fun _ _ _ _ _ _ us hl => match us, hl with | [_], _ => rfl)
-- tables: plain_words 89 87 _law_mread 207 205 _law_mform 212 210 law 229 227
end K76
end
section
set_option Elab.async false
set_option linter.all false
set_option maxRecDepth 100000
set_option maxHeartbeats 2000000
/-! DlZm: the end of a law whose def makes lambdas. -/
namespace Dl
open PySem PySem.Spec PyProof.Rows L2
theorem fun_eq {K : PySem.W.Frag} {x y : Str} {st : Stmt} {f : Addr} {fd fd' : FuncData} (F : Fun K x y st f fd) (G : Fun K x y st f fd') : fd = fd' := by
  obtain ⟨a1, a2, a3, a4, a5, a6, a7, a8, a9, e1, l1, _⟩ := F.ex
  obtain ⟨b1, b2, b3, b4, b5, b6, b7, b8, b9, e2, l2, _⟩ := G.ex
  rw [l1] at l2
  have q := congrArg Obj.data (Option.some.inj l2)
  exact Data.func.inj (show Data.func fd = Data.func fd' from q)
theorem law_end {l : PySem.W.OpenLaw} {w : World} {K : PySem.W.Frag} {mg : Str → Option Value} {h : Heap} {cn : Wd} {k n m : Nat} {c : Int} {Sl : S} {fa f0 : Addr} {st : Stmt} {fd : FuncData} {cs : List (Addr × Addr)}
    (KX : K.In h) (hfd : Fun K "law" "law" st f0 fd) (h0 : mg "law" = some (.ref f0)) (hfa : mg "law" = some (.ref fa))
    (hb : ∀ (s : Shared) (u : Value), BindsTo s fd ⟨[u], []⟩ [(Str.ofString "script", u)])
    (t1 : ∀ p ∈ cs, h.get? p.2 = some { cls := .none, data := .fields #[] }) (t2 : ∀ p ∈ cs, K.lookup p.2 = none) (t3 : ∀ p ∈ cs, PySem.W.CodeHd h p.1 p.2) (tc : ∀ q ∈ cn.T, ∃ p ∈ cs, p.2 = q.1)
    (law : ∀ base : Heap, K.In base → base.Ns mainGlobals mg → (∀ p ∈ cs, LamX.TabB base mg p.1 p.2) → ∃ fa, LawOk l.prog w K mg base cn k m c Sl fa st)
    (good : ∀ ns : List Int, ns.length ≤ n → (∀ z ∈ ns, Builtin.Int.intBits z ≤ 1048576) → ∃ es', Sl (es0 m ns c) = some (.rt (.bl true) es')) :
    LamX.LawAtS l w K (L2.CX l.prog w) k n "script" mg fa h := by
  rw [h0] at hfa
  cases hfa
  refine ⟨fd, cs, spLaw K cn m c Sl, t1, t2, t3, hb, fun H a ns hl hbits hT hS => ?_, fun base KB G TB => ?_⟩
  · obtain ⟨es', e⟩ := good ns hl hbits
    exact ⟨a, ns, es', rfl, hS, fun q hq => by obtain ⟨p, hp, e⟩ := tc q hq; rw [← e]; exact hT p hp, e, fun _ => rfl⟩
  · obtain ⟨fa, fd', F, hm, FU⟩ := law base KB G TB
    rw [h0] at hm
    cases hm
    cases fun_eq hfd FU
    exact F
end Dl
end
section
set_option Elab.async false
set_option linter.all false
set_option maxRecDepth 100000
set_option maxHeartbeats 2000000
/-! DlRun: what is told of a def, reckoned: each construct, run at a state. -/
namespace Dl
open PySem PySem.Spec PyProof.Rows L2
/-- a mark: what it bears is left as it is by simp -/
structure Fx {α : Sort u} (x : α) : Type where
/-- goes on with what came out -/
def rb {α β : Type} (r : Option (Res α)) (k : α → M β) (_ : Fx k := ⟨⟩) : Option (Res β) := match r with
  | none => none
  | some (.ex x es) => some (.ex x es)
  | some (.ok a es) => k a es
theorem rb_congr {α β : Type} {r r' : Option (Res α)} {k : α → M β} (h : r = r') : rb r k = rb r' k := by rw [h]
theorem rb_k {α β : Type} {r : Option (Res α)} {k k' : α → M β} (h : k = k') : rb r k = rb r k' := by rw [h]
@[simp] theorem rb_ok {α β : Type} (a : α) (es : ES) (k : α → M β) : rb (some (.ok a es)) k = k a es := rfl
@[simp] theorem rb_ex {α β : Type} (x : Ex) (es : ES) (k : α → M β) : rb (some (.ex x es)) k = some (.ex x es) := rfl
@[simp] theorem rb_none {α β : Type} (k : α → M β) : rb none k = none := rfl
theorem rb_rb {α β γ : Type} (r : Option (Res α)) (k : α → M β) (l : β → M γ) : rb (rb r k) l = rb r fun a es => rb (k a es) l := by
  cases r with
  | none => rfl
  | some q => cases q <;> rfl
@[simp] theorem bind_run {α β : Type} (m : M α) (k : α → M β) (es : ES) : M.bind m k es = rb (m es) k := rfl
@[simp] theorem ret_run {α : Type} (a : α) (es : ES) : M.ret a es = some (.ok a es) := rfl
def lf {α : Type} (o : Option α) (es : ES) : Option (Res α) := o.map fun a => .ok a es
@[simp] theorem lift_run {α : Type} (o : Option α) (es : ES) : M.lift o es = lf o es := rfl
@[simp] theorem lf_some {α : Type} (a : α) (es : ES) : lf (some a) es = some (.ok a es) := rfl
@[simp] theorem lf_none {α : Type} (es : ES) : lf (none : Option α) es = none := rfl
/-- .. of a statement -/
def rs {α : Type} (r : Option (Res α)) (k : α → S) (_ : Fx k := ⟨⟩) : Option SR := match r with
  | none => none
  | some (.ex x es) => some (.ex x es)
  | some (.ok a es) => k a es
theorem rs_congr {α : Type} {r r' : Option (Res α)} {k : α → S} (h : r = r') : rs r k = rs r' k := by rw [h]
theorem rs_k {α : Type} {r : Option (Res α)} {k k' : α → S} (h : k = k') : rs r k = rs r k' := by rw [h]
@[simp] theorem rs_ok {α : Type} (a : α) (es : ES) (k : α → S) : rs (some (.ok a es)) k = k a es := rfl
@[simp] theorem rs_ex {α : Type} (x : Ex) (es : ES) (k : α → S) : rs (some (.ex x es)) k = some (.ex x es) := rfl
@[simp] theorem rs_none {α : Type} (k : α → S) : rs none k = none := rfl
@[simp] theorem of_run {α : Type} (m : M α) (k : α → S) (es : ES) : S.of m k es = rs (m es) k := rfl
def sq (r : Option SR) (k : S) (_ : Fx k := ⟨⟩) : Option SR := match r with
  | some (.nx es) => k es
  | r => r
theorem sq_congr {r r' : Option SR} {k : S} (h : r = r') : sq r k = sq r' k := by rw [h]
@[simp] theorem sq_nx (es : ES) (k : S) : sq (some (.nx es)) k = k es := rfl
@[simp] theorem sq_rt (d : D) (es : ES) (k : S) : sq (some (.rt d es)) k = some (.rt d es) := rfl
@[simp] theorem sq_bk (es : ES) (k : S) : sq (some (.bk es)) k = some (.bk es) := rfl
@[simp] theorem sq_ct (es : ES) (k : S) : sq (some (.ct es)) k = some (.ct es) := rfl
@[simp] theorem sq_ex (x : Ex) (es : ES) (k : S) : sq (some (.ex x es)) k = some (.ex x es) := rfl
@[simp] theorem seq_run (f k : S) (es : ES) : S.seq f k es = sq (f es) k := by
  unfold S.seq sq
  cases f es with
  | none => rfl
  | some r => cases r <;> rfl
@[simp] theorem skip_run (es : ES) : S.skip es = some (.nx es) := rfl
/-- what a place hands out -/
def nm1 (l : Option (Option LV)) (i : Nat) (es : ES) : Option (Res RV) := match l with
  | some (some _) => some (.ok (.sl i) es)
  | _ => none
@[simp] theorem nm1_some (l : LV) (i : Nat) (es : ES) : nm1 (some (some l)) i es = some (.ok (.sl i) es) := rfl
@[simp] theorem nm_run (i : Nat) (es : ES) : nmM i es = nm1 es.env[i]? i es := by
  unfold nmM nm1
  rcases es.env[i]? with _ | _ | _ <;> rfl
def pkv (l : Option (Option LV)) (es : ES) : Option (Res D) := match l with
  | some (some (.fz d)) => some (.ok d es)
  | some (some (.ow d)) => some (.ok d es)
  | _ => none
@[simp] theorem pkv_fz (d : D) (es : ES) : pkv (some (some (.fz d))) es = some (.ok d es) := rfl
@[simp] theorem pkv_ow (d : D) (es : ES) : pkv (some (some (.ow d))) es = some (.ok d es) := rfl
@[simp] theorem peek_sl (i : Nat) (es : ES) : peek (.sl i) es = pkv es.env[i]? es := by
  rcases h : es.env[i]? with _ | _ | (_ | _) <;> simp only [peek, h, pkv]
@[simp] theorem peek_fz (d : D) (es : ES) : peek (.fz d) es = some (.ok d es) := rfl
@[simp] theorem peek_fr (d : D) (es : ES) : peek (.fr d) es = some (.ok d es) := rfl
def lk1 (l : Option (Option LV)) (i : Nat) (es : ES) : Option (Res D) := match l with
  | some (some (.fz d)) => some (.ok d es)
  | some (some (.ow d)) => some (.ok d { es with env := es.env.set i (some (.fz d)) })
  | _ => none
@[simp] theorem lk1_fz (d : D) (i : Nat) (es : ES) : lk1 (some (some (.fz d))) i es = some (.ok d es) := rfl
@[simp] theorem lk1_ow (d : D) (i : Nat) (es : ES) : lk1 (some (some (.ow d))) i es = some (.ok d { es with env := es.env.set i (some (.fz d)) }) := rfl
@[simp] theorem leak_sl (i : Nat) (es : ES) : leak (.sl i) es = lk1 es.env[i]? i es := by
  rcases h : es.env[i]? with _ | _ | (_ | _) <;> simp only [leak, h, lk1]
@[simp] theorem leak_fz (d : D) (es : ES) : leak (.fz d) es = some (.ok d es) := rfl
@[simp] theorem leak_fr (d : D) (es : ES) : leak (.fr d) es = some (.ok d es) := rfl
@[simp] theorem lk_run (f : M RV) (es : ES) : lk f es = rb (f es) leak := rfl
@[simp] theorem pk_run (f : M RV) (es : ES) : pk f es = rb (f es) peek := rfl
@[simp] theorem c_run (d : D) (es : ES) : cM d es = some (.ok (.fz d) es) := rfl
@[simp] theorem tru_run (f : M RV) (es : ES) : tru f es = rb (f es) fun r => M.bind (peek r) fun d => M.lift (truD d) := rfl
@[simp] theorem notB_run (g : M Bool) (es : ES) : notB g es = rb (g es) fun b => M.ret (!b) := rfl
/-- by a truth -/
def tw {α : Type} (b : Bool) (x y : α) : α := if b = true then x else y
theorem tw_congr {α : Type} {b b' : Bool} {x y : α} (h : b = b') : tw b x y = tw b' x y := by rw [h]
@[simp] theorem tw_true {α : Type} (x y : α) : tw true x y = x := rfl
@[simp] theorem tw_false {α : Type} (x y : α) : tw false x y = y := rfl
@[simp] theorem tw_app {α : Type} (b : Bool) (x y : M α) (es : ES) : (tw b x y) es = tw b (x es) (y es) := by cases b <;> rfl
@[simp] theorem tw_app' (b : Bool) (x y : S) (es : ES) : (tw b x y) es = tw b (x es) (y es) := by cases b <;> rfl
@[simp] theorem andB_run (g k : M Bool) (es : ES) : andB g k es = rb (g es) fun b es => tw b (k es) (some (.ok false es)) := by
  show rb (g es) _ = _
  refine rb_k ?_; funext b es; cases b <;> rfl
@[simp] theorem orB_run (g k : M Bool) (es : ES) : orB g k es = rb (g es) fun b es => tw b (some (.ok true es)) (k es) := by
  show rb (g es) _ = _
  refine rb_k ?_; funext b es; cases b <;> rfl
@[simp] theorem andV_run (f k : M RV) (es : ES) : andV f k es = rb (f es) fun r => M.bind (peek r) fun d => M.bind (M.lift (truD d)) fun b es => tw b (k es) (some (.ok r es)) := by
  show rb (f es) _ = _
  refine rb_k ?_; funext r; congr 1; funext d; congr 1; funext b es; cases b <;> rfl
@[simp] theorem orV_run (f k : M RV) (es : ES) : orV f k es = rb (f es) fun r => M.bind (peek r) fun d => M.bind (M.lift (truD d)) fun b es => tw b (some (.ok r es)) (k es) := by
  show rb (f es) _ = _
  refine rb_k ?_; funext r; congr 1; funext d; congr 1; funext b es; cases b <;> rfl
@[simp] theorem iteV_run (g : M Bool) (f k : M RV) (es : ES) : iteV g f k es = rb (g es) fun b es => tw b (f es) (k es) := by
  show rb (g es) _ = _
  refine rb_k ?_; funext b es; cases b <;> rfl
@[simp] theorem iteS_run (g : M Bool) (f k : S) (es : ES) : iteS g f k es = rs (g es) fun b es => tw b (f es) (k es) := by
  show rs (g es) _ = _
  refine rs_k ?_; funext b es; cases b <;> rfl
@[simp] theorem consR_run (f : M RV) (k : M (List RV)) (es : ES) : consR f k es = rb (f es) fun r => M.bind k fun rs => M.ret (r :: rs) := rfl
@[simp] theorem consD_run (f : M D) (k : M (List D)) (es : ES) : consD f k es = rb (f es) fun r => M.bind k fun rs => M.ret (r :: rs) := rfl
@[simp] theorem peeks_nil (es : ES) : peeks [] es = some (.ok [] es) := rfl
@[simp] theorem peeks_cons (r : RV) (rs : List RV) (es : ES) : peeks (r :: rs) es = rb (peek r es) fun d => M.bind (peeks rs) fun ds => M.ret (d :: ds) := rfl
@[simp] theorem tupM_run (k : M (List D)) (es : ES) : tupM k es = rb (k es) fun ds => M.lift (if ds.length ≤ 16777216 then some (.fz (.tup ds)) else none) := rfl
@[simp] theorem lstM_run (k : M (List D)) (es : ES) : lstM k es = rb (k es) fun ds => M.lift (if ds.length ≤ 16777216 then some (.fr (.lst ds)) else none) := rfl
@[simp] theorem callN_run (k : M (List RV)) (g : List D → Option RV) (es : ES) : callN k g es = rb (k es) fun rs => M.bind (peeks rs) fun ds => M.lift (g ds) := rfl
@[simp] theorem seqM_run (g : M D) (es : ES) : seqM g es = rb (g es) fun d => M.lift (seqD d) := rfl
@[simp] theorem asB_run (f : M RV) (es : ES) : asB f es = rb (f es) fun r => M.bind (peek r) fun d => M.lift (boolOf d) := rfl
@[simp] theorem boolOf_bl (b : Bool) : boolOf (.bl b) = some b := rfl
@[simp] theorem binO_run (op : Operator) (fa fb : M RV) (es : ES) : binO op fa fb es = rb (fa es) fun ra => M.bind fb fun rb => M.bind (peek ra) fun da => M.bind (peek rb) fun db => M.lift (binD op da db) := rfl
@[simp] theorem relO_run (op : CmpOp) (fa fb : M RV) (es : ES) : relO op fa fb es = rb (fa es) fun ra => M.bind fb fun rb => M.bind (peek ra) fun da => M.bind (peek rb) fun db => M.lift (relD op da db) := rfl
@[simp] theorem ixO_run (fa fb : M RV) (es : ES) : ixO fa fb es = rb (fa es) fun ra => M.bind fb fun rb => M.bind (peek ra) fun da => M.bind (peek rb) fun db => M.lift (ixD da db) := rfl
@[simp] theorem val_run (g : M D) (es : ES) : valM g es = rb (g es) fun d => M.ret (.fz d) := rfl
@[simp] theorem notE_run (f : M RV) (es : ES) : notE f es = rb (tru f es) fun b => M.ret (.fz (.bl (!b))) := rfl
@[simp] theorem neg_run (f : M RV) (es : ES) : negM f es = rb (f es) fun r => M.bind (peek r) fun d => M.lift (negI d) := rfl
@[simp] theorem negI_int (i : Int) : negI (.int i) = some (.fz (.int (-i))) := rfl
@[simp] theorem isi_run (f : M RV) (ns : List String) (es : ES) : isiM f ns es = rb (f es) fun r => M.bind (peek r) fun d => M.lift ((tyD d).map fun t => .fz (.bl (ns.any (subTy t)))) := rfl
@[simp] theorem part_none (es : ES) : partM none es = some (.ok none es) := rfl
@[simp] theorem part_some (f : M RV) (es : ES) : partM (some f) es = rb (f es) fun r => M.bind (peek r) fun d => M.lift (intO d) := rfl
@[simp] theorem intO_int (i : Int) : intO (.int i) = some (some i) := rfl
@[simp] theorem slice_run (f : M RV) (l u : M (Option Int)) (es : ES) : sliceM f l u es = rb (f es) fun r => M.bind l fun l => M.bind u fun u => M.bind (peek r) fun d => M.lift (slD d l u) := rfl
@[simp] theorem mt_run (T : String) (fo : M RV) (k : M (List RV)) (g : D → List D → Option RV) (es : ES) : mtM T fo k g es = rb (fo es) fun r => M.bind (peek r) fun d es => tw (isTy T d) (rb (k es) fun rs => M.bind (peek r) fun d => M.bind (peeks rs) fun ds => M.lift (g d ds)) none := by
  show rb (fo es) _ = _
  refine rb_k ?_; funext r; congr 1; funext d es
  cases isTy T d <;> rfl
def blR : Option RV → Option Bool
  | some (.fz (.bl k)) => some k
  | _ => none
@[simp] theorem blR_bl (k : Bool) : blR (some (.fz (.bl k))) = some k := rfl
@[simp] theorem ch_run (o1 o2 : CmpOp) (fa fb fc : M RV) (es : ES) : chO o1 o2 fa fb fc es = rb (fa es) fun ra => M.bind fb fun rb => M.bind (peek ra) fun da => M.bind (peek rb) fun db =>
    M.bind (M.lift (blR (relD o1 da db))) fun k es => tw k ((M.bind fc fun rc => M.bind (peek rb) fun db => M.bind (peek rc) fun dc => M.lift (relD o2 db dc)) es) (some (.ok (.fz (.bl false)) es)) := by
  show rb (fa es) _ = _
  refine rb_k ?_; funext ra; congr 1; funext rb; congr 1; funext da; congr 1; funext db
  have e : (match relD o1 da db with | some (.fz (.bl k)) => some k | _ => none) = blR (relD o1 da db) := by
    unfold blR; rfl
  show M.bind (M.lift (match relD o1 da db with | some (.fz (.bl k)) => some k | _ => none)) _ = _
  rw [e]
  congr 1; funext k es; cases k <;> rfl
def runR (r : Option FR) (es : ES) : Option (Res D) := match r with
  | none => none
  | some (.ok d g) => some (.ok d { es with g := g })
  | some (.ex x g) => some (.ex x { es with g := g })
@[simp] theorem runR_ok (d : D) (g : List Box) (es : ES) : runR (some (.ok d g)) es = some (.ok d { es with g := g }) := rfl
@[simp] theorem runR_ex (x : Ex) (g : List Box) (es : ES) : runR (some (.ex x g)) es = some (.ex x { es with g := g }) := rfl
@[simp] theorem runF_run (f : F) (ds : List D) (es : ES) : runF f ds es = runR (f ds es.g) es := rfl
@[simp] theorem callF_run (k : M (List D)) (f : F) (es : ES) : callF k f es = rb (k es) fun ds es => runR (f ds es.g) es := rfl
@[simp] theorem setIf_fz (i : Nat) (d : D) (es : ES) : setIf i (.fz d) es = if i < es.env.length then some (.nx { es with env := es.env.set i (some (.fz d)) }) else none := rfl
@[simp] theorem setIf_fr (i : Nat) (d : D) (es : ES) : setIf i (.fr d) es = if i < es.env.length then some (.nx { es with env := es.env.set i (some (.ow d)) }) else none := rfl
@[simp] theorem raise_run (x f : Str) (km : M (List D)) (es : ES) : raiseS x f km es = rs (km es) fun ds es => match ds with | [d] => some (.ex ⟨x, [f], [d]⟩ es) | _ => none := rfl
@[simp] theorem asg_run (g : M D) (gm : D → ES → Option ES) (es : ES) : asgS g gm es = rs (g es) fun d es => (gm d es).map SR.nx := rfl
@[simp] theorem toFR_nx (es : ES) : toFR (.nx es) = some (.ok .non es.g) := rfl
@[simp] theorem toFR_rt (d : D) (es : ES) : toFR (.rt d es) = some (.ok d es.g) := rfl
@[simp] theorem toFR_ex (x : Ex) (es : ES) : toFR (.ex x es) = some (.ex x es.g) := rfl
@[simp] theorem setG_run (i : Nat) (d : D) (es : ES) : setG i d es = if i < es.env.length then some { es with env := es.env.set i (some (.fz d)) } else none := rfl
@[simp] theorem gsNil_run (es : ES) : gsNil [] es = some es := rfl
end Dl
end
section
set_option Elab.async false
set_option linter.all false
set_option maxRecDepth 100000
set_option maxHeartbeats 2000000
/-! DlRun2: operators on data, reckoned; loops and comprehensions. -/
namespace Dl
open PySem PySem.Spec PyProof.Rows L2
@[simp] theorem bR_some (b : Bool) : bR (some b) = some (.fz (.bl b)) := rfl
@[simp] theorem bR_none : bR none = none := rfl
@[simp] theorem rel_Eq (x y : D) : relD .Eq x y = bR (eqD x y) := rfl
@[simp] theorem rel_NotEq (x y : D) : relD .NotEq x y = bR ((eqD x y).map fun b => !b) := rfl
@[simp] theorem rel_In (x y : D) : relD .In x y = bR (inD x y) := rfl
@[simp] theorem rel_NotIn (x y : D) : relD .NotIn x y = bR ((inD x y).map fun b => !b) := rfl
@[simp] theorem rel_Is (x y : D) : relD .Is x y = isD false x y := rfl
@[simp] theorem rel_IsNot (x y : D) : relD .IsNot x y = isD true x y := rfl
@[simp] theorem rel_Lt_int (i j : Int) : relD .Lt (.int i) (.int j) = some (.fz (.bl (decide (i < j)))) := rfl
@[simp] theorem rel_LtE_int (i j : Int) : relD .LtE (.int i) (.int j) = some (.fz (.bl (decide (i ≤ j)))) := rfl
@[simp] theorem rel_Gt_int (i j : Int) : relD .Gt (.int i) (.int j) = some (.fz (.bl (decide (j < i)))) := rfl
@[simp] theorem rel_GtE_int (i j : Int) : relD .GtE (.int i) (.int j) = some (.fz (.bl (decide (j ≤ i)))) := rfl
@[simp] theorem rel_Lt_str (i j : Str) : relD .Lt (.str i) (.str j) = some (.fz (.bl (strLt i j))) := rfl
@[simp] theorem eqD_str (a b : Str) : eqD (.str a) (.str b) = some (decide (a = b)) := rfl
@[simp] theorem eqD_int (a b : Int) : eqD (.int a) (.int b) = some (decide (a = b)) := rfl
@[simp] theorem eqD_bl (a b : Bool) : eqD (.bl a) (.bl b) = some (decide (a = b)) := rfl
@[simp] theorem eqD_int_str (a : Int) (b : Str) : eqD (.int a) (.str b) = some false := rfl
@[simp] theorem eqD_str_int (a : Str) (b : Int) : eqD (.str a) (.int b) = some false := rfl
@[simp] theorem isD_non : isD false .non .non = some (.fz (.bl true)) := rfl
@[simp] theorem isD_bl (b : Bool) : isD false (.bl b) .non = some (.fz (.bl false)) := rfl
@[simp] theorem isD_int (b : Int) : isD false (.int b) .non = some (.fz (.bl false)) := rfl
@[simp] theorem isD_str (b : Str) : isD false (.str b) .non = some (.fz (.bl false)) := rfl
@[simp] theorem isD_tup (b : List D) : isD false (.tup b) .non = some (.fz (.bl false)) := rfl
@[simp] theorem isD_lst (b : List D) : isD false (.lst b) .non = some (.fz (.bl false)) := rfl
@[simp] theorem isD_dct (t : Bool) (k b : List D) : isD false (.dct t k b) .non = some (.fz (.bl false)) := rfl
@[simp] theorem isN_non : isD true .non .non = some (.fz (.bl false)) := rfl
@[simp] theorem isN_bl (b : Bool) : isD true (.bl b) .non = some (.fz (.bl true)) := rfl
@[simp] theorem isN_int (b : Int) : isD true (.int b) .non = some (.fz (.bl true)) := rfl
@[simp] theorem isN_str (b : Str) : isD true (.str b) .non = some (.fz (.bl true)) := rfl
@[simp] theorem isN_tup (b : List D) : isD true (.tup b) .non = some (.fz (.bl true)) := rfl
@[simp] theorem isN_lst (b : List D) : isD true (.lst b) .non = some (.fz (.bl true)) := rfl
@[simp] theorem isN_dct (t : Bool) (k b : List D) : isD true (.dct t k b) .non = some (.fz (.bl true)) := rfl
@[simp] theorem inD_str (a b : Str) : inD (.str a) (.str b) = some (hasStr a b) := rfl
@[simp] theorem truD_non : truD .non = some false := rfl
@[simp] theorem truD_bl (b : Bool) : truD (.bl b) = some b := rfl
@[simp] theorem truD_int (i : Int) : truD (.int i) = some (i != 0) := rfl
@[simp] theorem truD_str (x : Str) : truD (.str x) = some ((x.length : Int) != 0) := rfl
@[simp] theorem truD_lst (xs : List D) : truD (.lst xs) = some (!xs.isEmpty) := rfl
@[simp] theorem truD_tup (xs : List D) : truD (.tup xs) = some (!xs.isEmpty) := rfl
@[simp] theorem tyD_non : tyD .non = some "NoneType" := rfl
@[simp] theorem tyD_bl (b : Bool) : tyD (.bl b) = some "bool" := rfl
@[simp] theorem tyD_int (b : Int) : tyD (.int b) = some "int" := rfl
@[simp] theorem tyD_str (b : Str) : tyD (.str b) = some "str" := rfl
@[simp] theorem tyD_lst (b : List D) : tyD (.lst b) = some "list" := rfl
@[simp] theorem tyD_tup (b : List D) : tyD (.tup b) = some "tuple" := rfl
@[simp] theorem tyD_dct (t : Bool) (k b : List D) : tyD (.dct t k b) = some "dict" := rfl
@[simp] theorem lenD_str (x : Str) : lenD [.str x] = some (.fz (.int x.length)) := rfl
@[simp] theorem lenD_lst (x : List D) : lenD [.lst x] = some (.fz (.int x.length)) := rfl
@[simp] theorem lenD_tup (x : List D) : lenD [.tup x] = some (.fz (.int x.length)) := rfl
@[simp] theorem lenD_dct (t : Bool) (k v : List D) : lenD [.dct t k v] = some (.fz (.int k.length)) := rfl
@[simp] theorem listD_str (z : Str) : listD [.str z] = some (.fr (.lst (z.cps.toList.map fun c => D.str ⟨#[c]⟩))) := rfl
@[simp] theorem listD_lst (x : List D) : listD [.lst x] = some (.fr (.lst x)) := rfl
@[simp] theorem listD_tup (x : List D) : listD [.tup x] = some (.fr (.lst x)) := rfl
@[simp] theorem listD_dct (t : Bool) (k v : List D) : listD [.dct t k v] = some (.fr (.lst k)) := rfl
@[simp] theorem tupleD_lst (x : List D) : tupleD [.lst x] = some (.fz (.tup x)) := rfl
@[simp] theorem tupleD_tup (x : List D) : tupleD [.tup x] = some (.fz (.tup x)) := rfl
@[simp] theorem intD_int (i : Int) : intD [.int i] = some (.fz (.int i)) := rfl
@[simp] theorem intD_bl (b : Bool) : intD [.bl b] = some (.fz (.int (if b then 1 else 0))) := rfl
@[simp] theorem seqD_lst (x : List D) : seqD (.lst x) = some x := rfl
@[simp] theorem seqD_tup (x : List D) : seqD (.tup x) = some x := rfl
@[simp] theorem seqD_str (x : Str) : seqD (.str x) = some (x.cps.toList.map fun c => D.str ⟨#[c]⟩) := rfl
@[simp] theorem ixD_lst (ds : List D) (i : Int) : ixD (.lst ds) (.int i) = (atI ds i).map .fz := rfl
@[simp] theorem ixD_tup (ds : List D) (i : Int) : ixD (.tup ds) (.int i) = (atI ds i).map .fz := rfl
@[simp] theorem ixD_str (z : Str) (i : Int) : ixD (.str z) (.int i) = (atI z.cps.toList i).map fun c => .fz (.str ⟨#[c]⟩) := rfl
@[simp] theorem slD_lst (ds : List D) (a b : Option Int) : slD (.lst ds) a b = some (.fr (.lst (cutL ds a b))) := rfl
@[simp] theorem slD_tup (ds : List D) (a b : Option Int) : slD (.tup ds) a b = some (.fz (.tup (cutL ds a b))) := rfl
@[simp] theorem slD_str (z : Str) (a b : Option Int) : slD (.str z) a b = some (.fz (.str (cutS z a b))) := rfl
theorem atI_at {α : Type} (xs : List α) (n : Nat) : atI xs (n : Int) = xs[n]? := by
  cases h : xs[n]? with
  | some v => exact atI_nat h
  | none =>
    unfold atI
    have : xs.length ≤ n := by simpa using h
    have e : ixN xs.length (n : Int) = none := by
      unfold ixN
      rw [if_pos (by omega), if_neg (by omega)]
    rw [e]; rfl
@[simp] theorem atI_0 {α : Type} (xs : List α) : atI xs 0 = xs[0]? := atI_at xs 0
@[simp] theorem atI_1 {α : Type} (xs : List α) : atI xs 1 = xs[1]? := atI_at xs 1
@[simp] theorem atI_2 {α : Type} (xs : List α) : atI xs 2 = xs[2]? := atI_at xs 2
@[simp] theorem atI_3 {α : Type} (xs : List α) : atI xs 3 = xs[3]? := atI_at xs 3
@[simp] theorem atI_4 {α : Type} (xs : List α) : atI xs 4 = xs[4]? := atI_at xs 4
@[simp] theorem isTy_str (x : Str) : isTy "str" (.str x) = true := rfl
@[simp] theorem isTy_lst (x : List D) : isTy "list" (.lst x) = true := rfl
/-- one sign -/
abbrev sg (c : Nat) : D := .str ⟨#[c]⟩
@[simp] theorem hasStr_one (c : Nat) (z : Str) : hasStr ⟨#[c]⟩ z = decide (c ∈ z.cps.toList) := rfl

@[simp] theorem tw_and_v (b c : Bool) (es : ES) : tw b (some (Res.ok (RV.fz (.bl c)) es)) (some (.ok (.fz (.bl false)) es)) = some (.ok (.fz (.bl (b && c))) es) := by cases b <;> rfl
@[simp] theorem tw_and_b (b c : Bool) (es : ES) : tw b (some (Res.ok c es)) (some (.ok false es)) = some (.ok (b && c) es) := by cases b <;> rfl
@[simp] theorem tw_or_b (b c : Bool) (es : ES) : tw b (some (Res.ok true es)) (some (.ok c es)) = some (.ok (b || c) es) := by cases b <;> rfl
theorem tw_same {α : Type} (b : Bool) (x : α) : tw b x x = x := by cases b <;> rfl
@[simp] theorem len_mk (cs : List Nat) : Str.length ⟨⟨cs⟩⟩ = cs.length := rfl
@[simp] theorem add_str (a b : List Nat) : binD .Add (.str ⟨⟨a⟩⟩) (.str ⟨⟨b⟩⟩) = if a.length + b.length ≤ 16777216 then some (.fz (.str ⟨⟨a ++ b⟩⟩)) else none := by
  have e : (⟨⟨a⟩⟩ : Str) ++ (⟨⟨b⟩⟩ : Str) = ⟨⟨a ++ b⟩⟩ := by
    show (⟨(⟨a⟩ : Array Nat) ++ ⟨b⟩⟩ : Str) = _
    simp
  show (if a.length + b.length ≤ 16777216 then some (RV.fz (.str ((⟨⟨a⟩⟩ : Str) ++ (⟨⟨b⟩⟩ : Str)))) else none) = _
  rw [e]
@[simp] theorem add_int (i j : Int) : binD .Add (.int i) (.int j) = some (.fz (.int (i + j))) := rfl
@[simp] theorem add_lst (a b : List D) : binD .Add (.lst a) (.lst b) = if a.length + b.length ≤ 16777216 then some (.fr (.lst (a ++ b))) else none := rfl
@[simp] theorem add_tup (a b : List D) : binD .Add (.tup a) (.tup b) = if a.length + b.length ≤ 16777216 then some (.fz (.tup (a ++ b))) else none := rfl

/-! ### loops and comprehensions by what holds between the turns -/
section
variable {vs : List Nat} {gm : D → ES → Option ES} {tst : M Bool} {elt : M D} {body : S}
theorem lc_go (P : Nat → List D → ES → Prop) : ∀ (ds : List D) (i : Nat) (acc : List D) (es : ES), P i acc es →
    (∀ k d acc es1, ds[k]? = some d → P (i + k) acc es1 → ∃ e1 e2, gm d { es1 with env := wipeE es1.env vs } = some e1 ∧ ((tst e1 = some (.ok true e2) ∧ ∃ y e3, elt e2 = some (.ok y e3) ∧ P (i + k + 1) (acc ++ [y]) e3) ∨ (tst e1 = some (.ok false e2) ∧ P (i + k + 1) acc e2))) →
    ∃ acc' es', lcLoop vs gm tst elt ds acc es = some (acc', es') ∧ P (i + ds.length) acc' es'
  | [], i, acc, es, h0, _ => ⟨acc, es, rfl, h0⟩
  | d :: ds, i, acc, es, h0, hs => by
    have step := hs 0 d acc es rfl (by simpa using h0)
    obtain ⟨e1, e2, g1, h⟩ := step
    have more : ∀ acc' es', P (i + 1) acc' es' → ∃ acc'' es'', lcLoop vs gm tst elt ds acc' es' = some (acc'', es'') ∧ P (i + (d :: ds).length) acc'' es'' := fun acc' es' h' => by
      obtain ⟨a, b, q1, q2⟩ := lc_go P ds (i + 1) acc' es' h' fun k d' acc es1 hk hp => by
        obtain ⟨e1, e2, q⟩ := hs (k + 1) d' acc es1 (by simpa using hk) (by rw [show i + (k + 1) = i + 1 + k by omega]; exact hp)
        rw [show i + (k + 1) + 1 = i + 1 + k + 1 by omega] at q
        exact ⟨e1, e2, q⟩
      exact ⟨a, b, q1, by rw [List.length_cons, show i + (ds.length + 1) = i + 1 + ds.length by omega]; exact q2⟩
    rcases h with ⟨t1, y, e3, q, hp⟩ | ⟨t1, hp⟩
    · obtain ⟨a, b, q1, q2⟩ := more _ _ hp
      exact ⟨a, b, by simp only [lcLoop, g1, t1, q]; exact q1, q2⟩
    · obtain ⟨a, b, q1, q2⟩ := more _ _ hp
      exact ⟨a, b, by simp only [lcLoop, g1, t1]; exact q1, q2⟩
theorem lc_ind (P : Nat → List D → ES → Prop) {ds : List D} {es : ES} (h0 : P 0 [] es)
    (hs : ∀ k d acc es1, ds[k]? = some d → P k acc es1 → ∃ e1 e2, gm d { es1 with env := wipeE es1.env vs } = some e1 ∧ ((tst e1 = some (.ok true e2) ∧ ∃ y e3, elt e2 = some (.ok y e3) ∧ P (k + 1) (acc ++ [y]) e3) ∨ (tst e1 = some (.ok false e2) ∧ P (k + 1) acc e2))) :
    ∃ acc' es', lcLoop vs gm tst elt ds [] es = some (acc', es') ∧ P ds.length acc' es' := by
  have := lc_go (vs := vs) (gm := gm) (tst := tst) (elt := elt) P ds 0 [] es h0 (by simpa using hs)
  simpa using this
/-- what a comprehension leaves: its own names are the frame's again -/
def Same (vs : List Nat) (es es1 : ES) : Prop := es1.g = es.g ∧ wipeE es1.env vs = wipeE es.env vs
theorem wipeE_back {env env1 : List (Option LV)} (h : wipeE env1 vs = wipeE env vs) : backE vs env env1 = backE vs env env := by
  apply List.ext_getElem?
  intro j
  unfold backE
  rw [List.getElem?_mapIdx, List.getElem?_mapIdx]
  have hl : env1.length = env.length := by rw [← wipeE_length env1 vs, h, wipeE_length]
  by_cases hj : j ∈ vs
  · by_cases hlt : j < env.length
    · rw [List.getElem?_eq_getElem hlt, List.getElem?_eq_getElem (by omega : j < env1.length)]
      simp [hj]
    · rw [List.getElem?_eq_none (by omega), List.getElem?_eq_none (by omega)]
  · have e := wipeE_get env1 vs j
    rw [h, wipeE_get, if_neg hj, if_neg hj] at e
    rw [e]
/-- a comprehension that changes nothing else -/
theorem lc_run {ds : List D} {es : ES} (t : D → Bool) (f : D → D)
    (h : ∀ d ∈ ds, ∃ e1 e2, gm d { es with env := wipeE es.env vs } = some e1 ∧ tst e1 = some (.ok (t d) e2) ∧ Dl.Same vs es e2 ∧ (t d = true → ∃ e3, elt e2 = some (.ok (f d) e3) ∧ Dl.Same vs es e3)) :
    ∃ es', lcLoop vs gm tst elt ds [] es = some ((ds.filter t).map f, es') ∧ Dl.Same vs es es' := by
  obtain ⟨a, b, q1, q2, q3⟩ := lc_ind (vs := vs) (gm := gm) (tst := tst) (elt := elt) (ds := ds) (es := es) (fun k acc e => acc = ((ds.take k).filter t).map f ∧ Dl.Same vs es e) ⟨by simp, rfl, rfl⟩ (by
    rintro k d acc es1 hk ⟨rfl, sg, sw⟩
    obtain ⟨e1, e2, g1, t1, s2, he⟩ := h d (List.mem_of_getElem? hk)
    have hkl := (List.getElem?_eq_some_iff.mp hk).1
    have tk : ds.take (k + 1) = ds.take k ++ [d] := by
      rw [List.take_add_one, hk]; rfl
    refine ⟨e1, e2, by rw [show ({ es1 with env := wipeE es1.env vs } : ES) = { es with env := wipeE es.env vs } by rw [sw, sg]]; exact g1, ?_⟩
    cases ht : t d with
    | true =>
      rw [ht] at t1
      obtain ⟨e3, q, s3⟩ := he ht
      exact .inl ⟨t1, _, e3, q, by rw [tk, List.filter_append, List.map_append]; simp [ht], s3⟩
    | false =>
      rw [ht] at t1
      exact .inr ⟨t1, by rw [tk, List.filter_append, List.map_append]; simp [ht], s2⟩)
  refine ⟨b, ?_, q3⟩
  rw [q1, q2, List.take_length]
theorem lcM_run {fi : M (List D)} {ds : List D} {es es0 : ES} (hf : fi es0 = some (.ok ds es)) (t : D → Bool) (f : D → D)
    (h : ∀ d ∈ ds, ∃ e1 e2, gm d { es with env := wipeE es.env vs } = some e1 ∧ tst e1 = some (.ok (t d) e2) ∧ Dl.Same vs es e2 ∧ (t d = true → ∃ e3, elt e2 = some (.ok (f d) e3) ∧ Dl.Same vs es e3)) :
    lcM vs fi gm tst elt es0 = some (.ok (.fr (.lst ((ds.filter t).map f))) { es with env := backE vs es.env es.env }) := by
  obtain ⟨es', q, s1, s2⟩ := lc_run t f h
  unfold lcM
  rw [bind_run, hf, rb_ok, q]
  show some (Res.ok (RV.fr (D.lst (List.map f (List.filter t ds)))) { es' with env := backE vs es.env es'.env }) = _
  rw [wipeE_back s2, s1]
theorem lcM_run0 {fi : M (List D)} {es0 : ES} (ds : List D) (t : D → Bool) (f : D → D) (hf : fi es0 = some (.ok ds es0))
    (h : ∀ d ∈ ds, ∃ e1 e2, gm d { es0 with env := wipeE es0.env vs } = some e1 ∧ tst e1 = some (.ok (t d) e2) ∧ Dl.Same vs es0 e2 ∧ (t d = true → ∃ e3, elt e2 = some (.ok (f d) e3) ∧ Dl.Same vs es0 e3)) :
    lcM vs fi gm tst elt es0 = some (.ok (.fr (.lst ((ds.filter t).map f))) { es0 with env := backE vs es0.env es0.env }) := lcM_run hf t f h
theorem loop_go (P : Nat → ES → Prop) (R : D → ES → Prop) : ∀ (ds : List D) (i : Nat) (es : ES), P i es →
    (∀ k d es1, ds[k]? = some d → P (i + k) es1 → ∃ e1 out, gm d es1 = some e1 ∧ body e1 = some out ∧ ((∃ e2, (out = .nx e2 ∨ out = .ct e2) ∧ P (i + k + 1) e2) ∨ ∃ d e2, out = .rt d e2 ∧ R d e2)) →
    (∃ es', loopS gm body ds es = some (.nx es') ∧ P (i + ds.length) es') ∨ ∃ d es', loopS gm body ds es = some (.rt d es') ∧ R d es'
  | [], i, es, h0, _ => .inl ⟨es, rfl, h0⟩
  | d :: ds, i, es, h0, hs => by
    obtain ⟨e1, out, g1, b1, h⟩ := hs 0 d es rfl (by simpa using h0)
    rcases h with ⟨e2, ho, hp⟩ | ⟨y, e2, ho, hr⟩
    · have q := loop_go P R ds (i + 1) e2 (by simpa using hp) fun k d' es1 hk hp => by
        have q := hs (k + 1) d' es1 (by simpa using hk) (by rw [show i + (k + 1) = i + 1 + k by omega]; exact hp)
        rw [show i + (k + 1) + 1 = i + 1 + k + 1 by omega] at q
        exact q
      rw [List.length_cons, show i + (ds.length + 1) = i + 1 + ds.length by omega]
      rcases ho with rfl | rfl
      · simp only [loopS, g1, b1]; exact q
      · simp only [loopS, g1, b1]; exact q
    · subst ho
      exact .inr ⟨y, e2, by simp only [loopS, g1, b1], hr⟩
theorem loop_rt (P : Nat → ES → Prop) (R : D → ES → Prop) {ds : List D} {es : ES} (h0 : P 0 es)
    (hs : ∀ k d es1, ds[k]? = some d → P k es1 → ∃ e1 out, gm d es1 = some e1 ∧ body e1 = some out ∧ ((∃ e2, (out = .nx e2 ∨ out = .ct e2) ∧ P (k + 1) e2) ∨ ∃ d e2, out = .rt d e2 ∧ R d e2)) :
    (∃ es', loopS gm body ds es = some (.nx es') ∧ P ds.length es') ∨ ∃ d es', loopS gm body ds es = some (.rt d es') ∧ R d es' := by
  have := loop_go (gm := gm) (body := body) P R ds 0 es h0 (by simpa using hs)
  simpa using this
theorem loop_ind (P : Nat → ES → Prop) {ds : List D} {es : ES} (h0 : P 0 es)
    (hs : ∀ k d es1, ds[k]? = some d → P k es1 → ∃ e1 e2, gm d es1 = some e1 ∧ (body e1 = some (.nx e2) ∨ body e1 = some (.ct e2)) ∧ P (k + 1) e2) :
    ∃ es', loopS gm body ds es = some (.nx es') ∧ P ds.length es' := by
  rcases loop_rt (gm := gm) (body := body) P (fun _ _ => False) h0 (fun k d es1 hk hp => by
    obtain ⟨e1, e2, g1, b, hp⟩ := hs k d es1 hk hp
    rcases b with b | b
    · exact ⟨e1, _, g1, b, .inl ⟨e2, .inl rfl, hp⟩⟩
    · exact ⟨e1, _, g1, b, .inl ⟨e2, .inr rfl, hp⟩⟩) with h | ⟨_, _, _, h⟩
  · exact h
  · exact h.elim
end
theorem backE_nil (env : List (Option LV)) : backE [] env env = env := by
  unfold backE
  apply List.ext_getElem?
  intro j
  rw [List.getElem?_mapIdx]
  cases env[j]? <;> simp
def bk1 : Option LV → Option LV
  | some (.fz d) => some (.fz d)
  | _ => none
/-- a loop as a fold over a state -/
def foldE {σ : Type} (step : σ → D → Except (D × ES) σ) : σ → List D → Except (D × ES) σ
  | s, [] => .ok s
  | s, d :: ds => match step s d with
    | .ok s' => foldE step s' ds
    | .error e => .error e
def outE {σ : Type} (E : σ → ES) : Except (D × ES) σ → SR
  | .ok s => .nx (E s)
  | .error (d, e) => .rt d e
@[simp] theorem outE_ok {σ : Type} (E : σ → ES) (s : σ) : outE E (.ok s) = .nx (E s) := rfl
@[simp] theorem outE_err {σ : Type} (E : σ → ES) (d : D) (e : ES) : outE E (.error (d, e)) = .rt d e := rfl
theorem loop_fold {σ : Type} {gm : D → ES → Option ES} {body : S} (E : σ → ES) (step : σ → D → Except (D × ES) σ) : ∀ {ds : List D} {s0 : σ}, (∀ s d, d ∈ ds → ∃ e1, gm d (E s) = some e1 ∧ body e1 = some (outE E (step s d))) → loopS gm body ds (E s0) = some (outE E (foldE step s0 ds))
  | [], s0, _ => rfl
  | d :: ds, s0, h => by
    obtain ⟨e1, g1, b1⟩ := h s0 d (by simp)
    simp only [loopS, g1, b1, foldE]
    cases q : step s0 d with
    | ok s' => exact loop_fold E step fun s x hx => h s x (by simp [hx])
    | error e => rfl
/-- a search: the first that is met ends it -/
theorem foldE_find {r : D → D × ES} {p : D → Bool} : ∀ (ds : List D) (l : Option LV), foldE (fun (_ : Option LV) d => if p d = true then .error (r d) else .ok (some (.fz d))) l ds =
    match ds.find? p with
    | some d => .error (r d)
    | none => .ok ((ds.getLast?.map fun d => some (LV.fz d)).getD l)
  | [], l => rfl
  | d :: ds, l => by
    unfold foldE
    cases h : p d with
    | true => simp [h]
    | false =>
      simp only [if_false, Bool.false_eq_true]
      rw [foldE_find ds, List.find?_cons_of_neg (by simp [h])]
      cases ds.find? p with
      | some d => rfl
      | none => cases ds with
        | nil => rfl
        | cons a as => simp [List.getLast?_cons]
theorem loop_at {gm : D → ES → Option ES} {body : S} {ds : List D} {es : ES} {r : Option SR} (hL : loopS gm body ds es = r) (P : Nat → ES → Prop) (R : D → ES → Prop) (h0 : P 0 es)
    (hs : ∀ k d es1, ds[k]? = some d → P k es1 → ∃ e1 out, gm d es1 = some e1 ∧ body e1 = some out ∧ ((∃ e2, (out = .nx e2 ∨ out = .ct e2) ∧ P (k + 1) e2) ∨ ∃ d e2, out = .rt d e2 ∧ R d e2)) :
    (∃ es', r = some (.nx es') ∧ P ds.length es') ∨ ∃ d es', r = some (.rt d es') ∧ R d es' := by
  subst hL
  exact loop_rt P R h0 hs
theorem loop_all {gm : D → ES → Option ES} {body : S} {ds : List D} {es : ES} {r : Option SR} (hL : loopS gm body ds es = r) (P : Nat → ES → Prop) (h0 : P 0 es)
    (hs : ∀ k d es1, ds[k]? = some d → P k es1 → ∃ e1 e2, gm d es1 = some e1 ∧ (body e1 = some (.nx e2) ∨ body e1 = some (.ct e2)) ∧ P (k + 1) e2) :
    ∃ es', r = some (.nx es') ∧ P ds.length es' := by
  subst hL
  exact loop_ind P h0 hs
@[simp] theorem bk1_none : bk1 none = none := rfl
@[simp] theorem bk1_fz (d : D) : bk1 (some (.fz d)) = some (.fz d) := rfl
@[simp] theorem bk1_ow (d : D) : bk1 (some (.ow d)) = none := rfl
theorem backE_self (vs : List Nat) (env : List (Option LV)) : backE vs env env = env.mapIdx fun j l => if j ∈ vs then bk1 l else l := by
  unfold backE
  apply List.ext_getElem?
  intro j
  rw [List.getElem?_mapIdx, List.getElem?_mapIdx]
  cases h : env[j]? with
  | none => rfl
  | some l =>
    simp only [Option.map_some]
    rcases l with _ | (_ | _) <;> simp [bk1, h]
@[simp] theorem wipeE_nil (env : List (Option LV)) : wipeE env [] = env := rfl
@[simp] theorem wipeE_cons (env : List (Option LV)) (v : Nat) (vs : List Nat) : wipeE env (v :: vs) = (wipeE env vs).set v none := rfl
end Dl
end
section
set_option Elab.async false
set_option linter.all false
set_option maxRecDepth 100000
set_option maxHeartbeats 2000000
/-! DlRun3: plain data compared. -/
namespace Dl
open PySem PySem.Spec PyProof.Rows L2
mutual
/-- plain data of at most so many levels, its texts not too long -/
def okD : Nat → D → Bool
  | _, .non => true
  | _, .bl _ => true
  | _, .int _ => true
  | _, .str x => PyData.strOk x
  | n + 1, .lst xs => okDs n xs
  | n + 1, .tup xs => okDs n xs
  | _, _ => false
def okDs : Nat → List D → Bool
  | _, [] => true
  | n, x :: xs => okD n x && okDs n xs
end
mutual
/-- the same data -/
def beqD : D → D → Bool
  | .non, .non => true
  | .bl a, .bl b => a == b
  | .int a, .int b => a == b
  | .str a, .str b => a == b
  | .lst a, .lst b => beqDs a b
  | .tup a, .tup b => beqDs a b
  | _, _ => false
def beqDs : List D → List D → Bool
  | [], [] => true
  | x :: xs, y :: ys => beqD x y && beqDs xs ys
  | _, _ => false
end
mutual
/-- no truth within -/
def nbD : D → Bool
  | .bl _ => false
  | .lst xs => nbDs xs
  | .tup xs => nbDs xs
  | _ => true
def nbDs : List D → Bool
  | [] => true
  | x :: xs => nbD x && nbDs xs
end
mutual
theorem okD_pd : ∀ (n : Nat) (d : D), okD n d = true → ∃ p, toPD d = some p ∧ p.canLay0 = true ∧ p.depth ≤ n
  | n, .non, _ => ⟨.none, by simp [toPD], by simp [PyData.canLay0], by simp [PyData.depth]⟩
  | n, .bl b, _ => ⟨.bool b, by simp [toPD], by simp [PyData.canLay0], by simp [PyData.depth]⟩
  | n, .int b, _ => ⟨.int b, by simp [toPD], by simp [PyData.canLay0], by simp [PyData.depth]⟩
  | n, .str b, h => ⟨.str b, by simp [toPD], by simpa [PyData.canLay0, okD] using h, by simp [PyData.depth]⟩
  | 0, .lst xs, h => by simp [okD] at h
  | 0, .tup xs, h => by simp [okD] at h
  | n + 1, .lst xs, h => by
    obtain ⟨ps, e, c, d⟩ := okDs_pd n xs (by simpa [okD] using h)
    exact ⟨.list ps, by simp [toPD, e], by simpa [PyData.canLay0] using c, by simp [PyData.depth]; omega⟩
  | n + 1, .tup xs, h => by
    obtain ⟨ps, e, c, d⟩ := okDs_pd n xs (by simpa [okD] using h)
    exact ⟨.tuple ps, by simp [toPD, e], by simpa [PyData.canLay0] using c, by simp [PyData.depth]; omega⟩
  | _, .dct _ _ _, h => by simp [okD] at h
  | _, .ins _ _ _, h => by simp [okD] at h
  | _, .box _, h => by simp [okD] at h
theorem okDs_pd : ∀ (n : Nat) (d : List D), okDs n d = true → ∃ p, toPDs d = some p ∧ PyData.canLayAll0 p = true ∧ PyData.depthAll p ≤ n
  | n, [], _ => ⟨[], by simp [toPDs], by simp [PyData.canLayAll0], by simp [PyData.depthAll]⟩
  | n, x :: xs, h => by
    simp only [okDs, Bool.and_eq_true] at h
    obtain ⟨p, e, c, d⟩ := okD_pd n x h.1
    obtain ⟨ps, e2, c2, d2⟩ := okDs_pd n xs h.2
    exact ⟨p :: ps, by simp [toPDs, e, e2], by simp [PyData.canLayAll0, c, c2], by simp [PyData.depthAll]; omega⟩
end
theorem okD_shaped {n : Nat} {d : D} (h : okD n d = true) (hn : n ≤ 60) : ∃ p, toPD d = some p ∧ SeqAt.shaped p = true := by
  obtain ⟨p, e, c, d⟩ := okD_pd n d h
  refine ⟨p, e, ?_⟩
  unfold SeqAt.shaped
  simp [c]; omega
mutual
theorem eqv_beq : ∀ (x y : D) (p q : PyData), nbD x = true → nbD y = true → toPD x = some p → toPD y = some q → PyData.eqv p q = beqD x y
  | .non, y, p, q, hx, hy, e1, e2 => by
    simp only [toPD, Option.some.injEq] at e1; subst e1
    cases y <;> simp [toPD, nbD] at e2 hy <;> (try subst e2) <;> (try (obtain ⟨_, _, rfl⟩ := e2)) <;> simp [PyData.eqv, beqD]
  | .int i, y, p, q, hx, hy, e1, e2 => by
    simp only [toPD, Option.some.injEq] at e1; subst e1
    cases y <;> simp [toPD, nbD] at e2 hy <;> (try subst e2) <;> (try (obtain ⟨_, _, rfl⟩ := e2)) <;> simp [PyData.eqv, beqD]
  | .str i, y, p, q, hx, hy, e1, e2 => by
    simp only [toPD, Option.some.injEq] at e1; subst e1
    cases y <;> simp [toPD, nbD] at e2 hy <;> (try subst e2) <;> (try (obtain ⟨_, _, rfl⟩ := e2)) <;> simp [PyData.eqv, beqD]
  | .lst xs, y, p, q, hx, hy, e1, e2 => by
    obtain ⟨ps, e3, rfl⟩ := toPD_lst e1
    simp only [nbD] at hx
    cases y with
    | lst ys =>
      obtain ⟨qs, e4, rfl⟩ := toPD_lst e2
      simp only [nbD] at hy
      simp only [PyData.eqv, beqD]
      exact eqvs_beq xs ys ps qs hx hy e3 e4
    | tup ys => obtain ⟨qs, e4, rfl⟩ := toPD_tup e2; simp [PyData.eqv, beqD]
    | _ => simp [toPD, nbD] at e2 hy <;> (try subst e2) <;> simp [PyData.eqv, beqD]
  | .tup xs, y, p, q, hx, hy, e1, e2 => by
    obtain ⟨ps, e3, rfl⟩ := toPD_tup e1
    simp only [nbD] at hx
    cases y with
    | tup ys =>
      obtain ⟨qs, e4, rfl⟩ := toPD_tup e2
      simp only [nbD] at hy
      simp only [PyData.eqv, beqD]
      exact eqvs_beq xs ys ps qs hx hy e3 e4
    | lst ys => obtain ⟨qs, e4, rfl⟩ := toPD_lst e2; simp [PyData.eqv, beqD]
    | _ => simp [toPD, nbD] at e2 hy <;> (try subst e2) <;> simp [PyData.eqv, beqD]
  | .bl _, _, _, _, hx, _, _, _ => by simp [nbD] at hx
  | .dct _ _ _, _, _, _, _, _, e1, _ => by simp [toPD] at e1
  | .ins _ _ _, _, _, _, _, _, e1, _ => by simp [toPD] at e1
  | .box _, _, _, _, _, _, e1, _ => by simp [toPD] at e1
theorem eqvs_beq : ∀ (x y : List D) (p q : List PyData), nbDs x = true → nbDs y = true → toPDs x = some p → toPDs y = some q → PyData.eqvAll p q = beqDs x y
  | [], [], p, q, _, _, e1, e2 => by
    rw [toPDs_nil e1, toPDs_nil e2]; simp [PyData.eqvAll, beqDs]
  | [], y :: ys, p, q, _, _, e1, e2 => by
    obtain ⟨b, bs, _, _, rfl⟩ := toPDs_cons e2
    rw [toPDs_nil e1]; simp [PyData.eqvAll, beqDs]
  | x :: xs, [], p, q, _, _, e1, e2 => by
    obtain ⟨b, bs, _, _, rfl⟩ := toPDs_cons e1
    rw [toPDs_nil e2]; simp [PyData.eqvAll, beqDs]
  | x :: xs, y :: ys, p, q, hx, hy, e1, e2 => by
    obtain ⟨a, as, a1, a2, rfl⟩ := toPDs_cons e1
    obtain ⟨b, bs, b1, b2, rfl⟩ := toPDs_cons e2
    simp only [nbDs, Bool.and_eq_true] at hx hy
    simp only [PyData.eqvAll, beqDs, eqv_beq x y a b hx.1 hy.1 a1 b1, eqvs_beq xs ys as bs hx.2 hy.2 a2 b2]
end
mutual
theorem beqD_eq : ∀ (x y : D), beqD x y = true → x = y
  | .non, y, h => by cases y <;> simp [beqD] at h; rfl
  | .bl a, y, h => by cases y <;> simp [beqD] at h; rw [h]
  | .int a, y, h => by cases y <;> simp [beqD] at h; rw [h]
  | .str a, y, h => by cases y <;> simp [beqD] at h; rw [h]
  | .lst xs, y, h => by cases y <;> simp [beqD] at h; rw [beqDs_eq _ _ h]
  | .tup xs, y, h => by cases y <;> simp [beqD] at h; rw [beqDs_eq _ _ h]
  | .dct _ _ _, y, h => by cases y <;> simp [beqD] at h
  | .ins _ _ _, y, h => by cases y <;> simp [beqD] at h
  | .box _, y, h => by cases y <;> simp [beqD] at h
theorem beqDs_eq : ∀ (x y : List D), beqDs x y = true → x = y
  | [], [], _ => rfl
  | [], _ :: _, h => by simp [beqDs] at h
  | _ :: _, [], h => by simp [beqDs] at h
  | x :: xs, y :: ys, h => by
    simp only [beqDs, Bool.and_eq_true] at h
    rw [beqD_eq x y h.1, beqDs_eq xs ys h.2]
end
mutual
theorem beqD_refl : ∀ (n : Nat) (x : D), okD n x = true → beqD x x = true
  | _, .non, _ => by simp [beqD]
  | _, .bl a, _ => by simp [beqD]
  | _, .int a, _ => by simp [beqD]
  | _, .str a, _ => by simp [beqD]
  | 0, .lst xs, h => by simp [okD] at h
  | 0, .tup xs, h => by simp [okD] at h
  | n + 1, .lst xs, h => by simp only [beqD]; exact beqDs_refl n xs (by simpa [okD] using h)
  | n + 1, .tup xs, h => by simp only [beqD]; exact beqDs_refl n xs (by simpa [okD] using h)
  | _, .dct _ _ _, h => by simp [okD] at h
  | _, .ins _ _ _, h => by simp [okD] at h
  | _, .box _, h => by simp [okD] at h
theorem beqDs_refl : ∀ (n : Nat) (x : List D), okDs n x = true → beqDs x x = true
  | _, [], _ => by simp [beqDs]
  | n, x :: xs, h => by
    simp only [okDs, Bool.and_eq_true] at h
    simp only [beqDs, beqD_refl n x h.1, beqDs_refl n xs h.2, Bool.and_self]
end
theorem okDs_iff {n : Nat} : ∀ {xs : List D}, okDs n xs = true ↔ ∀ x ∈ xs, okD n x = true
  | [] => by simp [okDs]
  | x :: xs => by simp [okDs, okDs_iff (xs := xs)]
theorem nbDs_iff : ∀ {xs : List D}, nbDs xs = true ↔ ∀ x ∈ xs, nbD x = true
  | [] => by simp [nbDs]
  | x :: xs => by simp [nbDs, nbDs_iff (xs := xs)]
/-- == of two rows of plain data without truths -/
theorem eqD_lst {n : Nat} {x y : List D} (hx : okDs n x = true) (hy : okDs n y = true) (hn : n ≤ 59) (bx : nbDs x = true) (by_ : nbDs y = true) : eqD (.lst x) (.lst y) = some (beqDs x y) := by
  obtain ⟨p, e1, s1⟩ := okD_shaped (n := n + 1) (d := .lst x) (by simpa [okD] using hx) (by omega)
  obtain ⟨q, e2, s2⟩ := okD_shaped (n := n + 1) (d := .lst y) (by simpa [okD] using hy) (by omega)
  show deepD (.lst x) (.lst y) = _
  unfold deepD
  rw [e1, e2]
  simp only [Option.bind_some, s1, s2, Bool.and_self, if_true]
  have := eqv_beq (.lst x) (.lst y) p q (by simpa [nbD] using bx) (by simpa [nbD] using by_) e1 e2
  rw [this]
  simp [beqD]
theorem eqD_tup {n : Nat} {x y : List D} (hx : okDs n x = true) (hy : okDs n y = true) (hn : n ≤ 59) (bx : nbDs x = true) (by_ : nbDs y = true) : eqD (.tup x) (.tup y) = some (beqDs x y) := by
  obtain ⟨p, e1, s1⟩ := okD_shaped (n := n + 1) (d := .tup x) (by simpa [okD] using hx) (by omega)
  obtain ⟨q, e2, s2⟩ := okD_shaped (n := n + 1) (d := .tup y) (by simpa [okD] using hy) (by omega)
  show deepD (.tup x) (.tup y) = _
  unfold deepD
  rw [e1, e2]
  simp only [Option.bind_some, s1, s2, Bool.and_self, if_true]
  have := eqv_beq (.tup x) (.tup y) p q (by simpa [nbD] using bx) (by simpa [nbD] using by_) e1 e2
  rw [this]
  simp [beqD]
/-- is a row empty -/
theorem eqD_nil {n : Nat} {x : List D} (hx : okDs n x = true) (hn : n ≤ 59) : eqD (.lst x) (.lst []) = some x.isEmpty := by
  obtain ⟨ps, e1, c1, d1⟩ := okDs_pd n x hx
  obtain ⟨p, e1', s1⟩ := okD_shaped (n := n + 1) (d := .lst x) (by simpa [okD] using hx) (by omega)
  show deepD (.lst x) (.lst []) = _
  unfold deepD
  rw [e1', show toPD (.lst []) = some (.list []) by simp [toPD, toPDs]]
  have s2 : SeqAt.shaped (.list []) = true := by decide
  simp only [Option.bind_some, s1, s2, Bool.and_self, if_true]
  obtain ⟨ps', e4, rfl⟩ := toPD_lst e1'
  cases x with
  | nil => rw [toPDs_nil e4]; simp [PyData.eqv, PyData.eqvAll]
  | cons a as => obtain ⟨_, _, _, _, rfl⟩ := toPDs_cons e4; simp [PyData.eqv, PyData.eqvAll]
end Dl
end
section
set_option Elab.async false
set_option linter.all false
set_option maxRecDepth 100000
set_option maxHeartbeats 2000000
/-! DlRun4: texts by their signs; dicts of texts; sorted by length. -/
namespace Dl
open PySem PySem.Spec PyProof.Rows L2
/-- a text by its signs -/
abbrev T (cs : List Nat) : Str := ⟨⟨cs⟩⟩
theorem T_inj {a b : List Nat} : T a = T b ↔ a = b := by
  constructor
  · intro h; injection h with h; injection h
  · intro h; rw [h]
theorem T_eta (x : Str) : x = T x.cps.toList := by
  obtain ⟨⟨l⟩⟩ := x
  rfl
abbrev tx (cs : List Nat) : D := .str (T cs)
theorem filter_nil {α : Type} (p : α → Bool) (l : List α) : decide (l.filter p = []) = l.all fun x => !p x := by
  induction l with
  | nil => rfl
  | cons a l ih =>
    cases h : p a
    · rw [List.filter_cons_of_neg (by simp [h]), ih]; simp [h]
    · rw [List.filter_cons_of_pos h]; simp [h]
/-- the sign that a text does not have -/
def notin (z : List Nat) (d : D) : Bool := match d with
  | .str x => !hasStr x (T z)
  | _ => false
@[simp] theorem notin_sg (z : List Nat) (c : Nat) : notin z (sg c) = !decide (c ∈ z) := rfl
def okT (cs : List Nat) : Bool := cs.all fun c => decide (c < 1114112)
theorem okD_sg {n c : Nat} (h : c < 1114112) : okD n (sg c) = true := by
  unfold okD
  simp [PyData.strOk, h]
theorem okD_T {n : Nat} {cs : List Nat} (h : okT cs = true) : okD n (tx cs) = true := by
  unfold okD
  simp only [PyData.strOk, okT] at *
  simpa using h
theorem okDs_map {n : Nat} {α : Type} {f : α → D} {l : List α} (h : ∀ x ∈ l, okD n (f x) = true) : okDs n (l.map f) = true := by
  rw [okDs_iff]
  intro x hx
  obtain ⟨y, hy, rfl⟩ := List.mem_map.mp hx
  exact h y hy
theorem nbDs_map {α : Type} {f : α → D} {l : List α} (h : ∀ x ∈ l, nbD (f x) = true) : nbDs (l.map f) = true := by
  rw [nbDs_iff]
  intro x hx
  obtain ⟨y, hy, rfl⟩ := List.mem_map.mp hx
  exact h y hy
theorem isEmpty_map_filter {α : Type} (f : α → D) (p : D → Bool) (l : List α) : ((l.map f).filter p).isEmpty = l.all fun x => !p (f x) := by
  induction l with
  | nil => rfl
  | cons a l ih =>
    cases h : p (f a)
    · rw [List.map_cons, List.filter_cons_of_neg (by simp [h]), ih]; simp [h]
    · rw [List.map_cons, List.filter_cons_of_pos h]; simp [h]
/-- the strange ones: none? -/
theorem strange_nil {n : Nat} {α : Type} (f : α → D) (p : D → Bool) (l : List α) (h : ∀ x ∈ l, okD n (f x) = true) (hn : n ≤ 59) : eqD (.lst ((l.map f).filter p)) (.lst []) = some (l.all fun x => !p (f x)) := by
  rw [eqD_nil (n := n) _ hn, isEmpty_map_filter]
  rw [okDs_iff]
  intro x hx
  obtain ⟨hx, _⟩ := List.mem_filter.mp hx
  obtain ⟨c, hc, rfl⟩ := List.mem_map.mp hx
  exact h c hc
theorem okT_lt {cs : List Nat} (h : okT cs = true) : ∀ c ∈ cs, c < 1114112 := fun c hc => by
  have := List.all_eq_true.mp h c hc
  simpa using this
theorem strange (z cs : List Nat) (h : okT cs = true) : eqD (.lst ((cs.map sg).filter (notin z))) (.lst []) = some (cs.all fun c => decide (c ∈ z)) := by
  rw [strange_nil (n := 0) sg (notin z) cs (fun x hx => okD_sg (okT_lt h x hx)) (by decide)]
  simp

/-! ### dict comprehensions -/
section
variable {vs : List Nat} {gm : D → ES → Option ES} {tst : M Bool} {kf vf : M D}
theorem dc_go {es : ES} (t : D → Bool) (k : D → Key) (v : D → D) : ∀ (ds ks ws : List D) (es1 : ES), Dl.Same vs es es1 →
    (∀ d ∈ ds, ∃ e1 e2, gm d { es with env := wipeE es.env vs } = some e1 ∧ tst e1 = some (.ok (t d) e2) ∧ Dl.Same vs es e2 ∧ (t d = true → ∃ e3 e4, kf e2 = some (.ok (keyD (k d)) e3) ∧ vf e3 = some (.ok (v d) e4) ∧ Dl.Same vs es e4)) →
    ∃ es', dcLoop vs gm tst kf vf ds ks ws es1 = some ((mergeD ks ws ((ds.filter t).map fun d => (k d, v d))).1, (mergeD ks ws ((ds.filter t).map fun d => (k d, v d))).2, es') ∧ Dl.Same vs es es'
  | [], ks, ws, es1, s, _ => ⟨es1, rfl, s⟩
  | d :: ds, ks, ws, es1, s, h => by
    obtain ⟨e1, e2, g1, t1, s2, he⟩ := h d (by simp)
    have ew : ({ es1 with env := wipeE es1.env vs } : ES) = { es with env := wipeE es.env vs } := by rw [s.2, s.1]
    cases ht : t d with
    | false =>
      rw [ht] at t1
      obtain ⟨es', q, s'⟩ := dc_go t k v ds ks ws e2 s2 fun x hx => h x (by simp [hx])
      exact ⟨es', by simp only [dcLoop, ew, g1, t1, q, List.filter_cons_of_neg (show ¬ t d = true by simp [ht])], s'⟩
    | true =>
      rw [ht] at t1
      obtain ⟨e3, e4, k3, v4, s4⟩ := he ht
      obtain ⟨es', q, s'⟩ := dc_go t k v ds (dputKs (isKeyD (k d)) (keyD (k d)) ks) (dputVs (isKeyD (k d)) (v d) ks ws) e4 s4 fun x hx => h x (by simp [hx])
      have kk : keyF (keyD (k d)) = some (k d) := by cases k d <;> rfl
      exact ⟨es', by simp only [dcLoop, ew, g1, t1, k3, v4, kk, q, List.filter_cons_of_pos ht, List.map_cons, mergeD], s'⟩
theorem dcM_run0 {fi : M (List D)} {es0 : ES} (ds : List D) (t : D → Bool) (k : D → Key) (v : D → D) (hf : fi es0 = some (.ok ds es0))
    (h : ∀ d ∈ ds, ∃ e1 e2, gm d { es0 with env := wipeE es0.env vs } = some e1 ∧ tst e1 = some (.ok (t d) e2) ∧ Dl.Same vs es0 e2 ∧ (t d = true → ∃ e3 e4, kf e2 = some (.ok (keyD (k d)) e3) ∧ vf e3 = some (.ok (v d) e4) ∧ Dl.Same vs es0 e4)) :
    dcM vs fi gm tst kf vf es0 = some (.ok (.fr (.dct false (mergeD [] [] ((ds.filter t).map fun d => (k d, v d))).1 (mergeD [] [] ((ds.filter t).map fun d => (k d, v d))).2)) { es0 with env := backE vs es0.env es0.env }) := by
  obtain ⟨es', q, s1, s2⟩ := dc_go (vs := vs) (gm := gm) (tst := tst) (kf := kf) (vf := vf) (es := es0) t k v ds [] [] es0 ⟨rfl, rfl⟩ h
  unfold dcM
  rw [bind_run, hf, rb_ok, q]
  show some (Res.ok (RV.fr (.dct false _ _)) { es' with env := backE vs es0.env es'.env }) = _
  rw [wipeE_back s2, s1]
end
/-- unlike things, in the order in which they come -/
def ddF {α : Type} [DecidableEq α] (acc : List α) : List α → List α
  | [] => acc
  | w :: ws => ddF (if w ∈ acc then acc else acc ++ [w]) ws
def dd {α : Type} [DecidableEq α] (ws : List α) : List α := ddF [] ws
theorem mergeD_tx : ∀ (ps : List (List Nat × D)) (ks : List (List Nat)) (vs : List D), (mergeD (ks.map tx) vs (ps.map fun p => (Sum.inr (T p.1), p.2))).1 = (ddF ks (ps.map (·.1))).map tx
  | [], ks, vs => rfl
  | (w, v) :: ps, ks, vs => by
    have e : (ks.map tx).any (isKeyD (.inr (T w))) = decide (w ∈ ks) := by
      induction ks with
      | nil => rfl
      | cons a ks ih =>
        rw [List.map_cons, List.any_cons, ih]
        have : isKeyD (.inr (T w)) (tx a) = decide (a = w) := by
          show decide (T a = T w) = _
          simp [T_inj]
        rw [this]
        by_cases h : a = w
        · simp [h]
        · simp [h, Ne.symm h]
    have : dputKs (isKeyD (.inr (T w))) (keyD (.inr (T w))) (ks.map tx) = (if w ∈ ks then ks else ks ++ [w]).map tx := by
      unfold dputKs
      rw [e]
      by_cases h : w ∈ ks
      · simp [h]
      · simp [h]; rfl
    show (mergeD (dputKs _ _ _) (dputVs _ v _ _) _).1 = _
    rw [this, mergeD_tx ps]
    simp only [List.map_cons, ddF]
    by_cases h : w ∈ ks <;> simp [h]
theorem dcM_tx {vs : List Nat} {gm : D → ES → Option ES} {kf vf : M D} {fi : M (List D)} {es0 : ES} {α : Type} (l : List α) (f : α → D) (w : α → List Nat) (v : D) (hf : fi es0 = some (.ok (l.map f) es0))
    (h : ∀ a ∈ l, ∃ e1 e3 e4, gm (f a) { es0 with env := wipeE es0.env vs } = some e1 ∧ Dl.Same vs es0 e1 ∧ kf e1 = some (.ok (tx (w a)) e3) ∧ vf e3 = some (.ok v e4) ∧ Dl.Same vs es0 e4) :
    ∃ X, dcM vs fi gm (M.ret true) kf vf es0 = some (.ok (.fr (.dct false ((dd (l.map w)).map tx) X)) { es0 with env := backE vs es0.env es0.env }) := by
  have go : ∀ (l : List α) (ks : List (List Nat)) (ws : List D) (es1 : ES), (∀ a ∈ l, ∃ e1 e3 e4, gm (f a) { es0 with env := wipeE es0.env vs } = some e1 ∧ Dl.Same vs es0 e1 ∧ kf e1 = some (.ok (tx (w a)) e3) ∧ vf e3 = some (.ok v e4) ∧ Dl.Same vs es0 e4) → Dl.Same vs es0 es1 →
      ∃ X es', dcLoop vs gm (M.ret true) kf vf (l.map f) (ks.map tx) ws es1 = some ((ddF ks (l.map w)).map tx, X, es') ∧ Dl.Same vs es0 es' := by
    intro l
    induction l with
    | nil => intro ks ws es1 _ s; exact ⟨ws, es1, rfl, s⟩
    | cons a l ih =>
      intro ks ws es1 h s
      obtain ⟨e1, e3, e4, g1, s1, k3, v4, s4⟩ := h a (by simp)
      have ew : ({ es1 with env := wipeE es1.env vs } : ES) = { es0 with env := wipeE es0.env vs } := by rw [s.2, s.1]
      have hd : ∃ ks' ws', dputKs (isKeyD (.inr (T (w a)))) (keyD (.inr (T (w a)))) (ks.map tx) = ks'.map tx ∧ ks' = ddF ks [w a] ∧ ws' = dputVs (isKeyD (.inr (T (w a)))) v (ks.map tx) ws := by
        have := mergeD_tx [(w a, v)] ks ws
        refine ⟨_, _, this, rfl, rfl⟩
      obtain ⟨ks', ws', q1, q2, q3⟩ := hd
      obtain ⟨X, es', q, s'⟩ := ih ks' ws' e4 (fun x hx => h x (by simp [hx])) s4
      refine ⟨X, es', ?_, s'⟩
      simp only [List.map_cons, dcLoop, ew, g1, ret_run, k3, v4, keyF]
      rw [← q3, q1, q]
      rw [q2]
      rfl
  obtain ⟨X, es', q, s1, s2⟩ := go l [] [] es0 h ⟨rfl, rfl⟩
  refine ⟨X, ?_⟩
  unfold dcM
  rw [bind_run, hf, rb_ok]
  simp only [List.map_nil] at q
  rw [q]
  show some (Res.ok (RV.fr (.dct false _ _)) { es' with env := backE vs es0.env es'.env }) = _
  rw [wipeE_back s2, s1]
  rfl
theorem ddF_nodup {α : Type} [DecidableEq α] : ∀ (ws acc : List α), (acc ++ ws).Nodup → ddF acc ws = acc ++ ws
  | [], acc, _ => by simp [ddF]
  | w :: ws, acc, h => by
    have n : w ∉ acc := fun hw => (List.nodup_append.mp h).2.2 w hw w (by simp) rfl
    have e : acc ++ w :: ws = (acc ++ [w]) ++ ws := by simp
    unfold ddF
    rw [if_neg n, e]
    exact ddF_nodup ws (acc ++ [w]) (by rw [← e]; exact h)
theorem dd_nodup {α : Type} [DecidableEq α] {ws : List α} (h : ws.Nodup) : dd ws = ws := by
  have := ddF_nodup ws [] (by simpa using h)
  simpa [dd] using this
theorem ddF_is {α : Type} [DecidableEq α] : ∀ (ws acc : List α), acc.Nodup → (ddF acc ws).Nodup ∧ (∀ x, x ∈ ddF acc ws ↔ x ∈ acc ∨ x ∈ ws) ∧ (ddF acc ws).length ≤ acc.length + ws.length
  | [], acc, h => ⟨h, by simp [ddF], by simp [ddF]⟩
  | w :: ws, acc, h => by
    unfold ddF
    by_cases hw : w ∈ acc
    · rw [if_pos hw]
      obtain ⟨a, b, c⟩ := ddF_is ws acc h
      refine ⟨a, fun x => ?_, by simp; omega⟩
      rw [b, List.mem_cons]
      constructor
      · rintro (q | q)
        · exact .inl q
        · exact .inr (.inr q)
      · rintro (q | rfl | q)
        · exact .inl q
        · exact .inl hw
        · exact .inr q
    · rw [if_neg hw]
      obtain ⟨a, b, c⟩ := ddF_is ws (acc ++ [w]) (List.nodup_append.mpr ⟨h, by simp, by intro x hx y hy; simp at hy; subst hy; intro e; subst e; exact hw hx⟩)
      refine ⟨a, fun x => ?_, by simp at c ⊢; omega⟩
      rw [b, List.mem_cons, List.mem_append, List.mem_singleton, or_assoc]
theorem dd_is {α : Type} [DecidableEq α] (ws : List α) : (dd ws).Nodup ∧ (∀ x, x ∈ dd ws ↔ x ∈ ws) ∧ (dd ws).length ≤ ws.length := by
  obtain ⟨a, b, c⟩ := ddF_is ws [] (by simp)
  exact ⟨a, fun x => by simpa [dd] using b x, by simpa [dd] using c⟩
/-! ### sorted by length -/
def lenT (a b : List Nat) : Bool := lenLe (T a) (T b)
theorem lenT_total : PySem.W.TotalLe lenT := by
  have h := PySem.W.sortLe_total (PyProof.Rows.listOrd PyProof.Rows.itemOrd) false fun z : Str => PySem.W.keyToks (lenKey z)
  exact ⟨fun a b c => h.trans _ _ _, fun a b => h.total _ _⟩
def sortT (ws : List (List Nat)) : List (List Nat) := ws.mergeSort lenT
theorem sortT_perm (ws : List (List Nat)) : (sortT ws).Perm ws := List.mergeSort_perm ws lenT
theorem sortT_len (ws : List (List Nat)) : (sortT ws).length = ws.length := (sortT_perm ws).length_eq
theorem sortT_idem (ws : List (List Nat)) : sortT (sortT ws) = sortT ws := by
  unfold sortT
  exact List.mergeSort_of_pairwise (PySem.W.sort_pairwise lenT_total ws)
@[simp] theorem strsD_tx : ∀ ws : List (List Nat), strsD (ws.map tx) = some (ws.map T)
  | [] => rfl
  | w :: ws => by simp [strsD, strsD_tx ws]
theorem sort_tx (ws : List (List Nat)) : ((ws.map T).mergeSort lenLe).map D.str = (sortT ws).map tx := by
  unfold sortT
  rw [← PySem.W.sort_maps T (r := lenT) (s := lenLe) (fun _ _ _ _ => rfl)]
  rw [List.map_map]
  rfl
@[simp] theorem sortLen_dct (ws : List (List Nat)) (vs : List D) : sortLenD (.dct false (ws.map tx) vs) = some (.fr (.lst ((sortT ws).map tx))) := by
  show (strsD (ws.map tx)).map _ = _
  rw [strsD_tx]
  show some (RV.fr (.lst (((ws.map T).mergeSort lenLe).map D.str))) = _
  rw [sort_tx]
@[simp] theorem sortLenM_run (f : M RV) (es : ES) : sortLenM f es = rb (f es) fun r => M.bind (peek r) fun d => M.lift (sortLenD d) := rfl
@[simp] theorem inK_run (kvs : List (Str × Int)) (f : M RV) (es : ES) : inKM kvs f es = rb (f es) fun r => M.bind (peek r) fun d => M.lift (match d with | .str z => some (.fz (.bl (kvs.lookup z).isSome)) | _ => none) := rfl
@[simp] theorem ixK_run (kvs : List (Str × Int)) (f : M RV) (es : ES) : ixKM kvs f es = rb (f es) fun r => M.bind (peek r) fun d => M.lift (match d with | .str z => (kvs.lookup z).map fun i => .fz (.int i) | _ => none) := rfl
@[simp] theorem T_beq (a b : List Nat) : (T a == T b) = decide (a = b) := by
  by_cases h : a = b
  · simp [h]
  · have : T a ≠ T b := fun e => h (T_inj.mp e)
    simp [h, this]
@[simp] theorem dec_T (a b : List Nat) : decide (T a = T b) = decide (a = b) := by
  by_cases h : a = b
  · simp [h]
  · have : T a ≠ T b := fun e => h (T_inj.mp e)
    simp [h, this]
/-! ### one name set to a text's own -/
theorem beq_tx : ∀ (a b : List (List Nat)), beqDs (a.map tx) (b.map tx) = decide (a = b)
  | [], [] => rfl
  | [], _ :: _ => by simp [beqDs]
  | _ :: _, [] => by simp [beqDs]
  | x :: xs, y :: ys => by
    simp only [List.map_cons, beqDs, beq_tx xs ys]
    have : beqD (tx x) (tx y) = decide (x = y) := by
      show (T x == T y) = _
      by_cases h : x = y
      · simp [h]
      · have : T x ≠ T y := fun e => h (T_inj.mp e)
        simp [h, this]
    rw [this]
    by_cases h1 : x = y <;> by_cases h2 : xs = ys <;> simp [h1, h2]
theorem eq_txs {a b : List (List Nat)} (ha : ∀ w ∈ a, okT w = true) (hb : ∀ w ∈ b, okT w = true) : eqD (.lst (a.map tx)) (.lst (b.map tx)) = some (decide (a = b)) := by
  rw [eqD_lst (n := 0) (okDs_map fun x hx => okD_T (ha x hx)) (okDs_map fun x hx => okD_T (hb x hx)) (by decide) (nbDs_map fun x hx => by simp [nbD]) (nbDs_map fun x hx => by simp [nbD]), beq_tx]
end Dl
end
section
set_option Elab.async false
set_option linter.all false
set_option maxRecDepth 100000
set_option maxHeartbeats 2000000
/-! DlRun5: texts split at a sign, and joined. -/
namespace Dl
open PySem PySem.Spec PyProof.Rows L2
def splC (c : Nat) : List Nat → List (List Nat)
  | [] => [[]]
  | x :: xs => if x = c then [] :: splC c xs else match splC c xs with
    | p :: ps => (x :: p) :: ps
    | [] => [[x]]
theorem splC_ne (c : Nat) : ∀ a, splC c a ≠ []
  | [] => by simp [splC]
  | x :: xs => by
    unfold splC
    split
    · simp
    · split <;> simp
/-- what stands ahead goes to the first part -/
def addF (acc : List Nat) : List (List Nat) → List (List Nat)
  | [] => [acc]
  | p :: ps => (acc ++ p) :: ps
theorem spl_splC (c : Nat) : ∀ (a acc : List Nat), TL.spl [c] 0 acc a = addF acc (splC c a)
  | [], acc => by simp [TL.spl, splC, addF]
  | x :: xs, acc => by
    unfold TL.spl splC
    have hp : TL.pre [c] (x :: xs) = decide (x = c) := by
      unfold TL.pre
      by_cases h : x = c <;> simp [h]
    rw [hp]
    by_cases h : x = c
    · simp only [h, decide_true, if_true, List.length_singleton, Nat.sub_self]
      rw [spl_splC c xs []]
      cases hq : splC c xs with
      | nil => exact (splC_ne c xs hq).elim
      | cons p ps => simp [addF]
    · simp only [h, decide_false, if_false, Bool.false_eq_true]
      rw [spl_splC c xs (acc ++ [x])]
      cases hq : splC c xs with
      | nil => exact (splC_ne c xs hq).elim
      | cons p ps => simp [addF]
def joinC (c : Nat) : List (List Nat) → List Nat
  | [] => []
  | [p] => p
  | p :: q :: r => p ++ c :: joinC c (q :: r)
theorem joinL_C (c : Nat) : ∀ ps, TL.joinL [c] ps = joinC c ps
  | [] => rfl
  | [p] => rfl
  | p :: q :: r => by
    have := joinL_C c (q :: r)
    simp only [TL.joinL, joinC, this, List.cons_append, List.nil_append]
theorem join_splC (c : Nat) : ∀ a, joinC c (splC c a) = a
  | [] => rfl
  | x :: xs => by
    have ih := join_splC c xs
    unfold splC
    by_cases h : x = c
    · simp only [h, if_true]
      cases hq : splC c xs with
      | nil => exact (splC_ne c xs hq).elim
      | cons p ps => rw [hq] at ih; simp [joinC, ih]
    · simp only [h, if_false]
      cases hq : splC c xs with
      | nil => exact (splC_ne c xs hq).elim
      | cons p ps =>
        rw [hq] at ih
        cases ps with
        | nil => simp only [joinC] at ih ⊢; rw [ih]
        | cons q r => simp only [joinC] at ih ⊢; rw [List.cons_append, ih]
theorem splC_free (c : Nat) : ∀ a, ∀ p ∈ splC c a, c ∉ p
  | [], p, h => by simp [splC] at h; subst h; simp
  | x :: xs, p, h => by
    have ih := splC_free c xs
    unfold splC at h
    by_cases hx : x = c
    · simp only [hx, if_true, List.mem_cons] at h
      rcases h with rfl | h
      · simp
      · exact ih p h
    · simp only [hx, if_false] at h
      cases hq : splC c xs with
      | nil => exact (splC_ne c xs hq).elim
      | cons q ps =>
        rw [hq] at h ih
        rcases List.mem_cons.mp h with rfl | h
        · have := ih q (by simp)
          intro hm
          rcases List.mem_cons.mp hm with rfl | hm
          · exact hx rfl
          · exact this hm
        · exact ih p (by simp [h])
theorem splC_one {c : Nat} : ∀ {p : List Nat}, c ∉ p → splC c p = [p]
  | [], _ => rfl
  | x :: xs, h => by
    have h1 : x ≠ c := fun e => h (by simp [e])
    have h2 : c ∉ xs := fun e => h (by simp [e])
    unfold splC
    rw [if_neg h1, splC_one h2]
theorem splC_app {c : Nat} (q : List Nat) : ∀ {p : List Nat}, c ∉ p → splC c (p ++ c :: q) = p :: splC c q
  | [], _ => by simp [splC]
  | x :: xs, h => by
    have h1 : x ≠ c := fun e => h (by simp [e])
    have h2 : c ∉ xs := fun e => h (by simp [e])
    rw [List.cons_append]
    show (if x = c then _ else _) = _
    rw [if_neg h1, splC_app q h2]
theorem splC_join {c : Nat} : ∀ {ps : List (List Nat)}, ps ≠ [] → (∀ p ∈ ps, c ∉ p) → splC c (joinC c ps) = ps
  | [], h, _ => (h rfl).elim
  | [p], _, h => splC_one (h p (by simp))
  | p :: q :: r, _, h => by
    unfold joinC
    rw [splC_app _ (h p (by simp)), splC_join (by simp) fun x hx => h x (by simp [hx])]
theorem splC_len (c : Nat) : ∀ a, (splC c a).length ≤ a.length + 1 ∧ ∀ p ∈ splC c a, p.length ≤ a.length
  | [] => by simp [splC]
  | x :: xs => by
    obtain ⟨h1, h2⟩ := splC_len c xs
    unfold splC
    by_cases hx : x = c
    · simp only [hx, if_true, List.length_cons, List.mem_cons]
      exact ⟨by omega, by rintro p (rfl | hp); simp; have := h2 p hp; omega⟩
    · simp only [hx, if_false]
      cases hq : splC c xs with
      | nil => exact (splC_ne c xs hq).elim
      | cons q ps =>
        rw [hq] at h1 h2
        refine ⟨by simp at h1 ⊢; omega, fun p hp => ?_⟩
        rcases List.mem_cons.mp hp with rfl | hp
        · have := h2 q (by simp); simp; omega
        · have := h2 p (by simp [hp]); simp; omega
theorem splC_mem {c : Nat} : ∀ {a : List Nat} {p : List Nat} {x : Nat}, p ∈ splC c a → x ∈ p → x ∈ a
  | [], p, x, h, hx => by simp [splC] at h; subst h; cases hx
  | y :: ys, p, x, h, hx => by
    unfold splC at h
    by_cases hy : y = c
    · simp only [hy, if_true, List.mem_cons] at h
      rcases h with rfl | h
      · cases hx
      · exact List.mem_cons_of_mem _ (splC_mem h hx)
    · simp only [hy, if_false] at h
      cases hq : splC c ys with
      | nil => exact (splC_ne c ys hq).elim
      | cons q ps =>
        rw [hq] at h
        rcases List.mem_cons.mp h with rfl | h
        · rcases List.mem_cons.mp hx with rfl | hx
          · exact List.mem_cons_self
          · exact List.mem_cons_of_mem _ (splC_mem (c := c) (a := ys) (p := q) (by rw [hq]; simp) hx)
        · exact List.mem_cons_of_mem _ (splC_mem (c := c) (a := ys) (p := p) (by rw [hq]; simp [h]) hx)
theorem okT_mem {a : List Nat} : okT a = true ↔ ∀ x ∈ a, x < 1114112 := by
  unfold okT
  simp
theorem splC_ok {c : Nat} {a : List Nat} (h : okT a = true) : ∀ p ∈ splC c a, okT p = true := fun p hp => okT_mem.mpr fun x hx => okT_mem.mp h x (splC_mem hp hx)
theorem split_T {c : Nat} (hc : c < 256) (a : List Nat) : Txt.split (T a) (T [c]) = (splC c a).map T := by
  have h := SX.split_S (a := a) (b := [c]) (by simp) (by simp [hc])
  rw [spl_splC] at h
  have : addF [] (splC c a) = splC c a := by
    cases hq : splC c a with
    | nil => exact (splC_ne c a hq).elim
    | cons p ps => rfl
  rw [this] at h
  exact h
theorem join_T (c : Nat) (ys : List (List Nat)) : Txt.join (T [c]) (ys.map T) = T (joinC c ys) := by
  have h := SX.join_S [c] ys
  rw [joinL_C] at h
  exact h
theorem joinL_nil : ∀ ys : List (List Nat), TL.joinL [] ys = ys.flatten
  | [] => rfl
  | [p] => by simp [TL.joinL]
  | p :: q :: r => by
    have := joinL_nil (q :: r)
    simp only [TL.joinL, this, List.nil_append, List.flatten_cons]
theorem join_T0 (ys : List (List Nat)) : Txt.join (T []) (ys.map T) = T ys.flatten := by
  have h := SX.join_S [] ys
  rw [joinL_nil] at h
  exact h
/-- split(sep) of a text that is not too long -/
theorem splitD_T {c : Nat} (hc : c < 256) {a : List Nat} (ha : a.length ≤ 1000000) : splitD (tx a) [tx [c]] = some (.fr (.lst ((splC c a).map tx))) := by
  obtain ⟨h1, h2⟩ := splC_len c a
  show (if ((T [c]).length == 0) = false ∧ (T a).length + 2 ≤ 16777216 ∧ ((Txt.split (T a) (T [c])).all fun z => decide (z.length ≤ 16777216)) = true ∧ (Txt.split (T a) (T [c])).length ≤ 16777216 then some (RV.fr (.lst ((Txt.split (T a) (T [c])).map D.str))) else none) = _
  have hall : (((splC c a).map T).all fun z => decide (z.length ≤ 16777216)) = true := by
    rw [List.all_map, List.all_eq_true]
    intro p hp
    have := h2 p hp
    exact decide_eq_true (show p.length ≤ _ by omega)
  rw [split_T hc, if_pos ⟨rfl, by show a.length + 2 ≤ _; omega, hall, by rw [List.length_map]; omega⟩, List.map_map]
  rfl
@[simp] theorem succ_ne0 (n : Nat) : ((n : Int) + 1 != 0) = true := by
  have : (n : Int) + 1 ≠ 0 := by omega
  simp [this]
theorem any_eqF (a : List Nat) (ws : List (List Nat)) : ((ws.map tx).any fun z => eqF z (tx a)) = decide (a ∈ ws) := by
  induction ws with
  | nil => rfl
  | cons w ws ih =>
    have e : eqF (tx w) (tx a) = decide (w = a) := by
      show (T w == T a) = _
      rw [T_beq]
    rw [List.map_cons, List.any_cons, ih, e]
    by_cases h : w = a
    · simp [h]
    · simp [h, Ne.symm h]
theorem flat_tx (ws : List (List Nat)) : (ws.map tx).all flatD = true := by
  rw [List.all_eq_true]
  intro x hx
  obtain ⟨w, _, rfl⟩ := List.mem_map.mp hx
  rfl
@[simp] theorem inD_lst_tx (a : List Nat) (ws : List (List Nat)) : inD (tx a) (.lst (ws.map tx)) = some (decide (a ∈ ws)) := by
  show (if (flatD (tx a) && (ws.map tx).all flatD) = true then some ((ws.map tx).any fun z => eqF z (tx a)) else _) = _
  rw [if_pos (by rw [flat_tx]; rfl), any_eqF]
@[simp] theorem inD_tup_tx (a : List Nat) (ws : List (List Nat)) : inD (tx a) (.tup (ws.map tx)) = some (decide (a ∈ ws)) := by
  show (if (flatD (tx a) && (ws.map tx).all flatD) = true then some ((ws.map tx).any fun z => eqF z (tx a)) else _) = _
  rw [if_pos (by rw [flat_tx]; rfl), any_eqF]
@[simp] theorem keyF_str (a : Str) : keyF (.str a) = some (.inr a) := rfl
@[simp] theorem keyF_int (a : Int) : keyF (.int a) = some (.inl a) := rfl
@[simp] theorem dispP_nil (es : ES) : dispP [] es = some (.ok [] es) := rfl
@[simp] theorem dispP_cons (k v : M D) (r : List (M D × M D)) (es : ES) : dispP ((k, v) :: r) es = rb (k es) fun k => M.bind v fun v => M.bind (M.lift (keyF k)) fun j => M.bind (dispP r) fun ps => M.ret ((j, v) :: ps) := rfl
theorem pairs_tx (d : D) (ws : List (List Nat)) : pairsD (ws.map fun w => .tup [tx w, d]) = some (ws.map fun w => (Sum.inr (T w), d)) := by
  induction ws with
  | nil => rfl
  | cons w ws ih =>
    rw [List.map_cons, List.map_cons]
    show (keyF (tx w)).bind (fun j => (pairsD (ws.map fun w => .tup [tx w, d])).map fun r => (j, d) :: r) = _
    rw [ih]
    rfl
/-- dict([(w, d) ..]) -/
theorem dict_tx (d : D) (ws : List (List Nat)) : ∃ X, dictD [.lst (ws.map fun w => .tup [tx w, d])] = some (.fr (.dct false ((dd ws).map tx) X)) := by
  have h := mergeD_tx (ws.map fun w => (w, d)) [] []
  refine ⟨(mergeD [] [] (ws.map fun w => (Sum.inr (T w), d))).2, ?_⟩
  show (pairsD (ws.map fun w => .tup [tx w, d])).map _ = _
  rw [pairs_tx]
  simp only [Option.map_some]
  simp only [List.map_nil, List.map_map, Function.comp_def] at h
  rw [h]
  simp [dd]
@[simp] theorem firm_fr (d : D) (es : ES) : firm (.fr d) es = some (.ok (.fr d) es) := rfl
@[simp] theorem firm_fz (d : D) (es : ES) : firm (.fz d) es = some (.ok (.fz d) es) := rfl
@[simp] theorem firm_sl (i : Nat) (es : ES) : firm (.sl i) es = rb (leak (.sl i) es) fun d => M.ret (.fz d) := rfl
@[simp] theorem par2_run (i j : Nat) (fa fb : M RV) (es : ES) : par2S i j fa fb es = rs ((M.bind fa fun ra => M.bind fb fun rb => M.bind (firm ra) fun ra => M.bind (firm rb) fun rb => M.ret (ra, rb)) es) fun p => S.seq (setIf i p.1) (setIf j p.2) := rfl
@[simp] theorem disp_run (ps : List (M D × M D)) (es : ES) : dispM ps es = rb (dispP ps es) fun r => M.lift (if r.length ≤ 15 then some (.fr (.dct false (mergeD [] [] r).1 (mergeD [] [] r).2)) else none) := rfl
@[simp] theorem isKey_tx (a b : List Nat) : isKeyD (.inr (T a)) (tx b) = decide (b = a) := by
  show decide (T b = T a) = _
  simp
theorem inD_dct (k : D) (t : Bool) (ks vs : List D) (h : flatD k = true) : inD k (.dct t ks vs) = (dgetD (.dct t ks vs) k).map Option.isSome := by
  cases k <;> first | rfl | cases h
@[simp] theorem flatD_str (x : Str) : flatD (.str x) = true := rfl
@[simp] theorem flatD_int (x : Int) : flatD (.int x) = true := rfl
@[simp] theorem flatD_non : flatD .non = true := rfl
@[simp] theorem inD_dct_s (a : Str) (t : Bool) (ks vs : List D) : inD (.str a) (.dct t ks vs) = (dgetD (.dct t ks vs) (.str a)).map Option.isSome := rfl
@[simp] theorem dget_tx (a : List Nat) (ks vs : List D) : dgetD (.dct false ks vs) (tx a) = some (lkD (isKeyD (.inr (T a))) ks vs) := rfl
theorem lkD_cons (p : D → Bool) (k : D) (ks : List D) (v : D) (vs : List D) : lkD p (k :: ks) (v :: vs) = tw (p k) (some v) (lkD p ks vs) := rfl
@[simp] theorem lkD_nil (p : D → Bool) (vs : List D) : lkD p [] vs = none := by cases vs <;> rfl
@[simp] theorem ixD_dct (t : Bool) (ks vs : List D) (k : D) : ixD (.dct t ks vs) k = (match dgetD (.dct t ks vs) k with | some (some d) => some d | _ => none).map .fz := by
  cases k <;> rfl
theorem joinC_len (c : Nat) : ∀ ys : List (List Nat), (joinC c ys).length ≤ (ys.map (·.length)).sum + ys.length
  | [] => by simp [joinC]
  | [p] => by simp [joinC]
  | p :: q :: r => by
    have := joinC_len c (q :: r)
    simp [joinC] at this ⊢
    omega
theorem lens_T (ys : List (List Nat)) : ((ys.map T).map (·.length)).sum = (ys.map (·.length)).sum := by
  rw [List.map_map]
  rfl
/-- join of texts that are not too long -/
theorem joinD_T {c : Nat} {ys : List (List Nat)} (h : (ys.map (·.length)).sum + ys.length ≤ 1000000) : joinD (tx [c]) [.lst (ys.map tx)] = some (.fz (tx (joinC c ys))) := by
  have := joinC_len c ys
  unfold joinD
  simp only [strsD_tx]
  rw [join_T, if_pos ⟨by rw [lens_T, List.length_map]; show _ + ys.length * 1 ≤ _; omega, show (joinC c ys).length ≤ _ by omega⟩]
theorem joinD_T0 {ys : List (List Nat)} (h : (ys.map (·.length)).sum ≤ 1000000) : joinD (tx []) [.lst (ys.map tx)] = some (.fz (tx ys.flatten)) := by
  unfold joinD
  simp only [strsD_tx]
  have e : ys.flatten.length = (ys.map (·.length)).sum := List.length_flatten
  rw [join_T0, if_pos ⟨by rw [lens_T, List.length_map]; show _ + ys.length * 0 ≤ _; omega, show ys.flatten.length ≤ _ by omega⟩]
theorem joinD_Tt {c : Nat} {ys : List (List Nat)} (h : (ys.map (·.length)).sum + ys.length ≤ 1000000) : joinD (tx [c]) [.tup (ys.map tx)] = some (.fz (tx (joinC c ys))) := by
  have := joinC_len c ys
  unfold joinD
  simp only [strsD_tx]
  rw [join_T, if_pos ⟨by rw [lens_T, List.length_map]; show _ + ys.length * 1 ≤ _; omega, show (joinC c ys).length ≤ _ by omega⟩]
end Dl
end
section
set_option Elab.async false
set_option linter.all false
set_option maxRecDepth 100000
set_option maxHeartbeats 2000000
namespace K76
open PySem PySem.Spec PyProof.Rows L2 Dl
def small : List Nat := [97, 98, 99, 100, 101, 102, 103, 104, 105, 106, 107, 108, 109, 110, 111, 112, 113, 114, 115, 116, 117, 118, 119, 120, 121, 122]
def figs : List Nat := [48, 49, 50, 51, 52, 53, 54, 55, 56, 57]
def cWords : List Nat := [119, 111, 114, 100, 115]
def cDrop : List Nat := [100, 114, 111, 112]
def cStar : List Nat := [115, 116, 97, 114]
def cBoth : List Nat := [98, 111, 116, 104]
def cJoin : List Nat := [106, 111, 105, 110]
@[simp] theorem s_small : Str.ofString "abcdefghijklmnopqrstuvwxyz" = T small := by decide +kernel
@[simp] theorem s_figs : Str.ofString "0123456789" = T figs := by decide +kernel
@[simp] theorem s_smallfigs : Str.ofString "abcdefghijklmnopqrstuvwxyz0123456789" = T (small ++ figs) := by decide +kernel
@[simp] theorem s_words : Str.ofString "words" = T cWords := by decide +kernel
@[simp] theorem s_drop : Str.ofString "drop" = T cDrop := by decide +kernel
@[simp] theorem s_star : Str.ofString "star" = T cStar := by decide +kernel
@[simp] theorem s_both : Str.ofString "both" = T cBoth := by decide +kernel
@[simp] theorem s_join : Str.ofString "join" = T cJoin := by decide +kernel
@[simp] theorem s_dash : Str.ofString "-" = T [45] := by decide +kernel
@[simp] theorem s_nil : Str.ofString "" = T [] := by decide +kernel
@[simp] theorem s_space : Str.ofString " " = T [32] := by decide +kernel
@[simp] theorem s_line : Str.ofString "\n" = T [10] := by decide +kernel
@[simp] theorem small_len : small.length = 26 := rfl
@[simp] theorem figs_len : figs.length = 10 := rfl
def nameB (cs : List Nat) : Bool := decide (1 ≤ cs.length) && (decide (cs.length ≤ 8) && ((cs.head?.map fun c => decide (c ∈ small)).getD false && cs.all fun c => decide (c ∈ small ++ figs)))
theorem r_is_name (cs : List Nat) (g : List Box) (hc : okT cs = true) : F_is_name [tx cs] g = some (.ok (.bl (nameB cs)) g) := by
  cases cs with
  | nil => rfl
  | cons c cs =>
    by_cases e1 : (↑cs.length + 1 : Int) ≤ 8
    · by_cases h3 : c ∈ small
      · have e0 : (1:Int) ≤ ↑cs.length + 1 := by omega
        have h8 : cs.length ≤ 7 := by omega
        simp [F_is_name, S_is_name, bodyF, startE, subTy, h3, e0, e1]
        rw [lcM_run0 ((c :: cs).map sg) (notin (small ++ figs)) id (by simp) (by
          intro d hd
          obtain ⟨x, hx, rfl⟩ := List.mem_map.mp hd
          simp [Dl.Same]), List.map_id]
        simp [backE_self]
        rw [← List.map_cons (f := sg), strange _ _ hc]
        simp [nameB, h3, h8]
      · have e0 : (1:Int) ≤ ↑cs.length + 1 := by omega
        simp [F_is_name, S_is_name, bodyF, startE, subTy, h3, e0, e1, nameB]
    · have h8 : ¬ cs.length ≤ 7 := by omega
      simp [F_is_name, S_is_name, bodyF, startE, subTy, e1, nameB, h8]
theorem r_mname (cs : List Nat) (g : List Box) (hc : okT cs = true) : F__law_mname [tx cs] g = some (.ok (.bl (nameB cs)) g) := by
  cases cs with
  | nil => rfl
  | cons c cs =>
    by_cases e1 : (↑cs.length + 1 : Int) < 9
    · by_cases h3 : c ∈ small
      · have e0 : (0:Int) < ↑cs.length + 1 := by omega
        have h8 : cs.length ≤ 7 := by omega
        simp [F__law_mname, S__law_mname, bodyF, startE, subTy, h3, e0, e1]
        rw [lcM_run0 ((c :: cs).map sg) (notin (small ++ figs)) id (by simp) (by
          intro d hd
          obtain ⟨x, hx, rfl⟩ := List.mem_map.mp hd
          simp [Dl.Same]), List.map_id]
        simp [backE_self]
        rw [← List.map_cons (f := sg), strange _ _ hc]
        simp [nameB, h3, h8]
      · have e0 : (0:Int) < ↑cs.length + 1 := by omega
        simp [F__law_mname, S__law_mname, bodyF, startE, subTy, h3, e0, e1, nameB]
    · have h8 : ¬ cs.length ≤ 7 := by omega
      have e0 : (0:Int) < ↑cs.length + 1 := by omega
      simp [F__law_mname, S__law_mname, bodyF, startE, subTy, e0, e1, nameB, h8]
/-! ### plain words -/
def wordB (w : List Nat) : Bool := decide (w.length ≤ 4) && w.all fun c => decide (c ∈ small)
theorem wordB_ok {w : List Nat} (h : wordB w = true) : okT w = true := by
  unfold wordB at h
  simp only [Bool.and_eq_true] at h
  unfold okT
  refine List.all_eq_true.mpr fun c hc => ?_
  have := List.all_eq_true.mp h.2 c hc
  have m : c ∈ small := of_decide_eq_true this
  simp only [small] at m
  simp only [List.mem_cons, List.not_mem_nil, or_false] at m
  exact decide_eq_true (by omega)
/-- a list or a tuple -/
def seqO (b : Bool) (ds : List D) : D := if b = true then .lst ds else .tup ds
theorem r_is_row (b : Bool) (ds : List D) (g : List Box) : F_is_row [seqO b ds] g = some (.ok (.bl true) g) := by cases b <;> rfl
theorem truD_fil {α : Type} (f : α → D) (p : D → Bool) (l : List α) : truD (.lst ((l.map f).filter p)) = some (!l.all fun x => !p (f x)) := by
  rw [← isEmpty_map_filter]
  rfl
def plainW (ws : List (List Nat)) : D := if ws.length ≤ 6 ∧ (∀ w ∈ ws, wordB w = true) ∧ (dd ws).length = ws.length then .tup ((sortT (dd ws)).map tx) else .non
theorem take_mem {α : Type} {l : List α} {p : α → Prop} {k : Nat} {x : α} (hk : l[k]? = some x) (h : ∀ y ∈ l.take k, p y) (hx : p x) : ∀ y ∈ l.take (k + 1), p y := by
  rw [List.take_add_one, hk]
  intro y hy
  rcases List.mem_append.mp hy with hy | hy
  · exact h y hy
  · simp at hy; subst hy; exact hx
/-- one more name is set -/
def fzs (l : Option LV) : Prop := l = none ∨ ∃ d, l = some (.fz d)
theorem r_plain_words (b : Bool) (ws : List (List Nat)) (g : List Box) (hw : ∀ w ∈ ws, okT w = true) : F_plain_words [seqO b (ws.map tx)] g = some (.ok (plainW ws) g) := by
  have e1 := r_is_row b (ws.map tx) g
  by_cases h6 : ws.length ≤ 6
  · have h6' : ¬ (6 < (ws.length : Int)) := by omega
    have sq : seqD (seqO b (ws.map tx)) = some (ws.map tx) := by cases b <;> rfl
    have le : lenD [seqO b (ws.map tx)] = some (.fz (.int ws.length)) := by cases b <;> simp [seqO]
    simp [F_plain_words, S_plain_words, bodyF, startE, subTy, e1, le, h6', sq]
    rw [loop_fold (s0 := none) (fun l => ⟨[some (.fz (seqO b (ws.map tx))), l, none, none], g⟩) (fun _ d => if (match d with | .str x => !wordB x.cps.toList | _ => true) = true then .error (.non, ⟨[some (.fz (seqO b (ws.map tx))), some (.fz d), none, none], g⟩) else .ok (some (.fz d))) (fun l d hd => by
      obtain ⟨w, mw, rfl⟩ := List.mem_map.mp hd
      refine ⟨_, rfl, ?_⟩
      by_cases h4 : w.length ≤ 4
      · have h4' : ¬ (4 < (w.length : Int)) := by omega
        simp [subTy, h4']
        rw [lcM_run0 (w.map sg) (notin small) id (by simp) (by
          intro d hd
          obtain ⟨x, hx, rfl⟩ := List.mem_map.mp hd
          simp [Dl.Same]), List.map_id]
        have eb : wordB w = w.all fun c => decide (c ∈ small) := by simp [wordB, h4]
        have ie : ((w.map sg).filter (notin small)).isEmpty = wordB w := by rw [isEmpty_map_filter, eb]; simp
        cases hq : wordB w <;> rw [hq] at ie <;> simp [backE_self, ie]
      · have h4' : (4 < (w.length : Int)) := by omega
        have hb : wordB w = false := by simp [wordB, h4]
        simp [subTy, h4', hb])]
    rw [foldE_find]
    by_cases hall : ∀ w ∈ ws, wordB w = true
    · have hf : (ws.map tx).find? (fun d => match d with | .str x => !wordB x.cps.toList | _ => true) = none := by
        rw [List.find?_eq_none]
        intro d hd
        obtain ⟨w, mw, rfl⟩ := List.mem_map.mp hd
        simp [hall w mw]
      rw [hf]
      have hl : ∃ l, ((ws.map tx).getLast?.map fun d => some (LV.fz d)).getD none = l ∧ bk1 l = l := by
        refine ⟨_, rfl, ?_⟩
        cases (ws.map tx).getLast? <;> rfl
      obtain ⟨l, hl, bl⟩ := hl
      simp only [hl]
      simp
      obtain ⟨X, hX⟩ := dcM_tx (vs := [1]) (gm := setG 1) (kf := lk (nmM 1)) (vf := lk (cM (.bl true))) (fi := seqM (lk (nmM 0))) (es0 := ⟨[some (.fz (seqO b (ws.map tx))), l, none, none], g⟩) ws tx id (.bl true) (by simp [sq]) (fun w mw => ⟨_, _, _, rfl, by simp [Dl.Same], by simp; rfl, by simp; rfl, by simp [Dl.Same]⟩)
      rw [hX]
      simp [backE_self, bl, le, sortT_len]
      by_cases hlen : (dd ws).length = ws.length
      · simp [hlen, plainW, h6]
        exact hall
      · have : ¬ ((dd ws).length : Int) = (ws.length : Int) := by omega
        simp [hlen, this, plainW]
    · have hf : ∃ d, (ws.map tx).find? (fun d => match d with | .str x => !wordB x.cps.toList | _ => true) = some d := by
        cases hq : (ws.map tx).find? (fun d => match d with | .str x => !wordB x.cps.toList | _ => true) with
        | some d => exact ⟨d, rfl⟩
        | none =>
          rw [List.find?_eq_none] at hq
          refine (hall fun w mw => ?_).elim
          have := hq (tx w) (List.mem_map.mpr ⟨w, mw, rfl⟩)
          simpa using this
      obtain ⟨d, hf⟩ := hf
      rw [hf]
      simp [plainW, hall]
  · have h6' : (6 < (ws.length : Int)) := by omega
    cases b <;> simp [seqO] at e1 <;> simp [F_plain_words, S_plain_words, bodyF, startE, subTy, seqO, e1, h6', plainW, h6]
/-! ### plain deeds -/
inductive Deed where
  | words (n : List Nat) (ws : List (List Nat))
  | drop (n : List Nat)
  | star (n m : List Nat)
  | both (n m k : List Nat)
  | join (n m k : List Nat)
def Deed.d : Deed → D
  | .words n ws => .tup [tx cWords, tx n, .tup (ws.map tx)]
  | .drop n => .tup [tx cDrop, tx n]
  | .star n m => .tup [tx cStar, tx n, tx m]
  | .both n m k => .tup [tx cBoth, tx n, tx m, tx k]
  | .join n m k => .tup [tx cJoin, tx n, tx m, tx k]
def optD : Option Deed → D
  | some e => e.d
  | none => .non
/-- a deed of a row of texts that is none of words -/
def plainT (ws : List (List Nat)) : D := match ws with
  | [h, n] => if h = cDrop ∧ nameB n = true then .tup (ws.map tx) else .non
  | [h, n, m] => if h = cStar ∧ nameB n = true ∧ nameB m = true then .tup (ws.map tx) else .non
  | [h, n, m, k] => if (h = cBoth ∨ h = cJoin) ∧ nameB n = true ∧ nameB m = true ∧ nameB k = true then .tup (ws.map tx) else .non
  | _ => .non
def sz (h : List Nat) : Option Int := if h = cWords then some 3 else if h = cDrop then some 2 else if h = cBoth then some 4 else if h = cJoin then some 4 else if h = cStar then some 3 else none
theorem sz_eq (h : List Nat) : K_SIZES.lookup (T h) = sz h := by
  unfold K_SIZES sz
  simp only [s_words, s_drop, s_both, s_join, s_star, List.lookup_cons, T_beq, List.lookup_nil]
  repeat' (split <;> simp_all)
theorem r_is_deed (b : Bool) (h : List Nat) (rest : List D) (g : List Box) : F_is_deed [seqO b (tx h :: rest)] g = some (.ok (.bl (match sz h with | some n => decide ((rest.length + 1 : Int) = n) | none => false)) g) := by
  cases hs : sz h with
  | none => cases b <;> simp [F_is_deed, S_is_deed, bodyF, startE, subTy, seqO, sz_eq, hs]
  | some n => cases b <;> simp [F_is_deed, S_is_deed, bodyF, startE, subTy, seqO, sz_eq, hs]
/-- cut from a place on -/
@[simp] theorem cutL_1 {α : Type} (x : α) (xs : List α) : cutL (x :: xs) (some 1) none = xs := by
  have e : HT.sIx (x :: xs).length 0 (some 1) = 1 := by simp [HT.sIx]
  unfold cutL
  rw [e, HT.sIx_none]
  simp
@[simp] theorem cutL_2 {α : Type} (x y : α) (xs : List α) : cutL (x :: y :: xs) (some 2) none = xs := by
  have e : HT.sIx (x :: y :: xs).length 0 (some 2) = 2 := by simp [HT.sIx]
  unfold cutL
  rw [e, HT.sIx_none]
  simp
@[simp] theorem cutL_12 {α : Type} (x y : α) (xs : List α) : cutL (x :: y :: xs) (some 1) (some 2) = [y] := by
  have e : HT.sIx (x :: y :: xs).length 0 (some 1) = 1 := by simp [HT.sIx]
  have e2 : HT.sIx (x :: y :: xs).length (x :: y :: xs).length (some 2) = 2 := by simp [HT.sIx]
  unfold cutL
  rw [e, e2]
  simp
theorem seq_at (b : Bool) (ds : List D) (i : Int) : ixD (seqO b ds) (.int i) = (atI ds i).map .fz := by cases b <;> rfl
theorem seq_sl (b : Bool) (ds : List D) (l h : Option Int) : ∃ rv, slD (seqO b ds) l h = some rv ∧ ∀ es, leak rv es = some (.ok (seqO b (cutL ds l h)) es) := by
  cases b
  · exact ⟨_, rfl, fun _ => rfl⟩
  · exact ⟨_, rfl, fun _ => rfl⟩
/-- those that are no names -/
def noName (d : D) : Bool := match d with
  | .str x => !nameB x.cps.toList
  | _ => false
theorem lc_names {fi : M (List D)} {es0 : ES} {ws : List (List Nat)} (es : ES) (hw : ∀ w ∈ ws, okT w = true) (i : Nat) (hl : i < es.env.length) (hf : fi es0 = some (.ok (ws.map tx) es)) :
    lcM [i] fi (setG i) (notB (tru (valM (callF (consD (lk (nmM i)) (M.ret [])) F_is_name)))) (lk (nmM i)) es0 = some (.ok (.fr (.lst ((ws.map tx).filter noName))) { es with env := backE [i] es.env es.env }) := by
  have := lcM_run (vs := [i]) (gm := setG i) (tst := notB (tru (valM (callF (consD (lk (nmM i)) (M.ret [])) F_is_name)))) (elt := lk (nmM i)) (fi := fi) (es0 := es0) (es := es) (ds := ws.map tx) hf noName id (by
    intro d hd
    obtain ⟨w, mw, rfl⟩ := List.mem_map.mp hd
    simp [hl, Dl.Same, r_is_name w _ (hw w mw), noName])
  rw [this, List.map_id]
theorem plainT_none {h : List Nat} {ws : List (List Nat)} (hs : sz h = none) : plainT (h :: ws) = .non := by
  unfold sz at hs
  have e1 : h ≠ cDrop := by rintro rfl; simp [cDrop, cWords] at hs
  have e2 : h ≠ cStar := by rintro rfl; simp [cStar, cWords, cDrop, cBoth, cJoin] at hs
  have e3 : h ≠ cBoth := by rintro rfl; simp [cBoth, cWords, cDrop] at hs
  have e4 : h ≠ cJoin := by rintro rfl; simp [cJoin, cWords, cDrop, cBoth] at hs
  unfold plainT
  split <;> simp_all
theorem plainT_some {h : List Nat} {ws : List (List Nat)} {n : Int} (hs : sz h = some n) (hn : h ≠ cWords) : plainT (h :: ws) = if (ws.length + 1 : Int) = n ∧ ∀ w ∈ ws, nameB w = true then .tup ((h :: ws).map tx) else .non := by
  unfold sz at hs
  rw [if_neg hn] at hs
  have k1 : cStar ≠ cDrop := by decide
  have k2 : cStar ≠ cBoth := by decide
  have k3 : cStar ≠ cJoin := by decide
  have k4 : cBoth ≠ cDrop := by decide
  have k5 : cJoin ≠ cDrop := by decide
  have k6 : cJoin ≠ cBoth := by decide
  by_cases h1 : h = cDrop
  · rw [if_pos h1] at hs
    cases hs
    subst h1
    rcases ws with _ | ⟨a, _ | ⟨b, _ | ⟨c, _ | ⟨d, ws⟩⟩⟩⟩ <;> simp [plainT, k1.symm, k4.symm, k5.symm] <;> omega
  rw [if_neg h1] at hs
  by_cases h2 : h = cBoth
  · rw [if_pos h2] at hs
    cases hs
    subst h2
    rcases ws with _ | ⟨a, _ | ⟨b, _ | ⟨c, _ | ⟨d, ws⟩⟩⟩⟩ <;> simp [plainT, k4, k2.symm] <;> omega
  rw [if_neg h2] at hs
  by_cases h3 : h = cJoin
  · rw [if_pos h3] at hs
    cases hs
    subst h3
    rcases ws with _ | ⟨a, _ | ⟨b, _ | ⟨c, _ | ⟨d, ws⟩⟩⟩⟩ <;> simp [plainT, k5, k3.symm] <;> omega
  rw [if_neg h3] at hs
  by_cases h4 : h = cStar
  · rw [if_pos h4] at hs
    cases hs
    subst h4
    rcases ws with _ | ⟨a, _ | ⟨b, _ | ⟨c, _ | ⟨d, ws⟩⟩⟩⟩ <;> simp [plainT, k1, k2, k3] <;> omega
  rw [if_neg h4] at hs
  cases hs
theorem noName_empty (ws : List (List Nat)) : ((ws.map tx).filter noName).isEmpty = ws.all nameB := by
  rw [isEmpty_map_filter]
  simp [noName]
theorem r_plain_T (b : Bool) (h : List Nat) (ws : List (List Nat)) (g : List Box) (hw : ∀ w ∈ ws, okT w = true) (hn : h ≠ cWords) : F_plain_deed [seqO b ((h :: ws).map tx)] g = some (.ok (plainT (h :: ws)) g) := by
  have e1 := r_is_deed b h (ws.map tx) g
  cases hs : sz h with
  | none =>
    rw [hs] at e1
    rw [plainT_none hs]
    cases b <;> simp [seqO] at e1 <;> simp [F_plain_deed, S_plain_deed, bodyF, startE, subTy, seqO, e1]
  | some n =>
    rw [hs] at e1
    rw [plainT_some hs hn]
    by_cases hl : (ws.length + 1 : Int) = n
    · have ie := noName_empty ws
      by_cases hall : ∀ w ∈ ws, nameB w = true
      · rw [List.all_eq_true.mpr hall] at ie
        rw [if_pos ⟨hl, hall⟩]
        cases hb : b <;> simp [seqO, hl, hb] at e1 <;> simp [F_plain_deed, S_plain_deed, bodyF, startE, subTy, seqO, e1, hn, hl] <;> rw [lc_names ⟨[some (.fz (seqO b ((h :: ws).map tx))), some (.fz (seqO b (ws.map tx))), none, none], g⟩ hw 2 (by simp) (by simp [seqO, hb])] <;> simp [backE_self, ie, hn, seqO, hb]
      · have : ws.all nameB = false := by
          cases q : ws.all nameB with
          | false => rfl
          | true => exact (hall (List.all_eq_true.mp q)).elim
        rw [this] at ie
        rw [if_neg (fun h => hall h.2)]
        cases hb : b <;> simp [seqO, hl, hb] at e1 <;> simp [F_plain_deed, S_plain_deed, bodyF, startE, subTy, seqO, e1, hn, hl] <;> rw [lc_names ⟨[some (.fz (seqO b ((h :: ws).map tx))), some (.fz (seqO b (ws.map tx))), none, none], g⟩ hw 2 (by simp) (by simp [seqO, hb])] <;> simp [backE_self, ie, seqO, hb]
    · rw [if_neg (fun h => hl h.1)]
      cases hb : b <;> simp [seqO, hl, hb] at e1 <;> simp [F_plain_deed, S_plain_deed, bodyF, startE, subTy, seqO, e1, hn, hl]
/-- a deed of words, its words in a row -/
def plainV (n : List Nat) (ws : List (List Nat)) : D := if nameB n = true then (match plainW ws with | .non => .non | d => .tup [tx cWords, tx n, d]) else .non
theorem r_plain_V (b c : Bool) (n : List Nat) (ws : List (List Nat)) (g : List Box) (ho : okT n = true) (hw : ∀ w ∈ ws, okT w = true) : F_plain_deed [seqO b [tx cWords, tx n, seqO c (ws.map tx)]] g = some (.ok (plainV n ws) g) := by
  have e1 := r_is_deed b cWords [tx n, seqO c (ws.map tx)] g
  have e2 := r_plain_words c ws g hw
  have ie := noName_empty [n]
  cases hn : nameB n with
  | false =>
    simp [hn] at ie
    cases hb : b <;> simp [seqO, sz, hb] at e1 <;> simp [F_plain_deed, S_plain_deed, bodyF, startE, subTy, seqO, e1] <;> rw [lc_names (ws := [n]) ⟨[some (.fz (seqO b [tx cWords, tx n, seqO c (ws.map tx)])), some (.fz (seqO b [tx n])), none, none], g⟩ (by simpa using ho) 2 (by simp) (by simp [seqO, hb])] <;> simp [backE_self, ie, plainV, hn, seqO, hb]
  | true =>
    simp [hn] at ie
    have e3 : plainW ws = .non ∨ ∃ l, plainW ws = .tup l := by
      unfold plainW
      split
      · exact .inr ⟨_, rfl⟩
      · exact .inl rfl
    rcases e3 with e3 | ⟨l, e3⟩
    · cases hb : b <;> simp [seqO, sz, hb] at e1 <;> simp [F_plain_deed, S_plain_deed, bodyF, startE, subTy, seqO, e1] <;> rw [lc_names (ws := [n]) ⟨[some (.fz (seqO b [tx cWords, tx n, seqO c (ws.map tx)])), some (.fz (seqO b [tx n])), none, none], g⟩ (by simpa using ho) 2 (by simp) (by simp [seqO, hb])] <;> simp [seqO] at e2 <;> simp [backE_self, ie, plainV, hn, e2, e3, seqO, hb]
    · cases hb : b <;> simp [seqO, sz, hb] at e1 <;> simp [F_plain_deed, S_plain_deed, bodyF, startE, subTy, seqO, e1] <;> rw [lc_names (ws := [n]) ⟨[some (.fz (seqO b [tx cWords, tx n, seqO c (ws.map tx)])), some (.fz (seqO b [tx n])), none, none], g⟩ (by simpa using ho) 2 (by simp) (by simp [seqO, hb])] <;> simp [seqO] at e2 <;> simp [backE_self, ie, plainV, hn, e2, e3, seqO, hb]
/-! ### lines of deeds -/
def dash (w : List Nat) : List Nat := if w = [] then [45] else w
def undash (w : List Nat) : List Nat := if w = [45] then [] else w
def small6 (ws : List (List Nat)) : Prop := ws.length ≤ 8 ∧ ∀ w ∈ ws, w.length ≤ 9000
theorem sum_le {ws : List (List Nat)} {m : Nat} (h : ∀ w ∈ ws, w.length ≤ m) : (ws.map (·.length)).sum ≤ ws.length * m := by
  induction ws with
  | nil => simp
  | cons w ws ih =>
    have h1 := h w (by simp)
    have h2 := ih fun x hx => h x (by simp [hx])
    simp only [List.map_cons, List.sum_cons, List.length_cons, Nat.add_mul]
    omega
theorem cut_2 {α : Type} (x y : α) (xs : List α) : cutL (x :: y :: xs) none (some 2) = [x, y] := by
  have e2 : HT.sIx (x :: y :: xs).length (x :: y :: xs).length (some 2) = 2 := by simp [HT.sIx]
  unfold cutL
  rw [e2, HT.sIx_none]
  simp
def dashD (d : D) : D := match d with
  | .str x => tx (dash x.cps.toList)
  | d => d
theorem map_dashD (ws : List (List Nat)) : (ws.map tx).map dashD = (ws.map dash).map tx := by
  rw [List.map_map, List.map_map]
  rfl
theorem dash_len {ws : List (List Nat)} (hl : ∀ w ∈ ws, w.length ≤ 9000) : ∀ w ∈ ws.map dash, w.length ≤ 9000 := by
  intro w hw
  obtain ⟨x, hx, rfl⟩ := List.mem_map.mp hw
  have := hl x hx
  unfold dash
  split <;> simp; omega
theorem r_line_words (n : List Nat) (ws : List (List Nat)) (g : List Box) (hn : n.length ≤ 9000) (hw : ws.length ≤ 100) (hl : ∀ w ∈ ws, w.length ≤ 9000) : F_deed_line [.tup [tx cWords, tx n, .tup (ws.map tx)]] g = some (.ok (tx (joinC 32 (cWords :: n :: ws.map dash))) g) := by
  simp [F_deed_line, S_deed_line, bodyF, startE]
  rw [lcM_run0 (ws.map tx) (fun _ => true) dashD (by simp) (by
    intro d hd
    obtain ⟨w, mw, rfl⟩ := List.mem_map.mp hd
    cases w <;> simp [Dl.Same, dashD, dash])]
  rw [List.filter_eq_self.mpr (fun _ _ => rfl), map_dashD]
  have hs := sum_le (dash_len hl)
  rw [List.length_map] at hs
  have hj := joinD_T (c := 32) (ys := cWords :: n :: ws.map dash) (by
    simp only [List.map_cons, List.sum_cons, List.length_cons, List.length_map, List.map_map] at hs ⊢
    have : cWords.length = 5 := rfl
    omega)
  simp at hj
  have hle : ws.length + 2 ≤ 16777216 := by omega
  have hle2 : 2 + ws.length ≤ 16777216 := by omega
  simp [backE_self, cut_2, hle2, hj]
theorem r_line_T (h a : List Nat) (ws : List (List Nat)) (g : List Box) (hh : h ≠ cWords) (hw : ws.length ≤ 100) (hl : ∀ w ∈ h :: a :: ws, w.length ≤ 9000) : F_deed_line [.tup ((h :: a :: ws).map tx)] g = some (.ok (tx (joinC 32 (h :: a :: ws))) g) := by
  have hs := sum_le hl
  have hj := joinD_T (c := 32) (ys := h :: a :: ws) (by simp only [List.length_cons] at hs ⊢; omega)
  simp at hj
  have hle2 : 2 + ws.length ≤ 16777216 := by omega
  simp [F_deed_line, S_deed_line, bodyF, startE, hh, cut_2, hle2, hj]
/-! ### the deed of a line -/
def readL (line : List Nat) : D := match splC 32 line with
  | [] => .non
  | h :: rest => if h = cWords then (match rest with
      | [] => .non
      | n :: ws => if nameB n = true ∧ [] ∉ ws ∧ ws.length ≤ 6 ∧ sortT (dd (ws.map undash)) = ws.map undash ∧ (∀ w ∈ ws.map undash, wordB w = true) then .tup [tx cWords, tx n, .tup ((ws.map undash).map tx)] else .non)
    else plainT (h :: rest)
def undashD (d : D) : D := match d with
  | .str x => tx (undash x.cps.toList)
  | d => d
theorem map_undashD (ws : List (List Nat)) : (ws.map tx).map undashD = (ws.map undash).map tx := by
  rw [List.map_map, List.map_map]
  rfl
theorem undash_ok {ws : List (List Nat)} (h : ∀ w ∈ ws, okT w = true) : ∀ w ∈ ws.map undash, okT w = true := by
  intro w hw
  obtain ⟨x, hx, rfl⟩ := List.mem_map.mp hw
  unfold undash
  split
  · rfl
  · exact h x hx
theorem nameB_nil : nameB [] = false := rfl
theorem dash_undash {ws : List (List Nat)} (h0 : [] ∉ ws) : (ws.map undash).map dash = ws := by
  rw [List.map_map]
  conv => rhs; rw [← List.map_id ws]
  refine List.map_congr_left fun w hw => ?_
  have hne : w ≠ [] := fun e => h0 (e ▸ hw)
  unfold Function.comp undash dash
  by_cases h : w = [45]
  · simp [h]
  · simp [h, hne]
theorem undash_dash {ws : List (List Nat)} (h : ∀ w ∈ ws, w ≠ [45]) : (ws.map dash).map undash = ws := by
  rw [List.map_map]
  conv => rhs; rw [← List.map_id ws]
  refine List.map_congr_left fun w hw => ?_
  have := h w hw
  unfold Function.comp undash dash
  by_cases e : w = []
  · simp [e]
  · simp [e, this]
theorem small_no {c : Nat} (h : c ∈ small) : c ≠ 45 ∧ c ≠ 32 ∧ c ≠ 10 := by
  simp only [small, List.mem_cons, List.not_mem_nil, or_false] at h
  omega
theorem wordB_no {w : List Nat} (h : wordB w = true) : w ≠ [45] ∧ 32 ∉ w ∧ 10 ∉ w := by
  unfold wordB at h
  simp only [Bool.and_eq_true] at h
  have a : ∀ c ∈ w, c ∈ small := fun c hc => of_decide_eq_true (List.all_eq_true.mp h.2 c hc)
  refine ⟨fun e => ?_, fun hm => (small_no (a _ hm)).2.1 rfl, fun hm => (small_no (a _ hm)).2.2 rfl⟩
  subst e
  exact (small_no (a 45 (by simp))).1 rfl
theorem name_no {n : List Nat} (h : nameB n = true) : n.length ≤ 8 ∧ 32 ∉ n ∧ 10 ∉ n ∧ okT n = true := by
  unfold nameB at h
  simp only [Bool.and_eq_true, decide_eq_true_eq] at h
  obtain ⟨_, h2, _, h4⟩ := h
  have a : ∀ c ∈ n, c ∈ small ++ figs := fun c hc => of_decide_eq_true (List.all_eq_true.mp h4 c hc)
  have r : ∀ c ∈ small ++ figs, c ≠ 32 ∧ c ≠ 10 ∧ c < 1114112 := by decide
  exact ⟨h2, fun hm => (r _ (a _ hm)).1 rfl, fun hm => (r _ (a _ hm)).2.1 rfl, okT_mem.mpr fun x hx => (r _ (a x hx)).2.2⟩
theorem dd_mem {ws : List (List Nat)} {P : List Nat → Prop} (h : ∀ w ∈ ws, P w) : ∀ w ∈ sortT (dd ws), P w := fun w hw => h w (((dd_is ws).2.1 w).mp ((sortT_perm _).mem_iff.mp hw))
theorem line_eq_iff {n : List Nat} {s ws : List (List Nat)} (hn : 32 ∉ n) (hs : ∀ w ∈ s, wordB w = true) (h0 : [] ∉ ws) (hw : ∀ w ∈ ws, 32 ∉ w) : joinC 32 (cWords :: n :: s.map dash) = joinC 32 (cWords :: n :: ws) ↔ s = ws.map undash := by
  constructor
  · intro h
    have f1 : ∀ p ∈ cWords :: n :: s.map dash, 32 ∉ p := by
      intro p hp
      rcases List.mem_cons.mp hp with rfl | hp
      · decide
      rcases List.mem_cons.mp hp with rfl | hp
      · exact hn
      obtain ⟨w, hw, rfl⟩ := List.mem_map.mp hp
      unfold dash
      split
      · decide
      · exact (wordB_no (hs w hw)).2.1
    have f2 : ∀ p ∈ cWords :: n :: ws, 32 ∉ p := by
      intro p hp
      rcases List.mem_cons.mp hp with rfl | hp
      · decide
      rcases List.mem_cons.mp hp with rfl | hp
      · exact hn
      exact hw p hp
    have e := congrArg (splC 32) h
    rw [splC_join (by simp) f1, splC_join (by simp) f2] at e
    simp only [List.cons.injEq, true_and] at e
    rw [← e, undash_dash fun w hw => (wordB_no (hs w hw)).1]
  · rintro rfl
    rw [dash_undash h0]
theorem r_deed_of (line : List Nat) (g : List Box) (hl : line.length ≤ 9000) (ho : okT line = true) : F_deed_of [tx line] g = some (.ok (readL line) g) := by
  have hs := splitD_T (c := 32) (by decide) (a := line) (by omega)
  have hok := splC_ok (c := 32) ho
  have hlen := splC_len 32 line
  have hj := join_splC 32 line
  have hfree := splC_free 32 line
  cases e : splC 32 line with
  | nil => exact (splC_ne 32 line e).elim
  | cons h rest =>
    rw [e] at hs hok hlen hj hfree
    unfold readL
    rw [e]
    by_cases hh : h = cWords
    · subst hh
      cases rest with
      | nil => simp [F_deed_of, S_deed_of, bodyF, startE, hs]
      | cons n ws =>
        simp only [if_true]
        by_cases h0 : [] ∈ ws
        · have hi : ¬ ((ws.length : Int) + 1 + 1 < 2) := by omega
          simp [F_deed_of, S_deed_of, bodyF, startE, hs, h0, hi]
        · have hi : ¬ ((ws.length : Int) + 1 + 1 < 2) := by omega
          have q := r_plain_V true true n (ws.map undash) g (hok n (by simp)) (undash_ok fun w hw => hok w (by simp [hw]))
          simp only [seqO, if_true] at q
          have hws : ∀ w ∈ ws, 32 ∉ w := fun w hw => hfree w (by simp [hw])
          have hll : ∀ w ∈ ws, w.length ≤ 9000 := fun w hw => by have := hlen.2 w (by simp [hw]); omega
          have hnl : n.length ≤ 9000 := by have := hlen.2 n (by simp); omega
          simp [F_deed_of, S_deed_of, bodyF, startE, hs, h0, hi]
          rw [lcM_run0 (ws.map tx) (fun _ => true) undashD (by simp) (by
            intro d hd
            obtain ⟨w, mw, rfl⟩ := List.mem_map.mp hd
            by_cases hw : w = [45] <;> simp [Dl.Same, undashD, undash, hw])]
          rw [List.filter_eq_self.mpr (fun _ _ => rfl), map_undashD]
          simp [backE_self]
          simp at q
          simp [q]
          by_cases hn : nameB n = true
          · by_cases hp : (ws.map undash).length ≤ 6 ∧ (∀ w ∈ ws.map undash, wordB w = true) ∧ (dd (ws.map undash)).length = (ws.map undash).length
            · have hpw : plainW (ws.map undash) = .tup ((sortT (dd (ws.map undash))).map tx) := by unfold plainW; rw [if_pos hp]
              have hwb : ∀ w ∈ sortT (dd (ws.map undash)), wordB w = true := dd_mem hp.2.1
              have hlin := r_line_words n (sortT (dd (ws.map undash))) g hnl (by rw [sortT_len, hp.2.2]; omega) (fun w hw => by
                have := hwb w hw
                unfold wordB at this
                simp at this
                omega)
              have hiff := line_eq_iff (n := n) (s := sortT (dd (ws.map undash))) (ws := ws) (name_no hn).2.1 hwb h0 hws
              rw [hj] at hiff
              by_cases he : sortT (dd (ws.map undash)) = ws.map undash
              · have hl2 := hiff.mpr he
                have c6 : ws.length ≤ 6 := by simpa using hp.1
                have cw : ∀ a ∈ ws, wordB (undash a) = true := fun a ha => hp.2.1 _ (List.mem_map.mpr ⟨a, ha, rfl⟩)
                rw [he] at hlin hl2 hpw
                simp at hlin hl2 hpw
                simp [plainV, hn, hpw, hlin, hl2, c6, he]
                exact cw
              · have hl2 : ¬ joinC 32 (cWords :: n :: (sortT (dd (ws.map undash))).map dash) = line := fun h => he (hiff.mp h)
                simp [plainV, hn, hpw, hlin, hl2, he]
            · have hpw : plainW (ws.map undash) = .non := by unfold plainW; rw [if_neg hp]
              have hno : ¬ (ws.length ≤ 6 ∧ sortT (dd (ws.map undash)) = ws.map undash ∧ ∀ a ∈ ws, wordB (undash a) = true) := fun ⟨h1, h2, h3⟩ => hp ⟨by simpa using h1, by simpa using h3, by
                have := congrArg List.length h2
                rw [sortT_len] at this
                exact this⟩
              simp [plainV, hn, hpw]
              simpa using hno
          · simp [plainV, hn]
    · have q := r_plain_T true h rest g (fun w hw => hok w (by simp [hw])) hh
      simp [seqO] at q
      simp [F_deed_of, S_deed_of, bodyF, startE, hs, hh, q]
/-! ### the law's reading -/
def sizesD : D := .dct false [tx cDrop, tx cStar, tx cBoth, tx cJoin] [.int 2, .int 3, .int 4, .int 4]
theorem disp_eq (es : ES) : dispM [(Dl.lk (cM (.str (T cDrop))), Dl.lk (cM (.int 2))), (Dl.lk (cM (.str (T cStar))), Dl.lk (cM (.int 3))), (Dl.lk (cM (.str (T cBoth))), Dl.lk (cM (.int 4))), (Dl.lk (cM (.str (T cJoin))), Dl.lk (cM (.int 4)))] es = some (.ok (.fr sizesD) es) := by
  have e : mergeD [] [] [(.inr (T cDrop), .int 2), (.inr (T cStar), .int 3), (.inr (T cBoth), .int 4), (.inr (T cJoin), .int 4)] = ([tx cDrop, tx cStar, tx cBoth, tx cJoin], [.int 2, .int 3, .int 4, .int 4]) := by rfl
  simp [e, sizesD]
/-- what is told of a word's many by the law's own table -/
def sz2 (h : List Nat) : Option Int := if h = cDrop then some 2 else if h = cStar then some 3 else if h = cBoth then some 4 else if h = cJoin then some 4 else none
theorem sz2_eq (h : List Nat) : lkD (isKeyD (.inr (T h))) [tx cDrop, tx cStar, tx cBoth, tx cJoin] [.int 2, .int 3, .int 4, .int 4] = (sz2 h).map D.int := by
  unfold sz2
  simp only [lkD_cons, isKey_tx, lkD_nil]
  by_cases h1 : h = cDrop
  · subst h1; rfl
  by_cases h2 : h = cStar
  · subst h2; rfl
  by_cases h3 : h = cBoth
  · subst h3; rfl
  by_cases h4 : h = cJoin
  · subst h4; rfl
  simp [h1, h2, h3, h4, Ne.symm h1, Ne.symm h2, Ne.symm h3, Ne.symm h4]
theorem sz2_sz {h : List Nat} (hn : h ≠ cWords) : sz2 h = sz h := by
  unfold sz2 sz
  rw [if_neg hn]
  have k1 : cStar ≠ cDrop := by decide
  have k2 : cStar ≠ cBoth := by decide
  have k3 : cStar ≠ cJoin := by decide
  by_cases h1 : h = cDrop
  · simp [h1]
  by_cases h2 : h = cStar
  · simp [h2, k1, k2, k3]
  simp [h1, h2]
def noWord (d : D) : Bool := match d with
  | .str x => !wordB x.cps.toList
  | _ => false
theorem r_mread (line : List Nat) (g : List Box) (hl : line.length ≤ 9000) (ho : okT line = true) : F__law_mread [tx line] g = some (.ok (readL line) g) := by
  have hs := splitD_T (c := 32) (by decide) (a := line) (by omega)
  have hok := splC_ok (c := 32) ho
  cases e : splC 32 line with
  | nil => exact (splC_ne 32 line e).elim
  | cons h rest =>
    rw [e] at hs hok
    unfold readL
    rw [e]
    by_cases hh : h = cWords
    · subst hh
      have z : sz2 cWords = none := by decide
      cases rest with
      | nil => simp [F__law_mread, S__law_mread, bodyF, startE, hs, -disp_run, disp_eq, sizesD, sz2_eq, z]
      | cons n ws =>
        have hi : ¬ ((ws.length : Int) + 1 + 1 < 2) := by omega
        have hin := inD_lst_tx [] (cWords :: n :: ws)
        have q := r_mname n g (hok n (by simp))
        have okw : ∀ w ∈ ws, okT w = true := fun w hw => hok w (by simp [hw])
        simp only [if_true]
        by_cases hn : nameB n = true
        · have nn : n ≠ [] := by rintro rfl; simp [nameB_nil] at hn
          have nw : cWords ≠ [] := by decide
          simp [nn.symm, nw.symm] at hin
          by_cases h0 : [] ∈ ws
          · simp [F__law_mread, S__law_mread, bodyF, startE, hs, -disp_run, disp_eq, sizesD, sz2_eq, z, hi, q, hn, hin, h0]
          · by_cases h6 : ws.length ≤ 6
            · have h8 : ¬ (8 < (ws.length : Int) + 1 + 1) := by omega
              have okf := undash_ok okw
              have hmap := map_undashD ws
              generalize ws.map undash = f at okf hmap ⊢
              obtain ⟨X, hX⟩ := dict_tx (.int 0) f
              have hse := eq_txs (a := sortT (dd f)) (b := f) (dd_mem okf) okf
              have hst := strange_nil (n := 0) tx noWord f (fun x hx => okD_T (okf x hx)) (by decide)
              simp [F__law_mread, S__law_mread, bodyF, startE, hs, -disp_run, disp_eq, sizesD, sz2_eq, z, hi, q, hn, hin, h0, h6, h8]
              rw [lcM_run0 (ws.map tx) (fun _ => true) undashD (by simp) (by
                intro d hd
                obtain ⟨w, mw, rfl⟩ := List.mem_map.mp hd
                by_cases hw : w = [45] <;> simp [Dl.Same, undashD, undash, hw])]
              rw [List.filter_eq_self.mpr (fun _ _ => rfl), hmap]
              simp [backE_self]
              rw [lcM_run (ds := f.map tx) (es := ⟨[some (.fz (tx line)), some (.ow (.lst (tx cWords :: tx n :: ws.map tx))), some (.ow (.dct false [tx cDrop, tx cStar, tx cBoth, tx cJoin] [.int 2, .int 3, .int 4, .int 4])), none, some (.fz (.lst (f.map tx))), none, none, none], g⟩) (by simp) (fun _ => true) (fun d => .tup [d, .int 0]) (by
                intro d hd
                obtain ⟨w, mw, rfl⟩ := List.mem_map.mp hd
                simp [Dl.Same])]
              rw [List.filter_eq_self.mpr (fun _ _ => rfl), List.map_map]
              simp [backE_self, Function.comp_def]
              simp [hX, hse]
              rw [lcM_run0 (f.map tx) noWord id (by simp) (by
                intro d hd
                obtain ⟨w, mw, rfl⟩ := List.mem_map.mp hd
                by_cases h4 : w.length ≤ 4
                · have h4' : ¬ (4 < (w.length : Int)) := by omega
                  simp [Dl.Same, h4']
                  rw [lcM_run0 (w.map sg) (notin small) id (by simp) (by
                    intro d hd
                    obtain ⟨x, hx, rfl⟩ := List.mem_map.mp hd
                    simp [Dl.Same]), List.map_id]
                  have eb : wordB w = w.all fun c => decide (c ∈ small) := by simp [wordB, h4]
                  have hq := strange small w (okf w mw)
                  simp [backE_self, hq, eb, noWord]
                · have h4' : (4 < (w.length : Int)) := by omega
                  simp [Dl.Same, h4', wordB, h4, noWord])]
              have hst2 : (f.all fun x => !noWord (tx x)) = f.all wordB := by simp [noWord]
              rw [hst2] at hst
              by_cases he : sortT (dd f) = f
              · cases ha : f.all wordB with
                | true =>
                  have ha' := List.all_eq_true.mp ha
                  rw [ha] at hst
                  simp [backE_self, he, hst]
                  exact ha'
                | false =>
                  have hno : ¬ ∀ w ∈ f, wordB w = true := fun h => by rw [List.all_eq_true.mpr h] at ha; cases ha
                  rw [ha] at hst
                  simp [backE_self, he, hst]
                  simpa using hno
              · simp [backE_self, he]
            · have h8 : (8 < (ws.length : Int) + 1 + 1) := by omega
              simp [F__law_mread, S__law_mread, bodyF, startE, hs, -disp_run, disp_eq, sizesD, sz2_eq, z, hi, q, hn, hin, h0, h6, h8]
        · simp only [Bool.not_eq_true] at hn
          simp [F__law_mread, S__law_mread, bodyF, startE, hs, -disp_run, disp_eq, sizesD, sz2_eq, z, hi, q, hn]
    · cases hz : sz h with
      | none => simp [F__law_mread, S__law_mread, bodyF, startE, hs, -disp_run, disp_eq, sizesD, sz2_eq, sz2_sz hh, hz, hh, plainT_none hz]
      | some k =>
        have okr : ∀ w ∈ rest, okT w = true := fun w hw => hok w (by simp [hw])
        by_cases hl : (rest.length + 1 : Int) = k
        · have hst := strange_nil (n := 0) tx noName rest (fun x hx => okD_T (okr x hx)) (by decide)
          have hst2 : (rest.all fun x => !noName (tx x)) = rest.all nameB := by simp [noName]
          rw [hst2] at hst
          simp [F__law_mread, S__law_mread, bodyF, startE, hs, -disp_run, disp_eq, sizesD, sz2_eq, sz2_sz hh, hz, hh, plainT_some hz hh, hl]
          rw [lcM_run0 (rest.map tx) noName id (by simp) (by
            intro d hd
            obtain ⟨w, mw, rfl⟩ := List.mem_map.mp hd
            simp [Dl.Same, r_mname w _ (okr w mw), noName]), List.map_id]
          cases ha : rest.all nameB with
          | true =>
            rw [ha] at hst
            simp [backE_self, hst]
            exact List.all_eq_true.mp ha
          | false =>
            have hno : ¬ ∀ w ∈ rest, nameB w = true := fun h => by rw [List.all_eq_true.mpr h] at ha; cases ha
            rw [ha] at hst
            simp [backE_self, hst]
            simpa using hno
        · simp [F__law_mread, S__law_mread, bodyF, startE, hs, -disp_run, disp_eq, sizesD, sz2_eq, sz2_sz hh, hz, hh, plainT_some hz hh, hl]
end K76
end
section
set_option Elab.async false
set_option linter.all false
set_option maxRecDepth 100000
set_option maxHeartbeats 4000000
/-! M76b: the draws. -/
namespace K76
open PySem PySem.Spec PyProof.Rows L2 Dl
@[simp] theorem bxM_run (fa : M RV) (es : ES) : bxM fa es = rb (fa es) fun r => M.bind (peek r) fun d => M.lift (boxOf d) := rfl
@[simp] theorem bxIx_run (i : Int) (fa : M RV) (es : ES) : bxIx i fa es = rb (bxM fa es) fun n es => (stmOf n es).bind fun q => (fldI i q).map fun j => .ok (.fz (.int j)) es := rfl
@[simp] theorem bxSet_run (i : Int) (fa fe : M RV) (es : ES) : bxSet i fa fe es = rs ((M.bind fe fun r => M.bind (peek r) fun d => M.bind (M.lift (intOf d)) fun j => M.bind (bxM fa) fun n => M.ret (j, n)) es) fun p es => (stmOf p.2 es).bind fun q => (setI i p.1 q).map fun b => .nx (putB p.2 b es) := rfl
@[simp] theorem bxPop_run (fa : M RV) (es : ES) : bxPop fa es = rb (bxM fa es) fun n es => (stmOf n es).bind fun q => match q.1 with
  | c :: cs => some (.ok (.fz (.int c)) (putB n (.stm cs q.2.1 q.2.2.1 q.2.2.2) es))
  | [] => none := rfl
@[simp] theorem bxNE_run (fa : M RV) (es : ES) : bxNE fa es = rb (bxM fa es) fun n es => (stmOf n es).map fun q => .ok (!q.1.isEmpty) es := rfl
@[simp] theorem boxOf_box (n : Nat) : boxOf (.box n) = some n := rfl
@[simp] theorem intOf_int (n : Int) : intOf (.int n) = some n := rfl
@[simp] theorem stmOf_1 (env : List (Option LV)) (c : List Int) (l k m : Int) : stmOf 0 ⟨env, [.stm c l k m]⟩ = some (c, l, k, m) := rfl
@[simp] theorem putB_1 (env : List (Option LV)) (b c : Box) : putB 0 b ⟨env, [c]⟩ = ⟨env, [b]⟩ := rfl
@[simp] theorem mul_int (i j : Int) : binD .Mult (.int i) (.int j) = if (-(2 ^ 64) < i ∧ i < 2 ^ 64) ∨ (-(2 ^ 64) < j ∧ j < 2 ^ 64) then some (.fz (.int (i * j))) else none := by
  show mulD _ _ = _
  simp [mulD, gI]
@[simp] theorem mod_int (i j : Int) : binD .Mod (.int i) (.int j) = if j ≠ 0 then some (.fz (.int (i.fmod j))) else none := by
  show modD _ _ = _
  simp [modD, gI]
@[simp] theorem fdiv_int (i j : Int) : binD .FloorDiv (.int i) (.int j) = if j ≠ 0 ∧ j.natAbs < 1073741824 then some (.fz (.int (i.fdiv j))) else none := by
  show fdivD _ _ = _
  simp [fdivD, gI]
@[simp] theorem pow_int (i j : Int) : binD .Pow (.int i) (.int j) = if 0 ≤ j ∧ j ≤ 1000000 ∧ i.natAbs < 2 ^ 64 then some (.fz (.int (i ^ j.toNat))) else none := by
  show powD _ _ = _
  simp [powD, gI]
theorem fmod_in (a : Int) {b : Int} (h : 0 < b) : 0 ≤ a.fmod b ∧ a.fmod b < b := by
  rw [Int.fmod_eq_emod_of_nonneg a (by omega)]
  exact ⟨Int.emod_nonneg _ (by omega), Int.emod_lt_of_pos _ h⟩
/-- the draws, so far -/
def GI (k : Nat) (g : List Box) : Prop := ∃ cs left cnt mix, g = [.stm cs left cnt mix] ∧ cs.length ≤ 63 ∧ 0 ≤ left ∧ 0 ≤ cnt ∧ cnt ≤ (k : Int) ∧ 0 ≤ mix ∧ mix < 2147483647
theorem GI.mono {k l : Nat} {g : List Box} (h : GI k g) (hl : k ≤ l) : GI l g := by
  obtain ⟨cs, a, b, c, e, h1, h2, h3, h4, h5⟩ := h
  exact ⟨cs, a, b, c, e, h1, h2, h3, by omega, h5⟩
theorem GI.stm {k : Nat} {g : List Box} (h : GI k g) : g.all isStm = true := by
  obtain ⟨cs, a, b, c, rfl, h1, h2, h3, h4, h5⟩ := h
  rfl
def wG : M Bool := andB (asB (relO .Eq (bxIx 1 (nmM 0)) (cM (.int 0)))) (Dl.bxNE (nmM 0))
def wB : S := S.seq (S.of (bxPop (nmM 0)) (setIf 2)) (S.seq (Dl.bxSet 3 (nmM 0) (binO .Mod (callN (consR (binO .Add (binO .Add (binO .Mult (bxIx 3 (nmM 0)) (cM (.int 69031))) (nmM 2)) (cM (.int 13))) (M.ret [])) intD) (cM (.int 2147483647)))) (S.seq (Dl.bxSet 1 (nmM 0) (iteV (asB (relO .GtE (nmM 2) (binO .Pow (cM (.int 10)) (cM (.int 18))))) (nmM 2) (cM (.int 0)))) (S.skip)))
theorem while_below (m : Int) (cnt : Int) : ∀ (cs : List Int) (fuel : Nat) (left mix : Int) (l2 : Option LV), cs.length < fuel → 0 ≤ left → 0 ≤ mix → mix < 2147483647 →
    ∃ cs' left' mix' l2', whileS wG wB fuel ⟨[some (.fz (.box 0)), some (.fz (.int m)), l2, none, none], [.stm cs left cnt mix]⟩ = some (.nx ⟨[some (.fz (.box 0)), some (.fz (.int m)), l2', none, none], [.stm cs' left' cnt mix']⟩) ∧ cs'.length ≤ cs.length ∧ 0 ≤ left' ∧ 0 ≤ mix' ∧ mix' < 2147483647
  | cs, 0, left, mix, l2, h, _, _, _ => by omega
  | [], n + 1, left, mix, l2, h, hl, hm, hm2 => by
    refine ⟨[], left, mix, l2, ?_, Nat.le_refl _, hl, hm, hm2⟩
    unfold whileS
    simp [wG, fldI]
  | c :: cs, n + 1, left, mix, l2, h, hl, hm, hm2 => by
    by_cases h0 : left = 0
    · subst h0
      have f1 := fmod_in (mix * 69031 + c + 13) (b := 2147483647) (by decide)
      by_cases hc : (1000000000000000000 : Int) ≤ c
      · obtain ⟨cs', left', mix', l2', e, q⟩ := while_below m cnt cs n c ((mix * 69031 + c + 13).fmod 2147483647) (some (.fz (.int c))) (by simp at h; omega) (by omega) f1.1 f1.2
        refine ⟨cs', left', mix', l2', ?_, by simp; omega, q.2⟩
        unfold whileS
        simp [wG, wB, fldI, setI, hc]
        simpa [wG, wB] using e
      · obtain ⟨cs', left', mix', l2', e, q⟩ := while_below m cnt cs n 0 ((mix * 69031 + c + 13).fmod 2147483647) (some (.fz (.int c))) (by simp at h; omega) (by omega) f1.1 f1.2
        refine ⟨cs', left', mix', l2', ?_, by simp; omega, q.2⟩
        unfold whileS
        simp [wG, wB, fldI, setI, hc]
        simpa [wG, wB] using e
    · refine ⟨c :: cs, left, mix, l2, ?_, Nat.le_refl _, hl, hm, hm2⟩
      unfold whileS
      simp [wG, fldI, h0]
theorem r_below {k m : Nat} {g : List Box} (h : GI k g) (hk : k ≤ 1000000) (hm : 0 < m) (hm2 : m < 1000000) : ∃ (n : Nat) (g' : List Box), F__law_below [.box 0, .int m] g = some (.ok (.int n) g') ∧ n < m ∧ GI (k + 1) g' := by
  obtain ⟨cs, left, cnt, mix, rfl, h1, h2, h3, h4, h5, h6⟩ := h
  obtain ⟨cs', left', mix', l2', e, q1, q2, q3, q4⟩ := while_below m (cnt + 1) cs 100000 left mix none (by omega) h2 h5 h6
  unfold wG wB at e
  by_cases hp : 0 < left'
  · have f1 := fmod_in left' (b := (m : Int)) (by omega)
    refine ⟨(left'.fmod m).toNat, [.stm cs' (left'.fdiv m) (cnt + 1) mix'], ?_, by omega, cs', _, _, _, rfl, by omega, Int.fdiv_nonneg (by omega) (by omega), by omega, by omega, q3, q4⟩
    simp [F__law_below, S__law_below, bodyF, startE, setI, fldI, -whileS, e, hp, show (m : Int) ≠ 0 by omega, show m < 1073741824 by omega, show ((left'.fmod m).toNat : Int) = left'.fmod m by omega, Int.toNat_of_nonneg f1.1, show (m ≠ 0) by omega, f1.1]
  · have f1 := fmod_in ((mix' + 9049 * (cnt + 1) + 130073) ^ 5) (b := 2147483629) (by omega)
    have f2 := fmod_in (((((mix' + 9049 * (cnt + 1) + 130073) ^ 5).fmod 2147483629) * 44089 + 60077 * (cnt + 1) + 47) ^ 3) (b := 1000000007) (by omega)
    have f3 := fmod_in ((((((mix' + 9049 * (cnt + 1) + 130073) ^ 5).fmod 2147483629) * 44089 + 60077 * (cnt + 1) + 47) ^ 3).fmod 1000000007) (b := (m : Int)) (by omega)
    refine ⟨(((((((mix' + 9049 * (cnt + 1) + 130073) ^ 5).fmod 2147483629) * 44089 + 60077 * (cnt + 1) + 47) ^ 3).fmod 1000000007).fmod m).toNat, [.stm cs' left' (cnt + 1) mix'], ?_, by omega, cs', _, _, _, rfl, by omega, q2, by omega, by omega, q3, q4⟩
    rw [Int.toNat_of_nonneg f3.1]
    generalize hx : ((mix' + 9049 * (cnt + 1) + 130073) ^ 5).fmod 2147483629 = x at *
    have n1 : (mix' + 9049 * (cnt + 1) + 130073).natAbs < 18446744073709551616 := by omega
    have n2 : (x * 44089 + 60077 * (cnt + 1) + 47).natAbs < 18446744073709551616 := by omega
    simp [F__law_below, S__law_below, bodyF, startE, setI, fldI, -whileS, e, hp, show (m : Int) ≠ 0 by omega, n1, hx, n2, show (m ≠ 0) by omega]
end K76
end
section
set_option Elab.async false
set_option linter.all false
set_option maxRecDepth 100000
set_option maxHeartbeats 4000000
/-! M76c: drawn deeds. -/
namespace K76
open PySem PySem.Spec PyProof.Rows L2 Dl
/-- a comprehension of draws -/
theorem lcM_draw {vs : List Nat} {fi : M (List D)} {gm : D → ES → Option ES} {elt : M D} {es0 es : ES} {k : Nat} (ds : List D) (c : Nat) (Q : D → D → Prop) (hf : fi es0 = some (.ok ds es)) (h0 : GI k es.g)
    (h : ∀ (j : Nat) (d : D) (g : List Box), ds[j]? = some d → GI (k + j * c) g → ∃ e1 y e2, gm d ⟨wipeE es.env vs, g⟩ = some e1 ∧ elt e1 = some (.ok y e2) ∧ Q d y ∧ GI (k + j * c + c) e2.g ∧ wipeE e2.env vs = wipeE es.env vs) :
    ∃ ys g', lcM vs fi gm (M.ret true) elt es0 = some (.ok (.fr (.lst ys)) ⟨backE vs es.env es.env, g'⟩) ∧ ys.length = ds.length ∧ (∀ (i : Nat) (d y : D), ds[i]? = some d → ys[i]? = some y → Q d y) ∧ GI (k + ds.length * c) g' := by
  obtain ⟨a, b, q1, q2, q3, q4, q5⟩ := lc_ind (vs := vs) (gm := gm) (tst := M.ret true) (elt := elt) (ds := ds) (es := es) (fun j acc e => acc.length = j ∧ (∀ (i : Nat) (d y : D), ds[i]? = some d → acc[i]? = some y → Q d y) ∧ GI (k + j * c) e.g ∧ wipeE e.env vs = wipeE es.env vs) ⟨rfl, by simp, by simpa using h0, rfl⟩ (by
    rintro j d acc es1 hj ⟨rfl, ha, hg, hw⟩
    obtain ⟨e1, y, e2, g1, t1, hq, hg2, hw2⟩ := h acc.length d es1.g hj hg
    refine ⟨e1, e1, by rw [hw]; exact g1, .inl ⟨rfl, y, e2, t1, by simp, fun i d' y' h1 h2 => ?_, by rw [Nat.add_mul, Nat.one_mul, ← Nat.add_assoc]; exact hg2, hw2⟩⟩
    rcases Nat.lt_or_ge i acc.length with hi | hi
    · rw [List.getElem?_append_left hi] at h2
      exact ha i d' y' h1 h2
    · rw [List.getElem?_append_right hi] at h2
      have hi2 : i = acc.length := by
        rcases Nat.eq_or_lt_of_le hi with e | e
        · exact e.symm
        · rw [List.getElem?_eq_none (by simp; omega)] at h2; cases h2
      subst hi2
      simp at h2
      subst h2
      rw [h1] at hj
      cases hj
      exact hq)
  refine ⟨a, b.g, ?_, q2, q3, q4⟩
  unfold lcM
  rw [bind_run, hf, rb_ok, q1]
  show some (Res.ok (RV.fr (D.lst a)) { b with env := backE vs es.env b.env }) = _
  rw [wipeE_back q5]
theorem r_pick {k : Nat} {g : List Box} (h : GI k g) (hk : k ≤ 1000000) (ds : List D) (hd : 0 < ds.length) (hd2 : ds.length < 1000000) : ∃ d g', d ∈ ds ∧ F__law_pick [.box 0, .lst ds] g = some (.ok d g') ∧ GI (k + 1) g' := by
  obtain ⟨n, g', e, hn, hg⟩ := r_below h hk hd hd2
  refine ⟨ds[n], g', List.getElem_mem hn, ?_, hg⟩
  simp [F__law_pick, S__law_pick, bodyF, startE, e, atI_at, hn]
@[simp] theorem rng1_nat (n : Nat) (h : n ≤ 16777216) : rng1 [.int (n : Int)] = some (rngD 0 n) := by
  simp [rng1, h]; omega
theorem rngD_len (i : Int) (n : Nat) : (rngD i n).length = n := by simp [rngD]
/-- what a deed by form is -/
def Deed.ok : Deed → Prop
  | .words n ws => nameB n = true ∧ ws.length ≤ 6 ∧ (∀ w ∈ ws, wordB w = true) ∧ sortT (dd ws) = ws
  | .drop n => nameB n = true
  | .star n m => nameB n = true ∧ nameB m = true
  | .both n m k => nameB n = true ∧ nameB m = true ∧ nameB k = true
  | .join n m k => nameB n = true ∧ nameB m = true ∧ nameB k = true
def Deed.line : Deed → List Nat
  | .words n ws => joinC 32 (cWords :: n :: ws.map dash)
  | .drop n => joinC 32 [cDrop, n]
  | .star n m => joinC 32 [cStar, n, m]
  | .both n m k => joinC 32 [cBoth, n, m, k]
  | .join n m k => joinC 32 [cJoin, n, m, k]
def abz : List Nat := [97, 98, 122]
@[simp] theorem s_abz : Str.ofString "abz" = T abz := by decide +kernel
@[simp] theorem s_a : Str.ofString "a" = T [97] := by decide +kernel
@[simp] theorem s_b1 : Str.ofString "b1" = T [98, 49] := by decide +kernel
@[simp] theorem s_c : Str.ofString "c" = T [99] := by decide +kernel
@[simp] theorem s_z8 : Str.ofString "zzzzzzzz" = T [122, 122, 122, 122, 122, 122, 122, 122] := by decide +kernel
theorem strs_all {P : List Nat → Prop} : ∀ {ys : List D}, (∀ y ∈ ys, ∃ w, y = tx w ∧ P w) → ∃ ws : List (List Nat), ys = ws.map tx ∧ ∀ w ∈ ws, P w
  | [], _ => ⟨[], rfl, by simp⟩
  | y :: ys, h => by
    obtain ⟨w, rfl, hw⟩ := h y (by simp)
    obtain ⟨ws, rfl, hs⟩ := strs_all (ys := ys) fun z hz => h z (by simp [hz])
    exact ⟨w :: ws, rfl, by simpa using ⟨hw, hs⟩⟩
theorem strs_q {P : List Nat → Prop} {ds ys : List D} (hl : ys.length = ds.length) (h : ∀ (i : Nat) (d y : D), ds[i]? = some d → ys[i]? = some y → ∃ w, y = tx w ∧ P w) : ∃ ws : List (List Nat), ys = ws.map tx ∧ ∀ w ∈ ws, P w := by
  refine strs_all fun y hy => ?_
  obtain ⟨i, hi⟩ := List.mem_iff_getElem?.mp hy
  have hlt := (List.getElem?_eq_some_iff.mp hi).1
  exact h i ds[i] y (List.getElem?_eq_getElem (by omega)) hi
theorem len3 {α : Type} {l : List α} (h : l.length = 3) : ∃ a b c, l = [a, b, c] := by
  match l, h with
  | [a, b, c], _ => exact ⟨a, b, c, rfl⟩
theorem flat1 {P : Nat → Prop} : ∀ {ws : List (List Nat)}, (∀ w ∈ ws, w.length = 1 ∧ ∀ c ∈ w, P c) → ws.flatten.length = ws.length ∧ ∀ c ∈ ws.flatten, P c
  | [], _ => by simp
  | w :: ws, h => by
    obtain ⟨h1, h2⟩ := flat1 (ws := ws) fun x hx => h x (by simp [hx])
    have := h w (by simp)
    refine ⟨by simp [h1, this.1]; omega, fun c hc => ?_⟩
    simp only [List.flatten_cons, List.mem_append] at hc
    rcases hc with hc | hc
    · exact this.2 c hc
    · exact h2 c hc
theorem sum_flat (ws : List (List Nat)) : (ws.map (·.length)).sum = ws.flatten.length := by simp [List.length_flatten]
theorem r_mform {k : Nat} {g : List Box} (h : GI k g) (hk : k ≤ 100000) : ∃ (e : Deed) (g' : List Box), F__law_mform [.box 0] g = some (.ok e.d g') ∧ e.ok ∧ GI (k + 100) g' := by
  obtain ⟨ys, g1, e1, l1, q1, h1⟩ := lcM_draw (vs := [4]) (k := k) (es0 := startE 9 [.box 0] g) (es := startE 9 [.box 0] g)
    (fi := M.bind (consR (cM (.int 3)) (M.ret [])) fun rs => M.bind (peeks rs) fun ds => M.lift (Dl.rng1 ds)) (gm := setG 4)
    (elt := callF (consD (Dl.lk (nmM 0)) (consD (Dl.lk (lstM (consD (Dl.lk (cM (.str "a"))) (consD (Dl.lk (cM (.str "b1"))) (consD (Dl.lk (cM (.str "zzzzzzzz"))) (consD (Dl.lk (cM (.str "c"))) (M.ret []))))))) (M.ret []))) F__law_pick)
    (rngD 0 3) 1 (fun _ y => ∃ w, y = tx w ∧ nameB w = true) (by simp; rfl) h (by
      intro j d g hj hg
      have hlt := (List.getElem?_eq_some_iff.mp hj).1
      rw [rngD_len] at hlt
      obtain ⟨y, g', hy, ep, hg'⟩ := r_pick hg (by omega) [tx [97], tx [98, 49], tx [122, 122, 122, 122, 122, 122, 122, 122], tx [99]] (by decide) (by decide)
      refine ⟨_, y, ⟨_, g'⟩, by simp [startE]; rfl, by simp [startE, ep]; rfl, ?_, by simpa using hg', by simp [startE]⟩
      simp at hy
      rcases hy with rfl | rfl | rfl | rfl <;> exact ⟨_, rfl, by decide⟩)
  obtain ⟨names, rfl, hnames⟩ := strs_q l1 q1
  rw [rngD_len] at h1 l1
  obtain ⟨a, b, c, rfl⟩ := len3 (l := names) (by simpa using l1)
  have ha := hnames a (by simp)
  have hb := hnames b (by simp)
  have hc := hnames c (by simp)
  obtain ⟨n, g2, e2, hn, h2⟩ := r_below (m := 6) h1 (by omega) (by decide) (by decide)
  obtain ⟨ys, g3, e3, l3, q3, h3⟩ := lcM_draw (vs := [6]) (k := k + 3 * 1 + 1) (es0 := ⟨[some (.fz (.box 0)), some (.fz (tx a)), some (.fz (tx b)), some (.fz (tx c)), none, none, none, none, none], g1⟩)
    (es := ⟨[some (.fz (.box 0)), some (.fz (tx a)), some (.fz (tx b)), some (.fz (tx c)), none, none, none, none, none], g2⟩)
    (fi := M.bind (consR (valM (callF (consD (Dl.lk (nmM 0)) (consD (Dl.lk (cM (.int 6))) (M.ret []))) F__law_below)) (M.ret [])) fun rs => M.bind (peeks rs) fun ds => M.lift (Dl.rng1 ds)) (gm := setG 6)
    (elt := Dl.lk (mtM "str" (cM (.str "")) (consR (lcM [4] (M.bind (consR (valM (callF (consD (Dl.lk (nmM 0)) (consD (Dl.lk (cM (.int 5))) (M.ret []))) F__law_below)) (M.ret [])) fun rs => M.bind (peeks rs) fun ds => M.lift (Dl.rng1 ds)) (setG 4) (M.ret true) (callF (consD (Dl.lk (nmM 0)) (consD (Dl.lk (callN (consR (cM (.str "abz")) (M.ret [])) listD)) (M.ret []))) F__law_pick)) (M.ret [])) joinD))
    (rngD 0 n) 6 (fun _ y => ∃ w, y = tx w ∧ wordB w = true) (by simp at e2; simp [e2, show n ≤ 16777216 by omega]) (by simpa using h2) (by
      intro j d g hj hg
      have hlt := (List.getElem?_eq_some_iff.mp hj).1
      rw [rngD_len] at hlt
      obtain ⟨m, g4, e4, hm, h4⟩ := r_below (m := 5) hg (by omega) (by decide) (by decide)
      obtain ⟨ys, g5, e5, l5, q5, h5⟩ := lcM_draw (vs := [4]) (k := k + 3 * 1 + 1 + j * 6 + 1) (es0 := ⟨[some (.fz (.box 0)), some (.fz (tx a)), some (.fz (tx b)), some (.fz (tx c)), none, none, some (.fz d), none, none], g⟩)
        (es := ⟨[some (.fz (.box 0)), some (.fz (tx a)), some (.fz (tx b)), some (.fz (tx c)), none, none, some (.fz d), none, none], g4⟩)
        (fi := M.bind (consR (valM (callF (consD (Dl.lk (nmM 0)) (consD (Dl.lk (cM (.int 5))) (M.ret []))) F__law_below)) (M.ret [])) fun rs => M.bind (peeks rs) fun ds => M.lift (Dl.rng1 ds)) (gm := setG 4)
        (elt := callF (consD (Dl.lk (nmM 0)) (consD (Dl.lk (callN (consR (cM (.str "abz")) (M.ret [])) listD)) (M.ret []))) F__law_pick)
        (rngD 0 m) 1 (fun _ y => ∃ w, y = tx w ∧ (w.length = 1 ∧ ∀ c ∈ w, c ∈ small)) (by simp at e4; simp [e4, show m ≤ 16777216 by omega]) (by simpa using h4) (by
          intro j d g hj hg
          have hlt := (List.getElem?_eq_some_iff.mp hj).1
          rw [rngD_len] at hlt
          obtain ⟨y, g', hy, ep, hg'⟩ := r_pick hg (by omega) (abz.map sg) (by decide) (by decide)
          refine ⟨_, y, ⟨_, g'⟩, by simp; rfl, by simp [ep]; rfl, ?_, by simpa using hg', by simp⟩
          simp [abz] at hy
          rcases hy with rfl | rfl | rfl <;> exact ⟨_, rfl, by decide⟩)
      obtain ⟨ws, rfl, hws⟩ := strs_q l5 q5
      rw [rngD_len] at h5 l5
      obtain ⟨f1, f2⟩ := flat1 hws
      simp at l5
      have hj := joinD_T0 (ys := ws) (by rw [sum_flat]; omega)
      refine ⟨_, tx ws.flatten, ⟨[some (.fz (.box 0)), some (.fz (tx a)), some (.fz (tx b)), some (.fz (tx c)), none, none, some (.fz d), none, none], g5⟩, by simp; rfl, ?_, ⟨_, rfl, ?_⟩, h5.mono (by omega), ?_⟩
      · simp at e5
        simp [e5, hj, backE_self]
      · simp only [wordB, Bool.and_eq_true, decide_eq_true_eq, List.all_eq_true]
        exact ⟨by omega, f2⟩
      · simp [backE_self])
  obtain ⟨ws, rfl, hws⟩ := strs_q l3 q3
  rw [rngD_len] at h3 l3
  simp at l3
  have hdd := dd_is ws
  have hok : (Deed.words a (sortT (dd ws))).ok := by
    refine ⟨ha, by rw [sortT_len]; omega, dd_mem hws, ?_⟩
    rw [dd_nodup ((sortT_perm _).nodup_iff.mpr hdd.1), sortT_idem]
  obtain ⟨y, g6, hy, e6, h6⟩ := r_pick h3 (by omega) [Deed.d (.words a (sortT (dd ws))), Deed.d (.drop a), Deed.d (.star a b), Deed.d (.both a b c), Deed.d (.join a b c)] (by simp) (by simp)
  have hy2 : ∃ e : Deed, y = e.d ∧ e.ok := by
    simp at hy
    rcases hy with rfl | rfl | rfl | rfl | rfl
    · exact ⟨_, rfl, hok⟩
    · exact ⟨_, rfl, ha⟩
    · exact ⟨_, rfl, ha, hb⟩
    · exact ⟨_, rfl, ha, hb, hc⟩
    · exact ⟨_, rfl, ha, hb, hc⟩
  obtain ⟨e, rfl, he⟩ := hy2
  refine ⟨e, g6, ?_, he, h6.mono (by omega)⟩
  obtain ⟨X, hX⟩ := dict_tx (.int 0) ws
  have hle : (sortT (dd ws)).length ≤ 16777216 := by rw [sortT_len]; omega
  simp [startE] at e1 e3
  simp [F__law_mform, S__law_mform, bodyF, startE, e1, backE_self, sqG, gsCons, e3]
  rw [lcM_run (ds := ws.map tx) (es := ⟨[some (.fz (.box 0)), some (.fz (tx a)), some (.fz (tx b)), some (.fz (tx c)), none, some (.fz (.lst (ws.map tx))), none, none, none], g3⟩) (by simp) (fun _ => true) (fun w => .tup [w, .int 0]) (by
    intro d hd
    obtain ⟨w, mw, rfl⟩ := List.mem_map.mp hd
    simp [Dl.Same])]
  rw [List.filter_eq_self.mpr (fun _ _ => rfl)]
  simp only [List.map_map, Function.comp_def]
  have e7 : F__law_pick [.box 0, .lst [.tup [tx cWords, tx a, .tup ((sortT (dd ws)).map tx)], .tup [tx cDrop, tx a], .tup [tx cStar, tx a, tx b], .tup [tx cBoth, tx a, tx b, tx c], .tup [tx cJoin, tx a, tx b, tx c]]] g3 = some (.ok e.d g6) := e6
  simp [backE_self, hX, e7]
end K76
end
section
set_option Elab.async false
set_option linter.all false
set_option maxRecDepth 100000
set_option maxHeartbeats 4000000
/-! M76d: lines of deeds, loosened deeds. -/
namespace K76
open PySem PySem.Spec PyProof.Rows L2 Dl
theorem joinC_mem {c x : Nat} : ∀ {ps : List (List Nat)}, x ∈ joinC c ps → x = c ∨ ∃ p ∈ ps, x ∈ p
  | [], h => by simp [joinC] at h
  | [p], h => .inr ⟨p, by simp, h⟩
  | p :: q :: r, h => by
    unfold joinC at h
    rcases List.mem_append.mp h with h | h
    · exact .inr ⟨p, by simp, h⟩
    rcases List.mem_cons.mp h with h | h
    · exact .inl h
    rcases joinC_mem h with h | ⟨y, hy, h⟩
    · exact .inl h
    · exact .inr ⟨y, by simp only [List.mem_cons] at hy ⊢; exact .inr hy, h⟩
def Deed.toks : Deed → List (List Nat)
  | .words n ws => cWords :: n :: ws.map dash
  | .drop n => [cDrop, n]
  | .star n m => [cStar, n, m]
  | .both n m k => [cBoth, n, m, k]
  | .join n m k => [cJoin, n, m, k]
theorem Deed.line_toks (e : Deed) : e.line = joinC 32 e.toks := by cases e <;> rfl
def tokB (t : List Nat) : Prop := t.length ≤ 8 ∧ 32 ∉ t ∧ 10 ∉ t ∧ okT t = true
theorem wordB_len {w : List Nat} (h : wordB w = true) : w.length ≤ 4 := by
  unfold wordB at h
  simp only [Bool.and_eq_true, decide_eq_true_eq] at h
  exact h.1
theorem dash_tok {w : List Nat} (h : wordB w = true) : tokB (dash w) := by
  have h1 := wordB_no h
  have h2 := wordB_len h
  have h3 := wordB_ok h
  unfold dash
  split
  · refine ⟨?_, ?_, ?_, ?_⟩ <;> decide
  · exact ⟨by omega, h1.2.1, h1.2.2, h3⟩
theorem Deed.toks_ok {e : Deed} (h : e.ok) : e.toks.length ≤ 8 ∧ ∀ t ∈ e.toks, tokB t := by
  have c1 : tokB cWords := by refine ⟨?_, ?_, ?_, ?_⟩ <;> decide
  have c2 : tokB cDrop := by refine ⟨?_, ?_, ?_, ?_⟩ <;> decide
  have c3 : tokB cStar := by refine ⟨?_, ?_, ?_, ?_⟩ <;> decide
  have c4 : tokB cBoth := by refine ⟨?_, ?_, ?_, ?_⟩ <;> decide
  have c5 : tokB cJoin := by refine ⟨?_, ?_, ?_, ?_⟩ <;> decide
  cases e with
  | words n ws =>
    obtain ⟨h1, h2, h3, h4⟩ := h
    refine ⟨by simp [toks]; omega, fun t ht => ?_⟩
    simp only [toks, List.mem_cons, List.mem_map] at ht
    rcases ht with rfl | rfl | ⟨w, hw, rfl⟩
    · exact c1
    · exact name_no h1
    · exact dash_tok (h3 w hw)
  | drop n => exact ⟨by simp [toks], by simpa [toks] using ⟨c2, name_no h⟩⟩
  | star n m => exact ⟨by simp [toks], by simpa [toks] using ⟨c3, name_no h.1, name_no h.2⟩⟩
  | both n m k => exact ⟨by simp [toks], by simpa [toks] using ⟨c4, name_no h.1, name_no h.2.1, name_no h.2.2⟩⟩
  | join n m k => exact ⟨by simp [toks], by simpa [toks] using ⟨c5, name_no h.1, name_no h.2.1, name_no h.2.2⟩⟩
theorem Deed.line_ok {e : Deed} (h : e.ok) : e.line.length ≤ 100 ∧ 10 ∉ e.line ∧ okT e.line = true := by
  obtain ⟨h1, h2⟩ := Deed.toks_ok h
  rw [e.line_toks]
  have h3 := joinC_len 32 e.toks
  have h4 := sum_le (fun w hw => (h2 w hw).1)
  refine ⟨by omega, fun hm => ?_, okT_mem.mpr fun x hx => ?_⟩
  · rcases joinC_mem hm with h | ⟨p, hp, h⟩
    · cases h
    · exact (h2 p hp).2.2.1 h
  · rcases joinC_mem hx with h | ⟨p, hp, h⟩
    · omega
    · exact okT_mem.mp (h2 p hp).2.2.2 x h
theorem Deed.spl {e : Deed} (h : e.ok) : splC 32 e.line = e.toks := by
  rw [e.line_toks]
  refine splC_join ?_ fun p hp => ((Deed.toks_ok h).2 p hp).2.1
  cases e <;> simp [toks]
/-- a deed's line is read back -/
theorem Deed.read {e : Deed} (h : e.ok) : readL e.line = e.d := by
  unfold readL
  rw [Deed.spl h]
  cases e with
  | words n ws =>
    obtain ⟨h1, h2, h3, h4⟩ := h
    have hu := undash_dash fun w hw => (wordB_no (h3 w hw)).1
    have h0 : [] ∉ ws.map dash := by
      intro hm
      obtain ⟨w, hw, e⟩ := List.mem_map.mp hm
      unfold dash at e
      split at e
      · cases e
      · exact absurd e (by assumption)
    simp only [toks, if_true, hu]
    rw [if_pos ⟨h1, h0, by simpa using h2, h4, h3⟩]
    rfl
  | drop n => have : nameB n = true := h; simp [toks, plainT, this, Deed.d, cDrop, cWords]
  | star n m => obtain ⟨h1, h2⟩ := h; simp [toks, plainT, h1, h2, Deed.d, cStar, cWords]
  | both n m k => obtain ⟨h1, h2, h3⟩ := h; simp [toks, plainT, h1, h2, h3, Deed.d, cBoth, cWords]
  | join n m k => obtain ⟨h1, h2, h3⟩ := h; simp [toks, plainT, h1, h2, h3, Deed.d, cJoin, cWords, cBoth]
theorem Deed.r_line {e : Deed} (h : e.ok) (g : List Box) : F_deed_line [e.d] g = some (.ok (tx e.line) g) := by
  have ht := Deed.toks_ok h
  cases e with
  | words n ws =>
    obtain ⟨h1, h2, h3, h4⟩ := h
    exact r_line_words n ws g (by have := (name_no h1).1; omega) (by omega) fun w hw => by have := wordB_len (h3 w hw); omega
  | drop n => exact r_line_T cDrop n [] g (by decide) (by simp) fun w hw => by have := (ht.2 w hw).1; omega
  | star n m => exact r_line_T cStar n [m] g (by decide) (by simp) fun w hw => by have := (ht.2 w hw).1; omega
  | both n m k => exact r_line_T cBoth n [m, k] g (by decide) (by simp) fun w hw => by have := (ht.2 w hw).1; omega
  | join n m k => exact r_line_T cJoin n [m, k] g (by decide) (by simp) fun w hw => by have := (ht.2 w hw).1; omega
theorem r_mline_T (h a : List Nat) (ws : List (List Nat)) (g : List Box) (hh : h ≠ cWords) (hw : ws.length ≤ 100) (hl : ∀ w ∈ h :: a :: ws, w.length ≤ 9000) : F__law_mline [.tup ((h :: a :: ws).map tx)] g = some (.ok (tx (joinC 32 (h :: a :: ws))) g) := by
  have hs := sum_le hl
  have hj := joinD_Tt (c := 32) (ys := h :: a :: ws) (by simp only [List.length_cons] at hs ⊢; omega)
  simp at hj
  simp [F__law_mline, S__law_mline, bodyF, startE, hh, hj]
theorem r_mline_words (n : List Nat) (ws : List (List Nat)) (g : List Box) (hn : n.length ≤ 9000) (hw : ws.length ≤ 100) (hl : ∀ w ∈ ws, w.length ≤ 9000) : F__law_mline [.tup [tx cWords, tx n, .tup (ws.map tx)]] g = some (.ok (tx (joinC 32 (cWords :: n :: ws.map dash))) g) := by
  simp [F__law_mline, S__law_mline, bodyF, startE]
  rw [lcM_run0 (ws.map tx) (fun _ => true) dashD (by simp) (by
    intro d hd
    obtain ⟨w, mw, rfl⟩ := List.mem_map.mp hd
    cases w <;> simp [Dl.Same, dashD, dash])]
  rw [List.filter_eq_self.mpr (fun _ _ => rfl), map_dashD]
  have hs := sum_le (dash_len hl)
  rw [List.length_map] at hs
  have hj := joinD_T (c := 32) (ys := cWords :: n :: ws.map dash) (by
    simp only [List.map_cons, List.sum_cons, List.length_cons, List.length_map, List.map_map] at hs ⊢
    have : cWords.length = 5 := rfl
    omega)
  simp at hj
  have hle : ws.length + 2 ≤ 16777216 := by omega
  have hle2 : 2 + ws.length ≤ 16777216 := by omega
  simp [backE_self, cut_2, hle2, hj]
theorem Deed.r_mline {e : Deed} (h : e.ok) (g : List Box) : F__law_mline [e.d] g = some (.ok (tx e.line) g) := by
  have ht := Deed.toks_ok h
  cases e with
  | words n ws =>
    obtain ⟨h1, h2, h3, h4⟩ := h
    exact r_mline_words n ws g (by have := (name_no h1).1; omega) (by omega) fun w hw => by have := wordB_len (h3 w hw); omega
  | drop n => exact r_mline_T cDrop n [] g (by decide) (by simp) fun w hw => by have := (ht.2 w hw).1; omega
  | star n m => exact r_mline_T cStar n [m] g (by decide) (by simp) fun w hw => by have := (ht.2 w hw).1; omega
  | both n m k => exact r_mline_T cBoth n [m, k] g (by decide) (by simp) fun w hw => by have := (ht.2 w hw).1; omega
  | join n m k => exact r_mline_T cJoin n [m, k] g (by decide) (by simp) fun w hw => by have := (ht.2 w hw).1; omega
/-- a text of lines -/
def txt (ls : List (List Nat)) : List Nat := (ls.map fun l => l ++ [10]).flatten
def nl (d : D) : D := match d with
  | .str x => tx (x.cps.toList ++ [10])
  | d => d
theorem map_nl (ls : List (List Nat)) : (ls.map tx).map nl = (ls.map fun l => l ++ [10]).map tx := by
  rw [List.map_map, List.map_map]
  rfl
theorem txt_len (ls : List (List Nat)) {m : Nat} (h : ∀ l ∈ ls, l.length ≤ m) : ((ls.map fun l => l ++ [10]).map (·.length)).sum ≤ ls.length * (m + 1) := by
  have := sum_le (ws := ls.map fun l => l ++ [10]) (m := m + 1) fun w hw => by
    obtain ⟨l, hl, rfl⟩ := List.mem_map.mp hw
    have := h l hl
    simp; omega
  simpa using this
theorem joinD_txt {ls : List (List Nat)} (h : ls.length ≤ 100) (hl : ∀ l ∈ ls, l.length ≤ 9000) : joinD (tx []) [.lst ((ls.map fun l => l ++ [10]).map tx)] = some (.fz (tx (txt ls))) := by
  have h1 := txt_len ls hl
  have h2 : ls.length * (9000 + 1) ≤ 100 * 9001 := Nat.mul_le_mul h (Nat.le_refl _)
  exact joinD_T0 (ys := ls.map fun l => l ++ [10]) (by omega)
theorem r_mtext (ls : List (List Nat)) (g : List Box) (h : ls.length ≤ 100) (hl : ∀ l ∈ ls, l.length ≤ 9000) : F__law_mtext [.lst (ls.map tx)] g = some (.ok (tx (txt ls)) g) := by
  simp [F__law_mtext, S__law_mtext, bodyF, startE]
  rw [lcM_run0 (ls.map tx) (fun _ => true) nl (by simp) (by
    intro d hd
    obtain ⟨w, mw, rfl⟩ := List.mem_map.mp hd
    have := hl w mw
    simp [Dl.Same, nl, show w.length + 1 ≤ 16777216 by omega])]
  rw [List.filter_eq_self.mpr (fun _ _ => rfl), map_nl, ]
  have hj := joinD_txt h hl
  generalize (ls.map fun l => l ++ [10]).map tx = zs at *
  simp [hj]
/-! ### loosened -/
theorem r_loose_str (i : Nat) (x : Str) (g : List Box) : F__law_loose (i + 1) [.box 0, .str x] g = some (.ok (.str x) g) := by
  simp [F__law_loose, S__law_loose, bodyF, startE, subTy]
theorem r_loose_seq (B : Nat) {i k c : Nat} {P : D → D → Prop} {xs : List D} {g : List Box} (hg : GI k g) (hB : B ≤ 900000) (hk : k + xs.length * c ≤ B) (h : ∀ x ∈ xs, ∀ k g, GI k g → k ≤ B → ∃ y g', F__law_loose i [.box 0, x] g = some (.ok y g') ∧ P x y ∧ GI (k + c) g') (b : Bool) :
    ∃ b' ys g', F__law_loose (i + 1) [.box 0, seqO b xs] g = some (.ok (seqO b' ys) g') ∧ ys.length = xs.length ∧ (∀ (i : Nat) (x y : D), xs[i]? = some x → ys[i]? = some y → P x y) ∧ GI (k + xs.length * c + 1) g' := by
  obtain ⟨ys, g1, e1, l1, q1, h1⟩ := lcM_draw (vs := [4]) (k := k) (es0 := ⟨[some (.fz (.box 0)), some (.fz (seqO b xs)), none, none, none], g⟩) (es := ⟨[some (.fz (.box 0)), some (.fz (seqO b xs)), none, none, none], g⟩)
    (fi := seqM (Dl.lk (nmM 1))) (gm := setG 4) (elt := callF (consD (Dl.lk (nmM 0)) (consD (Dl.lk (nmM 4)) (M.ret []))) (F__law_loose i))
    xs c P (by cases b <;> simp [seqO]) hg (by
      intro j d g hj hg
      have hlt := (List.getElem?_eq_some_iff.mp hj).1
      have hle : j * c ≤ xs.length * c := Nat.mul_le_mul (by omega) (Nat.le_refl _)
      obtain ⟨y, g', e, hp, hg'⟩ := h d (List.mem_of_getElem? hj) (k + j * c) g hg (by omega)
      exact ⟨_, y, ⟨_, g'⟩, by simp; rfl, by simp [e]; rfl, hp, hg', by simp⟩)
  obtain ⟨n, g2, e2, hn, h2⟩ := r_below (m := 2) h1 (by omega) (by decide) (by decide)
  simp at e2
  refine ⟨decide (n = 0), ys, g2, ?_, l1, q1, h2⟩
  by_cases hn0 : n = 0
  · subst hn0
    cases b <;> simp [seqO] at e1 <;> simp [F__law_loose, S__law_loose, bodyF, startE, subTy, seqO, e1, e2, backE_self]
  · have hn1 : ¬ ((n : Int) = 0) := by omega
    cases b <;> simp [seqO] at e1 <;> simp [F__law_loose, S__law_loose, bodyF, startE, subTy, seqO, e1, e2, backE_self, hn0, hn1]
/-- a deed, loosened -/
def Lo (e : Deed) (y : D) : Prop := match e with
  | .words n ws => ∃ b c, y = seqO b [tx cWords, tx n, seqO c (ws.map tx)]
  | e => ∃ b, y = seqO b (e.toks.map tx)
theorem eq_of_get {xs ys : List D} (hl : ys.length = xs.length) (h : ∀ (i : Nat) (x y : D), xs[i]? = some x → ys[i]? = some y → y = x) : ys = xs := by
  refine List.ext_getElem? fun i => ?_
  rcases Nat.lt_or_ge i xs.length with hi | hi
  · rw [List.getElem?_eq_getElem hi, List.getElem?_eq_getElem (by omega : i < ys.length)]
    exact congrArg some (h i xs[i] ys[i] (List.getElem?_eq_getElem hi) (List.getElem?_eq_getElem (by omega)))
  · rw [List.getElem?_eq_none hi, List.getElem?_eq_none (by omega)]
theorem r_loose_txs (i : Nat) {k : Nat} {g : List Box} (hg : GI k g) (hk : k ≤ 900000) (ws : List (List Nat)) (b : Bool) : ∃ b' g', F__law_loose (i + 2) [.box 0, seqO b (ws.map tx)] g = some (.ok (seqO b' (ws.map tx)) g') ∧ GI (k + 1) g' := by
  obtain ⟨b', ys, g', e, l, q, h⟩ := r_loose_seq 900000 (i := i + 1) (c := 0) (P := fun x y => y = x) (xs := ws.map tx) hg (by decide) (by simpa using hk) (by
    intro x hx k g hg hk
    obtain ⟨w, hw, rfl⟩ := List.mem_map.mp hx
    exact ⟨_, g, r_loose_str i _ g, rfl, hg⟩) b
  rw [eq_of_get l q] at e
  exact ⟨b', g', e, by simpa using h⟩
theorem r_loose_deed (i : Nat) {k : Nat} {g : List Box} (hg : GI k g) (hk : k ≤ 800000) (e : Deed) : ∃ y g', F__law_loose (i + 3) [.box 0, e.d] g = some (.ok y g') ∧ Lo e y ∧ GI (k + 10) g' := by
  have flat : ∀ ws : List (List Nat), ∃ b' g', F__law_loose (i + 3) [.box 0, .tup (ws.map tx)] g = some (.ok (seqO b' (ws.map tx)) g') ∧ GI (k + 10) g' := fun ws => by
    obtain ⟨b', g', e, h⟩ := r_loose_txs (i + 1) hg (by omega) ws false
    exact ⟨b', g', e, h.mono (by omega)⟩
  cases e with
  | words n ws =>
    obtain ⟨b', ys, g', e, l, q, h⟩ := r_loose_seq 900000 (i := i + 2) (c := 2) (P := fun x y => (∀ s, x = .str s → y = x) ∧ (∀ xs, x = .tup xs → ∃ c, y = seqO c xs)) (xs := [tx cWords, tx n, .tup (ws.map tx)]) hg (by decide) (by simp; omega) (by
      intro x hx k g hg hk
      simp at hx
      rcases hx with rfl | rfl | rfl
      · exact ⟨_, g, r_loose_str (i + 1) _ g, ⟨fun _ _ => rfl, fun _ h => by cases h⟩, hg.mono (by omega)⟩
      · exact ⟨_, g, r_loose_str (i + 1) _ g, ⟨fun _ _ => rfl, fun _ h => by cases h⟩, hg.mono (by omega)⟩
      · obtain ⟨b', g', e, h⟩ := r_loose_txs i hg hk ws false
        exact ⟨_, g', e, ⟨fun _ h => (by cases h), fun _ h => (by cases h; exact ⟨b', rfl⟩)⟩, h.mono (by omega)⟩) false
    obtain ⟨a, b, c, rfl⟩ := len3 (l := ys) l
    have h1 := (q 0 _ _ rfl rfl).1 _ rfl
    have h2 := (q 1 _ _ rfl rfl).1 _ rfl
    obtain ⟨c', h3⟩ := (q 2 _ _ rfl rfl).2 _ rfl
    subst h1 h2 h3
    exact ⟨_, g', e, ⟨b', c', rfl⟩, h.mono (by simp)⟩
  | drop n => obtain ⟨b', g', e, h⟩ := flat [cDrop, n]; exact ⟨_, g', e, ⟨b', rfl⟩, h⟩
  | star n m => obtain ⟨b', g', e, h⟩ := flat [cStar, n, m]; exact ⟨_, g', e, ⟨b', rfl⟩, h⟩
  | both n m j => obtain ⟨b', g', e, h⟩ := flat [cBoth, n, m, j]; exact ⟨_, g', e, ⟨b', rfl⟩, h⟩
  | join n m j => obtain ⟨b', g', e, h⟩ := flat [cJoin, n, m, j]; exact ⟨_, g', e, ⟨b', rfl⟩, h⟩
theorem Deed.plain {e : Deed} (h : e.ok) {y : D} (hy : Lo e y) (g : List Box) : F_plain_deed [y] g = some (.ok e.d g) := by
  have ht := Deed.toks_ok h
  have hr := Deed.read h
  unfold readL at hr
  rw [Deed.spl h] at hr
  cases e with
  | words n ws =>
    obtain ⟨h1, h2, h3, h4⟩ := h
    obtain ⟨b, c, rfl⟩ := hy
    rw [r_plain_V b c n ws g (name_no h1).2.2.2 fun w hw => wordB_ok (h3 w hw)]
    have hd : (dd ws).length = ws.length := by rw [← sortT_len (dd ws), h4]
    have e2 : plainW ws = .tup (ws.map tx) := by
      unfold plainW
      rw [if_pos ⟨h2, h3, hd⟩, h4]
    unfold plainV
    rw [e2, if_pos h1]
    rfl
  | drop n =>
    obtain ⟨b, rfl⟩ := hy
    rw [show (Deed.drop n).toks = [cDrop, n] from rfl] at *
    rw [r_plain_T b cDrop [n] g (fun w hw => (ht.2 w (by simp at hw ⊢; exact .inr hw)).2.2.2) (by decide), ← hr]; rfl
  | star n m =>
    obtain ⟨b, rfl⟩ := hy
    rw [show (Deed.star n m).toks = [cStar, n, m] from rfl] at *
    rw [r_plain_T b cStar [n, m] g (fun w hw => (ht.2 w (List.mem_cons_of_mem _ hw)).2.2.2) (by decide), ← hr]; rfl
  | both n m k =>
    obtain ⟨b, rfl⟩ := hy
    rw [show (Deed.both n m k).toks = [cBoth, n, m, k] from rfl] at *
    rw [r_plain_T b cBoth [n, m, k] g (fun w hw => (ht.2 w (List.mem_cons_of_mem _ hw)).2.2.2) (by decide), ← hr]; rfl
  | join n m k =>
    obtain ⟨b, rfl⟩ := hy
    rw [show (Deed.join n m k).toks = [cJoin, n, m, k] from rfl] at *
    rw [r_plain_T b cJoin [n, m, k] g (fun w hw => (ht.2 w (List.mem_cons_of_mem _ hw)).2.2.2) (by decide), ← hr]; rfl
theorem Lo.self (e : Deed) : Lo e e.d := by
  cases e with
  | words n ws => exact ⟨false, false, rfl⟩
  | drop n => exact ⟨false, rfl⟩
  | star n m => exact ⟨false, rfl⟩
  | both n m k => exact ⟨false, rfl⟩
  | join n m k => exact ⟨false, rfl⟩
end K76
end
section
set_option Elab.async false
set_option linter.all false
set_option maxRecDepth 100000
set_option maxHeartbeats 4000000
/-! M76e: texts of deeds. -/
namespace K76
open PySem PySem.Spec PyProof.Rows L2 Dl
@[simp] theorem apnd_run (fo : M RV) (g : M D) (es : ES) : apndM fo g es = rb (fo es) fun r => M.bind (wantLst r) fun _ => M.bind g fun d => appendM r d := rfl
@[simp] theorem want_run (r : RV) (es : ES) : wantLst r es = rb (peek r es) fun d es => if isLstD d = true then some (.ok () es) else none := by
  unfold wantLst
  rw [bind_run]
  refine rb_k ?_
  funext d es
  cases h : isLstD d <;> rfl
@[simp] theorem isLst_lst (ds : List D) : isLstD (.lst ds) = true := rfl
def ap1 (l : Option (Option LV)) (i : Nat) (d : D) (es : ES) : Option (Res RV) := match l with
  | some (some (.ow (.lst ds))) => if ds.length < 16777216 then some (.ok (.fz .non) { es with env := es.env.set i (some (.ow (.lst (ds ++ [d])))) }) else none
  | _ => none
@[simp] theorem ap1_ow (ds : List D) (i : Nat) (d : D) (es : ES) : ap1 (some (some (.ow (.lst ds)))) i d es = if ds.length < 16777216 then some (.ok (.fz .non) { es with env := es.env.set i (some (.ow (.lst (ds ++ [d])))) }) else none := rfl
@[simp] theorem append_sl (i : Nat) (d : D) (es : ES) : appendM (.sl i) d es = ap1 es.env[i]? i d es := by
  unfold appendM owOf ap1
  rcases h : es.env[i]? with _ | _ | (_ | d)
  · simp only [h]
  · simp only [h]
  · simp only [h]
  · simp only [h]
    cases d <;> rfl
theorem enumD_cons (j : Int) (d : D) (ds : List D) : enumD j (d :: ds) = .tup [.int j, d] :: enumD (j + 1) ds := by
  unfold enumD
  rw [List.mapIdx_cons]
  simp
  apply List.ext_getElem?
  intro i
  simp only [List.getElem?_mapIdx]
  cases ds[i]? <;> simp
  omega
theorem enumD_nil (j : Int) : enumD j [] = [] := rfl
theorem loopS_ok {gm : D → ES → Option ES} {body : S} {d : D} {ds : List D} {es e1 e2 : ES} (h1 : gm d es = some e1) (h2 : body e1 = some (.nx e2)) : loopS gm body (d :: ds) es = loopS gm body ds e2 := by
  simp only [loopS, h1, h2]
theorem loopS_ex {gm : D → ES → Option ES} {body : S} {d : D} {ds : List D} {es e1 e2 : ES} {x : Ex} (h1 : gm d es = some e1) (h2 : body e1 = some (.ex x e2)) : loopS gm body (d :: ds) es = some (.ex x e2) := by
  simp only [loopS, h1, h2]
theorem loopS_rt {gm : D → ES → Option ES} {body : S} {d : D} {ds : List D} {es e1 e2 : ES} {x : D} (h1 : gm d es = some e1) (h2 : body e1 = some (.rt x e2)) : loopS gm body (d :: ds) es = some (.rt x e2) := by
  simp only [loopS, h1, h2]
@[simp] theorem loopS_nil (gm : D → ES → Option ES) (body : S) (es : ES) : loopS gm body [] es = some (.nx es) := rfl
/-! ### deeds_text -/
def dtG : D → ES → Option ES := sqG 2 (gsCons (setG 2) (gsCons (setG 3) (gsNil)))
def dtB : S := S.seq (S.of (valM (callF (consD (Dl.lk (nmM 3)) (M.ret [])) F_plain_deed)) (setIf 4)) (S.seq (iteS (asB (relO .Is (nmM 4) (cM .non))) (S.seq (raiseS "BadDeed" "index" (consD (Dl.lk (nmM 2)) (M.ret []))) (S.skip)) (S.skip)) (S.seq (S.of (apndM (nmM 1) (Dl.lk (binO .Add (valM (callF (consD (Dl.lk (nmM 4)) (M.ret [])) F_deed_line)) (cM (.str "\n"))))) fun _ es => some (.nx es)) (S.skip)))
theorem Deed.d_not (e : Deed) : ∃ xs, e.d = .tup xs := by cases e <;> exact ⟨_, rfl⟩
theorem dt_good (y0 : D) (g : List Box) : ∀ (ps : List (D × Deed)) (j : Int) (acc : List (List Nat)) (l2 l3 l4 : Option LV) (rest : List D), (∀ p ∈ ps, p.2.ok ∧ Lo p.2 p.1) → acc.length + ps.length ≤ 100 →
    ∃ m2 m3 m4, loopS dtG dtB (enumD j (ps.map (·.1)) ++ rest) ⟨[some (.fz y0), some (.ow (.lst ((acc.map fun l => l ++ [10]).map tx))), l2, l3, l4], g⟩ = loopS dtG dtB rest ⟨[some (.fz y0), some (.ow (.lst (((acc ++ ps.map fun p : D × Deed => p.2.line).map fun l => l ++ [10]).map tx))), m2, m3, m4], g⟩
  | [], j, acc, l2, l3, l4, rest, _, _ => ⟨l2, l3, l4, by simp [enumD_nil]⟩
  | (y, e) :: ps, j, acc, l2, l3, l4, rest, h, hl => by
    obtain ⟨h1, h2⟩ := h (y, e) (by simp)
    simp only [List.length_cons] at hl
    obtain ⟨m2, m3, m4, q⟩ := dt_good y0 g ps (j + 1) (acc ++ [e.line]) (some (.fz (.int j))) (some (.fz y)) (some (.fz e.d)) rest (fun p hp => h p (by simp [hp])) (by simp; omega)
    refine ⟨m2, m3, m4, ?_⟩
    have hln : e.line.length ≤ 100 := (Deed.line_ok h1).1
    obtain ⟨xs, hx⟩ := e.d_not
    have r1 := Deed.plain h1 h2 g
    have r2 := Deed.r_line h1 g
    rw [List.map_cons, enumD_cons, List.cons_append]
    rw [loopS_ok (e1 := ⟨[some (.fz y0), some (.ow (.lst ((acc.map fun l => l ++ [10]).map tx))), some (.fz (.int j)), some (.fz y), l4], g⟩) (e2 := ⟨[some (.fz y0), some (.ow (.lst (((acc ++ [e.line]).map fun l => l ++ [10]).map tx))), some (.fz (.int j)), some (.fz y), some (.fz e.d)], g⟩) (by simp [dtG, sqG, gsCons]) (by
      have e5 : isD false e.d .non = some (.fz (.bl false)) := by rw [hx]; rfl
      simp [dtB, r1, r2, e5, show e.line.length ≤ 16777215 by omega, show acc.length < 16777216 by omega])]
    rw [q]
    simp [List.append_assoc]
theorem enumD_app (xs ys : List D) (j : Int) : enumD j (xs ++ ys) = enumD j xs ++ enumD (j + xs.length) ys := by
  induction xs generalizing j with
  | nil => simp [enumD_nil]
  | cons x xs ih =>
    rw [List.cons_append, enumD_cons, enumD_cons, ih, List.cons_append]
    congr 3
    simp; omega
/-- a row of deeds by form is written -/
theorem r_deeds_text (b : Bool) (ps : List (D × Deed)) (g : List Box) (h : ∀ p ∈ ps, p.2.ok ∧ Lo p.2 p.1) (hl : ps.length ≤ 100) : F_deeds_text [seqO b (ps.map (·.1))] g = some (.ok (tx (txt (ps.map fun p : D × Deed => p.2.line))) g) := by
  obtain ⟨m2, m3, m4, q⟩ := dt_good (seqO b (ps.map (·.1))) g ps 0 [] none none none [] h (by simpa using hl)
  have hj := joinD_txt (ls := ps.map fun p : D × Deed => p.2.line) (by simpa using hl) fun l hm => by
    obtain ⟨p, hp, rfl⟩ := List.mem_map.mp hm
    have := (Deed.line_ok (h p hp).1).1
    omega
  have r := r_is_row b (ps.map (·.1)) g
  simp only [List.append_nil, loopS_nil, List.map_nil, List.nil_append] at q
  generalize hzs : ((ps.map fun p : D × Deed => p.2.line).map fun l => l ++ [10]).map tx = zs at hj q
  have en : seqLT (seqO b (ps.map (·.1))) = some (ps.map (·.1)) := by cases b <;> rfl
  simp only [dtG, dtB] at q
  generalize seqO b (ps.map (·.1)) = s at *
  simp only [s_line] at q
  simp [F_deeds_text, S_deeds_text, bodyF, startE, r, enum1M, en, q, hj]
/-- the first that is none is told -/
theorem r_deeds_text_bad (b : Bool) (ps : List (D × Deed)) (bad : D) (rest : List D) (g : List Box) (h : ∀ p ∈ ps, p.2.ok ∧ Lo p.2 p.1) (hl : ps.length ≤ 100) (hb : F_plain_deed [bad] g = some (.ok .non g)) : F_deeds_text [seqO b (ps.map (·.1) ++ bad :: rest)] g = some (.ex ⟨"BadDeed", ["index"], [.int ps.length]⟩ g) := by
  obtain ⟨m2, m3, m4, q⟩ := dt_good (seqO b (ps.map (·.1) ++ bad :: rest)) g ps 0 [] none none none (enumD (0 + (ps.map (·.1)).length) (bad :: rest)) h (by simpa using hl)
  have r := r_is_row b (ps.map (·.1) ++ bad :: rest) g
  rw [← enumD_app, enumD_cons] at q
  have en : seqLT (seqO b (ps.map (·.1) ++ bad :: rest)) = some (ps.map (·.1) ++ bad :: rest) := by cases b <;> rfl
  rw [loopS_ex (x := ⟨"BadDeed", ["index"], [.int ps.length]⟩) (e1 := ⟨[some (.fz (seqO b (ps.map (·.1) ++ bad :: rest))), some (.ow (.lst ((([] ++ ps.map fun p : D × Deed => p.2.line).map fun l => l ++ [10]).map tx))), some (.fz (.int ps.length)), some (.fz bad), m4], g⟩)
    (e2 := ⟨[some (.fz (seqO b (ps.map (·.1) ++ bad :: rest))), some (.ow (.lst ((([] ++ ps.map fun p : D × Deed => p.2.line).map fun l => l ++ [10]).map tx))), some (.fz (.int ps.length)), some (.fz bad), some (.fz .non)], g⟩) (by simp [dtG, sqG, gsCons]) (by
      simp [dtB, hb])] at q
  simp only [dtG, dtB, s_line, List.map_nil] at q
  generalize ps.map (·.1) ++ bad :: rest = zs at *
  generalize seqO b zs = s at *
  simp [F_deeds_text, S_deeds_text, bodyF, startE, r, enum1M, en, q]
/-- what is no row -/
theorem r_deeds_text_no (d : D) (g : List Box) (h : F_is_row [d] g = some (.ok (.bl false) g)) : F_deeds_text [d] g = some (.ex ⟨"BadDeed", ["index"], [.int 0]⟩ g) := by
  simp [F_deeds_text, S_deeds_text, bodyF, startE, h]
/-! ### lines_read -/
def lrG : D → ES → Option ES := sqG 2 (gsCons (setG 3) (gsCons (setG 4) (gsNil)))
def lrB : S := S.seq (S.of (valM (callF (consD (Dl.lk (nmM 4)) (M.ret [])) F_deed_of)) (setIf 5)) (S.seq (iteS (asB (relO .Is (nmM 5) (cM .non))) (S.seq (S.of (Dl.lk (tupM (consD (Dl.lk (nmM 1)) (consD (Dl.lk (nmM 3)) (M.ret []))))) fun d es => some (.rt d es)) (S.skip)) (S.skip)) (S.seq (S.of (apndM (nmM 1) (Dl.lk (nmM 5))) fun _ es => some (.nx es)) (S.skip)))
def isNo : D → Bool
  | .non => true
  | _ => false
theorem plainT_ty (ws : List (List Nat)) : isNo (plainT ws) = true ∨ ∃ xs, plainT ws = .tup xs := by
  unfold plainT
  split <;> (try split) <;> first | exact .inl rfl | exact .inr ⟨_, rfl⟩
theorem readL_ty (l : List Nat) : readL l = .non ∨ ∃ xs, readL l = .tup xs := by
  unfold readL
  split
  · exact .inl rfl
  · split
    · split
      · exact .inl rfl
      · split
        · exact .inr ⟨_, rfl⟩
        · exact .inl rfl
    · rename_i h rest _ _
      rcases plainT_ty (h :: rest) with h | h
      · refine .inl ?_
        generalize plainT _ = d at h
        cases d <;> first | rfl | cases h
      · exact .inr h
/-- the lines up to the first that is none -/
theorem lr_loop (y0 : D) (l2 : Option LV) (g : List Box) : ∀ (ls : List (List Nat)) (j : Int) (acc : List D) (l3 l4 l5 : Option LV), (∀ l ∈ ls, l.length ≤ 9000 ∧ okT l = true) → acc.length + ls.length ≤ 10000 →
    (match ls.findIdx? (fun l => isNo (readL l)) with
    | none => ∃ m3 m4 m5, loopS lrG lrB (enumD j (ls.map tx)) ⟨[some (.fz y0), some (.ow (.lst acc)), l2, l3, l4, l5], g⟩ = some (.nx ⟨[some (.fz y0), some (.ow (.lst (acc ++ ls.map readL))), l2, m3, m4, m5], g⟩)
    | some i => ∃ d es', loopS lrG lrB (enumD j (ls.map tx)) ⟨[some (.fz y0), some (.ow (.lst acc)), l2, l3, l4, l5], g⟩ = some (.rt (.tup [d, .int (j + i)]) es') ∧ es'.g = g)
  | [], j, acc, l3, l4, l5, _, _ => ⟨l3, l4, l5, by simp [enumD_nil]⟩
  | l :: ls, j, acc, l3, l4, l5, h, hl => by
    obtain ⟨h1, h2⟩ := h l (by simp)
    simp only [List.length_cons] at hl
    have r := r_deed_of l g h1 h2
    rw [List.map_cons, enumD_cons, List.findIdx?_cons]
    rcases readL_ty l with e | ⟨xs, e⟩
    · rw [if_pos (show isNo (readL l) = true by rw [e]; rfl)]
      refine ⟨.lst acc, _, loopS_rt (e1 := ⟨[some (.fz y0), some (.ow (.lst acc)), l2, some (.fz (.int j)), some (.fz (tx l)), l5], g⟩) (e2 := ⟨[some (.fz y0), some (.fz (.lst acc)), l2, some (.fz (.int j)), some (.fz (tx l)), some (.fz .non)], g⟩) (by simp [lrG, sqG, gsCons]) (by simp [lrB, r, e]), rfl⟩
    · have ih := lr_loop y0 l2 g ls (j + 1) (acc ++ [readL l]) (some (.fz (.int j))) (some (.fz (tx l))) (some (.fz (readL l))) (fun p hp => h p (by simp [hp])) (by simp; omega)
      rw [if_neg (show ¬ isNo (readL l) = true by rw [e]; simp [isNo])]
      rw [loopS_ok (e1 := ⟨[some (.fz y0), some (.ow (.lst acc)), l2, some (.fz (.int j)), some (.fz (tx l)), l5], g⟩) (e2 := ⟨[some (.fz y0), some (.ow (.lst (acc ++ [readL l]))), l2, some (.fz (.int j)), some (.fz (tx l)), some (.fz (readL l))], g⟩) (by simp [lrG, sqG, gsCons]) (by
        simp [lrB, r, e, show acc.length < 16777216 by omega])]
      cases q : ls.findIdx? (fun l => isNo (readL l)) with
      | none =>
        rw [q] at ih
        obtain ⟨m3, m4, m5, ih⟩ := ih
        refine ⟨m3, m4, m5, ?_⟩
        rw [ih]
        simp [List.append_assoc, e]
      | some i =>
        rw [q] at ih
        obtain ⟨d, es', ih, hg⟩ := ih
        refine ⟨d, es', ?_, hg⟩
        rw [ih]
        simp
        omega
/-- the line a text is wrong at -/
def due (cs : List Nat) : D := match (splC 10 cs).dropLast.findIdx? (fun l => isNo (readL l)) with
  | some i => .int (1 + (i : Nat))
  | none => if (splC 10 cs).getLast? = some [] then .non else .int (splC 10 cs).length
def deedsOf (cs : List Nat) : List D := (splC 10 cs).dropLast.map readL
@[simp] theorem cut_last {α : Type} (xs : List α) : cutL xs none (some (-1)) = xs.dropLast := by
  unfold cutL
  rw [HT.sIx_none, List.dropLast_eq_take]
  simp [HT.sIx]
  omega
theorem atI_last {α : Type} (xs : List α) : atI xs (-1) = xs.getLast? := by
  unfold atI ixN
  cases xs with
  | nil => simp
  | cons x xs =>
    simp
    rw [if_pos (by omega), List.getLast?_eq_getElem?]
    simp [show (-1 + ((xs.length : Int) + 1)).toNat = xs.length by omega]
theorem r_lines_read (cs : List Nat) (g : List Box) (hl : cs.length ≤ 9000) (ho : okT cs = true) : ∃ d, F_lines_read [tx cs] g = some (.ok (.tup [d, due cs]) g) ∧ (due cs = .non → d = .lst (deedsOf cs)) := by
  have hs := splitD_T (c := 10) (by decide) (a := cs) (by omega)
  have hok := splC_ok (c := 10) ho
  have hlen := splC_len 10 cs
  have L := lr_loop (tx cs) (some (.ow (.lst ((splC 10 cs).map tx)))) g (splC 10 cs).dropLast 1 [] none none none (fun l hm => ⟨by have := hlen.2 l ((List.dropLast_sublist _).subset hm); omega, hok l ((List.dropLast_sublist _).subset hm)⟩) (by simp; omega)
  unfold due
  simp only [lrG, lrB] at L
  cases q : (splC 10 cs).dropLast.findIdx? (fun l => isNo (readL l)) with
  | some i =>
    rw [q] at L
    obtain ⟨d, es', L, hg⟩ := L
    refine ⟨d, ?_, fun h => by cases h⟩
    simp [F_lines_read, S_lines_read, bodyF, startE, subTy, hs, enum2M, seqLT, ← List.map_dropLast, L, hg]
  | none =>
    rw [q] at L
    obtain ⟨m3, m4, m5, L⟩ := L
    refine ⟨.lst (deedsOf cs), ?_, fun _ => rfl⟩
    have hlast : ∃ z, (splC 10 cs).getLast? = some z := by
      cases h : splC 10 cs with
      | nil => exact (splC_ne 10 cs h).elim
      | cons a b => exact ⟨_, List.getLast?_eq_some_getLast (by simp)⟩
    obtain ⟨z, hz⟩ := hlast
    simp [F_lines_read, S_lines_read, bodyF, startE, subTy, hs, enum2M, seqLT, ← List.map_dropLast, L, atI_last, hz]
    by_cases h0 : z = [] <;> simp [h0, deedsOf]
/-! ### what is asked of them -/
theorem r_lines_no (d : D) (g : List Box) (h : tyD d = some "list") : F_lines_read [d] g = some (.ok (.tup [.lst [], .int 0]) g) := by
  simp [F_lines_read, S_lines_read, bodyF, startE, subTy, h]
theorem r_fault (cs : List Nat) (g : List Box) (hl : cs.length ≤ 9000) (ho : okT cs = true) : F_deeds_fault [tx cs] g = some (.ok (due cs) g) := by
  obtain ⟨d, e, _⟩ := r_lines_read cs g hl ho
  simp [F_deeds_fault, S_deeds_fault, bodyF, startE, e]
theorem due_ty (cs : List Nat) : due cs = .non ∨ ∃ i : Nat, due cs = .int i := by
  unfold due
  split
  · rename_i i _; exact .inr ⟨1 + i, by simp⟩
  · split
    · exact .inl rfl
    · exact .inr ⟨_, rfl⟩
theorem r_read (cs : List Nat) (g : List Box) (hl : cs.length ≤ 9000) (ho : okT cs = true) : F_read_deeds [tx cs] g = some (match due cs with | .non => .ok (.lst (deedsOf cs)) g | d => .ex ⟨"BadText", ["line"], [d]⟩ g) := by
  obtain ⟨d, e, h⟩ := r_lines_read cs g hl ho
  rcases due_ty cs with hd | ⟨i, hd⟩
  · rw [hd] at e ⊢
    have := h hd
    subst this
    simp [F_read_deeds, S_read_deeds, bodyF, startE, e, sqG, gsCons]
  · rw [hd] at e ⊢
    simp [F_read_deeds, S_read_deeds, bodyF, startE, e, sqG, gsCons]
theorem r_read_no (d : D) (g : List Box) (h : tyD d = some "list") : F_read_deeds [d] g = some (.ex ⟨"BadText", ["line"], [.int 0]⟩ g) := by
  have e := r_lines_no d g h
  simp [F_read_deeds, S_read_deeds, bodyF, startE, e, sqG, gsCons]
theorem r_fault_no (d : D) (g : List Box) (h : tyD d = some "list") : F_deeds_fault [d] g = some (.ok (.int 0) g) := by
  have e := r_lines_no d g h
  simp [F_deeds_fault, S_deeds_fault, bodyF, startE, e]
/-- the text of deeds is read back -/
theorem spl_txt : ∀ {ls : List (List Nat)}, (∀ l ∈ ls, 10 ∉ l) → splC 10 (txt ls) = ls ++ [[]]
  | [], _ => rfl
  | l :: ls, h => by
    have e : txt (l :: ls) = l ++ 10 :: txt ls := by simp [txt]
    rw [e, splC_app _ (h l (by simp)), spl_txt fun x hx => h x (by simp [hx])]
    rfl
theorem due_txt {es : List Deed} (h : ∀ e ∈ es, e.ok) : due (txt (es.map Deed.line)) = .non ∧ deedsOf (txt (es.map Deed.line)) = es.map Deed.d := by
  have hs : splC 10 (txt (es.map Deed.line)) = es.map Deed.line ++ [[]] := spl_txt fun l hl => by
    obtain ⟨e, he, rfl⟩ := List.mem_map.mp hl
    exact (Deed.line_ok (h e he)).2.1
  have hr : ∀ e ∈ es, readL e.line = e.d := fun e he => Deed.read (h e he)
  have hn : ((es.map Deed.line).findIdx? fun l => isNo (readL l)) = none := by
    rw [List.findIdx?_eq_none_iff]
    intro l hl
    obtain ⟨e, he, rfl⟩ := List.mem_map.mp hl
    rw [hr e he]
    obtain ⟨xs, hx⟩ := e.d_not
    rw [hx]; rfl
  unfold due deedsOf
  rw [hs]
  simp only [List.dropLast_concat, hn]
  refine ⟨by simp, ?_⟩
  rw [List.map_map]
  exact List.map_congr_left hr
end K76
end
section
set_option Elab.async false
set_option linter.all false
set_option maxRecDepth 100000
set_option maxHeartbeats 4000000
/-! M76p: parts of the printed statements (printed by genp.py). -/
namespace K76
open PySem PySem.Spec PyProof.Rows L2 Dl
def mbC : S := S.seq (S.of (mtM "str" (cM (.str "")) (consR (lcM [8] (seqM (Dl.lk (nmM 1))) (setG 8) (M.ret true) (Dl.lk (binO .Add (nmM 8) (cM (.str "\n"))))) (M.ret [])) joinD) (setIf 7)) (S.seq (iteS (asB (relO .Eq (nmM 4) (cM (.int 6)))) (S.seq (S.of (valM (callF (consD (Dl.lk (nmM 0)) (consD (Dl.lk (binO .Add (callN (consR (nmM 7) (M.ret [])) lenD) (cM (.int 1)))) (M.ret []))) F__law_below)) (setIf 6)) (S.seq (S.of (Dl.lk (binO .Add (binO .Add (sliceM (nmM 7) (partM none) (partM (some (nmM 6)))) (valM (callF (consD (Dl.lk (nmM 0)) (consD (Dl.lk (callN (consR (cM (.str " \nab01w-*\t")) (M.ret [])) listD)) (M.ret []))) F__law_pick))) (sliceM (nmM 7) (partM (some (binO .Add (nmM 6) (valM (callF (consD (Dl.lk (nmM 0)) (consD (Dl.lk (cM (.int 2))) (M.ret []))) F__law_below))))) (partM none)))) fun d es => some (.rt d es)) (S.skip))) (S.skip)) (S.seq (S.of (Dl.lk (iteV (andB (asB (relO .Eq (nmM 4) (cM (.int 7)))) (asB (relO .NotEq (nmM 7) (cM (.str ""))))) (sliceM (nmM 7) (partM none) (partM (some (binO .Sub (callN (consR (nmM 7) (M.ret [])) lenD) (cM (.int 1)))))) (nmM 7))) fun d es => some (.rt d es)) (S.skip)))
def mbB2 : S := S.seq (iteS (asB (relO .Eq (nmM 4) (cM (.int 2)))) (S.seq (S.of (binO .Add (sliceM (nmM 1) (partM none) (partM (some (nmM 3)))) (sliceM (nmM 1) (partM (some (binO .Add (nmM 3) (cM (.int 1))))) (partM none))) (setIf 1)) (S.skip)) (S.skip)) (S.seq (iteS (asB (relO .Eq (nmM 4) (cM (.int 3)))) (S.seq (S.of (binO .Add (sliceM (nmM 1) (partM none) (partM (some (binO .Add (nmM 3) (cM (.int 1)))))) (sliceM (nmM 1) (partM (some (nmM 3))) (partM none))) (setIf 1)) (S.skip)) (S.skip)) (S.seq (iteS (andB (asB (relO .Eq (nmM 4) (cM (.int 4)))) (asB (relO .Gt (nmM 3) (cM (.int 0))))) (S.seq (S.of (binO .Add (binO .Add (sliceM (nmM 1) (partM none) (partM (some (binO .Sub (nmM 3) (cM (.int 1)))))) (lstM (consD (Dl.lk (ixO (nmM 1) (nmM 3))) (consD (Dl.lk (ixO (nmM 1) (binO .Sub (nmM 3) (cM (.int 1))))) (M.ret []))))) (sliceM (nmM 1) (partM (some (binO .Add (nmM 3) (cM (.int 1))))) (partM none))) (setIf 1)) (S.skip)) (S.skip)) (S.seq (iteS (asB (relO .Eq (nmM 4) (cM (.int 5)))) (S.seq (S.of (sliceM (nmM 1) (partM none) (partM (some (nmM 3)))) (setIf 1)) (S.skip)) (S.skip)) (mbC))))
def mbB : S := S.seq (S.of (binO .Add (binO .Add (sliceM (nmM 1) (partM none) (partM (some (nmM 3)))) (lstM (consD (Dl.lk (mtM "str" (cM (.str " ")) (consR (nmM 5) (M.ret [])) joinD)) (M.ret [])))) (sliceM (nmM 1) (partM (some (binO .Add (nmM 3) (cM (.int 1))))) (partM none))) (setIf 1)) (mbB2)
theorem mb_eq : S__law_mbent = S.seq (par2S 3 4 (valM (callF (consD (Dl.lk (nmM 0)) (consD (Dl.lk (callN (consR (nmM 1) (M.ret [])) lenD)) (M.ret []))) F__law_below)) (valM (callF (consD (Dl.lk (nmM 0)) (consD (Dl.lk (cM (.int 9))) (M.ret []))) F__law_below))) (S.seq (S.of (mtM "str" (ixO (nmM 1) (nmM 3)) (consR (cM (.str " ")) (M.ret [])) splitD) (setIf 5)) (S.seq (S.of (valM (callF (consD (Dl.lk (nmM 0)) (consD (Dl.lk (callN (consR (nmM 5) (M.ret [])) lenD)) (M.ret []))) F__law_below)) (setIf 6)) (S.seq (iteS (asB (relO .Eq (nmM 4) (cM (.int 0)))) (S.seq (S.of (binO .Add (sliceM (nmM 5) (partM none) (partM (some (nmM 6)))) (sliceM (nmM 5) (partM (some (binO .Add (nmM 6) (cM (.int 1))))) (partM none))) (setIf 5)) (S.skip)) (S.skip)) (S.seq (iteS (asB (relO .In (nmM 4) (tupM (consD (Dl.lk (cM (.int 1))) (consD (Dl.lk (cM (.int 8))) (M.ret [])))))) (S.seq (S.of (binO .Add (binO .Add (sliceM (nmM 5) (partM none) (partM (some (nmM 6)))) (lstM (consD (callF (consD (Dl.lk (nmM 0)) (consD (Dl.lk (binO .Add (nmM 2) (nmM 5))) (M.ret []))) F__law_pick) (M.ret [])))) (sliceM (nmM 5) (partM (some (binO .Add (nmM 6) (callN (consR (relO .Eq (nmM 4) (cM (.int 8))) (M.ret [])) intD)))) (partM none))) (setIf 5)) (S.skip)) (S.skip)) (mbB))))) := rfl
/-- one bent text -/
def lwBent : S := S.seq (S.of (valM (callF (consD (Dl.lk (nmM 1)) (consD (Dl.lk (nmM 5)) (consD (Dl.lk (lstM (consD (Dl.lk (cM (.str "words"))) (consD (Dl.lk (cM (.str "drop"))) (consD (Dl.lk (cM (.str "star"))) (consD (Dl.lk (cM (.str "both"))) (consD (Dl.lk (cM (.str "join"))) (consD (Dl.lk (cM (.str "-"))) (consD (Dl.lk (cM (.str "a"))) (consD (Dl.lk (cM (.str "b1"))) (consD (Dl.lk (cM (.str "aaaaa"))) (consD (Dl.lk (cM (.str "A"))) (consD (Dl.lk (cM (.str "1a"))) (consD (Dl.lk (cM (.str ""))) (consD (Dl.lk (cM (.str "zzzzzzzzz"))) (M.ret [])))))))))))))))) (M.ret [])))) F__law_mbent)) (setIf 9)) (S.seq (S.of (mtM "str" (nmM 9) (consR (cM (.str "\n")) (M.ret [])) splitD) (setIf 10)) (S.seq (S.of (lcM [12, 13] (enum1M (consD (Dl.lk (sliceM (nmM 10) (partM none) (partM (some (negM (cM (.int 1))))))) (M.ret []))) (sqG 2 (gsCons (setG 12) (gsCons (setG 13) (gsNil)))) (asB (relO .Is (valM (callF (consD (Dl.lk (nmM 13)) (M.ret [])) F__law_mread)) (cM .non))) (Dl.lk (binO .Add (nmM 12) (cM (.int 1))))) (setIf 11)) (S.seq (S.of (ixO (binO .Add (binO .Add (nmM 11) (iteV (asB (relO .NotEq (ixO (nmM 10) (negM (cM (.int 1)))) (cM (.str "")))) (lstM (consD (Dl.lk (callN (consR (nmM 10) (M.ret [])) lenD)) (M.ret []))) (lstM (M.ret [])))) (lstM (consD (Dl.lk (cM .non)) (M.ret [])))) (cM (.int 0))) (setIf 14)) (S.seq (iteS (notB (Dl.tru (valM (callF (consD (callF (consD (Dl.lk (nmM 9)) (M.ret [])) F_deeds_fault) (consD (Dl.lk (nmM 14)) (M.ret []))) (F__law_same 8))))) (S.seq (S.of (Dl.lk (cM (.bl false))) fun d es => some (.rt d es)) (S.skip)) (S.skip)) (S.seq (S.of (valM (catchM "told" K__law_mwords (callF (consD (Dl.lk (nmM 9)) (M.ret [])) F_read_deeds))) (setIf 8)) (S.seq (iteS (notB (Dl.tru (valM (callF (consD (Dl.lk (nmM 8)) (consD (Dl.lk (iteV (asB (relO .IsNot (nmM 14) (cM .non))) (tupM (consD (Dl.lk (cM (.str "text"))) (consD (Dl.lk (nmM 14)) (M.ret [])))) (tupM (consD (Dl.lk (cM (.str "told"))) (consD (Dl.lk (lcM [13] (seqM (Dl.lk (sliceM (nmM 10) (partM none) (partM (some (negM (cM (.int 1)))))))) (setG 13) (M.ret true) (callF (consD (Dl.lk (nmM 13)) (M.ret [])) F__law_mread))) (M.ret [])))))) (M.ret []))) (F__law_same 8))))) (S.seq (S.of (Dl.lk (cM (.bl false))) fun d es => some (.rt d es)) (S.skip)) (S.skip)) (S.skip)))))))
/-- one odd thing in a row -/
def lwOdd : S := S.seq (iteS (notB (Dl.tru (valM (callF (consD (catchM "told" K__law_mwords (callF (consD (Dl.lk (binO .Add (binO .Add (sliceM (nmM 3) (partM none) (partM (some (nmM 12)))) (lstM (consD (Dl.lk (nmM 16)) (M.ret [])))) (sliceM (nmM 3) (partM (some (nmM 12))) (partM none)))) (M.ret [])) F_deeds_text)) (consD (Dl.lk (tupM (consD (Dl.lk (cM (.str "deed"))) (consD (Dl.lk (nmM 12)) (M.ret []))))) (M.ret []))) (F__law_same 8))))) (S.seq (S.of (Dl.lk (cM (.bl false))) fun d es => some (.rt d es)) (S.skip)) (S.skip)) (S.skip)
/-- one odd thing -/
def lwNo : S := S.seq (S.of (lstM (consD (catchM "told" K__law_mwords (callF (consD (Dl.lk (nmM 16)) (M.ret [])) F_deeds_text)) (M.ret []))) (setIf 17)) (S.seq (S.of (apndM (nmM 17) (catchM "told" K__law_mwords (callF (consD (Dl.lk (lstM (consD (Dl.lk (nmM 16)) (M.ret [])))) (M.ret [])) F_read_deeds))) fun _ es => some (.nx es)) (S.seq (iteS (orB (notB (Dl.tru (valM (callF (consD (Dl.lk (nmM 17)) (consD (Dl.lk (lstM (consD (Dl.lk (tupM (consD (Dl.lk (cM (.str "deed"))) (consD (Dl.lk (cM (.int 0))) (M.ret []))))) (consD (Dl.lk (tupM (consD (Dl.lk (cM (.str "text"))) (consD (Dl.lk (cM (.int 0))) (M.ret []))))) (M.ret []))))) (M.ret []))) (F__law_same 8))))) (notB (Dl.tru (valM (callF (consD (callF (consD (Dl.lk (lstM (consD (Dl.lk (nmM 16)) (M.ret [])))) (M.ret [])) F_deeds_fault) (consD (Dl.lk (cM (.int 0))) (M.ret []))) (F__law_same 8)))))) (S.seq (S.of (Dl.lk (cM (.bl false))) fun d es => some (.rt d es)) (S.skip)) (S.skip)) (S.skip)))
def lwT4 : S := S.seq (S.of (seqM (Dl.lk (lstM (consD (Dl.lk (cM .non)) (consD (Dl.lk (cM (.int 5))) (consD (Dl.lk (cM (.str "ab"))) (consD (Dl.lk (M.ret (.fr (.dct false [] [])))) (M.ret [])))))))) fun ds => loopS (setG 16) (lwNo) ds) (S.skip)
def lwT3 : S := S.seq (S.of (lstM (consD (Dl.lk (cM .non)) (consD (Dl.lk (cM (.int 5))) (consD (Dl.lk (tupM (consD (Dl.lk (cM (.str "stop"))) (M.ret [])))) (consD (Dl.lk (tupM (consD (Dl.lk (cM (.str "words"))) (consD (Dl.lk (cM (.str "a"))) (M.ret []))))) (consD (Dl.lk (tupM (consD (Dl.lk (cM (.str "words"))) (consD (Dl.lk (cM (.str "A"))) (consD (Dl.lk (lstM (M.ret []))) (M.ret [])))))) (consD (Dl.lk (tupM (consD (Dl.lk (cM (.str "words"))) (consD (Dl.lk (cM (.str "a"))) (consD (Dl.lk (lstM (consD (Dl.lk (cM (.str "a"))) (consD (Dl.lk (cM (.str "a"))) (M.ret []))))) (M.ret [])))))) (consD (Dl.lk (tupM (consD (Dl.lk (cM (.str "words"))) (consD (Dl.lk (cM (.str "a"))) (consD (Dl.lk (lstM (consD (Dl.lk (cM (.str "aaaaa"))) (M.ret [])))) (M.ret [])))))) (M.ret []))))))))) (setIf 15)) (S.seq (S.of (binO .Add (nmM 15) (lstM (consD (Dl.lk (tupM (consD (Dl.lk (cM (.str "drop"))) (consD (Dl.lk (cM (.str "a_"))) (M.ret []))))) (consD (Dl.lk (tupM (consD (Dl.lk (cM (.str "star"))) (consD (Dl.lk (cM (.str "a"))) (M.ret []))))) (consD (Dl.lk (tupM (consD (Dl.lk (cM (.str "both"))) (consD (Dl.lk (cM (.str "a"))) (consD (Dl.lk (cM (.str "b"))) (M.ret [])))))) (consD (Dl.lk (tupM (consD (Dl.lk (cM (.str "words"))) (consD (Dl.lk (cM (.str "a"))) (consD (Dl.lk (lstM (consD (Dl.lk (cM (.str ""))) (consD (Dl.lk (cM (.str "a"))) (consD (Dl.lk (cM (.str "b"))) (consD (Dl.lk (cM (.str "aa"))) (consD (Dl.lk (cM (.str "ab"))) (consD (Dl.lk (cM (.str "ba"))) (consD (Dl.lk (cM (.str "bb"))) (M.ret [])))))))))) (M.ret [])))))) (M.ret []))))))) (setIf 15)) (S.seq (S.of (valM (callF (consD (Dl.lk (nmM 1)) (consD (Dl.lk (binO .Add (callN (consR (nmM 3) (M.ret [])) lenD) (cM (.int 1)))) (M.ret []))) F__law_below)) (setIf 12)) (S.seq (S.of (seqM (Dl.lk (nmM 15))) fun ds => loopS (setG 16) (lwOdd) ds) (lwT4))))
def lwT2 : S := S.seq (S.of (M.bind (consR (cM (.int 12)) (M.ret [])) fun rs => M.bind (peeks rs) fun ds => M.lift (Dl.rng1 ds)) fun ds => loopS (setG 4) (lwBent) ds) (lwT3)
def lwT1 : S := S.seq (unitS 8 [3, 5] 8 (catchM "told" K__law_mwords (callF (consD (Dl.lk (nmM 7)) (M.ret [])) F_read_deeds)) (orB (notB (Dl.tru (valM (callF (consD (Dl.lk (nmM 8)) (consD (Dl.lk (lstM (consD (Dl.lk (tupM (consD (Dl.lk (cM (.str "told"))) (consD (Dl.lk (nmM 7)) (M.ret []))))) (consD (Dl.lk (tupM (consD (Dl.lk (cM (.str "told"))) (consD (Dl.lk (nmM 3)) (M.ret []))))) (M.ret []))))) (M.ret []))) (F__law_same 8))))) (asB (relO .IsNot (valM (callF (consD (Dl.lk (nmM 7)) (M.ret [])) F_deeds_fault)) (cM .non)))) (F__law_is_once 8) (notB (Dl.tru (valM (callF (consD (callF (consD (Dl.lk (nmM 7)) (M.ret [])) F_read_deeds) (consD (Dl.lk (nmM 3)) (M.ret []))) (F__law_same 8)))))) (lwT2)
def lwTurn : S := S.seq (S.of (lcM [4] (M.bind (consR (binO .Add (cM (.int 1)) (valM (callF (consD (Dl.lk (nmM 1)) (consD (Dl.lk (cM (.int 9))) (M.ret []))) F__law_below))) (M.ret [])) fun rs => M.bind (peeks rs) fun ds => M.lift (Dl.rng1 ds)) (setG 4) (M.ret true) (callF (consD (Dl.lk (nmM 1)) (M.ret [])) F__law_mform)) (setIf 3)) (S.seq (S.of (lcM [6] (seqM (Dl.lk (nmM 3))) (setG 6) (M.ret true) (callF (consD (Dl.lk (nmM 6)) (M.ret [])) F__law_mline)) (setIf 5)) (S.seq (S.of (valM (callF (consD (Dl.lk (nmM 5)) (M.ret [])) F__law_mtext)) (setIf 7)) (S.seq (S.of (lstM (consD (catchM "told" K__law_mwords (callF (consD (callF (consD (Dl.lk (nmM 1)) (consD (Dl.lk (nmM 3)) (M.ret []))) (F__law_loose 8)) (M.ret [])) F_deeds_text)) (M.ret []))) (setIf 8)) (lwT1))))
def lwEnd : S := S.seq (S.of (lstM (consD (catchM "told" K__law_mwords (callF (consD (Dl.lk (lstM (M.ret []))) (M.ret [])) F_deeds_text)) (M.ret []))) (setIf 17)) (S.seq (S.of (apndM (nmM 17) (catchM "told" K__law_mwords (callF (consD (Dl.lk (cM (.str ""))) (M.ret [])) F_read_deeds))) fun _ es => some (.nx es)) (S.seq (S.of (callF (consD (Dl.lk (nmM 17)) (consD (Dl.lk (lstM (consD (Dl.lk (tupM (consD (Dl.lk (cM (.str "told"))) (consD (Dl.lk (cM (.str ""))) (M.ret []))))) (consD (Dl.lk (tupM (consD (Dl.lk (cM (.str "told"))) (consD (Dl.lk (lstM (M.ret []))) (M.ret []))))) (M.ret []))))) (M.ret []))) (F__law_same 8)) fun d es => some (.rt d es)) (S.skip)))
theorem law_eq : S_law = S.seq (S.of (M.bind (consR (cM (.int 4)) (M.ret [])) fun rs => M.bind (peeks rs) fun ds => M.lift (Dl.rng1 ds)) fun ds => loopS (setG 2) (lwTurn) ds) (lwEnd) := rfl
end K76
end
section
set_option Elab.async false
set_option linter.all false
set_option maxRecDepth 100000
set_option maxHeartbeats 4000000
/-! M76f: bent texts. -/
namespace K76
open PySem PySem.Spec PyProof.Rows L2 Dl
def signs : List Nat := [32, 10, 97, 98, 48, 49, 119, 45, 42, 9]
@[simp] theorem s_signs : Str.ofString " \nab01w-*\t" = T signs := by decide +kernel
@[simp] theorem sub_int (i j : Int) : binD .Sub (.int i) (.int j) = some (.fz (.int (i - j))) := rfl
theorem cutS_T (cs : List Nat) (a b : Option Int) : cutS (T cs) a b = T (cutL cs a b) := rfl
theorem cut_to {α : Type} (xs : List α) (n : Nat) : cutL xs none (some (n : Int)) = xs.take n := by
  unfold cutL
  rw [HT.sIx_none, HT.sIx_nat]
  simp
theorem cut_from {α : Type} (xs : List α) (n : Nat) : cutL xs (some (n : Int)) none = xs.drop n := by
  unfold cutL
  rw [HT.sIx_none, HT.sIx_nat]
  rcases Nat.le_total n xs.length with h | h
  · rw [Nat.min_eq_left h, List.take_of_length_le (by simp)]
  · rw [Nat.min_eq_right h, List.drop_of_length_le h, List.drop_of_length_le (Nat.le_refl _)]
    simp
theorem cut_to1 {α : Type} (xs : List α) (n : Nat) : cutL xs none (some ((n : Int) + 1)) = xs.take (n + 1) := cut_to xs (n + 1)
theorem cut_from1 {α : Type} (xs : List α) (n : Nat) : cutL xs (some ((n : Int) + 1)) none = xs.drop (n + 1) := cut_from xs (n + 1)
theorem cut_from2 {α : Type} (xs : List α) (n : Nat) : cutL xs (some ((n : Int) + 1 + 1)) none = xs.drop (n + 2) := cut_from xs (n + 2)
theorem cutL_mem {α : Type} {xs : List α} {a b : Option Int} {x : α} (h : x ∈ cutL xs a b) : x ∈ xs := List.mem_of_mem_drop (List.mem_of_mem_take h)
theorem join_ok {ws : List (List Nat)} (h : ∀ w ∈ ws, w.length ≤ 9 ∧ okT w = true) (hl : ws.length ≤ 9) : (joinC 32 ws).length ≤ 100 ∧ okT (joinC 32 ws) = true := by
  have h3 := joinC_len 32 ws
  have h4 := sum_le (fun w hw => (h w hw).1)
  refine ⟨by omega, okT_mem.mpr fun x hx => ?_⟩
  rcases joinC_mem hx with e | ⟨p, hp, e⟩
  · omega
  · exact okT_mem.mp (h p hp).2 x e
theorem txt_ok {ls : List (List Nat)} (h : ∀ l ∈ ls, l.length ≤ 100 ∧ okT l = true) (hl : ls.length ≤ 10) : (txt ls).length ≤ 1010 ∧ okT (txt ls) = true := by
  have h1 := txt_len ls (m := 100) fun l hl => (h l hl).1
  refine ⟨?_, okT_mem.mpr fun x hx => ?_⟩
  · unfold txt
    rw [← sum_flat]
    omega
  · unfold txt at hx
    obtain ⟨l, hm, hx⟩ := List.mem_flatten.mp hx
    obtain ⟨l0, hm0, rfl⟩ := List.mem_map.mp hm
    rcases List.mem_append.mp hx with hx | hx
    · exact okT_mem.mp (h l0 hm0).2 x hx
    · simp at hx; omega
theorem okT_app {a b : List Nat} (ha : okT a = true) (hb : okT b = true) : okT (a ++ b) = true := okT_mem.mpr fun x hx => by
  rcases List.mem_append.mp hx with h | h
  · exact okT_mem.mp ha x h
  · exact okT_mem.mp hb x h
theorem okT_cut {a : List Nat} {l h : Option Int} (ha : okT a = true) : okT (cutL a l h) = true := okT_mem.mpr fun x hx => okT_mem.mp ha x (cutL_mem hx)
theorem mb_c {k : Nat} {g : List Box} (hg : GI k g) (hk : k ≤ 100000) (ls : List (List Nat)) (l2 l5 l6 : Option LV) (a : Nat) (kd : Int) (h : ∀ l ∈ ls, l.length ≤ 100 ∧ okT l = true) (hl : ls.length ≤ 10) :
    ∃ bent es', mbC ⟨[some (.fz (.box 0)), some (.ow (.lst (ls.map tx))), l2, some (.fz (.int a)), some (.fz (.int kd)), l5, l6, none, none], g⟩ = some (.rt (tx bent) es') ∧ GI (k + 3) es'.g ∧ bent.length ≤ 9000 ∧ okT bent = true := by
  have hj := joinD_txt (ls := ls) (by omega) fun l hm => by have := (h l hm).1; omega
  obtain ⟨t1, t2⟩ := txt_ok h hl
  have lc : lcM [8] (seqM (Dl.lk (nmM 1))) (setG 8) (M.ret true) (Dl.lk (binO .Add (nmM 8) (cM (.str (T [10]))))) ⟨[some (.fz (.box 0)), some (.ow (.lst (ls.map tx))), l2, some (.fz (.int a)), some (.fz (.int kd)), l5, l6, none, none], g⟩ = some (.ok (.fr (.lst ((ls.map fun l => l ++ [10]).map tx))) ⟨backE [8] [some (.fz (.box 0)), some (.fz (.lst (ls.map tx))), l2, some (.fz (.int a)), some (.fz (.int kd)), l5, l6, none, none] [some (.fz (.box 0)), some (.fz (.lst (ls.map tx))), l2, some (.fz (.int a)), some (.fz (.int kd)), l5, l6, none, none], g⟩) := by
    rw [lcM_run (ds := ls.map tx) (es := ⟨[some (.fz (.box 0)), some (.fz (.lst (ls.map tx))), l2, some (.fz (.int a)), some (.fz (.int kd)), l5, l6, none, none], g⟩) (by simp) (fun _ => true) nl (by
      intro d hd
      obtain ⟨w, mw, rfl⟩ := List.mem_map.mp hd
      have := (h w mw).1
      simp [Dl.Same, nl, show w.length ≤ 16777215 by omega])]
    rw [List.filter_eq_self.mpr (fun _ _ => rfl), map_nl]
  generalize (ls.map fun l => l ++ [10]).map tx = zs at *
  generalize txt ls = t at *
  by_cases h6 : kd = 6
  · subst h6
    obtain ⟨p, g1, e1, hp, h1⟩ := r_below (m := t.length + 1) hg (by omega) (by omega) (by omega)
    obtain ⟨d, g2, hd, e2, h2⟩ := r_pick h1 (by omega) (signs.map sg) (by decide) (by decide)
    obtain ⟨q, g3, e3, hq, h3⟩ := r_below (m := 2) h2 (by omega) (by omega) (by omega)
    have hd2 : ∃ c, d = tx [c] ∧ c < 1114112 := by
      obtain ⟨c, hc, rfl⟩ := List.mem_map.mp hd
      have all : ∀ c ∈ signs, c < 1114112 := by decide
      exact ⟨c, rfl, all c hc⟩
    obtain ⟨c, rfl, hc⟩ := hd2
    have b1 := cutL_length t none (some (p : Int))
    have b2 := cutL_length t (some ((p : Int) + q)) none
    refine ⟨cutL t none (some (p : Int)) ++ [c] ++ cutL t (some ((p : Int) + q)) none, ⟨[some (.fz (.box 0)), some (.fz (.lst (ls.map tx))), l2, some (.fz (.int a)), some (.fz (.int 6)), l5, some (.fz (.int p)), some (.fz (tx t)), none], g3⟩, ?_, h3.mono (by omega), by simp; omega, okT_app (okT_app (okT_cut t2) (okT_mem.mpr (by simpa using hc))) (okT_cut t2)⟩
    simp at e1 e3
    simp [mbC, lc, backE_self, hj, e1, e2, e3, cutS_T, -List.append_assoc, show (cutL t none (some (p : Int))).length ≤ 16777215 by omega, show (cutL t none (some (p : Int))).length + 1 + (cutL t (some ((p : Int) + q)) none).length ≤ 16777216 by omega]
  · have h6' : ¬ (kd = 6) := h6
    have b1 := cutL_length t none (some ((t.length : Int) - 1))
    by_cases h7 : kd = 7
    · subst h7
      by_cases h9 : t = []
      · subst h9
        refine ⟨[], ⟨[some (.fz (.box 0)), some (.fz (.lst (ls.map tx))), l2, some (.fz (.int a)), some (.fz (.int 7)), l5, l6, some (.fz (tx [])), none], g⟩, ?_, hg.mono (by omega), by omega, t2⟩
        simp [mbC, lc, backE_self, hj, cutS_T]
      · refine ⟨cutL t none (some ((t.length : Int) - 1)), ⟨[some (.fz (.box 0)), some (.fz (.lst (ls.map tx))), l2, some (.fz (.int a)), some (.fz (.int 7)), l5, l6, some (.fz (tx t)), none], g⟩, ?_, hg.mono (by omega), by omega, okT_cut t2⟩
        simp [mbC, lc, backE_self, hj, h9, cutS_T]
    · refine ⟨t, ⟨[some (.fz (.box 0)), some (.fz (.lst (ls.map tx))), l2, some (.fz (.int a)), some (.fz (.int kd)), l5, l6, some (.fz (tx t)), none], g⟩, ?_, hg.mono (by omega), by omega, t2⟩
      simp [mbC, lc, backE_self, hj, h6', h7, cutS_T]
end K76
end
section
set_option Elab.async false
set_option linter.all false
set_option maxRecDepth 100000
set_option maxHeartbeats 4000000
/-! M76g: bent texts, all. -/
namespace K76
open PySem PySem.Spec PyProof.Rows L2 Dl
theorem add_txs (a b : List (List Nat)) : binD .Add (.lst (a.map tx)) (.lst (b.map tx)) = if a.length + b.length ≤ 16777216 then some (.fr (.lst ((a ++ b).map tx))) else none := by simp
theorem add_tx1 (a : List (List Nat)) (w : List Nat) : binD .Add (.lst (a.map tx)) (.lst [tx w]) = if a.length + 1 ≤ 16777216 then some (.fr (.lst ((a ++ [w]).map tx))) else none := by simp
theorem add_tx2 (a : List (List Nat)) (v w : List Nat) : binD .Add (.lst (a.map tx)) (.lst [tx v, tx w]) = if a.length + 2 ≤ 16777216 then some (.fr (.lst ((a ++ [v, w]).map tx))) else none := by simp
theorem cutm_to (xs : List (List Nat)) (n : Nat) : cutL (xs.map tx) none (some (n : Int)) = (xs.take n).map tx := by rw [cut_to, List.map_take]
theorem cutm_from (xs : List (List Nat)) (n : Nat) : cutL (xs.map tx) (some (n : Int)) none = (xs.drop n).map tx := by rw [cut_from, List.map_drop]
theorem cutm_to1 (xs : List (List Nat)) (n : Nat) : cutL (xs.map tx) none (some ((n : Int) + 1)) = (xs.take (n + 1)).map tx := by rw [cut_to1, List.map_take]
theorem cutm_from1 (xs : List (List Nat)) (n : Nat) : cutL (xs.map tx) (some ((n : Int) + 1)) none = (xs.drop (n + 1)).map tx := by rw [cut_from1, List.map_drop]
theorem cutm_from2 (xs : List (List Nat)) (n : Nat) : cutL (xs.map tx) (some ((n : Int) + 1 + 1)) none = (xs.drop (n + 2)).map tx := by rw [cut_from2, List.map_drop]
def PL (l : List Nat) : Prop := l.length ≤ 100 ∧ okT l = true
theorem mb_b2 {k : Nat} {g : List Box} (hg : GI k g) (hk : k ≤ 100000) (ls : List (List Nat)) (l2 l5 l6 : Option LV) (a : Nat) (kd : Int) (h : ∀ l ∈ ls, PL l) (hl : ls.length ≤ 9) (ha : a < ls.length) :
    ∃ bent es', mbB2 ⟨[some (.fz (.box 0)), some (.ow (.lst (ls.map tx))), l2, some (.fz (.int a)), some (.fz (.int kd)), l5, l6, none, none], g⟩ = some (.rt (tx bent) es') ∧ GI (k + 3) es'.g ∧ bent.length ≤ 9000 ∧ okT bent = true := by
  have ht : ∀ n, ∀ l ∈ ls.take n, PL l := fun n l hm => h l (List.mem_of_mem_take hm)
  have hd : ∀ n, ∀ l ∈ ls.drop n, PL l := fun n l hm => h l (List.mem_of_mem_drop hm)
  have app : ∀ xs ys : List (List Nat), (∀ l ∈ xs, PL l) → (∀ l ∈ ys, PL l) → ∀ l ∈ xs ++ ys, PL l := fun xs ys h1 h2 l hm => by
    rcases List.mem_append.mp hm with hm | hm
    · exact h1 l hm
    · exact h2 l hm
  have lt : ∀ n, (ls.take n).length ≤ ls.length := fun n => by simp; omega
  have ld : ∀ n, (ls.drop n).length ≤ ls.length := fun n => by simp
  by_cases h2 : kd = 2
  · subst h2
    obtain ⟨bent, es', e, q⟩ := mb_c hg hk (ls.take a ++ ls.drop (a + 1)) l2 l5 l6 a 2 (app _ _ (ht _) (hd _)) (by simp; omega)
    refine ⟨bent, es', ?_, q⟩
    simp [mbB2, -List.map_append, -List.map_take, -List.map_drop, -add_lst, cutm_to, cutm_from, cutm_to1, cutm_from1, add_txs, -List.length_take, -List.length_drop, show (ls.take a).length + (ls.drop (a + 1)).length ≤ 16777216 by have := lt a; have := ld (a + 1); omega, e]
  by_cases h3 : kd = 3
  · subst h3
    obtain ⟨bent, es', e, q⟩ := mb_c hg hk (ls.take (a + 1) ++ ls.drop a) l2 l5 l6 a 3 (app _ _ (ht _) (hd _)) (by simp; omega)
    refine ⟨bent, es', ?_, q⟩
    simp [mbB2, -List.map_append, -List.map_take, -List.map_drop, -add_lst, cutm_to, cutm_from, cutm_to1, cutm_from1, add_txs, -List.length_take, -List.length_drop, show (ls.take (a + 1)).length + (ls.drop a).length ≤ 16777216 by have := lt (a + 1); have := ld a; omega, e]
  by_cases h4 : kd = 4 ∧ 0 < a
  · obtain ⟨h4, ha0⟩ := h4
    subst h4
    obtain ⟨b, rfl⟩ : ∃ b, a = b + 1 := ⟨a - 1, by omega⟩
    obtain ⟨x, hx⟩ : ∃ x, ls[b + 1]? = some x := ⟨_, List.getElem?_eq_getElem ha⟩
    obtain ⟨y, hy⟩ : ∃ y, ls[b]? = some y := ⟨_, List.getElem?_eq_getElem (by omega)⟩
    obtain ⟨bent, es', e, q⟩ := mb_c hg hk (ls.take b ++ [x, y] ++ ls.drop (b + 2)) l2 l5 l6 (b + 1) 4 (app _ _ (app _ _ (ht _) (by simpa using ⟨h x (List.mem_of_getElem? hx), h y (List.mem_of_getElem? hy)⟩)) (hd _)) (by simp; omega)
    refine ⟨bent, es', ?_, q⟩
    have i1 : atI (ls.map tx) ((b : Int) + 1) = some (tx x) := by
      have := atI_at (ls.map tx) (b + 1)
      simp [hx] at this
      exact this
    have i2 : atI (ls.map tx) (b : Int) = some (tx y) := by
      have := atI_at (ls.map tx) b
      simp [hy] at this
      exact this
    simp [mbB2, -List.map_append, -List.map_take, -List.map_drop, -add_lst, cutm_to, cutm_from, cutm_to1, cutm_from1, cutm_from2, add_txs, add_tx2, i1, i2, -List.length_take, -List.length_drop, -List.append_assoc, show (ls.take b).length + 2 ≤ 16777216 by have := lt b; omega, show (ls.take b).length + 2 + (ls.drop (b + 2)).length ≤ 16777216 by have := lt b; have := ld (b + 2); omega, show (0 : Int) < b + 1 by omega, show (b : Int) + 1 - 1 = b by omega]
    exact e
  by_cases h5 : kd = 5
  · subst h5
    obtain ⟨bent, es', e, q⟩ := mb_c hg hk (ls.take a) l2 l5 l6 a 5 (ht _) (by simp; omega)
    refine ⟨bent, es', ?_, q⟩
    simp [mbB2, -List.map_append, -List.map_take, -List.map_drop, -add_lst, cutm_to, e]
  · obtain ⟨bent, es', e, q⟩ := mb_c hg hk ls l2 l5 l6 a kd h (by omega)
    refine ⟨bent, es', ?_, q⟩
    by_cases h6 : kd = 4
    · have ha : a = 0 := by
        by_cases ha : a = 0
        · exact ha
        · exact (h4 ⟨h6, by omega⟩).elim
      subst h6 ha
      simp at e
      simp [mbB2, e]
    · simp [mbB2, h2, h3, h5, h6, e]
theorem mb_b {k : Nat} {g : List Box} (hg : GI k g) (hk : k ≤ 100000) (ls ws : List (List Nat)) (l2 l6 : Option LV) (l5 : LV) (h5 : ∀ es, pkv (some (some l5)) es = some (.ok (.lst (ws.map tx)) es)) (a : Nat) (kd : Int) (h : ∀ l ∈ ls, PL l) (hl : ls.length ≤ 9) (ha : a < ls.length) (hw : ∀ w ∈ ws, w.length ≤ 9 ∧ okT w = true) (hwl : ws.length ≤ 9) :
    ∃ bent es', mbB ⟨[some (.fz (.box 0)), some (.fz (.lst (ls.map tx))), l2, some (.fz (.int a)), some (.fz (.int kd)), some l5, l6, none, none], g⟩ = some (.rt (tx bent) es') ∧ GI (k + 3) es'.g ∧ bent.length ≤ 9000 ∧ okT bent = true := by
  have hj := join_ok hw hwl
  have hs := sum_le fun w hm => (hw w hm).1
  have hjd := joinD_T (c := 32) (ys := ws) (by omega)
  have app : ∀ xs ys : List (List Nat), (∀ l ∈ xs, PL l) → (∀ l ∈ ys, PL l) → ∀ l ∈ xs ++ ys, PL l := fun xs ys h1 h2 l hm => by
    rcases List.mem_append.mp hm with hm | hm
    · exact h1 l hm
    · exact h2 l hm
  have lt : ∀ n, (ls.take n).length ≤ ls.length := fun n => by simp; omega
  have ld : ∀ n, (ls.drop n).length ≤ ls.length := fun n => by simp
  obtain ⟨bent, es', e, q⟩ := mb_b2 hg hk (ls.take a ++ [joinC 32 ws] ++ ls.drop (a + 1)) l2 (some l5) l6 a kd (app _ _ (app _ _ (fun l hm => h l (List.mem_of_mem_take hm)) (fun l hm => by simp at hm; subst hm; exact hj)) fun l hm => h l (List.mem_of_mem_drop hm)) (by simp; omega) (by simp; omega)
  refine ⟨bent, es', ?_, q⟩
  generalize hz : ws.map tx = zs at *
  simp [mbB, h5, hjd, -List.map_append, -List.map_take, -List.map_drop, -add_lst, cutm_to, cutm_from, cutm_to1, cutm_from1, add_txs, add_tx1, -List.length_take, -List.length_drop, -List.append_assoc, show (ls.take a).length + 1 ≤ 16777216 by have := lt a; omega, show (ls.take a).length + 1 + (ls.drop (a + 1)).length ≤ 16777216 by have := lt a; have := ld (a + 1); omega]
  exact e
theorem in_ints (i a b : Int) : inD (.int i) (.tup [.int a, .int b]) = some (decide (i = a) || decide (i = b)) := by
  have q : ∀ x y : Int, (x == y) = decide (y = x) := fun x y => by
    by_cases h : x = y
    · subst h; simp
    · have h' : ¬ y = x := fun e => h e.symm
      rw [decide_eq_false h']
      simpa using h
  simp [inD, flatD, eqF]
  rw [q, q]
/-- a bent text is a text -/
theorem r_mbent {k : Nat} {g : List Box} (hg : GI k g) (hk : k ≤ 90000) (ds : List Deed) (hd : ∀ e ∈ ds, e.ok) (h0 : 0 < ds.length) (hl : ds.length ≤ 9) (more : List (List Nat)) (hm : ∀ w ∈ more, w.length ≤ 9 ∧ okT w = true) (hml : more.length ≤ 100) :
    ∃ bent g', F__law_mbent [.box 0, .lst ((ds.map Deed.line).map tx), .lst (more.map tx)] g = some (.ok (tx bent) g') ∧ GI (k + 10) g' ∧ bent.length ≤ 9000 ∧ okT bent = true := by
  obtain ⟨a, g1, e1, ha, h1⟩ := r_below (m := ds.length) hg (by omega) h0 (by omega)
  obtain ⟨kd, g2, e2, hkd, h2⟩ := r_below (m := 9) h1 (by omega) (by omega) (by omega)
  obtain ⟨e, he⟩ : ∃ e, ds[a]? = some e := ⟨_, List.getElem?_eq_getElem ha⟩
  have hok := hd e (List.mem_of_getElem? he)
  have hln := Deed.line_ok hok
  have htk := Deed.toks_ok hok
  have hsp := splitD_T (c := 32) (by decide) (a := e.line) (by omega)
  rw [Deed.spl hok] at hsp
  have htl : 0 < e.toks.length := by cases e <;> simp [Deed.toks]
  obtain ⟨p, g3, e3, hp, h3⟩ := r_below (m := e.toks.length) h2 (by omega) htl (by omega)
  have hls : ∀ l ∈ ds.map Deed.line, PL l := fun l hm => by
    obtain ⟨x, hx, rfl⟩ := List.mem_map.mp hm
    have := Deed.line_ok (hd x hx)
    exact ⟨this.1, this.2.2⟩
  have hti : ∀ t ∈ e.toks, t.length ≤ 9 ∧ okT t = true := fun t ht => by
    have := htk.2 t ht
    exact ⟨by have := this.1; omega, this.2.2.2⟩
  have hat : (((ds.map Deed.line).map tx)[a]?) = some (tx e.line) := by simp [he]
  generalize hL : ds.map Deed.line = ls at *
  have hll : ls.length = ds.length := by rw [← hL]; simp
  have haL : atI (ls.map tx) (a : Int) = some (tx e.line) := by rw [atI_at]; exact hat
  generalize e.toks = ws at *
  simp at e1 e2 e3
  rw [← hll] at e1
  have wt : ∀ n, (ws.take n).length ≤ ws.length := fun n => by simp; omega
  have wd : ∀ n, (ws.drop n).length ≤ ws.length := fun n => by simp
  by_cases k0 : kd = 0
  · subst k0
    obtain ⟨bent, es', eb, q1, q2, q3⟩ := mb_b (k := k + 3) h3 (by omega) ls (ws.take p ++ ws.drop (p + 1)) (some (.fz (.lst (more.map tx)))) (some (.fz (.int p))) (.ow (.lst ((ws.take p ++ ws.drop (p + 1)).map tx))) (fun es => rfl) a 0 hls (by omega) (by omega) (fun w hm => by
      rcases List.mem_append.mp hm with hm | hm
      · exact hti w (List.mem_of_mem_take hm)
      · exact hti w (List.mem_of_mem_drop hm)) (by simp; omega)
    refine ⟨bent, es'.g, ?_, q1.mono (by omega), q2, q3⟩
    simp at e2
    simp [F__law_mbent, mb_eq, bodyF, startE, e1, e2, e3, haL, hsp, -List.map_append, -List.map_take, -List.map_drop, -add_lst, cutm_to, cutm_from, cutm_to1, cutm_from1, add_txs, -List.length_take, -List.length_drop, -List.append_assoc, in_ints, show (ws.take p).length + (ws.drop (p + 1)).length ≤ 16777216 by have := wt p; have := wd (p + 1); omega, eb]
  by_cases k1 : kd = 1 ∨ kd = 8
  · obtain ⟨d, g4, hdm, e4, h4⟩ := r_pick h3 (by omega) ((more ++ ws).map tx) (by simp; omega) (by simp; omega)
    obtain ⟨w, hw, rfl⟩ := List.mem_map.mp hdm
    have hw2 : w.length ≤ 9 ∧ okT w = true := by
      rcases List.mem_append.mp hw with hw | hw
      · exact hm w hw
      · exact hti w hw
    obtain ⟨bent, es', eb, q1, q2, q3⟩ := mb_b (k := k + 4) h4 (by omega) ls (ws.take p ++ [w] ++ ws.drop (p + if kd = 8 then 1 else 0)) (some (.fz (.lst (more.map tx)))) (some (.fz (.int p))) (.ow (.lst ((ws.take p ++ [w] ++ ws.drop (p + if kd = 8 then 1 else 0)).map tx))) (fun es => rfl) a kd hls (by omega) (by omega) (fun x hm => by
      rcases List.mem_append.mp hm with hm | hm
      · rcases List.mem_append.mp hm with hm | hm
        · exact hti x (List.mem_of_mem_take hm)
        · simp at hm; subst hm; exact hw2
      · exact hti x (List.mem_of_mem_drop hm)) (by simp; omega)
    refine ⟨bent, es'.g, ?_, q1.mono (by omega), q2, q3⟩
    rcases k1 with k1 | k1
    · subst k1
      simp at e2
      simp [F__law_mbent, mb_eq, bodyF, startE, e1, e2, e3, haL, hsp, -List.map_append, -List.map_take, -List.map_drop, -add_lst, cutm_to, cutm_from, cutm_to1, cutm_from1, add_txs, add_tx1, -List.length_take, -List.length_drop, -List.append_assoc, in_ints, show (more.length + ws.length ≤ 16777216) by omega, e4, show (ws.take p).length + 1 ≤ 16777216 by have := wt p; omega, show (ws.take p).length + 1 + (ws.drop p).length ≤ 16777216 by have := wt p; have := wd p; omega]
      exact congrArg (fun r => Option.bind r toFR) eb
    · subst k1
      simp at e2
      simp [F__law_mbent, mb_eq, bodyF, startE, e1, e2, e3, haL, hsp, -List.map_append, -List.map_take, -List.map_drop, -add_lst, cutm_to, cutm_from, cutm_to1, cutm_from1, add_txs, add_tx1, -List.length_take, -List.length_drop, -List.append_assoc, in_ints, show (more.length + ws.length ≤ 16777216) by omega, e4, show (ws.take p).length + 1 ≤ 16777216 by have := wt p; omega, show (ws.take p).length + 1 + (ws.drop (p + 1)).length ≤ 16777216 by have := wt p; have := wd (p + 1); omega]
      exact congrArg (fun r => Option.bind r toFR) eb
  · obtain ⟨bent, es', eb, q1, q2, q3⟩ := mb_b (k := k + 3) h3 (by omega) ls ws (some (.fz (.lst (more.map tx)))) (some (.fz (.int p))) (.ow (.lst (ws.map tx))) (fun es => rfl) a kd hls (by omega) (by omega) hti (by omega)
    refine ⟨bent, es'.g, ?_, q1.mono (by omega), q2, q3⟩
    simp [F__law_mbent, mb_eq, bodyF, startE, e1, e2, e3, haL, hsp, in_ints, k0, show ¬ (kd : Int) = 1 by omega, show ¬ (kd : Int) = 8 by omega, show ¬ kd = 1 by omega, show ¬ kd = 8 by omega, eb]
end K76
end
section
set_option Elab.async false
set_option linter.all false
set_option maxRecDepth 100000
set_option maxHeartbeats 4000000
/-! M76h: the law's looks at what is told. -/
namespace K76
open PySem PySem.Spec PyProof.Rows L2 Dl
/-- data that is equal to itself by the law's look -/
def smD : Nat → D → Bool
  | 0, _ => false
  | _ + 1, .non => true
  | _ + 1, .int _ => true
  | _ + 1, .str _ => true
  | n + 1, .lst xs => xs.all (smD n)
  | n + 1, .tup xs => xs.all (smD n)
  | _ + 1, _ => false
theorem zip_run (k : M (List D)) (es : ES) : zipM k es = rb (k es) fun ds => M.lift (match ds with | [d, d'] => (seqLT d).bind fun as => (seqLT d').map fun bs => zipD as bs | _ => none) := rfl
theorem zipD_self (xs : List D) : zipD xs xs = xs.map fun x => .tup [x, x] := by
  unfold zipD
  induction xs with
  | nil => rfl
  | cons x xs ih => simp at ih ⊢; exact ih
theorem bools_true {α : Type} (l : List α) : bools (l.map fun _ => D.bl true) = some (l.map fun _ => true) := by
  induction l with
  | nil => rfl
  | cons x xs ih => simp [bools, ih]
theorem all_true {α : Type} (l : List α) : allD (fun bs => bs.all id) [.lst (l.map fun _ => D.bl true)] = some (.fz (.bl true)) := by
  simp [allD, bools_true]
theorem same_seq (b : Bool) (n : Nat) (xs : List D) (g : List Box) (h : ∀ x ∈ xs, F__law_same n [x, x] g = some (.ok (.bl true) g)) : F__law_same (n + 1) [seqO b xs, seqO b xs] g = some (.ok (.bl true) g) := by
  have lc : lcM [2, 3] (zipM (consD (Dl.lk (nmM 0)) (consD (Dl.lk (nmM 1)) (M.ret [])))) (sqG 2 (gsCons (setG 2) (gsCons (setG 3) (gsNil)))) (M.ret true) (callF (consD (Dl.lk (nmM 2)) (consD (Dl.lk (nmM 3)) (M.ret []))) (F__law_same n)) ⟨[some (.fz (seqO b xs)), some (.fz (seqO b xs)), none, none], g⟩
      = some (.ok (.fr (.lst ((xs.map fun x => D.tup [x, x]).map fun _ => D.bl true))) ⟨[some (.fz (seqO b xs)), some (.fz (seqO b xs)), none, none], g⟩) := by
    rw [lcM_run0 (xs.map fun x => .tup [x, x]) (fun _ => true) (fun _ => .bl true) (by cases b <;> simp [zip_run, seqO, seqLT, zipD_self]) (by
      intro d hd
      obtain ⟨x, hx, rfl⟩ := List.mem_map.mp hd
      have := h x hx
      simp [Dl.Same, sqG, gsCons, this])]
    rw [List.filter_eq_self.mpr (fun _ _ => rfl)]
    simp [backE_self]
  have ha := all_true (xs.map fun x => D.tup [x, x])
  generalize hz : (xs.map fun x => D.tup [x, x]).map (fun _ => D.bl true) = zs at *
  cases b <;> simp [seqO] at lc <;> simp [F__law_same, S__law_same, bodyF, startE, seqO, subTy, lc, ha]
theorem r_same : ∀ (n : Nat) (d : D) (g : List Box), smD n d = true → F__law_same n [d, d] g = some (.ok (.bl true) g)
  | 0, _, _, h => by cases h
  | n + 1, .non, g, _ => by simp [F__law_same, S__law_same, bodyF, startE, subTy]
  | n + 1, .int i, g, _ => by simp [F__law_same, S__law_same, bodyF, startE, subTy]
  | n + 1, .str i, g, _ => by simp [F__law_same, S__law_same, bodyF, startE, subTy]
  | n + 1, .lst xs, g, h => same_seq true n xs g fun x hx => r_same n x g (List.all_eq_true.mp h x hx)
  | n + 1, .tup xs, g, h => same_seq false n xs g fun x hx => r_same n x g (List.all_eq_true.mp h x hx)
  | n + 1, .bl _, _, h => by cases h
  | n + 1, .dct _ _ _, _, h => by cases h
  | n + 1, .ins _ _ _, _, h => by cases h
  | n + 1, .box _, _, h => by cases h
theorem smD_mono : ∀ {n m : Nat} {d : D}, n ≤ m → smD n d = true → smD m d = true
  | 0, _, _, _, h => by cases h
  | n + 1, 0, _, hm, _ => by omega
  | n + 1, m + 1, .non, _, _ => rfl
  | n + 1, m + 1, .int _, _, _ => rfl
  | n + 1, m + 1, .str _, _, _ => rfl
  | n + 1, m + 1, .lst xs, hm, h => List.all_eq_true.mpr fun x hx => smD_mono (by omega) (List.all_eq_true.mp h x hx)
  | n + 1, m + 1, .tup xs, hm, h => List.all_eq_true.mpr fun x hx => smD_mono (by omega) (List.all_eq_true.mp h x hx)
  | n + 1, m + 1, .bl _, _, h => by cases h
  | n + 1, m + 1, .dct _ _ _, _, h => by cases h
  | n + 1, m + 1, .ins _ _ _, _, h => by cases h
  | n + 1, m + 1, .box _, _, h => by cases h
/-! ### just once -/
def late : List Nat := [76, 65, 84, 69]
@[simp] theorem s_LATE : Str.ofString "LATE" = T late := by decide +kernel
/-- tuples and texts, none the word -/
def clean : Nat → D → Bool
  | 0, _ => false
  | _ + 1, .str x => okT x.cps.toList && decide (x.cps.toList ≠ late)
  | n + 1, .tup xs => xs.all (clean n)
  | _ + 1, _ => false
theorem clean_ok : ∀ {n : Nat} {d : D}, clean n d = true → okD n d = true ∧ nbD d = true ∧ lateD d = d ∧ smD n d = true ∧ PF d = true ∧ depD d ≤ n
  | 0, _, h => by cases h
  | n + 1, .str x, h => by
    unfold clean at h
    rw [Bool.and_eq_true] at h
    refine ⟨?_, rfl, rfl, rfl, rfl, by simp [depD]⟩
    rw [T_eta x]
    exact okD_T h.1
  | n + 1, .tup xs, h => by
    have q : ∀ x ∈ xs, clean n x = true := List.all_eq_true.mp h
    have r : ∀ x ∈ xs, _ := fun x hx => clean_ok (q x hx)
    have e1 : ∀ {ys : List D}, (∀ x ∈ ys, lateD x = x) → lateDs ys = ys := by
      intro ys
      induction ys with
      | nil => intro _; rfl
      | cons y ys ih => intro h; rw [lateDs, h y (by simp), ih fun x hx => h x (by simp [hx])]
    have e2 : ∀ {ys : List D}, (∀ x ∈ ys, PF x = true) → PFs ys = true := by
      intro ys
      induction ys with
      | nil => intro _; rfl
      | cons y ys ih => intro h; rw [PFs, h y (by simp), ih fun x hx => h x (by simp [hx])]; rfl
    have e3 : ∀ {ys : List D}, (∀ x ∈ ys, depD x ≤ n) → depDs ys ≤ n := by
      intro ys
      induction ys with
      | nil => intro _; simp [depDs]
      | cons y ys ih => intro h; have := h y (by simp); have := ih fun x hx => h x (by simp [hx]); rw [depDs]; omega
    refine ⟨?_, ?_, ?_, List.all_eq_true.mpr fun x hx => (r x hx).2.2.2.1, ?_, ?_⟩
    · simp only [okD]; exact okDs_iff.mpr fun x hx => (r x hx).1
    · simp only [nbD]; exact nbDs_iff.mpr fun x hx => (r x hx).2.1
    · rw [lateD, e1 fun x hx => (r x hx).2.2.1]
    · rw [PF, e2 fun x hx => (r x hx).2.2.2.2.1]
    · rw [depD]; have := e3 fun x hx => (r x hx).2.2.2.2.2; omega
  | n + 1, .non, h => by cases h
  | n + 1, .int _, h => by cases h
  | n + 1, .lst _, h => by cases h
  | n + 1, .bl _, h => by cases h
  | n + 1, .dct _ _ _, h => by cases h
  | n + 1, .ins _ _ _, h => by cases h
  | n + 1, .box _, h => by cases h
theorem countP_eqv {y : D} {p : PyData} (hy : nbD y = true) (hp : toPD y = some p) : ∀ {xs : List D} {ps : List PyData}, nbDs xs = true → toPDs xs = some ps → (ps.countP fun z => PyData.eqv z p) = xs.countP fun z => beqD z y
  | [], ps, _, e => by simp [toPDs] at e; subst e; rfl
  | x :: xs, ps, h, e => by
    simp only [nbDs, Bool.and_eq_true] at h
    simp only [toPDs] at e
    cases e1 : toPD x with
    | none => rw [e1] at e; cases e
    | some q =>
      rw [e1] at e
      simp only [Option.bind_some, Option.map_eq_some_iff] at e
      obtain ⟨qs, e2, rfl⟩ := e
      rw [List.countP_cons, List.countP_cons, countP_eqv hy hp h.2 e2, eqv_beq x y q p h.1 hy e1 hp]
theorem count_D {n : Nat} {xs : List D} {y : D} (hx : okDs n xs = true) (hn : n ≤ 59) (bx : nbDs xs = true) (hy : okD n y = true) (by_ : nbD y = true) : countD (.lst xs) [y] = some (.fz (.int (xs.countP fun z => beqD z y : Nat))) := by
  obtain ⟨ps, e1, c1, d1⟩ := okDs_pd n xs hx
  obtain ⟨p, e2, s2⟩ := okD_shaped hy (by omega)
  have s1 : SeqAt.shaped (.list ps) = true := by
    obtain ⟨q, e3, s3⟩ := okD_shaped (n := n + 1) (d := .lst xs) (by simpa [okD] using hx) (by omega)
    simp only [toPD, e1, Option.map_some, Option.some.injEq] at e3
    subst e3
    exact s3
  unfold countD
  simp only [e1, e2, Option.bind_some, s1, s2, Bool.and_self, if_true]
  rw [countP_eqv by_ e2 bx e1]
theorem once_seq (b : Bool) (i n : Nat) (xs : List D) (g : List Box) (hx : okDs n xs = true) (hn : n ≤ 59) (bx : nbDs xs = true) (h : ∀ x ∈ xs, F__law_is_once i [x] g = some (.ok (.bl true) g)) (hc : (xs.countP fun z => beqD z (tx late)) = if b then 1 else 0) : F__law_is_once (i + 1) [seqO b xs] g = some (.ok (.bl true) g) := by
  have lc : lcM [3] (seqM (Dl.lk (nmM 0))) (setG 3) (M.ret true) (callF (consD (Dl.lk (nmM 3)) (M.ret [])) (F__law_is_once i)) ⟨[some (.fz (seqO b xs)), none, some (.fz (.int (if b then 1 else 0))), none], g⟩
      = some (.ok (.fr (.lst (xs.map fun _ => D.bl true))) ⟨[some (.fz (seqO b xs)), none, some (.fz (.int (if b then 1 else 0))), none], g⟩) := by
    rw [lcM_run0 xs (fun _ => true) (fun _ => .bl true) (by cases b <;> simp [seqO]) (by
      intro d hd
      have := h d hd
      simp [Dl.Same, this])]
    rw [List.filter_eq_self.mpr (fun _ _ => rfl)]
    simp [backE_self]
  have ha := all_true xs
  have hcd := count_D hx hn bx (y := tx late) (okD_T (by decide)) rfl
  rw [hc] at hcd
  generalize hz : (xs.map fun _ => D.bl true) = zs at *
  cases b <;> simp [seqO] at lc hcd <;> simp [F__law_is_once, S__law_is_once, bodyF, startE, seqO, subTy, lc, ha, hcd]
theorem once_str (i : Nat) (x : Str) (g : List Box) : F__law_is_once (i + 1) [.str x] g = some (.ok (.bl true) g) := by
  simp [F__law_is_once, S__law_is_once, bodyF, startE, subTy]
theorem clean_no {n : Nat} {d : D} (h : clean n d = true) : beqD d (tx late) = false := by
  cases n with
  | zero => cases h
  | succ n =>
    cases d with
    | str x =>
      unfold clean at h
      simp only [Bool.and_eq_true, decide_eq_true_eq] at h
      rw [T_eta x]
      simp [beqD]
      exact h.2
    | _ => first | rfl | cases h
theorem r_once : ∀ (n i : Nat) (d : D) (g : List Box), n ≤ 50 → clean n d = true → F__law_is_once (i + n) [d] g = some (.ok (.bl true) g)
  | 0, _, _, _, _, h => by cases h
  | n + 1, i, .str x, g, _, _ => once_str (i + n) x g
  | n + 1, i, .tup xs, g, hn, h => by
    have q : ∀ x ∈ xs, clean n x = true := List.all_eq_true.mp h
    refine once_seq false (i + n) n xs g (okDs_iff.mpr fun x hx => (clean_ok (q x hx)).1) (by omega) (nbDs_iff.mpr fun x hx => (clean_ok (q x hx)).2.1) (fun x hx => r_once n i x g (by omega) (q x hx)) ?_
    simp only [Bool.false_eq_true, if_false, List.countP_eq_zero]
    intro x hx
    rw [clean_no (q x hx)]
    decide
  | n + 1, _, .non, _, _, h => by cases h
  | n + 1, _, .int _, _, _, h => by cases h
  | n + 1, _, .lst _, _, _, h => by cases h
  | n + 1, _, .bl _, _, _, h => by cases h
  | n + 1, _, .dct _ _ _, _, _, h => by cases h
  | n + 1, _, .ins _ _ _, _, _, h => by cases h
  | n + 1, _, .box _, _, _, h => by cases h
theorem tok_clean {n : Nat} {t : List Nat} (ho : okT t = true) (h : 76 ∉ t) : clean (n + 1) (tx t) = true := by
  simp only [clean, ho, Bool.true_and, decide_eq_true_eq]
  intro e
  have : t = late := e
  subst this
  exact h (by decide)
theorem name_clean {n : Nat} {t : List Nat} (h : nameB t = true) : clean (n + 1) (tx t) = true := by
  refine tok_clean (name_no h).2.2.2 fun hm => ?_
  unfold nameB at h
  simp only [Bool.and_eq_true, decide_eq_true_eq] at h
  have := of_decide_eq_true (List.all_eq_true.mp h.2.2.2 76 hm)
  revert this
  decide
theorem word_clean {n : Nat} {t : List Nat} (h : wordB t = true) : clean (n + 1) (tx t) = true := by
  refine tok_clean (wordB_ok h) fun hm => ?_
  unfold wordB at h
  simp only [Bool.and_eq_true, decide_eq_true_eq] at h
  have := of_decide_eq_true (List.all_eq_true.mp h.2 76 hm)
  revert this
  decide
theorem tup_clean {n : Nat} {xs : List D} (h : ∀ x ∈ xs, clean n x = true) : clean (n + 1) (.tup xs) = true := List.all_eq_true.mpr h
theorem Deed.clean {e : Deed} (h : e.ok) : K76.clean 3 e.d = true := by
  have c1 : K76.clean 2 (tx cWords) = true := by decide
  have c2 : K76.clean 2 (tx cDrop) = true := by decide
  have c3 : K76.clean 2 (tx cStar) = true := by decide
  have c4 : K76.clean 2 (tx cBoth) = true := by decide
  have c5 : K76.clean 2 (tx cJoin) = true := by decide
  cases e with
  | words n ws =>
    obtain ⟨h1, h2, h3, h4⟩ := h
    simp only [Deed.d, K76.clean, List.all_cons, List.all_nil, Bool.and_true]
    refine Bool.and_eq_true_iff.mpr ⟨c1, Bool.and_eq_true_iff.mpr ⟨name_clean (n := 1) h1, List.all_eq_true.mpr fun x hx => ?_⟩⟩
    obtain ⟨w, hw, rfl⟩ := List.mem_map.mp hx
    exact word_clean (n := 0) (h3 w hw)
  | drop n =>
    refine tup_clean fun x hx => ?_
    simp only [List.mem_cons, List.not_mem_nil, or_false] at hx
    rcases hx with rfl | rfl
    · exact c2
    · exact name_clean (n := 1) h
  | star n m =>
    refine tup_clean fun x hx => ?_
    simp only [List.mem_cons, List.not_mem_nil, or_false] at hx
    rcases hx with rfl | rfl | rfl
    · exact c3
    · exact name_clean (n := 1) h.1
    · exact name_clean (n := 1) h.2
  | both n m k =>
    refine tup_clean fun x hx => ?_
    simp only [List.mem_cons, List.not_mem_nil, or_false] at hx
    rcases hx with rfl | rfl | rfl | rfl
    · exact c4
    · exact name_clean (n := 1) h.1
    · exact name_clean (n := 1) h.2.1
    · exact name_clean (n := 1) h.2.2
  | join n m k =>
    refine tup_clean fun x hx => ?_
    simp only [List.mem_cons, List.not_mem_nil, or_false] at hx
    rcases hx with rfl | rfl | rfl | rfl
    · exact c5
    · exact name_clean (n := 1) h.1
    · exact name_clean (n := 1) h.2.1
    · exact name_clean (n := 1) h.2.2
theorem lateDs_id : ∀ {ys : List D}, (∀ x ∈ ys, lateD x = x) → lateDs ys = ys
  | [], _ => rfl
  | y :: ys, h => by rw [lateDs, h y (by simp), lateDs_id fun x hx => h x (by simp [hx])]
/-- the list of read deeds stands once -/
theorem once_deeds {ds : List D} (h : ∀ d ∈ ds, clean 3 d = true) (g : List Box) : F__law_is_once 8 [lateD (.lst [.lst ds])] g = some (.ok (.bl true) g) := by
  have e : lateD (.lst [.lst ds]) = seqO true [seqO true (ds ++ [tx late]), tx late] := by
    rw [lateD, lateDs, lateD, lateDs_id fun d hd => (clean_ok (h d hd)).2.2.1]
    simp [seqO, lateDs]
  rw [e]
  have k1 : okDs 3 (ds ++ [tx late]) = true := okDs_iff.mpr fun x hx => by
    rcases List.mem_append.mp hx with hx | hx
    · exact (clean_ok (h x hx)).1
    · simp at hx; subst hx; exact okD_T (by decide)
  have k2 : nbDs (ds ++ [tx late]) = true := nbDs_iff.mpr fun x hx => by
    rcases List.mem_append.mp hx with hx | hx
    · exact (clean_ok (h x hx)).2.1
    · simp at hx; subst hx; rfl
  refine once_seq true 7 4 _ g (okDs_iff.mpr fun x hx => ?_) (by decide) (nbDs_iff.mpr fun x hx => ?_) (fun x hx => ?_) ?_
  · simp at hx
    rcases hx with rfl | rfl
    · simpa [seqO, okD] using k1
    · exact okD_T (by decide)
  · simp at hx
    rcases hx with rfl | rfl
    · simpa [seqO, nbD] using k2
    · rfl
  · simp at hx
    rcases hx with rfl | rfl
    · refine once_seq true 6 3 _ g k1 (by decide) k2 (fun x hx => ?_) ?_
      · rcases List.mem_append.mp hx with hx | hx
        · exact r_once 3 3 x g (by decide) (h x hx)
        · simp at hx; subst hx; exact once_str 5 _ g
      · rw [List.countP_append]
        have : (ds.countP fun z => beqD z (tx late)) = 0 := List.countP_eq_zero.mpr fun x hx => by rw [clean_no (h x hx)]; decide
        rw [this]
        decide
    · exact once_str 6 _ g
  · rfl
end K76
end
section
set_option Elab.async false
set_option linter.all false
set_option maxRecDepth 100000
set_option maxHeartbeats 4000000
/-! M76i: the law's bent texts. -/
namespace K76
open PySem PySem.Spec PyProof.Rows L2 Dl
/-- the law's frame: the deeds and their lines stand -/
def FrD (ds : List Deed) (k : Nat) (es : ES) : Prop := ∃ l0 l2 l4 l6 l7 l8 l9 l10 l11 l12 l13 l14 l15 l16 l17 g, es = ⟨[l0, some (.fz (.box 0)), l2, some (.fz (.lst (ds.map Deed.d))), l4, some (.fz (.lst ((ds.map Deed.line).map tx))), l6, l7, l8, l9, l10, l11, l12, l13, l14, l15, l16, l17], g⟩ ∧ GI k g
/-- .. only the draws stand -/
def Fr0 (k : Nat) (es : ES) : Prop := ∃ l0 l2 l3 l4 l5 l6 l7 l8 l9 l10 l11 l12 l13 l14 l15 l16 l17 g, es = ⟨[l0, some (.fz (.box 0)), l2, l3, l4, l5, l6, l7, l8, l9, l10, l11, l12, l13, l14, l15, l16, l17], g⟩ ∧ GI k g
theorem FrD.fr0 {ds : List Deed} {k : Nat} {es : ES} (h : FrD ds k es) : Fr0 k es := by
  obtain ⟨l0, l2, l4, l6, l7, l8, l9, l10, l11, l12, l13, l14, l15, l16, l17, g, rfl, hg⟩ := h
  exact ⟨_, _, _, _, _, _, _, _, _, _, _, _, _, _, _, _, _, g, rfl, hg⟩
theorem FrD.mono {ds : List Deed} {k l : Nat} {es : ES} (h : FrD ds k es) (hl : k ≤ l) : FrD ds l es := by
  obtain ⟨l0, l2, l4, l6, l7, l8, l9, l10, l11, l12, l13, l14, l15, l16, l17, g, rfl, hg⟩ := h
  exact ⟨_, _, _, _, _, _, _, _, _, _, _, _, _, _, _, g, rfl, hg.mono hl⟩
theorem Fr0.mono {k l : Nat} {es : ES} (h : Fr0 k es) (hl : k ≤ l) : Fr0 l es := by
  obtain ⟨l0, l2, l3, l4, l5, l6, l7, l8, l9, l10, l11, l12, l13, l14, l15, l16, l17, g, rfl, hg⟩ := h
  exact ⟨_, _, _, _, _, _, _, _, _, _, _, _, _, _, _, _, _, g, rfl, hg.mono hl⟩
@[simp] theorem enum1_run (k : M (List D)) (es : ES) : enum1M k es = rb (k es) fun ds => M.lift (match ds with | [d] => (seqLT d).map (enumD 0) | _ => none) := rfl
def noT (d : D) : Bool := match d with
  | .tup [_, .str x] => isNo (readL x.cps.toList)
  | _ => false
def noN (d : D) : D := match d with
  | .tup [.int i, _] => .int (i + 1)
  | d => d
theorem first_no : ∀ (ls : List (List Nat)) (j : Int), (((enumD j (ls.map tx)).filter noT).map noN).head? = (ls.findIdx? fun l => isNo (readL l)).map fun i => D.int (j + 1 + (i : Nat))
  | [], j => rfl
  | l :: ls, j => by
    rw [List.map_cons, enumD_cons, List.findIdx?_cons]
    by_cases h : isNo (readL l) = true
    · rw [if_pos h, List.filter_cons_of_pos (by simpa [noT] using h)]
      simp [noN]
    · rw [if_neg h, List.filter_cons_of_neg (by simpa [noT] using h), first_no ls (j + 1)]
      cases ls.findIdx? (fun l => isNo (readL l)) with
      | none => rfl
      | some i => simp; omega
theorem due_head (cs : List Nat) : (((enumD 0 ((splC 10 cs).dropLast.map tx)).filter noT).map noN ++ (if (splC 10 cs).getLast? = some [] then [] else [D.int (splC 10 cs).length]) ++ [D.non])[0]? = some (due cs) := by
  have h := first_no (splC 10 cs).dropLast 0
  unfold due
  generalize ((enumD 0 ((splC 10 cs).dropLast.map tx)).filter noT).map noN = zs at *
  cases q : (splC 10 cs).dropLast.findIdx? (fun l => isNo (readL l)) with
  | some i =>
    rw [q] at h
    cases zs with
    | nil => cases h
    | cons z zs => simp at h; simp [h]
  | none =>
    rw [q] at h
    cases zs with
    | cons z zs => simp at h
    | nil => by_cases hl : (splC 10 cs).getLast? = some [] <;> simp [hl]
theorem due_sm (cs : List Nat) : smD 8 (due cs) = true := by
  rcases due_ty cs with h | ⟨i, h⟩ <;> rw [h] <;> rfl
theorem txs_sm {n : Nat} {ws : List (List Nat)} : (ws.map tx).all (smD (n + 1)) = true := List.all_eq_true.mpr fun x hx => by
  obtain ⟨w, _, rfl⟩ := List.mem_map.mp hx
  rfl
theorem plainT_sm (ws : List (List Nat)) : smD 3 (plainT ws) = true := by
  unfold plainT
  split <;> (try split) <;> first | rfl | exact txs_sm (n := 1)
theorem readL_sm (l : List Nat) : smD 3 (readL l) = true := by
  unfold readL
  split
  · rfl
  · split
    · split
      · rfl
      · split
        · simp only [smD, List.all_cons, List.all_nil, Bool.and_true, Bool.true_and]
          exact txs_sm (n := 0)
        · rfl
    · exact plainT_sm _
theorem deeds_sm (cs : List Nat) : smD 8 (.tup [tx [116, 111, 108, 100], .lst (deedsOf cs)]) = true := by
  have h : (deedsOf cs).all (smD 6) = true := List.all_eq_true.mpr fun x hx => by
    obtain ⟨l, _, rfl⟩ := List.mem_map.mp hx
    exact smD_mono (by decide) (readL_sm l)
  simp [smD]
  simpa using h
theorem due_sm2 (cs : List Nat) : smD 8 (.tup [tx [116, 101, 120, 116], due cs]) = true := by
  rcases due_ty cs with h | ⟨i, h⟩ <;> rw [h] <;> rfl
@[simp] theorem s_told : Str.ofString "told" = T [116, 111, 108, 100] := by decide +kernel
@[simp] theorem s_text : Str.ofString "text" = T [116, 101, 120, 116] := by decide +kernel
@[simp] theorem s_deed : Str.ofString "deed" = T [100, 101, 101, 100] := by decide +kernel
@[simp] theorem s_aaaaa : Str.ofString "aaaaa" = T [97, 97, 97, 97, 97] := by decide +kernel
@[simp] theorem s_A : Str.ofString "A" = T [65] := by decide +kernel
@[simp] theorem s_1a : Str.ofString "1a" = T [49, 97] := by decide +kernel
@[simp] theorem s_z9 : Str.ofString "zzzzzzzzz" = T [122, 122, 122, 122, 122, 122, 122, 122, 122] := by decide +kernel
def caR (t0 : Str) (ks : List Cl) (r : Option (Res D)) : Option (Res D) := match r with
  | none => none
  | some (.ok d es') => some (.ok (.tup [.str t0, d]) es')
  | some (.ex x es') => (clsX ks x).map fun d => .ok d es'
theorem caR_congr {t0 : Str} {ks : List Cl} {r r' : Option (Res D)} (h : r = r') : caR t0 ks r = caR t0 ks r' := by rw [h]
@[simp] theorem catch_run (t0 : Str) (ks : List Cl) (f : M D) (es : ES) : catchM t0 ks f es = caR t0 ks (f es) := rfl
@[simp] theorem caR_ok (t0 : Str) (ks : List Cl) (d : D) (es : ES) : caR t0 ks (some (.ok d es)) = some (.ok (.tup [.str t0, d]) es) := rfl
@[simp] theorem caR_text (t0 : Str) (d : D) (es : ES) : caR t0 K__law_mwords (some (.ex ⟨"BadText", ["line"], [d]⟩ es)) = some (.ok (.tup [tx [116, 101, 120, 116], d]) es) := rfl
@[simp] theorem caR_deed (t0 : Str) (d : D) (es : ES) : caR t0 K__law_mwords (some (.ex ⟨"BadDeed", ["index"], [d]⟩ es)) = some (.ok (.tup [tx [100, 101, 101, 100], d]) es) := rfl
def moreL : List (List Nat) := [cWords, cDrop, cStar, cBoth, cJoin, [45], [97], [98, 49], [97, 97, 97, 97, 97], [65], [49, 97], [], [122, 122, 122, 122, 122, 122, 122, 122, 122]]
theorem lw_bent {ds : List Deed} {k : Nat} {es : ES} (F : FrD ds k es) (hk : k ≤ 90000) (hd : ∀ e ∈ ds, e.ok) (h0 : 0 < ds.length) (hl : ds.length ≤ 9) : ∃ es', lwBent es = some (.nx es') ∧ FrD ds (k + 10) es' := by
  obtain ⟨l0, l2, l4, l6, l7, l8, l9, l10, l11, l12, l13, l14, l15, l16, l17, g, rfl, hg⟩ := F
  obtain ⟨b, g1, e1, h1, hb, ho⟩ := r_mbent hg hk ds hd h0 hl moreL (by decide) (by decide)
  have hs := splitD_T (c := 10) (by decide) (a := b) (by omega)
  have hok := splC_ok (c := 10) ho
  have hlen := splC_len 10 b
  have hrd : ∀ l ∈ (splC 10 b).dropLast, ∀ g, F__law_mread [tx l] g = some (.ok (readL l) g) := fun l hm g => r_mread l g (by have := hlen.2 l ((List.dropLast_sublist _).subset hm); omega) (hok l ((List.dropLast_sublist _).subset hm))
  have hdue := due_head b
  have hsm := r_same 8 (due b) g1 (due_sm b)
  have hf := r_fault b g1 hb ho
  have hr := r_read b g1 hb ho
  generalize hL : (ds.map Deed.line).map tx = Ls at *
  generalize hD : ds.map Deed.d = Ds at *
  simp [moreL] at e1
  have hlast : ∃ z, (splC 10 b).getLast? = some z := by
    cases h : splC 10 b with
    | nil => exact (splC_ne 10 b h).elim
    | cons a c => exact ⟨_, List.getLast?_eq_some_getLast (by simp)⟩
  obtain ⟨z, hz⟩ := hlast
  have lc : ∀ l8 : Option LV, lcM [12, 13] (enum1M (consD (Dl.lk (sliceM (nmM 10) (partM none) (partM (some (negM (cM (.int 1))))))) (M.ret []))) (sqG 2 (gsCons (setG 12) (gsCons (setG 13) (gsNil)))) (asB (relO .Is (valM (callF (consD (Dl.lk (nmM 13)) (M.ret [])) F__law_mread)) (cM .non))) (Dl.lk (binO .Add (nmM 12) (cM (.int 1))))
      ⟨[l0, some (.fz (.box 0)), l2, some (.fz (.lst Ds)), l4, some (.fz (.lst Ls)), l6, l7, l8, some (.fz (tx b)), some (.ow (.lst ((splC 10 b).map tx))), l11, l12, l13, l14, l15, l16, l17], g1⟩ =
      some (.ok (.fr (.lst (((enumD 0 ((splC 10 b).dropLast.map tx)).filter noT).map noN))) ⟨[l0, some (.fz (.box 0)), l2, some (.fz (.lst Ds)), l4, some (.fz (.lst Ls)), l6, l7, l8, some (.fz (tx b)), some (.ow (.lst ((splC 10 b).map tx))), l11, bk1 l12, bk1 l13, l14, l15, l16, l17], g1⟩) := by
    intro l8
    rw [lcM_run0 (enumD 0 ((splC 10 b).dropLast.map tx)) noT noN (by simp [seqLT, ← List.map_dropLast]) (by
      intro d hd
      unfold enumD at hd
      obtain ⟨i, hi, rfl⟩ := List.mem_mapIdx.mp hd
      simp only [List.getElem_map, List.length_map] at hi ⊢
      have hm : (splC 10 b).dropLast[i] ∈ (splC 10 b).dropLast := List.getElem_mem _
      generalize (splC 10 b).dropLast[i] = l at *
      have q := hrd l hm
      rcases readL_ty l with e | ⟨xs, e⟩ <;> simp [Dl.Same, noT, noN, sqG, gsCons, q, e, isNo])]
    simp [backE_self]
  rw [hz] at hdue
  have hW : (((enumD 0 ((splC 10 b).dropLast.map tx)).filter noT).map noN).length ≤ 10000 := by
    have h1 := List.length_filter_le noT (enumD 0 ((splC 10 b).dropLast.map tx))
    have h2 : (enumD 0 ((splC 10 b).dropLast.map tx)).length = (splC 10 b).length - 1 := by
      unfold enumD
      rw [List.length_mapIdx, List.length_map, List.length_dropLast]
    rw [List.length_map]
    have := hlen.1
    omega
  generalize ((enumD 0 ((splC 10 b).dropLast.map tx)).filter noT).map noN = W at *
  have lc2 : ∀ l8 l11 l12 l14 l13 : Option LV, lcM [13] (seqM (Dl.lk (sliceM (nmM 10) (partM none) (partM (some (negM (cM (.int 1)))))))) (setG 13) (M.ret true) (callF (consD (Dl.lk (nmM 13)) (M.ret [])) F__law_mread)
      ⟨[l0, some (.fz (.box 0)), l2, some (.fz (.lst Ds)), l4, some (.fz (.lst Ls)), l6, l7, l8, some (.fz (tx b)), some (.ow (.lst ((splC 10 b).map tx))), l11, l12, l13, l14, l15, l16, l17], g1⟩ =
      some (.ok (.fr (.lst (deedsOf b))) ⟨[l0, some (.fz (.box 0)), l2, some (.fz (.lst Ds)), l4, some (.fz (.lst Ls)), l6, l7, l8, some (.fz (tx b)), some (.ow (.lst ((splC 10 b).map tx))), l11, l12, bk1 l13, l14, l15, l16, l17], g1⟩) := by
    intro l8 l11 l12 l14 l13
    rw [lcM_run0 ((splC 10 b).dropLast.map tx) (fun _ => true) (fun d => match d with | .str x => readL x.cps.toList | d => d) (by simp [← List.map_dropLast]) (by
      intro d hd
      obtain ⟨l, hm, rfl⟩ := List.mem_map.mp hd
      have q := hrd l hm
      simp [Dl.Same, q])]
    rw [List.filter_eq_self.mpr (fun _ _ => rfl), List.map_map]
    simp [backE_self, deedsOf, Function.comp_def]
  have hs2 := r_same 8 (.tup [tx [116, 111, 108, 100], .lst (deedsOf b)]) g1 (deeds_sm b)
  have hs3 := r_same 8 (.tup [tx [116, 101, 120, 116], due b]) g1 (due_sm2 b)
  refine ⟨⟨[l0, some (.fz (.box 0)), l2, some (.fz (.lst Ds)), l4, some (.fz (.lst Ls)), l6, l7, some (.fz (match due b with | .non => .tup [tx [116, 111, 108, 100], .lst (deedsOf b)] | d => .tup [tx [116, 101, 120, 116], d])), some (.fz (tx b)), some (.ow (.lst ((splC 10 b).map tx))), some (.ow (.lst W)), bk1 l12, (match due b with | .non => bk1 (bk1 l13) | _ => bk1 l13), some (.fz (due b)), l15, l16, l17], g1⟩, ?_, ⟨_, _, _, _, _, _, _, _, _, _, _, _, _, _, _, g1, by rw [hD, hL], h1⟩⟩
  rcases due_ty b with hd | ⟨i, hd⟩
  · rw [hd] at hdue hf hr hsm hs3 ⊢
    by_cases h0 : z = []
    · subst h0
      simp at hdue
      simp [lwBent, e1, hs, lc, atI_last, hz, hdue, hf, hsm, hr, lc2, hs2, show W.length ≤ 16777216 by omega, show W.length ≤ 16777215 by omega, show W.length ≤ 16777214 by omega]
    · simp [h0] at hdue
      simp [lwBent, e1, hs, lc, atI_last, hz, h0, hdue, hf, hsm, hr, lc2, hs2, show W.length ≤ 16777216 by omega, show W.length ≤ 16777215 by omega, show W.length ≤ 16777214 by omega]
  · rw [hd] at hdue hf hr hsm hs3 ⊢
    by_cases h0 : z = []
    · subst h0
      simp at hdue
      simp [lwBent, e1, hs, lc, atI_last, hz, hdue, hf, hsm, hr, lc2, hs3, show W.length ≤ 16777216 by omega, show W.length ≤ 16777215 by omega, show W.length ≤ 16777214 by omega]
    · simp [h0] at hdue
      simp [lwBent, e1, hs, lc, atI_last, hz, h0, hdue, hf, hsm, hr, lc2, hs3, show W.length ≤ 16777216 by omega, show W.length ≤ 16777215 by omega, show W.length ≤ 16777214 by omega]
end K76
end
section
set_option Elab.async false
set_option linter.all false
set_option maxRecDepth 100000
set_option maxHeartbeats 4000000
/-! M76j: what is no deed, no row; the end. -/
namespace K76
open PySem PySem.Spec PyProof.Rows L2 Dl
def FrA (ds : List Deed) (a k : Nat) (es : ES) : Prop := ∃ l0 l2 l4 l6 l7 l8 l9 l10 l11 l13 l14 l15 l16 l17 g, es = ⟨[l0, some (.fz (.box 0)), l2, some (.fz (.lst (ds.map Deed.d))), l4, some (.fz (.lst ((ds.map Deed.line).map tx))), l6, l7, l8, l9, l10, l11, some (.fz (.int a)), l13, l14, l15, l16, l17], g⟩ ∧ GI k g
theorem FrA.frD {ds : List Deed} {a k : Nat} {es : ES} (h : FrA ds a k es) : FrD ds k es := by
  obtain ⟨l0, l2, l4, l6, l7, l8, l9, l10, l11, l13, l14, l15, l16, l17, g, rfl, hg⟩ := h
  exact ⟨_, _, _, _, _, _, _, _, _, _, _, _, _, _, _, g, rfl, hg⟩
@[simp] theorem s_stop : Str.ofString "stop" = T [115, 116, 111, 112] := by decide +kernel
@[simp] theorem s_a_ : Str.ofString "a_" = T [97, 95] := by decide +kernel
@[simp] theorem s_b : Str.ofString "b" = T [98] := by decide +kernel
@[simp] theorem s_aa : Str.ofString "aa" = T [97, 97] := by decide +kernel
@[simp] theorem s_ab : Str.ofString "ab" = T [97, 98] := by decide +kernel
@[simp] theorem s_ba : Str.ofString "ba" = T [98, 97] := by decide +kernel
@[simp] theorem s_bb : Str.ofString "bb" = T [98, 98] := by decide +kernel
def oddL : List D := [.non, .int 5, .tup [tx [115, 116, 111, 112]], .tup [tx cWords, tx [97]], .tup [tx cWords, tx [65], .lst []], .tup [tx cWords, tx [97], .lst [tx [97], tx [97]]], .tup [tx cWords, tx [97], .lst [tx [97, 97, 97, 97, 97]]],
  .tup [tx cDrop, tx [97, 95]], .tup [tx cStar, tx [97]], .tup [tx cBoth, tx [97], tx [98]], .tup [tx cWords, tx [97], .lst [tx [], tx [97], tx [98], tx [97, 97], tx [97, 98], tx [98, 97], tx [98, 98]]]]
theorem odd_no : ∀ d ∈ oddL, ∀ g, F_plain_deed [d] g = some (.ok .non g) := by
  intro d hd g
  have okw : ∀ {ws : List (List Nat)}, (ws.all okT) = true → ∀ w ∈ ws, okT w = true := fun h => List.all_eq_true.mp h
  simp only [oddL, List.mem_cons, List.not_mem_nil, or_false] at hd
  rcases hd with rfl | rfl | rfl | rfl | rfl | rfl | rfl | rfl | rfl | rfl | rfl
  · simp [F_plain_deed, S_plain_deed, bodyF, startE, F_is_deed, S_is_deed, subTy]
  · simp [F_plain_deed, S_plain_deed, bodyF, startE, F_is_deed, S_is_deed, subTy]
  · have e := r_is_deed false [115, 116, 111, 112] [] g
    simp [seqO, sz, cWords, cDrop, cBoth, cJoin, cStar] at e
    simp [F_plain_deed, S_plain_deed, bodyF, startE, e]
  · have e := r_is_deed false cWords [tx [97]] g
    simp [seqO, sz] at e
    simp [F_plain_deed, S_plain_deed, bodyF, startE, e]
  · exact r_plain_V false true [65] [] g (by decide) (okw (by decide))
  · exact (r_plain_V false true [97] [[97], [97]] g (by decide) (okw (by decide))).trans (by rw [show plainV [97] [[97], [97]] = .non by unfold plainV plainW; rw [if_pos (by decide), if_neg (by decide)]])
  · exact (r_plain_V false true [97] [[97, 97, 97, 97, 97]] g (by decide) (okw (by decide))).trans (by rw [show plainV [97] [[97, 97, 97, 97, 97]] = .non by unfold plainV plainW; rw [if_pos (by decide), if_neg (by decide)]])
  · exact (r_plain_T false cDrop [[97, 95]] g (okw (by decide)) (by decide)).trans (by rw [show plainT [cDrop, [97, 95]] = .non by rfl])
  · exact (r_plain_T false cStar [[97]] g (okw (by decide)) (by decide)).trans (by rw [show plainT [cStar, [97]] = .non by rfl])
  · exact (r_plain_T false cBoth [[97], [98]] g (okw (by decide)) (by decide)).trans (by rw [show plainT [cBoth, [97], [98]] = .non by rfl])
  · exact (r_plain_V false true [97] [[], [97], [98], [97, 97], [97, 98], [98, 97], [98, 98]] g (by decide) (okw (by decide))).trans (by rw [show plainV [97] [[], [97], [98], [97, 97], [97, 98], [98, 97], [98, 98]] = .non by unfold plainV plainW; rw [if_pos (by decide), if_neg (by decide)]])
theorem lw_odd {ds : List Deed} {a k : Nat} {es : ES} (F : FrA ds a k es) (hd : ∀ e ∈ ds, e.ok) (hl : ds.length ≤ 9) (ha : a ≤ ds.length) (odd : D) (ho : ∀ g, F_plain_deed [odd] g = some (.ok .non g)) : ∃ e1 e2, setG 16 odd es = some e1 ∧ lwOdd e1 = some (.nx e2) ∧ FrA ds a k e2 := by
  obtain ⟨l0, l2, l4, l6, l7, l8, l9, l10, l11, l13, l14, l15, l16, l17, g, rfl, hg⟩ := F
  have e := r_deeds_text_bad true ((ds.take a).map fun e => (e.d, e)) odd ((ds.drop a).map Deed.d) g (by
    intro p hp
    obtain ⟨e, he, rfl⟩ := List.mem_map.mp hp
    exact ⟨hd e (List.mem_of_mem_take he), Lo.self e⟩) (by simp; omega) (ho g)
  have e1 : (((ds.take a).map fun e => (e.d, e)).map (·.1)) = (ds.map Deed.d).take a := by
    rw [List.map_map, ← List.map_take]; rfl
  have e2 : ((ds.take a).map fun e => (e.d, e)).length = a := by simp; omega
  rw [e1, e2, List.map_drop] at e
  have hs := r_same 8 (.tup [tx [100, 101, 101, 100], .int a]) g rfl
  generalize hL : (ds.map Deed.line).map tx = Ls at *
  have hDl : (ds.map Deed.d).length = ds.length := by simp
  generalize hD : ds.map Deed.d = Ds at *
  have t1 : (Ds.take a).length ≤ 9 := by simp; omega
  have t2 : (Ds.drop a).length ≤ 9 := by simp; omega
  simp only [seqO, if_true] at e
  refine ⟨⟨[l0, some (.fz (.box 0)), l2, some (.fz (.lst Ds)), l4, some (.fz (.lst Ls)), l6, l7, l8, l9, l10, l11, some (.fz (.int a)), l13, l14, l15, some (.fz odd), l17], g⟩, ⟨[l0, some (.fz (.box 0)), l2, some (.fz (.lst Ds)), l4, some (.fz (.lst Ls)), l6, l7, l8, l9, l10, l11, some (.fz (.int a)), l13, l14, l15, some (.fz odd), l17], g⟩, by simp, ?_, ⟨_, _, _, _, _, _, _, _, _, _, _, _, _, _, g, by rw [hD, hL], hg⟩⟩
  simp [lwOdd, cut_to, cut_from, -List.length_take, -List.length_drop, show (Ds.take a).length ≤ 16777215 by omega, show (Ds.take a).length + 1 + (Ds.drop a).length ≤ 16777216 by omega, e, hs]
theorem lw_no {ds : List Deed} {k : Nat} {es : ES} (F : FrD ds k es) (odd : D) (ho : ∀ g, F_is_row [odd] g = some (.ok (.bl false) g)) : ∃ e1 e2, setG 16 odd es = some e1 ∧ lwNo e1 = some (.nx e2) ∧ FrD ds k e2 := by
  obtain ⟨l0, l2, l4, l6, l7, l8, l9, l10, l11, l12, l13, l14, l15, l16, l17, g, rfl, hg⟩ := F
  have e := r_deeds_text_no odd g (ho g)
  have r := r_read_no (.lst [odd]) g rfl
  have f := r_fault_no (.lst [odd]) g rfl
  have s1 := r_same 8 (.lst [.tup [tx [100, 101, 101, 100], .int 0], .tup [tx [116, 101, 120, 116], .int 0]]) g rfl
  have s2 := r_same 8 (.int 0) g rfl
  generalize hL : (ds.map Deed.line).map tx = Ls at *
  generalize hD : ds.map Deed.d = Ds at *
  refine ⟨⟨[l0, some (.fz (.box 0)), l2, some (.fz (.lst Ds)), l4, some (.fz (.lst Ls)), l6, l7, l8, l9, l10, l11, l12, l13, l14, l15, some (.fz odd), l17], g⟩, ⟨[l0, some (.fz (.box 0)), l2, some (.fz (.lst Ds)), l4, some (.fz (.lst Ls)), l6, l7, l8, l9, l10, l11, l12, l13, l14, l15, some (.fz odd), some (.fz (.lst [.tup [tx [100, 101, 101, 100], .int 0], .tup [tx [116, 101, 120, 116], .int 0]]))], g⟩, by simp, ?_, ⟨_, _, _, _, _, _, _, _, _, _, _, _, _, _, _, g, by rw [hD, hL], hg⟩⟩
  simp [lwNo, e, r, f, s1, s2]
theorem lw_t4 {ds : List Deed} {k : Nat} {es : ES} (F : FrD ds k es) : ∃ es', lwT4 es = some (.nx es') ∧ FrD ds k es' := by
  obtain ⟨es', e, h⟩ := loop_ind (gm := setG 16) (body := lwNo) (fun _ es => FrD ds k es) (ds := [.non, .int 5, tx [97, 98], .dct false [] []]) F (fun j d es1 hj F => by
    have hm : d ∈ [D.non, D.int 5, tx [97, 98], D.dct false [] []] := List.mem_of_getElem? hj
    have : ∀ g, F_is_row [d] g = some (.ok (.bl false) g) := fun g => by
      simp only [List.mem_cons, List.not_mem_nil, or_false] at hm
      rcases hm with rfl | rfl | rfl | rfl <;> simp [F_is_row, S_is_row, bodyF, startE, subTy]
    obtain ⟨e1, e2, h1, h2, h3⟩ := lw_no F d this
    exact ⟨e1, e2, h1, .inl h2, h3⟩)
  refine ⟨es', ?_, h⟩
  simp [lwT4, e]
theorem lw_t3 {ds : List Deed} {k : Nat} {es : ES} (F : FrD ds k es) (hk : k ≤ 90000) (hd : ∀ e ∈ ds, e.ok) (hl : ds.length ≤ 9) : ∃ es', lwT3 es = some (.nx es') ∧ FrD ds (k + 1) es' := by
  obtain ⟨l0, l2, l4, l6, l7, l8, l9, l10, l11, l12, l13, l14, l15, l16, l17, g, rfl, hg⟩ := F
  obtain ⟨a, g1, e1, ha, h1⟩ := r_below (m := ds.length + 1) hg (by omega) (by omega) (by omega)
  obtain ⟨es1, e2, h2⟩ := loop_ind (gm := setG 16) (body := lwOdd) (fun _ es => FrA ds a (k + 1) es) (ds := oddL) (es := ⟨[l0, some (.fz (.box 0)), l2, some (.fz (.lst (ds.map Deed.d))), l4, some (.fz (.lst ((ds.map Deed.line).map tx))), l6, l7, l8, l9, l10, l11, some (.fz (.int a)), l13, l14, some (.fz (.lst oddL)), l16, l17], g1⟩) ⟨_, _, _, _, _, _, _, _, _, _, _, _, _, _, g1, rfl, h1⟩ (fun j d es1 hj F => by
    obtain ⟨e1, e2, h1, h2, h3⟩ := lw_odd F hd hl (by omega) d (odd_no d (List.mem_of_getElem? hj))
    exact ⟨e1, e2, h1, .inl h2, h3⟩)
  obtain ⟨es', e3, h3⟩ := lw_t4 h2.frD
  refine ⟨es', ?_, h3⟩
  have hDl : (ds.map Deed.d).length = ds.length := by simp
  generalize hL : (ds.map Deed.line).map tx = Ls at *
  generalize hD : ds.map Deed.d = Ds at *
  rw [← hDl] at e1
  simp [oddL] at e2
  simp at e1
  simp [lwT3, e1, e2, e3]
theorem lw_end {k : Nat} {es : ES} (F : Fr0 k es) : ∃ es', lwEnd es = some (.rt (.bl true) es') := by
  obtain ⟨l0, l2, l3, l4, l5, l6, l7, l8, l9, l10, l11, l12, l13, l14, l15, l16, l17, g, rfl, hg⟩ := F
  have e := r_deeds_text true [] g (by simp) (by simp)
  have r := r_read [] g (by simp) (by decide)
  have s := r_same 8 (.lst [.tup [tx [116, 111, 108, 100], tx []], .tup [tx [116, 111, 108, 100], .lst []]]) g rfl
  have e2 : F_deeds_text [.lst []] g = some (.ok (tx []) g) := e
  have r2 : F_read_deeds [tx []] g = some (.ok (.lst []) g) := r
  simp [lwEnd, e2, r2, s]
end K76
end
section
set_option Elab.async false
set_option linter.all false
set_option maxRecDepth 100000
set_option maxHeartbeats 4000000
/-! M76k: the law holds. -/
namespace K76
open PySem PySem.Spec PyProof.Rows L2 Dl
theorem rngD_12 : rng1 [.int 12] = some (rngD 0 12) := rng1_nat 12 (by decide)
theorem rngD_4 : rng1 [.int 4] = some (rngD 0 4) := rng1_nat 4 (by decide)
theorem lw_t2 {ds : List Deed} {k : Nat} {es : ES} (F : FrD ds k es) (hk : k ≤ 80000) (hd : ∀ e ∈ ds, e.ok) (h0 : 0 < ds.length) (hl : ds.length ≤ 9) : ∃ es', lwT2 es = some (.nx es') ∧ FrD ds (k + 200) es' := by
  obtain ⟨es1, e1, h1⟩ := loop_ind (gm := setG 4) (body := lwBent) (fun j es => FrD ds (k + 10 * j) es) (ds := rngD 0 12) (es := es) (by simpa using F) (fun j d es1 hj F => by
    have hlt := (List.getElem?_eq_some_iff.mp hj).1
    rw [rngD_len] at hlt
    obtain ⟨l0, l2, l4, l6, l7, l8, l9, l10, l11, l12, l13, l14, l15, l16, l17, g, rfl, hg⟩ := F
    have F2 : FrD ds (k + 10 * j) ⟨[l0, some (.fz (.box 0)), l2, some (.fz (.lst (ds.map Deed.d))), some (.fz d), some (.fz (.lst ((ds.map Deed.line).map tx))), l6, l7, l8, l9, l10, l11, l12, l13, l14, l15, l16, l17], g⟩ := ⟨_, _, _, _, _, _, _, _, _, _, _, _, _, _, _, g, rfl, hg⟩
    obtain ⟨es2, e2, h2⟩ := lw_bent F2 (by omega) hd h0 hl
    exact ⟨_, es2, rfl, .inl e2, h2.mono (by omega)⟩)
  rw [rngD_len] at h1
  obtain ⟨es2, e2, h2⟩ := lw_t3 h1 (by omega) hd hl
  refine ⟨es2, ?_, h2.mono (by omega)⟩
  simp [lwT2, rngD_12, e1, e2]
@[simp] theorem restL_cons (a b : Option LV) (as bs : List (Option LV)) : restL (a :: as) (b :: bs) = (if kept a = true then b else a) :: restL as bs := rfl
@[simp] theorem restL_nil : restL [] [] = [] := rfl
@[simp] theorem kept_fz (d : D) : kept (some (.fz d)) = LF d := rfl
@[simp] theorem kept_ow (ds : List D) : kept (some (.ow (.lst ds))) = LFs ds := rfl
@[simp] theorem keepL_lst (ks : List Nat) (env : List (Option LV)) (j : Nat) (ds : List D) : keepL ks env j (some (.fz (.lst ds))) = if (LFs ds && (ks.contains j && isFzL env[j]?)) = true then some (.fz (.lst ds)) else none := rfl
@[simp] theorem keepL_str (ks : List Nat) (env : List (Option LV)) (j : Nat) (x : Str) : keepL ks env j (some (.fz (.str x))) = some (.fz (.str x)) := rfl
@[simp] theorem keepL_box (ks : List Nat) (env : List (Option LV)) (j : Nat) (x : Nat) : keepL ks env j (some (.fz (.box x))) = some (.fz (.box x)) := rfl
theorem LFs_txs (ws : List (List Nat)) : LFs (ws.map tx) = true := by
  induction ws with
  | nil => rfl
  | cons w ws ih => rw [List.map_cons, LFs, ih]; rfl
theorem LF_clean : ∀ {n : Nat} {d : D}, clean n d = true → LF d = true
  | 0, _, h => by cases h
  | n + 1, .str _, _ => rfl
  | n + 1, .tup xs, h => by
    have q : ∀ x ∈ xs, LF x = true := fun x hx => LF_clean (List.all_eq_true.mp h x hx)
    rw [LF]
    clear h
    induction xs with
    | nil => rfl
    | cons x xs ih => rw [LFs, q x (by simp), ih fun y hy => q y (by simp [hy])]; rfl
  | n + 1, .non, h => by cases h
  | n + 1, .int _, h => by cases h
  | n + 1, .lst _, h => by cases h
  | n + 1, .bl _, h => by cases h
  | n + 1, .dct _ _ _, h => by cases h
  | n + 1, .ins _ _ _, h => by cases h
  | n + 1, .box _, h => by cases h
theorem PFs_deeds {ds : List Deed} (h : ∀ e ∈ ds, e.ok) : PFs (ds.map Deed.d) = true ∧ depDs (ds.map Deed.d) ≤ 3 ∧ LFs (ds.map Deed.d) = true := by
  induction ds with
  | nil => exact ⟨rfl, by simp [depDs], rfl⟩
  | cons e ds ih =>
    obtain ⟨h1, h2, h3⟩ := ih fun x hx => h x (by simp [hx])
    have c := Deed.clean (h e (by simp))
    have k := clean_ok c
    rw [List.map_cons]
    refine ⟨by rw [PFs, k.2.2.2.2.1, h1]; rfl, ?_, by rw [LFs, LF_clean c, h3]; rfl⟩
    rw [depDs]
    have := k.2.2.2.2.2
    omega
theorem lw_t1 {ds : List Deed} {k : Nat} (l0 l2 l4 l6 l9 l10 l11 l12 l13 l14 l15 l16 l17 : Option LV) {g : List Box} (hg : GI k g) (hk : k ≤ 80000) (hd : ∀ e ∈ ds, e.ok) (h0 : 0 < ds.length) (hl : ds.length ≤ 9) :
    ∃ es', lwT1 ⟨[l0, some (.fz (.box 0)), l2, some (.fz (.lst (ds.map Deed.d))), l4, some (.fz (.lst ((ds.map Deed.line).map tx))), l6, some (.fz (tx (txt (ds.map Deed.line)))), some (.ow (.lst [.tup [tx [116, 111, 108, 100], tx (txt (ds.map Deed.line))]])), l9, l10, l11, l12, l13, l14, l15, l16, l17], g⟩ = some (.nx es') ∧ FrD ds (k + 200) es' := by
  have tk := txt_ok (ls := ds.map Deed.line) (fun l hm => by
    obtain ⟨e, he, rfl⟩ := List.mem_map.mp hm
    exact ⟨(Deed.line_ok (hd e he)).1, (Deed.line_ok (hd e he)).2.2⟩) (by simp; omega)
  have hdt := due_txt hd
  have r := r_read (txt (ds.map Deed.line)) g (by omega) tk.2
  have f := r_fault (txt (ds.map Deed.line)) g (by omega) tk.2
  rw [hdt.1] at r f
  simp only [hdt.2] at r
  have hcl : ∀ d ∈ ds.map Deed.d, clean 3 d = true := fun d hm => by
    obtain ⟨e, he, rfl⟩ := List.mem_map.mp hm
    exact Deed.clean (hd e he)
  have sm : smD 7 (.lst (ds.map Deed.d)) = true := List.all_eq_true.mpr fun x hx => smD_mono (by decide) (clean_ok (hcl x hx)).2.2.2.1
  have s1 := r_same 8 (.lst [.tup [tx [116, 111, 108, 100], tx (txt (ds.map Deed.line))], .tup [tx [116, 111, 108, 100], .lst (ds.map Deed.d)]]) g (by
    have : smD 6 (.lst (ds.map Deed.d)) = true := List.all_eq_true.mpr fun x hx => smD_mono (by decide) (clean_ok (hcl x hx)).2.2.2.1
    simp only [smD, List.all_cons, List.all_nil, Bool.and_true, Bool.true_and]
    exact this)
  have s2 := r_same 8 (.lst (ds.map Deed.d)) g (smD_mono (by decide) sm)
  have o := once_deeds hcl g
  have pf := PFs_deeds hd
  have hg2 := hg.stm
  have hDl : (ds.map Deed.d).length = ds.length := by simp
  have dep : depD (.lst [.lst (ds.map Deed.d)]) < 8 := by
    simp only [depD, depDs]
    have := pf.2.1
    omega
  have key : ∃ st, lwT1 ⟨[l0, some (.fz (.box 0)), l2, some (.fz (.lst (ds.map Deed.d))), l4, some (.fz (.lst ((ds.map Deed.line).map tx))), l6, some (.fz (tx (txt (ds.map Deed.line)))), some (.ow (.lst [.tup [tx [116, 111, 108, 100], tx (txt (ds.map Deed.line))]])), l9, l10, l11, l12, l13, l14, l15, l16, l17], g⟩ = lwT2 st ∧ FrD ds k st := by
    have lfl : LFs ((ds.map Deed.line).map tx) = true := LFs_txs _
    generalize hL : (ds.map Deed.line).map tx = Ls at *
    generalize txt (ds.map Deed.line) = t at *
    generalize hD : ds.map Deed.d = Ds at *
    refine ⟨_, by
      simp [lwT1, unitS, unit3, hg2, LF, LFs, hideE, r, f, pf, dep, show Ds.length < 16777216 by omega, s1, o, s2, keepE, isFzL, lfl]
      rfl, ?_⟩
    exact ⟨_, _, _, _, _, _, _, _, _, _, _, _, _, _, _, g, by rw [hD, hL], hg⟩
  obtain ⟨st, e, F⟩ := key
  obtain ⟨es', e2, F2⟩ := lw_t2 F (by omega) hd h0 hl
  exact ⟨es', by rw [e, e2], F2⟩
end K76
end
section
set_option Elab.async false
set_option linter.all false
set_option maxRecDepth 100000
set_option maxHeartbeats 4000000
/-! M76l: the law holds, whole. -/
namespace K76
open PySem PySem.Spec PyProof.Rows L2 Dl
theorem map_tx_inj {a b : List (List Nat)} (h : a.map tx = b.map tx) : a = b := by
  induction a generalizing b with
  | nil => cases b with
    | nil => rfl
    | cons y ys => cases h
  | cons x xs ih => cases b with
    | nil => cases h
    | cons y ys =>
      simp only [List.map_cons, List.cons.injEq, D.str.injEq, T_inj] at h
      rw [h.1, ih h.2]
theorem Deed.d_inj {a b : Deed} (h : a.d = b.d) : a = b := by
  cases a <;> cases b <;> simp [Deed.d, cWords, cDrop, cStar, cBoth, cJoin] at h ⊢
  · exact ⟨h.1, map_tx_inj (by simpa using h.2)⟩
  all_goals exact h
theorem deeds_all {ys : List D} (h : ∀ y ∈ ys, ∃ e : Deed, y = e.d ∧ e.ok) : ∃ ds : List Deed, ys = ds.map Deed.d ∧ ∀ e ∈ ds, e.ok := by
  induction ys with
  | nil => exact ⟨[], rfl, by simp⟩
  | cons y ys ih =>
    obtain ⟨e, rfl, he⟩ := h y (by simp)
    obtain ⟨ds, rfl, hs⟩ := ih fun z hz => h z (by simp [hz])
    exact ⟨e :: ds, rfl, by simpa using ⟨he, hs⟩⟩
theorem r_loose_all {k : Nat} {g : List Box} (hg : GI k g) (hk : k ≤ 80000) (ds : List Deed) (hd : ∀ e ∈ ds, e.ok) (hl : ds.length ≤ 9) : ∃ y g', F__law_loose 8 [.box 0, .lst (ds.map Deed.d)] g = some (.ok y g') ∧ F_deeds_text [y] g' = some (.ok (tx (txt (ds.map Deed.line))) g') ∧ GI (k + 100) g' := by
  obtain ⟨b, ys, g', e, l, q, h⟩ := r_loose_seq 800000 (i := 7) (c := 10) (P := fun x y => ∃ e : Deed, x = e.d ∧ e.ok ∧ Lo e y) (xs := ds.map Deed.d) hg (by decide) (by simp; omega) (by
    intro x hx k g hg hk
    obtain ⟨e, he, rfl⟩ := List.mem_map.mp hx
    obtain ⟨y, g', h1, h2, h3⟩ := r_loose_deed 4 hg hk e
    exact ⟨y, g', h1, ⟨e, rfl, hd e he, h2⟩, h3⟩) true
  refine ⟨_, g', e, ?_, h.mono (by simp; omega)⟩
  have key : ∀ p ∈ ys.zip ds, p.2.ok ∧ Lo p.2 p.1 := fun p hp => by
    obtain ⟨i, hi⟩ := List.mem_iff_getElem?.mp hp
    rw [List.getElem?_zip_eq_some] at hi
    obtain ⟨e, h1, h2, h3⟩ := q i p.2.d p.1 (by rw [List.getElem?_map, hi.2]; rfl) hi.1
    have := Deed.d_inj h1
    subst this
    exact ⟨h2, h3⟩
  have hl2 : ys.length = ds.length := by simpa using l
  have r := r_deeds_text b (ys.zip ds) g' key (by simp; omega)
  have e1 : (ys.zip ds).map (·.1) = ys := by rw [List.map_fst_zip (by omega)]
  have e2 : ((ys.zip ds).map fun p : D × Deed => p.2.line) = ds.map Deed.line := by
    rw [show (fun p : D × Deed => p.2.line) = Deed.line ∘ Prod.snd from rfl, ← List.map_map, List.map_snd_zip (by omega)]
  rw [e1, e2] at r
  exact r
theorem lw_turn {k : Nat} {es : ES} (F : Fr0 k es) (hk : k ≤ 20000) : ∃ es', lwTurn es = some (.nx es') ∧ Fr0 (k + 2000) es' := by
  obtain ⟨l0, l2, l3, l4, l5, l6, l7, l8, l9, l10, l11, l12, l13, l14, l15, l16, l17, g, rfl, hg⟩ := F
  obtain ⟨n, g1, e1, hn, h1⟩ := r_below (m := 9) hg (by omega) (by omega) (by omega)
  simp at e1
  obtain ⟨ys, g2, e2, l2', q2, h2⟩ := lcM_draw (vs := [4]) (k := k + 1) (es0 := ⟨[l0, some (.fz (.box 0)), l2, l3, l4, l5, l6, l7, l8, l9, l10, l11, l12, l13, l14, l15, l16, l17], g⟩) (es := ⟨[l0, some (.fz (.box 0)), l2, l3, l4, l5, l6, l7, l8, l9, l10, l11, l12, l13, l14, l15, l16, l17], g1⟩)
    (fi := M.bind (consR (binO .Add (cM (.int 1)) (valM (callF (consD (Dl.lk (nmM 1)) (consD (Dl.lk (cM (.int 9))) (M.ret []))) F__law_below))) (M.ret [])) fun rs => M.bind (peeks rs) fun ds => M.lift (Dl.rng1 ds)) (gm := setG 4) (elt := callF (consD (Dl.lk (nmM 1)) (M.ret [])) F__law_mform)
    (rngD 0 (n + 1)) 100 (fun _ y => ∃ e : Deed, y = e.d ∧ e.ok) (by
      have : rng1 [.int (1 + (n : Int))] = some (rngD 0 (n + 1)) := by
        rw [show (1 + (n : Int)) = ((n + 1 : Nat) : Int) by omega]
        exact rng1_nat (n + 1) (by omega)
      simp [e1, this]) h1 (by
      intro j d g hj hg
      have hlt := (List.getElem?_eq_some_iff.mp hj).1
      rw [rngD_len] at hlt
      obtain ⟨e, g', h, ho, hg'⟩ := r_mform hg (by omega)
      exact ⟨_, e.d, ⟨_, g'⟩, by simp; rfl, by simp [h]; rfl, ⟨e, rfl, ho⟩, hg', by simp⟩)
  rw [rngD_len] at h2 l2'
  obtain ⟨ds, rfl, hd⟩ := deeds_all (ys := ys) fun y hy => by
    obtain ⟨i, hi⟩ := List.mem_iff_getElem?.mp hy
    have hlt := (List.getElem?_eq_some_iff.mp hi).1
    have hlt2 : i < (rngD 0 (n + 1)).length := by rw [rngD_len]; omega
    exact q2 i (rngD 0 (n + 1))[i] y (List.getElem?_eq_getElem hlt2) hi
  simp at l2'
  have hmt := r_mtext (ds.map Deed.line) g2 (by simp; omega) fun l hm => by
    obtain ⟨e, he, rfl⟩ := List.mem_map.mp hm
    have := (Deed.line_ok (hd e he)).1
    omega
  obtain ⟨y, g3, e3, e4, h3⟩ := r_loose_all h2 (by omega) ds hd (by omega)
  have lc : lcM [6] (seqM (Dl.lk (nmM 3))) (setG 6) (M.ret true) (callF (consD (Dl.lk (nmM 6)) (M.ret [])) F__law_mline) ⟨[l0, some (.fz (.box 0)), l2, some (.ow (.lst (ds.map Deed.d))), bk1 l4, l5, l6, l7, l8, l9, l10, l11, l12, l13, l14, l15, l16, l17], g2⟩
      = some (.ok (.fr (.lst ((ds.map Deed.line).map tx))) ⟨[l0, some (.fz (.box 0)), l2, some (.fz (.lst (ds.map Deed.d))), bk1 l4, l5, bk1 l6, l7, l8, l9, l10, l11, l12, l13, l14, l15, l16, l17], g2⟩) := by
    rw [lcM_run (ds := ds.map Deed.d) (es := ⟨[l0, some (.fz (.box 0)), l2, some (.fz (.lst (ds.map Deed.d))), bk1 l4, l5, l6, l7, l8, l9, l10, l11, l12, l13, l14, l15, l16, l17], g2⟩) (by simp) (fun _ => true) (fun d => match F__law_mline [d] g2 with | some (.ok y _) => y | _ => d) (by
      intro d hm
      obtain ⟨e, he, rfl⟩ := List.mem_map.mp hm
      have := Deed.r_mline (hd e he) g2
      simp [Dl.Same, this])]
    have em : ((ds.map Deed.d).filter fun _ => true).map (fun d => match F__law_mline [d] g2 with | some (.ok y _) => y | _ => d) = (ds.map Deed.line).map tx := by
      rw [List.filter_eq_self.mpr (fun _ _ => rfl), List.map_map, List.map_map]
      refine List.map_congr_left fun e he => ?_
      simp only [Function.comp_apply, Deed.r_mline (hd e he) g2]
    rw [em]
    simp [backE_self]
  obtain ⟨es', e5, F5⟩ := lw_t1 (ds := ds) (k := k + 1 + (n + 1) * 100 + 100) l0 l2 (bk1 l4) (bk1 l6) l9 l10 l11 l12 l13 l14 l15 l16 l17 h3 (by omega) hd (by omega) (by omega)
  refine ⟨es', ?_, (F5.mono (by omega)).fr0⟩
  generalize hL : (ds.map Deed.line).map tx = Ls at *
  generalize txt (ds.map Deed.line) = t at *
  generalize ds.map Deed.d = Ds at *
  simp [lwTurn, e2, backE_self, lc, hmt, e3, e4, e5]
theorem law_true (ns : List Int) (hl : ns.length ≤ 63) (hb : ∀ z ∈ ns, Builtin.Int.intBits z ≤ 1048576) : ∃ es', S_law (es0 18 ns 43) = some (.rt (.bl true) es') := by
  have F0 : Fr0 (2000 * 0) (es0 18 ns 43) := ⟨none, none, none, none, none, none, none, none, none, none, none, none, none, none, none, none, none, [.stm ns 0 0 43], rfl, ns, 0, 0, 43, rfl, hl, by decide, by decide, by decide, by decide, by decide⟩
  obtain ⟨es1, e1, h1⟩ := loop_ind (gm := setG 2) (body := lwTurn) (fun j es => Fr0 (2000 * j) es) (ds := rngD 0 4) (es := es0 18 ns 43) F0 (fun j d es1 hj F => by
    have hlt := (List.getElem?_eq_some_iff.mp hj).1
    rw [rngD_len] at hlt
    obtain ⟨l0, l2, l3, l4, l5, l6, l7, l8, l9, l10, l11, l12, l13, l14, l15, l16, l17, g, rfl, hg⟩ := F
    have F2 : Fr0 (2000 * j) ⟨[l0, some (.fz (.box 0)), some (.fz d), l3, l4, l5, l6, l7, l8, l9, l10, l11, l12, l13, l14, l15, l16, l17], g⟩ := ⟨_, _, _, _, _, _, _, _, _, _, _, _, _, _, _, _, _, g, rfl, hg⟩
    obtain ⟨es2, e2, h2⟩ := lw_turn F2 (by omega)
    exact ⟨_, es2, rfl, .inl e2, h2.mono (by omega)⟩)
  obtain ⟨es2, e2⟩ := lw_end h1
  refine ⟨es2, ?_⟩
  rw [law_eq]
  generalize es0 18 ns 43 = st at *
  simp [rngD_4, e1, e2]
end K76
end
section
set_option Elab.async false
set_option linter.all false
set_option maxRecDepth 100000
set_option maxHeartbeats 0
open PySem PySem.W PyProof.Rows L2 Dl K76
theorem PySem.Challenge.cw_cutintwo_k76_whole_texts_of_deeds_holds : PySem.Challenge.rw_cutintwo_k76_whole_texts_of_deeds.Holds :=
  head (by
  k_fill
  refine LamX.walk_ofTs (n := 63) (k := 15) (x := "script") (CX := fun w => L2.CX PySem.Challenge.pw_cutintwo_k76_whole_texts_of_deeds w) rfl (by decide) rfl ?hr (fun w h Y => PySem.W.km_in_of Y) ?F ?hCX
  case hr => exact ⟨rfl, by decide, by decide⟩
  case F =>
    intro w mg fa h Y KX G hmg
    refine law_end (l := PySem.Challenge.rw_cutintwo_k76_whole_texts_of_deeds) (cs := tabL) KX (u_law w) (m_law KX G) hmg (fun s u => .of_eq rfl) ?_ (t2 w) (t3 KX) (by decide) (fun base KB GB TB => a_law KB GB TB) K76.law_true
    exact fun p hp => PySem.W.km_tabs_of Y p.2 (by revert p; decide)
  case hCX =>
    intro w H s e s' hc
    obtain ⟨_, _, _, _, _, _, _, _, _, _, _, _, z⟩ := hc
    exact z)
end
