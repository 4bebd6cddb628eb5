import PyProof.Rows.All
import Wide.All
import OpenK.AllK
import Wide.FinOn
import HandS.ForMost
import HandS.Exc
import KE.KDictKeyed
import HandS.Defaults
import HandS.TupAny
import HandS.TupMul
import HandS.TupLe
import HandS.Style
import HandS.IsInst
import HandS.Deep
import HandS.Conv
import HandS.RaiseMore
import HandS.Iter
import HandS.Zip
import HandS.Rev
import KE.SortData
import KE.SortKeyHeap
import HandS.Lambda
import HandS.TupSets
import HandS.DictComp
import HandS.Flow
import HandS.Head0
import HandS.Head1
import HandS.Head2
import HandS.HeadEnd
import HandS.HeadHook1
import HandS.HeadHook2
import HandS.MapJoin
import HandS.OwnEq
import HandS.ExcOwn
import HandS.ExcInit
import HandS.ExcField
import PyProof.FString5
import HandS.Text
import KE.KStateDown
import HandS.Base
import HandS.Call
import HandS.Ends
import HandS.More
import HandS.Words
import HandS.WordsExc
import PySem.Challenge.RW_nolessservers_k21_whole_texts_of_servers
set_option Elab.async false
set_option linter.all false
set_option maxRecDepth 100000
set_option maxHeartbeats 4000000
/-! DL, part a: plain data, what stands for it in the abstract heap, environments of data, the data-level readings. -/
namespace DL
open PySem PySem.Spec L2

/-- plain data -/
inductive D where
  | non | bl (b : Bool) | int (i : Int) | str (x : Str)
  | tup (ds : List D) | lst (ds : List D) | dct (ks vs : List D) | set (ds : List D)
  | obj (C : Addr) (ns : List Str) (ds : List D) | err (C : Addr) (ns : List Str) (ds : List D)
  | fn (a : Addr) | pen | scr (ns : List Int)

/-- as a key of a dict, of a set -/
def D.key : D → Option NestedKey
  | .non => some .none
  | .bl b => some (.num (if b = true then 1 else 0))
  | .int i => some (.num i)
  | .str x => some (.text x)
  | .tup ds => (keys ds).map .tup
  | _ => none
where keys : List D → Option (List NestedKey)
  | [] => some []
  | d :: ds => match d.key, keys ds with
    | some k, some ks => some (k :: ks)
    | _, _ => none

/-- what may be a key: a number or a text; a tuple of these and None, nested, at most so deep -/
def D.fk : D → Bool
  | .int _ => true
  | .str _ => true
  | _ => false
mutual
def D.kg : D → Nat → Bool
  | .non, _ => true
  | .int _, _ => true
  | .str _, _ => true
  | .tup ds, n + 1 => D.kgs ds n
  | _, _ => false
def D.kgs : List D → Nat → Bool
  | [], _ => true
  | d :: ds, n => D.kg d n && D.kgs ds n
end
def D.tk : D → Bool
  | .tup ds => D.kgs ds 7
  | _ => false
structure KsOk (ks : List D) : Prop where
  nd : ks.Nodup
  kind : ks.all D.fk = true ∨ ks.all D.tk = true
/-- the written part, the world -/
structure Gx where
  P : Program
  w : World
  K : PySem.W.Frag
def gx (X : Cx) : Gx := ⟨X.prog, X.w, X.K⟩

/-- what never changes; the pen's dict (the only thing that is tracked as .dK) -/
def Imm : HO → Prop
  | .tup _ => True
  | .frz _ _ => True
  | _ => False
/-- what a step may change without a word: the pen, an instance's own dict -/
def Lo : HO → Prop
  | .dK _ => True
  | .own _ => True
  | _ => False
/-- a dict by its entries; an instance and its own dict, once they are known -/
def dictO (a : Addr) (es : Array DictEntry) : HO := .ext fun h => ∃ ep, h.DictRaw a es ep
def insO (a C dx : Addr) : HO := .ext fun h => h.get? a = some (PySem.W.instObj C dx)
def nsO (dx : Addr) (mA : Str → Option Value) : HO := .ext fun h => h.Ns1 dx mA
def Fz (H : Hp) (a : Addr) (u : HO) : Prop := ∃ o, H a = some (.frz o u)
/-- a list that is known: frozen, or of the written part -/
def FzL (K : PySem.W.Frag) (H : Hp) (a : Addr) (xs : List V) : Prop := Fz H a (.lst xs) ∨
  ∃ (o : Obj) (its : Array Value) (n : Nat), K.lookup a = some o ∧ o.cls = .type "list" ∧ o.dict = none ∧ o.data = .seq its n ∧ its.size ≤ sizeLine ∧ Vals xs its.toList
theorem Fz.sq {K : PySem.W.Frag} {H : Hp} {a : Addr} {xs : List V} (h : Fz H a (.lst xs)) : SqL K H a xs := .inl (.inr h)
theorem FzL.sq {K : PySem.W.Frag} {H : Hp} {a : Addr} {xs : List V} (h : FzL K H a xs) : SqL K H a xs := by
  rcases h with ⟨o, h⟩ | h
  · exact .inl (.inr ⟨o, h⟩)
  · exact .inr h

/-- the entries of a dict: its keys as data, as values, its values -/
def Entz (w : World) : List D → List V → List V → List DictEntry → Prop
  | [], kvs, vvs, es => kvs = [] ∧ vvs = [] ∧ es = []
  | k :: ks, kvs, vvs, es => ∃ kv kr vv vr e er kk, kvs = kv :: kr ∧ vvs = vv :: vr ∧ es = e :: er ∧ k.key = some kk ∧ e.hash = kk.hash w ∧ RelV kv e.key ∧ RelV vv e.val ∧ Entz w ks kr vr er
/-- the attributes by name -/
def Flds (mA : Str → Option Value) : List Str → List V → Prop
  | [], us => us = []
  | n :: ns, us => ∃ v vs u, us = v :: vs ∧ mA n = some u ∧ RelV v u ∧ Flds mA ns vs

mutual
/-- the value v stands for the data d -/
def Rep (g : Gx) (H : Hp) : D → V → Prop
  | .non, v => v = .non
  | .bl b, v => v = .bl b
  | .int i, v => v = .int i
  | .str x, v => v = .str x
  | .tup ds, v => ∃ a xs, v = .ref a ∧ SqT g.K H a xs ∧ Reps g H ds xs
  | .lst ds, v => ∃ a xs, v = .ref a ∧ Fz H a (.lst xs) ∧ Reps g H ds xs
  | .dct ks ds, v => ∃ a es kvs vvs, v = .ref a ∧ Fz H a (dictO a es) ∧ ((a == sysModules) = false ∧ KsOk ks) ∧ Entz g.w ks kvs vvs es.toList ∧ Reps g H ks kvs ∧ Reps g H ds vvs
  | .set _, _ => False
  | .obj C ns ds, v => ∃ a dx mA us, v = .ref a ∧ Fz H a (insO a C dx) ∧ Fz H dx (nsO dx mA) ∧ dx ≠ a ∧ (∀ n, n ∉ ns → mA n = none) ∧ Flds mA ns us ∧ Reps g H ds us
  | .err _ _ _, _ => False
  | .fn a, v => v = .ref a
  | .pen, v => ∃ a kvs, v = .ref a ∧ H a = some (.dK kvs)
  | .scr ns, v => ∃ a, v = .ref a ∧ FzL g.K H a (ns.map V.int)
def Reps (g : Gx) (H : Hp) : List D → List V → Prop
  | [], xs => xs = []
  | d :: ds, xs => ∃ v vs, xs = v :: vs ∧ Rep g H d v ∧ Reps g H ds vs
end

/-! ### what stays -/
structure Stab (H H' : Hp) : Prop where
  imm : ∀ a o, H a = some o → Imm o → H' a = some o
  pens : ∀ a kvs, H a = some (.dK kvs) → ∃ kvs', H' a = some (.dK kvs')
theorem Stab.refl (H : Hp) : Stab H H := ⟨fun _ _ e _ => e, fun _ kvs e => ⟨kvs, e⟩⟩
theorem Stab.trans {H H1 H2 : Hp} (x : Stab H H1) (y : Stab H1 H2) : Stab H H2 :=
  ⟨fun a o e i => y.imm a o (x.imm a o e i) i, fun a kvs e => let ⟨k1, e1⟩ := x.pens a kvs e; y.pens a k1 e1⟩
section
variable {g : Gx} {H H' : Hp}
theorem Fz.mono (s : Stab H H') {a : Addr} {u : HO} (h : Fz H a u) : Fz H' a u := let ⟨o, e⟩ := h; ⟨o, s.imm a _ e trivial⟩
theorem FzL.mono (s : Stab H H') {K : PySem.W.Frag} {a : Addr} {xs : List V} (h : FzL K H a xs) : FzL K H' a xs := h.elim (fun h => .inl (h.mono s)) .inr
theorem sqT_mono (s : Stab H H') {K : PySem.W.Frag} {a : Addr} {xs : List V} (h : SqT K H a xs) : SqT K H' a xs := by
  rcases h with (h | ⟨o, h⟩) | h
  · exact .inl (.inl (s.imm a _ h trivial))
  · exact .inl (.inr ⟨o, s.imm a _ h trivial⟩)
  · exact .inr h
mutual
theorem Rep.mono (s : Stab H H') : ∀ (d : D) (v : V), Rep g H d v → Rep g H' d v
  | .non, _, h => h
  | .bl _, _, h => h
  | .int _, _, h => h
  | .str _, _, h => h
  | .tup ds, _, ⟨a, xs, e, q, r⟩ => ⟨a, xs, e, sqT_mono s q, Reps.mono s ds xs r⟩
  | .lst ds, _, ⟨a, xs, e, q, r⟩ => ⟨a, xs, e, q.mono s, Reps.mono s ds xs r⟩
  | .dct ks ds, _, ⟨a, es, kvs, vvs, e, q, y, z, r1, r2⟩ => ⟨a, es, kvs, vvs, e, q.mono s, y, z, Reps.mono s ks kvs r1, Reps.mono s ds vvs r2⟩
  | .set _, _, h => h
  | .obj _ _ ds, _, ⟨a, dx, mA, us, e, q1, q2, ne, no, f, r⟩ => ⟨a, dx, mA, us, e, q1.mono s, q2.mono s, ne, no, f, Reps.mono s ds us r⟩
  | .err _ _ _, _, h => h
  | .fn _, _, h => h
  | .pen, _, ⟨a, kvs, e, q⟩ => let ⟨k', q'⟩ := s.pens a kvs q; ⟨a, k', e, q'⟩
  | .scr _, _, ⟨a, e, q⟩ => ⟨a, e, q.mono s⟩
theorem Reps.mono (s : Stab H H') : ∀ (ds : List D) (xs : List V), Reps g H ds xs → Reps g H' ds xs
  | [], _, h => h
  | d :: ds, _, ⟨v, vs, e, r, rs⟩ => ⟨v, vs, e, Rep.mono s d v r, Reps.mono s ds vs rs⟩
end
theorem Reps.length : ∀ {ds : List D} {xs : List V}, Reps g H ds xs → xs.length = ds.length
  | [], _, h => by rw [show _ = _ from h]; rfl
  | _ :: _, _, ⟨_, _, e, _, r⟩ => by rw [e, List.length_cons, Reps.length r, List.length_cons]
theorem Reps.get : ∀ {ds : List D} {xs : List V}, Reps g H ds xs → ∀ {i : Nat} {d : D}, ds[i]? = some d → ∃ v, xs[i]? = some v ∧ Rep g H d v
  | [], _, _, _, _, e => by simp at e
  | _ :: _, _, ⟨v, vs, e, r, rs⟩, 0, d, q => by subst e; simp at q; subst q; exact ⟨v, rfl, r⟩
  | _ :: _, _, ⟨v, vs, e, r, rs⟩, i + 1, d, q => by subst e; exact (by simpa using Reps.get rs (i := i) (d := d) (by simpa using q))
theorem Reps.getV : ∀ {ds : List D} {xs : List V}, Reps g H ds xs → ∀ {i : Nat} {v : V}, xs[i]? = some v → ∃ d, ds[i]? = some d ∧ Rep g H d v
  | [], _, h, _, _, e => by rw [show _ = _ from h] at e; simp at e
  | _ :: _, _, ⟨v, vs, e, r, rs⟩, 0, u, q => by subst e; simp at q; subst q; exact ⟨_, rfl, r⟩
  | _ :: _, _, ⟨v, vs, e, r, rs⟩, i + 1, u, q => by subst e; exact (by simpa using Reps.getV rs (i := i) (v := u) (by simpa using q))
theorem Reps.append : ∀ {ds es : List D} {xs ys : List V}, Reps g H ds xs → Reps g H es ys → Reps g H (ds ++ es) (xs ++ ys)
  | [], _, _, _, h, k => by rw [show _ = _ from h]; exact k
  | _ :: _, _, _, _, ⟨v, vs, e, r, rs⟩, k => ⟨v, vs ++ _, by rw [e]; rfl, r, Reps.append rs k⟩
theorem Reps.one {d : D} {v : V} (r : Rep g H d v) : Reps g H [d] [v] := ⟨v, [], rfl, r, rfl⟩
theorem Reps.take : ∀ {ds : List D} {xs : List V} (n : Nat), Reps g H ds xs → Reps g H (ds.take n) (xs.take n)
  | _, _, 0, _ => by rw [List.take_zero, List.take_zero]; rfl
  | [], _, n + 1, h => by rw [show _ = _ from h, List.take_nil, List.take_nil]; rfl
  | _ :: _, _, n + 1, ⟨v, vs, e, r, rs⟩ => ⟨v, vs.take n, by rw [e]; rfl, r, Reps.take n rs⟩
theorem Reps.drop : ∀ {ds : List D} {xs : List V} (n : Nat), Reps g H ds xs → Reps g H (ds.drop n) (xs.drop n)
  | _, _, 0, h => h
  | [], _, n + 1, h => by rw [show _ = _ from h, List.drop_nil, List.drop_nil]; rfl
  | _ :: _, _, n + 1, ⟨v, vs, e, r, rs⟩ => by rw [e]; exact Reps.drop n rs
theorem Reps.set {d : D} {v : V} (r : Rep g H d v) : ∀ {ds : List D} {xs : List V} (i : Nat), Reps g H ds xs → Reps g H (ds.set i d) (xs.set i v)
  | [], _, _, h => by rw [show _ = _ from h]; exact (rfl : ([] : List V) = [])
  | _ :: _, _, 0, ⟨_, vs, e, _, rs⟩ => ⟨v, vs, by rw [e]; rfl, r, rs⟩
  | _ :: _, _, i + 1, ⟨u, vs, e, q, rs⟩ => ⟨u, vs.set i v, by rw [e]; rfl, q, Reps.set r i rs⟩
end

/-! ### environments of data -/
/-- a slot: not known, a datum that stays, a thing of the def's own that may change -/
inductive S where
  | un | fz (d : D) | ow (d : D)
structure En where
  sl : List S
  cnt : Nat
  me : Option Addr := none
def En.put (e : En) (i : Nat) (x : S) : En := { e with sl := e.sl.set i x }
/-- .. where the name is given another value -/
def En.asg (e : En) (i : Nat) (x : S) : En := { e with sl := e.sl.set i x, me := if i = 0 then none else e.me }
/-- slot 0 still holds the instance that the def was called with, where e.me tells it -/
def MeOk (σ : L2.St) (e : En) : Prop := ∀ x, e.me = some x → σ[0]? = some (some (.ref x))
theorem MeOk.set {σ : L2.St} {e : En} (h : MeOk σ e) {i : Nat} {v : Option V} {x : S} : MeOk (σ.set i v) (e.asg i x) := fun y hy => by
  unfold En.asg at hy
  simp only at hy
  by_cases q : i = 0
  · rw [if_pos q] at hy; cases hy
  · rw [if_neg q] at hy
    rw [List.getElem?_set, if_neg q]
    exact h y hy
/-- a thing that may change stands at a -/
def CellAt (g : Gx) (H : Hp) (a : Addr) : D → Prop
  | .lst ds => ∃ xs, H a = some (.lst xs) ∧ Reps g H ds xs
  | .dct ks ds => ∃ es kvs vvs, H a = some (dictO a es) ∧ ((a == sysModules) = false ∧ KsOk ks) ∧ Entz g.w ks kvs vvs es.toList ∧ Reps g H ks kvs ∧ Reps g H ds vvs
  | .obj C ns ds => ∃ dx fs, H a = some (.ins C dx fs) ∧ ns.Nodup ∧ fs.map (·.1) = ns ∧ Reps g H ds (fs.map (·.2))
  | _ => False
/-- the pen: its cells, where it stands -/
def PenOk (g : Gx) (H : Hp) (kvs : List (Key × V)) (n : Nat) : Prop :=
  ∃ (l : Addr) (ns : List Int) (at_ dg c f : Int), kvs = [(.inr "cells", .ref l), (.inr "at", .int at_), (.inr "digits", .int dg), (.inr "count", .int c), (.inr "fold", .int f)] ∧
    Fz H l (.lst (ns.map V.int)) ∧ 0 ≤ at_ ∧ 0 ≤ dg ∧ 0 ≤ c ∧ c ≤ n ∧ 0 ≤ f ∧ f < 2147483171
def Pens (g : Gx) (H : Hp) (n : Nat) : Prop := ∀ a kvs, H a = some (.dK kvs) → PenOk g H kvs n
structure ER (g : Gx) (σ : L2.St) (H : Hp) (e : En) : Prop where
  fz : ∀ (i : Nat) (d : D), e.sl[i]? = some (.fz d) → ∃ v, σ[i]? = some (some v) ∧ Rep g H d v
  ow : ∀ (i : Nat) (d : D), e.sl[i]? = some (.ow d) → ∃ a, σ[i]? = some (some (.ref a)) ∧ CellAt g H a d
  apart : ∀ (i j : Nat) (di dj : D) (a : Addr), e.sl[i]? = some (.ow di) → e.sl[j]? = some (.ow dj) → σ[i]? = some (some (.ref a)) → σ[j]? = some (some (.ref a)) → i = j
  pens : Pens g H e.cnt
  len : e.sl.length = σ.length ∧ MeOk σ e
/-- the def's own thing stands at a -/
def Own (σ : L2.St) (e : En) (a : Addr) : Prop := ∃ (i : Nat) (d : D), e.sl[i]? = some (.ow d) ∧ σ[i]? = some (some (.ref a))
/-- from one state on to another: what is not the def's own stays -/
structure Adv (σ : L2.St) (e : En) (H : Hp) (σ' : L2.St) (e' : En) (H' : Hp) : Prop where
  keep : ∀ a o, H a = some o → ¬ Own σ e a → ¬ Lo o → H' a = some o
  stab : Stab H H'
  there : ∀ a, H' a = none → H a = none
  owns : ∀ a, Own σ' e' a → Own σ e a ∨ H a = none
theorem Adv.refl (σ : L2.St) (e : En) (H : Hp) : Adv σ e H σ e H := ⟨fun _ _ h _ _ => h, .refl H, fun _ h => h, fun _ h => .inl h⟩
theorem Adv.trans {σ σ1 σ2 : L2.St} {e e1 e2 : En} {H H1 H2 : Hp} (x : Adv σ e H σ1 e1 H1) (y : Adv σ1 e1 H1 σ2 e2 H2) : Adv σ e H σ2 e2 H2 where
  keep a o h n p := y.keep a o (x.keep a o h n p) (fun q => (x.owns a q).elim n fun z => by rw [h] at z; cases z) p
  stab := x.stab.trans y.stab
  there a h := x.there a (y.there a h)
  owns a h := (y.owns a h).elim (x.owns a) fun z => .inr (x.there a z)
end DL
/-! DL, part b: freezing, the readings over data and what they are in the abstract heap. -/
namespace DL
open PySem PySem.Spec L2
/-- the pen's dict -/
def isPn : HO → Prop
  | .dK _ => True
  | _ => False

/-! ### a thing becomes known: it will not change any more -/
section
variable {X : Cx} {pins : List (Addr × Obj)} {σ : L2.St} {H : Hp} {s : Shared} {a dx C : Addr} {u : HO}
/-- a list, a dict by its entries -/
def Plain : HO → Prop
  | .lst _ => True
  | .ext _ => True
  | _ => False
theorem freeze_un {o : Obj} (ha : H a = some u) (hp : Plain u) : Un X.fs [] H (upd H a (.frz o u)) s.heap s.heap where
  keep b o e _ _ _ := e
  slot b o e _ _ _ := ⟨o.slots, e⟩
  free b o e n _ := by
    rw [upd_ne (fun q => by rw [q, ha] at n; cases n)]
    exact n
  there b o e _ := ⟨o, e⟩
  tups b xs e := by
    rw [upd_ne (fun q => by rw [q, ha] at e; cases e; exact hp)]
    exact e
  frzs b o xs e := by
    rw [upd_ne (fun q => by rw [q, ha] at e; cases e; exact hp)]
    exact e
  tbls b ps e := ⟨#[], by
    rw [upd_ne (fun q => by rw [q, ha] at e; cases e; exact hp), e]
    simp⟩
theorem freeze_hok {o : Obj} {P : Program} {w : World} {h : Heap} (ok : HOk P w H h) (ha : H a = some u) (hp : Plain u) (ho : h.get? a = some o) : HOk P w (upd H a (.frz o u)) h := fun b v e => by
  have no : ∀ c y, H c = some (.own y) → c ≠ a := fun c y q z => by rw [z, ha] at q; cases q; exact hp
  have nt : ∀ c xs, H c = some (.tup xs) → c ≠ a := fun c xs q z => by rw [z, ha] at q; cases q; exact hp
  by_cases hb : b = a
  · subst hb
    rw [upd_same] at e
    cases e
    exact ⟨ho, (ok b u ha).stay (fun _ _ _ q => q) (fun c q => by rw [upd_ne (no c _ q)]; exact q) fun c xs q => by rw [upd_ne (nt c xs q)]; exact q⟩
  · rw [upd_ne hb] at e
    exact (ok b v e).stay (fun _ _ _ q => q) (fun c q => by rw [upd_ne (no c _ q)]; exact q) fun c xs q => by rw [upd_ne (nt c xs q)]; exact q
theorem Inv.freeze (I : Inv X pins σ H s) (ha : H a = some u) (hp : Plain u) : ∃ o, s.heap.get? a = some o ∧ Inv X pins σ (upd H a (.frz o u)) s := by
  obtain ⟨o, ho⟩ : ∃ o, s.heap.get? a = some o := by
    have x := I.hok a u ha
    cases u with
    | lst xs => obtain ⟨_, _, _, _, e⟩ := x; exact ⟨_, e⟩
    | ext φ => obtain ⟨_, ⟨o, e⟩, _⟩ := x; exact ⟨o, e⟩
    | _ => exact hp.elim
  exact ⟨o, ho, I.un (t' := s.toks) (freeze_un ha hp) (freeze_hok I.hok ha hp ho)⟩
/-- an instance and its own dict -/
def frzI (H : Hp) (a dx : Addr) (o od : Obj) (C : Addr) (mA : Str → Option Value) : Hp := fun b => if b = a then some (.frz o (insO a C dx)) else if b = dx then some (.frz od (nsO dx mA)) else H b
theorem Inv.freezeI {fs : List (Str × V)} (I : Inv X pins σ H s) (ha : H a = some (.ins C dx fs)) :
    ∃ o od mA, (∀ f, RelO (fs.lookup f) (mA f)) ∧ dx ≠ a ∧ H dx = some (.own a) ∧ Inv X pins σ (frzI H a dx o od C mA) s := by
  obtain ⟨mA, O, r, _, _, hd⟩ := ins_get I.hok ha
  have od : ∃ od, s.heap.get? dx = some od := let ⟨o, _, _, e, _⟩ := O.ns; ⟨o, e⟩
  obtain ⟨od, hod⟩ := od
  have na : ∀ b u, H b = some u → (∀ C dx fs, u ≠ .ins C dx fs) → b ≠ a := fun b u e n q => by rw [q, ha] at e; cases e; exact n _ _ _ rfl
  have nd : ∀ b u, H b = some u → (∀ y, u ≠ .own y) → b ≠ dx := fun b u e n q => by rw [q, hd] at e; cases e; exact n _ rfl
  have out : ∀ b u, H b = some u → b ≠ a → b ≠ dx → frzI H a dx (PySem.W.instObj C dx) od C mA b = some u := fun b u e n1 n2 => by
    unfold frzI
    rw [if_neg n1, if_neg n2]
    exact e
  have un : Un X.fs [] H (frzI H a dx (PySem.W.instObj C dx) od C mA) s.heap s.heap :=
    ⟨fun b o e _ _ _ => e, fun b o e _ _ _ => ⟨o.slots, e⟩, fun b o e n _ => by
      unfold frzI
      rw [if_neg (fun q => by rw [q, ha] at n; cases n), if_neg (fun q => by rw [q, hd] at n; cases n)]
      exact n, fun b o e _ => ⟨o, e⟩, fun b xs e => out b _ e (na b _ e (fun _ _ _ q => by cases q)) (nd b _ e (fun _ q => by cases q)),
      fun b o xs e => out b _ e (na b _ e (fun _ _ _ q => by cases q)) (nd b _ e (fun _ q => by cases q)),
      fun b ps e => ⟨#[], by rw [out b _ e (na b _ e (fun _ _ _ q => by cases q)) (nd b _ e (fun _ q => by cases q))]; simp⟩⟩
  have hok : HOk X.prog X.w (frzI H a dx (PySem.W.instObj C dx) od C mA) s.heap := fun b v e => by
    by_cases hb : b = a
    · subst hb
      unfold frzI at e
      rw [if_pos rfl] at e
      cases e
      exact ⟨O.obj, O.obj, ⟨_, O.obj⟩, fun h1 h2 q k => k _ q⟩
    · by_cases hb2 : b = dx
      · subst hb2
        unfold frzI at e
        rw [if_neg hb, if_pos rfl] at e
        cases e
        exact ⟨hod, O.ns, ⟨_, hod⟩, fun h1 h2 q k => q.at k⟩
      · have e' : H b = some v := by
          unfold frzI at e
          rw [if_neg hb, if_neg hb2] at e
          exact e
        refine (I.hok b v e').stay (fun _ _ _ q => q) (fun c q => ?_) fun c xs q => out c _ q (na c _ q (fun _ _ _ q => by cases q)) (nd c _ q (fun _ q => by cases q))
        refine out c _ q (na c _ q (fun _ _ _ q => by cases q)) fun z => ?_
        rw [z, hd] at q
        cases q
        exact hb rfl
  exact ⟨_, od, mA, r, O.ne, hd, I.un (t' := s.toks) un hok⟩
end

/-! ### growth: only new things -/
structure Grow (H H' : Hp) : Prop where
  keep : ∀ a o, H a = some o → H' a = some o
  pen : ∀ a kvs, H' a = some (.dK kvs) → H a = some (.dK kvs)
theorem Grow.refl (H : Hp) : Grow H H := ⟨fun _ _ h => h, fun _ _ h => h⟩
theorem Grow.trans {H H1 H2 : Hp} (x : Grow H H1) (y : Grow H1 H2) : Grow H H2 := ⟨fun a o h => y.keep a o (x.keep a o h), fun a k h => x.pen a k (y.pen a k h)⟩
theorem Grow.new {H : Hp} {p : Addr} {o : HO} (h : H p = none) (n : ¬ Lo o) : Grow H (upd H p o) := ⟨fun a u e => by
  rw [upd_ne (ne_of_none e h)]
  exact e, fun a k e => by
  by_cases q : a = p
  · rw [q, upd_same] at e
    cases e
    exact (n trivial).elim
  · rw [upd_ne q] at e
    exact e⟩
theorem Grow.stab {H H' : Hp} (x : Grow H H') : Stab H H' := ⟨fun a o h _ => x.keep a o h, fun a k h => ⟨k, x.keep a _ h⟩⟩
section
variable {g : Gx} {σ : L2.St} {H H' : Hp} {e : En} {a : Addr} {d : D}
theorem PenOk.mono (s : Stab H H') {kvs : List (Key × V)} {n m : Nat} (hn : n ≤ m) (p : PenOk g H kvs n) : PenOk g H' kvs m := by
  obtain ⟨l, ns, at_, dg, c, f, e, q, h1, h2, h3, h4, h5, h6⟩ := p
  exact ⟨l, ns, at_, dg, c, f, e, q.mono s, h1, h2, h3, by omega, h5, h6⟩
theorem Pens.grow (x : Grow H H') {n : Nat} (p : Pens g H n) : Pens g H' n := fun a k h => (p a k (x.pen a k h)).mono x.stab (Nat.le_refl _)
/-- the thing at a is as it was -/
theorem CellAt.keep (s : Stab H H') (k : ∀ o, H a = some o → H' a = some o) : CellAt g H a d → CellAt g H' a d := by
  cases d with
  | lst ds => exact fun ⟨xs, e, r⟩ => ⟨xs, k _ e, r.mono s ds xs⟩
  | dct ks ds => exact fun ⟨es, kvs, vvs, e, z, q, r1, r2⟩ => ⟨es, kvs, vvs, k _ e, z, q, r1.mono s ks kvs, r2.mono s ds vvs⟩
  | obj C ns ds => exact fun ⟨dx, fs, e, q, m, r⟩ => ⟨dx, fs, k _ e, q, m, r.mono s ds _⟩
  | _ => exact fun h => h
theorem CellAt.there : CellAt g H a d → ∃ o, H a = some o ∧ ¬ Imm o ∧ ¬ Lo o := by
  cases d with
  | lst ds => exact fun ⟨xs, e, _⟩ => ⟨_, e, fun h => h, fun h => h⟩
  | dct ks ds => exact fun ⟨es, _, _, e, _⟩ => ⟨_, e, fun h => h, fun h => h⟩
  | obj C ns ds => exact fun ⟨dx, fs, e, _⟩ => ⟨_, e, fun h => h, fun h => h⟩
  | _ => exact fun h => h.elim
theorem ER.grow (r : ER g σ H e) (x : Grow H H') : ER g σ H' e :=
  ⟨fun i d h => let ⟨v, h1, h2⟩ := r.fz i d h; ⟨v, h1, h2.mono x.stab d v⟩, fun i d h => let ⟨a, h1, h2⟩ := r.ow i d h; ⟨a, h1, h2.keep x.stab fun o q => x.keep _ o q⟩, r.apart, r.pens.grow x, r.len⟩
theorem Grow.there {H H' : Hp} (x : Grow H H') (a : Addr) (h : H' a = none) : H a = none := by
  cases q : H a with
  | none => rfl
  | some o => rw [x.keep a o q] at h; cases h
theorem Adv.grow (x : Grow H H') : Adv σ e H σ e H' := ⟨fun a o h _ _ => x.keep a o h, x.stab, x.there, fun _ h => .inl h⟩
theorem ER.own (r : ER g σ H e) : Own σ e a → ∃ o, H a = some o ∧ ¬ Imm o ∧ ¬ Lo o := fun ⟨i, d, h1, h2⟩ => by
  obtain ⟨b, h3, h4⟩ := r.ow i d h1
  rw [h2] at h3
  cases h3
  exact h4.there
end

/-! ### the readings over data -/
abbrev DK := D → En → Prop
abbrev WE := En → DK → Prop
abbrev WT := En → (Bool → En → Prop) → Prop
abbrev WA := En → (List D → En → Prop) → Prop
def up (g : Gx) (w : WE) : TE := fun σ H Q => ∃ e K, ER g σ H e ∧ w e K ∧ ∀ d e' v H', K d e' → Adv σ e H σ e' H' → ER g σ H' e' → Rep g H' d v → Q v H'
/-- a new thing of the def's own -/
def upN (g : Gx) (w : WE) : TE := fun σ H Q => ∃ e K, ER g σ H e ∧ w e K ∧ ∀ d e' a H', K d e' → Adv σ e H σ e' H' → ER g σ H' e' → CellAt g H' a d → H a = none → ¬ Own σ e' a → Q (.ref a) H'
def upT (g : Gx) (w : WT) : TT := fun σ H Q => ∃ e K, ER g σ H e ∧ w e K ∧ ∀ b e' H', K b e' → Adv σ e H σ e' H' → ER g σ H' e' → Q b H'
def upA (g : Gx) (w : WA) : TA := fun σ H Q => ∃ e K, ER g σ H e ∧ w e K ∧ ∀ ds e' vs H', K ds e' → Adv σ e H σ e' H' → ER g σ H' e' → Reps g H' ds vs → Q vs H'
abbrev DE (X : Cx) (e : Expr) (w : WE) : Prop := PE X e (up (gx X) w)
abbrev DN (X : Cx) (e : Expr) (w : WE) : Prop := PE X e (upN (gx X) w)
abbrev DT (X : Cx) (e : Expr) (w : WT) : Prop := PT X e (upT (gx X) w)
abbrev DA (X : Cx) (es : List Expr) (w : WA) : Prop := PA X es (upA (gx X) w)

section
variable {X : Cx} {e a b c : Expr} {es : List Expr} {t t' : TE} {pos : Pos}
theorem pe_imp (h : PE X e t) (i : ∀ σ H Q, t' σ H Q → t σ H Q) : PE X e t' := ⟨fun pins s σ H Q I hw => h.run pins s σ H Q I (i σ H Q hw)⟩
theorem pt_imp {t t' : TT} (h : PT X e t) (i : ∀ σ H Q, t' σ H Q → t σ H Q) : PT X e t' := ⟨fun pins s σ H Q I hw => h.run pins s σ H Q I (i σ H Q hw)⟩
theorem pa_imp {t t' : TA} (h : PA X es t) (i : ∀ σ H Q, t' σ H Q → t σ H Q) : PA X es t' := ⟨fun pos pins s σ H Q I hw => h.run pos pins s σ H Q I (i σ H Q hw)⟩

/-! ### names, constants -/
def wV (i : Nat) : WE := fun e K => ∃ d, e.sl[i]? = some (.fz d) ∧ K d e
def wC (d : D) : WE := fun e K => K d e
def flat : D → Bool
  | .non | .bl _ | .int _ | .str _ | .fn _ => true
  | _ => false
def flatV : D → V
  | .bl b => .bl b
  | .int i => .int i
  | .str x => .str x
  | .fn a => .ref a
  | _ => .non
theorem flat_rep {g : Gx} {H : Hp} : ∀ {d : D}, flat d = true → Rep g H d (flatV d)
  | .non, _ => rfl
  | .bl _, _ => rfl
  | .int _, _ => rfl
  | .str _, _ => rfl
  | .fn _, _ => rfl
theorem up_c {g : Gx} {d : D} (hd : flat d = true) : ∀ σ H Q, up g (wC d) σ H Q → tC (flatV d) σ H Q := fun σ H Q ⟨e, K, r, k, q⟩ => q d e _ H k (.refl ..) r (flat_rep hd)
theorem up_v {g : Gx} {i : Nat} : ∀ σ H Q, up g (wV i) σ H Q → tVar i σ H Q := fun σ H Q ⟨e, K, r, ⟨d, hd, k⟩, q⟩ =>
  let ⟨v, h1, h2⟩ := r.fz i d hd
  ⟨v, h1, q d e v H k (.refl ..) r h2⟩
theorem de_v (i : Nat) {x : Str} (hN : X.N[i]? = some x := by rfl) (hv : Vis X.env.scope x := by first | exact Or.inl rfl | exact Or.inr (Or.inl rfl) | exact Or.inr (Or.inr rfl)) (hd : (x == ("__debug__" : Str)) = false := by decide)
    (hcd : (x == ("__classdict__" : Str)) = false := by decide) : DE X (.Name x pos) (wV i) := pe_imp (pe_var hN hv hd hcd) up_v
theorem de_int {i : Int} {j} : DE X (.Constant (.int i) j pos) (wC (.int i)) := pe_imp pe_int (up_c rfl)
theorem de_str {x : Str} {j} : DE X (.Constant (.str x) j pos) (wC (.str x)) := pe_imp pe_str (up_c rfl)
theorem de_bl {x : Bool} {j} : DE X (.Constant (.bool x) j pos) (wC (.bl x)) := pe_imp pe_bl (up_c rfl)
theorem de_non {j} : DE X (.Constant .none j pos) (wC .non) := pe_imp pe_non (up_c rfl)
/-- a def, a class of the module as a value; a written number, a written text -/
theorem de_glob {x : Str} {d : D} {u : Value} (hg : Gl X x) (hm : X.mg x = some u) (hd : flat d = true) (r : RelV (flatV d) u) (hdb : (x == ("__debug__" : Str)) = false := by decide) : DE X (.Name x pos) (wC d) :=
  pe_imp (pe_glob hg hm r hdb) (up_c hd)

/-! ### operations by values -/
def w1 (f : D → Option D) (wa : WE) : WE := fun e K => wa e fun x e1 => ∃ z, f x = some z ∧ K z e1
def w2 (f : D → D → Option D) (wa wb : WE) : WE := fun e K => wa e fun x e1 => wb e1 fun y e2 => ∃ z, f x y = some z ∧ K z e2
/-- f is what the operation with reading r does: known data in, a known datum out -/
def Op2 (g : Gx) (r : R2) (f : D → D → Option D) : Prop := ∀ (H : Hp) (x y : V) (dx dy z : D) (Q : VK), Rep g H dx x → Rep g H dy y → f dx dy = some z → (∀ v H', Grow H H' → Rep g H' z v → Q v H') → r x y H Q
def Op1 (g : Gx) (r : V → Hp → VK → Prop) (f : D → Option D) : Prop := ∀ (H : Hp) (x : V) (dx z : D) (Q : VK), Rep g H dx x → f dx = some z → (∀ v H', Grow H H' → Rep g H' z v → Q v H') → r x H Q
theorem up_2 {g : Gx} {r : R2} {f : D → D → Option D} {wa wb : WE} (o : Op2 g r f) : ∀ σ H Q, up g (w2 f wa wb) σ H Q → tOp r (up g wa) (up g wb) σ H Q := fun σ H Q ⟨e, K, i, k, q⟩ =>
  ⟨e, _, i, k, fun dx e1 x H1 k1 a1 i1 r1 => ⟨e1, _, i1, k1, fun dy e2 y H2 ⟨z, hz, k2⟩ a2 i2 r2 => o H2 x y dx dy z Q (r1.mono a2.stab dx x) r2 hz fun v H' gr rv =>
    q z e2 v H' k2 ((a1.trans a2).trans (.grow gr)) (i2.grow gr) rv⟩⟩
theorem up_1 {g : Gx} {r : V → Hp → VK → Prop} {f : D → Option D} {wa : WE} (o : Op1 g r f) : ∀ σ H Q, up g (w1 f wa) σ H Q → tUn r (up g wa) σ H Q := fun σ H Q ⟨e, K, i, k, q⟩ =>
  ⟨e, _, i, k, fun dx e1 x H1 ⟨z, hz, k1⟩ a1 i1 r1 => o H1 x dx z Q r1 hz fun v H' gr rv => q z e1 v H' k1 (a1.trans (.grow gr)) (i1.grow gr) rv⟩
theorem de_op {op : Operator} {r : R2} {f : D → D → Option D} {wa wb : WE} (ho : OpR X (binaryOp op) r) (o : Op2 (gx X) r f) (ha : DE X a wa) (hb : DE X b wb) : DE X (.BinOp a op b pos) (w2 f wa wb) := pe_imp (pe_op ho ha hb) (up_2 o)
theorem de_cmp {op : CmpOp} {r : R2} {f : D → D → Option D} {wa wb : WE} (ho : OpR X (compareOp op) r) (o : Op2 (gx X) r f) (ha : DE X a wa) (hb : DE X b wb) (hm : behindInMarks op b = false := by first | exact nomark _ | rfl) :
    DE X (.Compare a [op] [b] pos) (w2 f wa wb) := pe_imp (pe_cmpR ho ha hb hm) (up_2 o)
theorem de_un {op : UnaryOp} {r : V → Hp → VK → Prop} {f : D → Option D} {wa : WE} (ho : UnR X (unaryOp op) r) (o : Op1 (gx X) r f) (ha : DE X a wa) : DE X (.UnaryOp op a pos) (w1 f wa) := pe_imp (pe_un ho ha) (up_1 o)

/-! ### freezing -/
theorem flds_of {mA : Str → Option Value} : ∀ {fs : List (Str × V)}, (fs.map (·.1)).Nodup → (∀ f, RelO (fs.lookup f) (mA f)) → Flds mA (fs.map (·.1)) (fs.map (·.2)) := by
  intro fs
  suffices h : ∀ pre : List (Str × V), ((pre ++ fs).map (·.1)).Nodup → (∀ f, RelO ((pre ++ fs).lookup f) (mA f)) → Flds mA (fs.map (·.1)) (fs.map (·.2)) from h []
  induction fs with
  | nil => exact fun _ _ _ => rfl
  | cons p r ih =>
    intro pre nd rel
    obtain ⟨n, v⟩ := p
    have hl : (pre ++ (n, v) :: r).lookup n = some v := by
      have hn : n ∉ pre.map (·.1) := by
        rw [List.map_append, List.map_cons] at nd
        have := List.nodup_append.mp nd
        exact fun q => this.2.2 n q n List.mem_cons_self rfl
      clear nd rel ih
      induction pre with
      | nil => simp [List.lookup]
      | cons q pre ih =>
        obtain ⟨m, u⟩ := q
        have h1 : (n == m) = false := beq_eq_false_iff_ne.mpr fun z => hn (by rw [z]; exact List.mem_cons_self)
        rw [List.cons_append, List.lookup_cons, h1]
        exact ih fun z => hn (List.mem_cons_of_mem _ z)
    have hr := rel n
    rw [hl] at hr
    obtain ⟨u, e, ru⟩ := RelO.some_of hr
    have e2 : pre ++ (n, v) :: r = (pre ++ [(n, v)]) ++ r := by simp
    exact ⟨v, r.map (·.2), u, rfl, e, ru, ih (pre ++ [(n, v)]) (by rw [← e2]; exact nd) (by rw [← e2]; exact rel)⟩
/-- the thing at a becomes known -/
theorem freeze_cell {pins : List (Addr × Obj)} {σ : L2.St} {H : Hp} {s : Shared} {p : Addr} {d : D} (I : Inv X pins σ H s) (c : CellAt (gx X) H p d) :
    ∃ H', Inv X pins σ H' s ∧ Rep (gx X) H' d (.ref p) ∧ Stab H H' ∧ (∀ b o, H b = some o → b ≠ p → ¬ Lo o → H' b = some o) ∧ (∀ b kvs, H' b = some (.dK kvs) → H b = some (.dK kvs)) ∧ ∀ b, H' b = none → H b = none := by
  have plain : ∀ u, H p = some u → Plain u → ∃ H' o, Inv X pins σ H' s ∧ H' = upd H p (.frz o u) ∧ Stab H H' ∧ (∀ b o, H b = some o → b ≠ p → ¬ Lo o → H' b = some o) ∧ (∀ b kvs, H' b = some (.dK kvs) → H b = some (.dK kvs)) ∧ ∀ b, H' b = none → H b = none := fun u hu hp => by
    obtain ⟨o, ho, J⟩ := Inv.freeze I hu hp
    have ne : ∀ b o, H b = some o → Imm o ∨ isPn o → b ≠ p := fun b o h i q => by
      rw [q, hu] at h
      cases h
      cases u with
      | lst _ => exact i.elim (fun z => z) fun z => z
      | ext _ => exact i.elim (fun z => z) fun z => z
      | _ => exact hp
    refine ⟨_, o, J, rfl, ⟨fun b o h i => by rw [upd_ne (ne b o h (.inl i))]; exact h, fun b k h => ⟨k, by rw [upd_ne (ne b _ h (.inr trivial))]; exact h⟩⟩, fun b o h n _ => by rw [upd_ne n]; exact h, fun b k h => ?_, fun b h => ?_⟩
    · by_cases q : b = p
      · rw [q, upd_same] at h; cases h
      · rw [upd_ne q] at h; exact h
    · by_cases q : b = p
      · rw [q, upd_same] at h; cases h
      · rw [upd_ne q] at h; exact h
  cases d with
  | lst ds =>
    obtain ⟨xs, e, r⟩ := c
    obtain ⟨H', o, J, eH, s1, s2, s3, s4⟩ := plain _ e trivial
    exact ⟨H', J, ⟨p, xs, rfl, ⟨o, by rw [eH, upd_same]⟩, r.mono s1 ds xs⟩, s1, s2, s3, s4⟩
  | dct ks ds =>
    obtain ⟨es, kvs, vvs, e, z, q, r1, r2⟩ := c
    obtain ⟨H', o, J, eH, s1, s2, s3, s4⟩ := plain _ e trivial
    exact ⟨H', J, ⟨p, es, kvs, vvs, rfl, ⟨o, by rw [eH, upd_same]⟩, z, q, r1.mono s1 ks kvs, r2.mono s1 ds vvs⟩, s1, s2, s3, s4⟩
  | obj C ns ds =>
    obtain ⟨dx, fs, e, nd, m, r⟩ := c
    obtain ⟨o, od, mA, rel, ne, hd, J⟩ := Inv.freezeI I e
    have no : ∀ b u, H b = some u → Imm u ∨ isPn u → b ≠ p ∧ b ≠ dx := fun b u h i => ⟨fun q => by
      rw [q, e] at h
      cases h
      exact i.elim (fun z => z) fun z => z, fun q => by
      rw [q, hd] at h
      cases h
      exact i.elim (fun z => z) fun z => z⟩
    have out : ∀ b u, H b = some u → b ≠ p ∧ b ≠ dx → frzI H p dx o od C mA b = some u := fun b u h n => by
      unfold frzI
      rw [if_neg n.1, if_neg n.2]
      exact h
    have s1 : Stab H (frzI H p dx o od C mA) := ⟨fun b u h i => out b u h (no b u h (.inl i)), fun b k h => ⟨k, out b _ h (no b _ h (.inr trivial))⟩⟩
    refine ⟨_, J, ⟨p, dx, mA, fs.map (·.2), rfl, ⟨o, if_pos rfl⟩, ⟨od, (if_neg ne).trans (if_pos rfl)⟩, ne, fun f hf => ?_, ?_, r.mono s1 ds _⟩, s1, fun b u h n l => out b u h ⟨n, fun q => by rw [q, hd] at h; cases h; exact l trivial⟩, fun b k h => ?_, fun b h => ?_⟩
    · have hl : fs.lookup f = none := by
        rw [← m] at hf
        clear e rel r m J s1 out no I plain
        induction fs with
        | nil => rfl
        | cons q r ih =>
          obtain ⟨m, u⟩ := q
          rw [List.lookup_cons, beq_eq_false_iff_ne.mpr fun z => hf (by rw [z]; exact List.mem_cons_self)]
          exact ih fun z => hf (List.mem_cons_of_mem _ z)
      exact RelO.none_of (by rw [← hl]; exact rel f)
    · rw [← m]
      exact flds_of (by rw [m]; exact nd) rel
    · unfold frzI at h
      by_cases q : b = p
      · rw [if_pos q] at h; cases h
      · by_cases q2 : b = dx
        · rw [if_neg q, if_pos q2] at h; cases h
        · rw [if_neg q, if_neg q2] at h; exact h
    · unfold frzI at h
      by_cases q : b = p
      · rw [if_pos q] at h; cases h
      · by_cases q2 : b = dx
        · rw [if_neg q, if_pos q2] at h; cases h
        · rw [if_neg q, if_neg q2] at h; exact h
  | _ => exact c.elim
theorem Pens.mono {g : Gx} {H H' : Hp} {n m : Nat} (hn : n ≤ m) (s : Stab H H') (k : ∀ b kvs, H' b = some (.dK kvs) → H b = some (.dK kvs)) (p : Pens g H n) : Pens g H' m := fun a kvs h => (p a kvs (k a kvs h)).mono s hn
end
end DL
/-! DL, part c: freezing as rules, displays, calls of built-ins, tests. -/
namespace DL
open PySem PySem.Spec L2

section
variable {g : Gx} {σ : L2.St} {H0 H1 H2 : Hp} {e0 e e' : En} {a : Addr} {d : D}
/-- behind a freezing -/
structure Frzn (H H' : Hp) (p : Addr) : Prop where
  stab : Stab H H'
  keep : ∀ b o, H b = some o → b ≠ p → ¬ Lo o → H' b = some o
  pen : ∀ b kvs, H' b = some (.dK kvs) → H b = some (.dK kvs)
  there : ∀ b, H' b = none → H b = none
theorem freeze_at {X : Cx} {pins : List (Addr × Obj)} {H : Hp} {s : Shared} {p : Addr} (I : Inv X pins σ H s) (c : CellAt (gx X) H p d) : ∃ H', Inv X pins σ H' s ∧ Rep (gx X) H' d (.ref p) ∧ Frzn H H' p := by
  obtain ⟨H', J, r, h1, h2, h3, h4⟩ := freeze_cell I c
  exact ⟨H', J, r, ⟨h1, h2, h3, h4⟩⟩
theorem Adv.frzn (x : Adv σ e0 H0 σ e H1) (f : Frzn H1 H2 a) (n : H0 a = none) : Adv σ e0 H0 σ e H2 :=
  ⟨fun b o h no nl => f.keep b o (x.keep b o h no nl) (fun q => by rw [q, n] at h; cases h) nl, x.stab.trans f.stab, fun b h => x.there b (f.there b h), x.owns⟩
theorem ER.frzn (r : ER g σ H1 e) (f : Frzn H1 H2 a) (n : ¬ Own σ e a) : ER g σ H2 e := by
  refine ⟨fun i d h => let ⟨v, h1, h2⟩ := r.fz i d h; ⟨v, h1, h2.mono f.stab d v⟩, fun i d h => ?_, r.apart, r.pens.mono (Nat.le_refl _) f.stab f.pen, r.len⟩
  obtain ⟨b, h1, h2⟩ := r.ow i d h
  obtain ⟨o, e, _, nl⟩ := h2.there
  refine ⟨b, h1, h2.keep f.stab fun o' q => f.keep b o' q (fun z => n ⟨i, d, h, by rw [← z]; exact h1⟩) fun l => ?_⟩
  rw [e] at q
  cases q
  exact nl l
theorem put_get (e : En) (i j : Nat) (x : S) : (e.put i x).sl[j]? = if i = j then (if i < e.sl.length then some x else none) else e.sl[j]? := by
  show (e.sl.set i x)[j]? = _
  rw [List.getElem?_set]
theorem asg_get (e : En) (i j : Nat) (x : S) : (e.asg i x).sl[j]? = if i = j then (if i < e.sl.length then some x else none) else e.sl[j]? := put_get e i j x
theorem put_self {i : Nat} {x y : S} (h : e.sl[i]? = some y) : (e.put i x).sl[i]? = some x := by
  rw [put_get, if_pos rfl, if_pos (List.getElem?_eq_some_iff.mp h).1]
/-- the slot's own thing is frozen -/
theorem ER.frzn_own {i : Nat} (r : ER g σ H1 e) (hi : e.sl[i]? = some (.ow d)) (hs : σ[i]? = some (some (.ref a))) (f : Frzn H1 H2 a) (rp : Rep g H2 d (.ref a)) : ER g σ H2 (e.put i (.fz d)) ∧ Adv σ e H1 σ (e.put i (.fz d)) H2 := by
  have sub : ∀ j dj, (e.put i (.fz d)).sl[j]? = some (.ow dj) → i ≠ j ∧ e.sl[j]? = some (.ow dj) := fun j dj h => by
    rw [put_get] at h
    by_cases q : i = j
    · rw [if_pos q] at h
      split at h <;> cases h
    · rw [if_neg q] at h
      exact ⟨q, h⟩
  refine ⟨⟨fun j dj h => ?_, fun j dj h => ?_, fun j k dj dk b h1 h2 => r.apart j k dj dk b (sub _ _ h1).2 (sub _ _ h2).2, r.pens.mono (Nat.le_refl _) f.stab f.pen, ⟨by show (e.sl.set i _).length = _; rw [List.length_set]; exact r.len.1, r.len.2⟩⟩,
    ⟨fun b o h no nl => f.keep b o h (fun q => no ⟨i, d, hi, by rw [q]; exact hs⟩) nl, f.stab, f.there, fun b ⟨j, dj, h1, h2⟩ => .inl ⟨j, dj, (sub _ _ h1).2, h2⟩⟩⟩
  · rw [put_get] at h
    by_cases q : i = j
    · rw [if_pos q, if_pos (List.getElem?_eq_some_iff.mp hi).1] at h
      cases h
      exact ⟨_, by rw [← q]; exact hs, rp⟩
    · rw [if_neg q] at h
      obtain ⟨v, h1, h2⟩ := r.fz j dj h
      exact ⟨v, h1, h2.mono f.stab dj v⟩
  · obtain ⟨q, h'⟩ := sub j dj h
    obtain ⟨b, h1, h2⟩ := r.ow j dj h'
    obtain ⟨o, eo, _, nl⟩ := h2.there
    refine ⟨b, h1, h2.keep f.stab fun o' z => f.keep b o' z (fun y => q (r.apart i j d dj a hi h' hs (by rw [← y]; exact h1))) fun l => ?_⟩
    rw [eo] at z
    cases z
    exact nl l
end

section
variable {X : Cx} {e a b c : Expr} {es : List Expr} {pos p : Pos} {w wa wb : WE} {ws : WA}
/-- a new thing becomes known at once -/
theorem de_fz (h : DN X e w) : DE X e w := ⟨fun pins s σ H Q I ⟨e0, K, r, k, q⟩ => by
  refine thn (h.run pins s σ H (fun v H1 => ∃ d e' a, v = .ref a ∧ K d e' ∧ Adv σ e0 H σ e' H1 ∧ ER (gx X) σ H1 e' ∧ CellAt (gx X) H1 a d ∧ H a = none ∧ ¬ Own σ e' a) I ⟨e0, K, r, k, fun d e' a H' k a1 i c n o => ⟨d, e', a, rfl, k, a1, i, c, n, o⟩⟩) fun u s1 h1 => ?_
  obtain ⟨v, H1, I1, rv, d, e', a, rfl, k', ad, i, c, n, o⟩ := h1
  obtain ⟨H2, J, rp, f⟩ := freeze_at I1 c
  exact ⟨_, H2, J, rv, q d e' _ H2 k' (ad.frzn f n) (i.frzn f o) rp⟩⟩
/-- a slot's own thing, read: it becomes known -/
def wF (i : Nat) : WE := fun e K => ∃ d, e.sl[i]? = some (.ow d) ∧ K d (e.put i (.fz d))
theorem de_f (i : Nat) {x : Str} (hN : X.N[i]? = some x := by rfl) (hv : Vis X.env.scope x := by first | exact Or.inl rfl | exact Or.inr (Or.inl rfl) | exact Or.inr (Or.inr rfl)) (hd : (x == ("__debug__" : Str)) = false := by decide)
    (hcd : (x == ("__classdict__" : Str)) = false := by decide) : DE X (.Name x pos) (wF i) := ⟨fun pins s σ H Q I ⟨e0, K, r, ⟨d, hd', k⟩, q⟩ => by
  obtain ⟨a, h1, c⟩ := r.ow i d hd'
  refine thn ((pe_var hN hv hd hcd).run pins s σ H (fun v H1 => v = .ref a ∧ H1 = H) I ⟨_, h1, rfl, rfl⟩) fun u s1 h2 => ?_
  obtain ⟨v, H1, I1, rv, rfl, rfl⟩ := h2
  obtain ⟨H2, J, rp, f⟩ := freeze_at I1 c
  obtain ⟨i2, a2⟩ := r.frzn_own hd' h1 f rp
  exact ⟨_, H2, J, rv, q d _ _ H2 k a2 i2 rp⟩⟩

/-! ### arguments, displays -/
def wNil : WA := fun e K => K [] e
def wCons (w : WE) (ws : WA) : WA := fun e K => w e fun d e1 => ws e1 fun ds e2 => K (d :: ds) e2
theorem da_nil : DA X [] wNil := pa_imp pa_nil fun σ H Q ⟨e, K, r, k, q⟩ => q [] e [] H k (.refl ..) r rfl
theorem da_cons (h : DE X e w) (hr : DA X es ws) (hs : starEach (e :: es) X.env = (false, eval e X.env) :: starEach es X.env := by rfl) : DA X (e :: es) (wCons w ws) := pa_imp (pa_cons h hr hs) fun σ H Q ⟨e, K, r, k, q⟩ =>
  ⟨e, _, r, k, fun d e1 v H1 k1 a1 r1 p1 => ⟨e1, _, r1, k1, fun ds e2 vs H2 k2 a2 r2 p2 => q (d :: ds) e2 (v :: vs) H2 k2 (a1.trans a2) r2 ⟨v, vs, rfl, p1.mono a2.stab d v, p2⟩⟩⟩
def wTup (ws : WA) : WE := fun e K => ws e fun ds e1 => ds.length ≤ sizeLine ∧ K (.tup ds) e1
def wLst (ws : WA) : WE := fun e K => ws e fun ds e1 => ds.length ≤ sizeLine ∧ K (.lst ds) e1
theorem de_tup {x1} (h : DA X es ws) : DE X (.Tuple es x1 pos) (wTup ws) := pe_imp (pe_tup h) fun σ H Q ⟨e, K, r, k, q⟩ =>
  ⟨e, _, r, k, fun ds e1 vs H1 ⟨z, k1⟩ a1 r1 p1 => ⟨by rw [p1.length]; exact z, fun p hp => by
    have gr : Grow H1 (upd H1 p (.tup vs)) := .new hp fun z => z
    exact q (.tup ds) e1 (.ref p) _ k1 (a1.trans (.grow gr)) (r1.grow gr) ⟨p, vs, rfl, .of upd_same, p1.mono gr.stab ds vs⟩⟩⟩
theorem not_own {g : Gx} {σ : L2.St} {H : Hp} {e : En} {p : Addr} (r : ER g σ H e) (hp : H p = none) : ¬ Own σ e p := fun o => by
  obtain ⟨_, h, _⟩ := r.own o
  rw [hp] at h
  cases h
theorem dn_lst (h : DA X es ws) : DN X (.List es pos) (wLst ws) := pe_imp (pe_lst h) fun σ H Q ⟨e, K, r, k, q⟩ =>
  ⟨e, _, r, k, fun ds e1 vs H1 ⟨z, k1⟩ a1 r1 p1 => ⟨by rw [p1.length]; exact z, fun p hp => by
    have gr : Grow H1 (upd H1 p (.lst vs)) := .new hp fun z => z
    exact q (.lst ds) e1 p _ k1 (a1.trans (.grow gr)) (r1.grow gr) ⟨vs, upd_same, p1.mono gr.stab ds vs⟩ (a1.there p hp) (not_own r1 hp)⟩⟩

/-! ### built-ins by values -/
def wB (f : List D → Option D) (ws : WA) : WE := fun e K => ws e fun ds e1 => ∃ z, f ds = some z ∧ K z e1
def OpA (g : Gx) (r : List V → Hp → VK → Prop) (f : List D → Option D) : Prop := ∀ (H : Hp) (xs : List V) (ds : List D) (z : D) (Q : VK), Reps g H ds xs → f ds = some z → (∀ v H', Grow H H' → Rep g H' z v → Q v H') → r xs H Q
/-- .. a new thing comes -/
def OpN (g : Gx) (r : List V → Hp → VK → Prop) (f : List D → Option D) : Prop := ∀ (H : Hp) (xs : List V) (ds : List D) (z : D) (Q : VK), Reps g H ds xs → f ds = some z → (∀ a H', H a = none → Grow H H' → CellAt g H' a z → Q (.ref a) H') → r xs H Q
theorem up_B {g : Gx} {r : List V → Hp → VK → Prop} {f : List D → Option D} (o : OpA g r f) : ∀ σ H Q, up g (wB f ws) σ H Q → tCB r (upA g ws) σ H Q := fun σ H Q ⟨e, K, i, k, q⟩ =>
  ⟨e, _, i, k, fun ds e1 vs H1 ⟨z, hz, k1⟩ a1 r1 p1 => o H1 vs ds z Q p1 hz fun v H' gr rv => q z e1 v H' k1 (a1.trans (.grow gr)) (r1.grow gr) rv⟩
theorem upN_B {g : Gx} {r : List V → Hp → VK → Prop} {f : List D → Option D} (o : OpN g r f) : ∀ σ H Q, upN g (wB f ws) σ H Q → tCB r (upA g ws) σ H Q := fun σ H Q ⟨e, K, i, k, q⟩ =>
  ⟨e, _, i, k, fun ds e1 vs H1 ⟨z, hz, k1⟩ a1 r1 p1 => o H1 vs ds z Q p1 hz fun p H' hp gr c => q z e1 p H' k1 (a1.trans (.grow gr)) (r1.grow gr) c (a1.there p hp) fun ow => by
    obtain ⟨_, h, _⟩ := r1.own ow
    rw [hp] at h
    cases h⟩
variable {x : Str} {id T : String} {r : List V → Hp → VK → Prop} {f : List D → Option D}
theorem de_B (hc : CallR X (.builtin id) r) (o : OpA (gx X) r f) (hm : X.mg x = none) (ha : DA X (e :: es) ws) (hg : Gl X x := by rfl) (hv : bootBuiltins x = some (.builtin id) := by decide +kernel) (hn : x ≠ "__name__" := by decide) (hdb : (x == ("__debug__" : Str)) = false := by decide)
    (he : starEach (e :: es) X.env = (false, eval e X.env) :: starEach es X.env := by rfl) (hpl : (backTo pos (starEach es X.env)).any (·.1) = false := by rfl) : DE X (.Call (.Name x p) (e :: es) [] pos) (wB f ws) := pe_imp (pe_callB hc hg hm hv ha hn hdb he hpl) (up_B o)
theorem de_Ty (hc : CallR X (.type T) r) (o : OpA (gx X) r f) (hm : X.mg x = none) (ha : DA X (e :: es) ws) (hg : Gl X x := by rfl) (hv : bootBuiltins x = some (.type T) := by decide +kernel) (hn : x ≠ "__name__" := by decide) (hdb : (x == ("__debug__" : Str)) = false := by decide)
    (he : starEach (e :: es) X.env = (false, eval e X.env) :: starEach es X.env := by rfl) (hpl : (backTo pos (starEach es X.env)).any (·.1) = false := by rfl) : DE X (.Call (.Name x p) (e :: es) [] pos) (wB f ws) := pe_imp (pe_callTy hc hg hm hv ha hn hdb he hpl) (up_B o)
theorem dn_B (hc : CallR X (.builtin id) r) (o : OpN (gx X) r f) (hm : X.mg x = none) (ha : DA X (e :: es) ws) (hg : Gl X x := by rfl) (hv : bootBuiltins x = some (.builtin id) := by decide +kernel) (hn : x ≠ "__name__" := by decide) (hdb : (x == ("__debug__" : Str)) = false := by decide)
    (he : starEach (e :: es) X.env = (false, eval e X.env) :: starEach es X.env := by rfl) (hpl : (backTo pos (starEach es X.env)).any (·.1) = false := by rfl) : DN X (.Call (.Name x p) (e :: es) [] pos) (wB f ws) := pe_imp (pe_callB hc hg hm hv ha hn hdb he hpl) (upN_B o)
theorem dn_Ty (hc : CallR X (.type T) r) (o : OpN (gx X) r f) (hm : X.mg x = none) (ha : DA X (e :: es) ws) (hg : Gl X x := by rfl) (hv : bootBuiltins x = some (.type T) := by decide +kernel) (hn : x ≠ "__name__" := by decide) (hdb : (x == ("__debug__" : Str)) = false := by decide)
    (he : starEach (e :: es) X.env = (false, eval e X.env) :: starEach es X.env := by rfl) (hpl : (backTo pos (starEach es X.env)).any (·.1) = false := by rfl) : DN X (.Call (.Name x p) (e :: es) [] pos) (wB f ws) := pe_imp (pe_callTy hc hg hm hv ha hn hdb he hpl) (upN_B o)

/-! ### tests -/
def wTst (w : WE) : WT := fun e K => w e fun d e1 => ∃ b, d = .bl b ∧ K b e1
/-- a datum's truth -/
def D.tru : D → Option Bool
  | .non => some false
  | .bl b => some b
  | .int i => some (i != 0)
  | .str x => if x.length ≤ sizeLine then some ((x.length : Int) != 0) else none
  | .tup ds => some (!ds.isEmpty)
  | .lst ds => some (!ds.isEmpty)
  | _ => none
def wTru (w : WE) : WT := fun e K => w e fun d e1 => ∃ b, d.tru = some b ∧ K b e1
def wAnd (u v : WT) : WT := fun e K => u e fun b e1 => if b = true then v e1 K else K false e1
def wOr (u v : WT) : WT := fun e K => u e fun b e1 => if b = true then K true e1 else v e1 K
def wNot (u : WT) : WT := fun e K => u e fun b e1 => K (!b) e1
theorem tru_of {g : Gx} {H : Hp} {d : D} {v : V} {b : Bool} (r : Rep g H d v) (h : d.tru = some b) : TruV g.K v H b := by
  cases d with
  | non => cases h; rw [show v = _ from r]; rfl
  | bl x => cases h; rw [show v = _ from r]; rfl
  | int i => cases h; rw [show v = _ from r]; rfl
  | str x =>
    rw [show v = _ from r]
    simp only [D.tru] at h
    split at h
    · cases h; exact ⟨by assumption, rfl⟩
    · cases h
  | tup ds =>
    cases h
    obtain ⟨a, xs, rfl, q, rs⟩ := r
    exact .inr (.inl ⟨xs, q, by have := rs.length; cases ds <;> cases xs <;> simp_all⟩)
  | lst ds =>
    cases h
    obtain ⟨a, xs, rfl, q, rs⟩ := r
    exact .inl ⟨xs, q.sq, by have := rs.length; cases ds <;> cases xs <;> simp_all⟩
  | _ => cases h
variable {u v : WT} {rest : List Expr}
theorem dt_val (h : DE X e w) (he : ∀ whole, isTrue e X.env whole = (do let v ← whole; standAt e.pos; holding [v] (truthy v)) := by intro _; rfl) : DT X e (wTst w) := pt_imp (pt_val h he) fun σ H Q ⟨e, K, r, k, q⟩ =>
  ⟨e, _, r, k, fun d e1 x H1 ⟨b, hb, k1⟩ a1 r1 p1 => ⟨b, by rw [hb] at p1; exact p1, q b e1 H1 k1 a1 r1⟩⟩
theorem dt_tru (h : DE X e w) (he : ∀ whole, isTrue e X.env whole = (do let v ← whole; standAt e.pos; holding [v] (truthy v)) := by intro _; rfl) : DT X e (wTru w) := pt_imp (pt_truth h he) fun σ H Q ⟨e, K, r, k, q⟩ =>
  ⟨e, _, r, k, fun d e1 x H1 ⟨b, hb, k1⟩ a1 r1 p1 => ⟨b, tru_of (g := gx X) p1 hb, q b e1 H1 k1 a1 r1⟩⟩
theorem dt_cmp {op : CmpOp} {r : R2} {f : D → D → Option D} (ho : OpR X (compareOp op) r) (o : Op2 (gx X) r f) (ha : DE X a wa) (hb : DE X b wb) (hm : behindInMarks op b = false := by first | exact nomark _ | rfl) :
    DT X (.Compare a [op] [b] pos) (wTst (w2 f wa wb)) := pt_imp (pt_cmpR ho ha hb hm) fun σ H Q ⟨e, K, r, k, q⟩ => up_2 o σ H _ ⟨e, _, r, k, fun d e1 x H1 ⟨b, hb, k1⟩ a1 r1 p1 => ⟨b, by rw [hb] at p1; exact p1, q b e1 H1 k1 a1 r1⟩⟩
/-- a chain of and, of or -/
def DW (X : Cx) (e : Expr) (w : WT) : Prop := PW X e (upT (gx X) w)
theorem pw_imp {t t' : TT} (h : PW X e t) (i : ∀ σ H Q, t' σ H Q → t σ H Q) : PW X e t' := ⟨fun wh pins s σ H Q I hw => h.run wh pins s σ H Q I (i σ H Q hw)⟩
theorem dw_and1 (h : DT X a u) : DW X (.BoolOp .And [a] pos) u := pw_and1 h
theorem dw_or1 (h : DT X a u) : DW X (.BoolOp .Or [a] pos) u := pw_or1 h
theorem dw_and (h : DT X a u) (hr : DW X (.BoolOp .And (b :: rest) pos) v) : DW X (.BoolOp .And (a :: b :: rest) pos) (wAnd u v) := pw_imp (pw_and h hr) fun σ H Q ⟨e, K, r, k, q⟩ =>
  ⟨e, _, r, k, fun c e1 H1 k1 a1 r1 => by
    cases c with
    | true => exact iteT ⟨e1, K, r1, k1, fun c2 e2 H2 k2 a2 r2 => q c2 e2 H2 k2 (a1.trans a2) r2⟩
    | false => exact iteF (q false e1 H1 k1 a1 r1)⟩
theorem dw_or (h : DT X a u) (hr : DW X (.BoolOp .Or (b :: rest) pos) v) : DW X (.BoolOp .Or (a :: b :: rest) pos) (wOr u v) := pw_imp (pw_or h hr) fun σ H Q ⟨e, K, r, k, q⟩ =>
  ⟨e, _, r, k, fun c e1 H1 k1 a1 r1 => by
    cases c with
    | true => exact iteT (q true e1 H1 k1 a1 r1)
    | false => exact iteF ⟨e1, K, r1, k1, fun c2 e2 H2 k2 a2 r2 => q c2 e2 H2 k2 (a1.trans a2) r2⟩⟩
theorem dt_w (h : DW X e u) : DT X e u := PW.pt h
theorem dt_not (h : DT X a u) : DT X (.UnaryOp .Not a pos) (wNot u) := pt_imp (pt_not h) fun σ H Q ⟨e, K, r, k, q⟩ => ⟨e, _, r, k, fun b e1 H1 k1 a1 r1 => q (!b) e1 H1 k1 a1 r1⟩
/-- .. as values -/
def wAndV (wa wb : WE) : WE := fun e K => wa e fun d e1 => ∃ b, d = .bl b ∧ if b = true then wb e1 K else K (.bl false) e1
def wOrV (wa wb : WE) : WE := fun e K => wa e fun d e1 => ∃ b, d = .bl b ∧ if b = true then K (.bl true) e1 else wb e1 K
def wNotV (wa : WE) : WE := fun e K => wa e fun d e1 => ∃ b, d = .bl b ∧ K (.bl (!b)) e1
theorem de_one {op} (h : DE X a w) : DE X (.BoolOp op [a] pos) w := pe_one h
theorem de_and (h : DE X a wa) (hr : DE X (.BoolOp .And (b :: rest) pos) wb) : DE X (.BoolOp .And (a :: b :: rest) pos) (wAndV wa wb) := pe_imp (pe_and h hr) fun σ H Q ⟨e, K, r, k, q⟩ =>
  ⟨e, _, r, k, fun d e1 x H1 ⟨c, hc, k1⟩ a1 r1 p1 => ⟨c, by rw [hc] at p1; exact p1, by
    cases c with
    | true => exact iteT ⟨e1, K, r1, k1, fun c2 e2 v H2 k2 a2 r2 p2 => q c2 e2 v H2 k2 (a1.trans a2) r2 p2⟩
    | false => exact iteF (q (.bl false) e1 _ H1 k1 a1 r1 rfl)⟩⟩
theorem de_or (h : DE X a wa) (hr : DE X (.BoolOp .Or (b :: rest) pos) wb) : DE X (.BoolOp .Or (a :: b :: rest) pos) (wOrV wa wb) := pe_imp (pe_or h hr) fun σ H Q ⟨e, K, r, k, q⟩ =>
  ⟨e, _, r, k, fun d e1 x H1 ⟨c, hc, k1⟩ a1 r1 p1 => ⟨c, by rw [hc] at p1; exact p1, by
    cases c with
    | true => exact iteT (q (.bl true) e1 _ H1 k1 a1 r1 rfl)
    | false => exact iteF ⟨e1, K, r1, k1, fun c2 e2 v H2 k2 a2 r2 p2 => q c2 e2 v H2 k2 (a1.trans a2) r2 p2⟩⟩⟩
theorem de_not (h : DE X a w) : DE X (.UnaryOp .Not a pos) (wNotV w) := pe_imp (pe_not h) fun σ H Q ⟨e, K, r, k, q⟩ =>
  ⟨e, _, r, k, fun d e1 x H1 ⟨c, hc, k1⟩ a1 r1 p1 => ⟨c, by rw [hc] at p1; exact p1, q (.bl (!c)) e1 _ H1 k1 a1 r1 rfl⟩⟩
def wIf (t : WT) (wa wb : WE) : WE := fun e K => t e fun b e1 => if b = true then wa e1 K else wb e1 K
theorem de_if (hc : DT X c u) (ha : DE X a wa) (hb : DE X b wb) : DE X (.IfExp c a b pos) (wIf u wa wb) := pe_imp (pe_ifExp hc ha hb) fun σ H Q ⟨e, K, r, k, q⟩ =>
  ⟨e, _, r, k, fun c e1 H1 k1 a1 r1 => by
    cases c with
    | true => exact iteT ⟨e1, K, r1, k1, fun d e2 v H2 k2 a2 r2 p2 => q d e2 v H2 k2 (a1.trans a2) r2 p2⟩
    | false => exact iteF ⟨e1, K, r1, k1, fun d e2 v H2 k2 a2 r2 p2 => q d e2 v H2 k2 (a1.trans a2) r2 p2⟩⟩
end
end DL
/-! DL, part d: statements. -/
namespace DL
open PySem PySem.Spec L2

structure Fn where
  nx : En → Prop
  rt : D → Nat → Prop
  bk : En → Prop := fun _ => False
  ct : En → Prop := fun _ => False
abbrev WS := En → Fn → Prop
abbrev WG := D → En → (En → Prop) → Prop
/-- the def is left: what is not its own stays -/
structure Lv (σ : L2.St) (e : En) (H H' : Hp) : Prop where
  keep : ∀ a o, H a = some o → ¬ Own σ e a → ¬ Lo o → H' a = some o
  stab : Stab H H'
  there : ∀ a, H' a = none → H a = none
theorem Adv.lv {σ σ' : L2.St} {e e' : En} {H H' : Hp} (x : Adv σ e H σ' e' H') : Lv σ e H H' := ⟨x.keep, x.stab, x.there⟩
theorem Adv.lvt {σ σ' : L2.St} {e e' : En} {H H1 H' : Hp} (x : Adv σ e H σ' e' H1) (y : Lv σ' e' H1 H') : Lv σ e H H' :=
  ⟨fun a o h n l => y.keep a o (x.keep a o h n l) (fun q => (x.owns a q).elim n fun z => by rw [h] at z; cases z) l, x.stab.trans y.stab, fun a h => x.there a (y.there a h)⟩
def upS (g : Gx) (w : WS) : TS := fun D σ H => ∃ e F, ER g σ H e ∧ w e F ∧ (∀ e' σ' H', F.nx e' → Adv σ e H σ' e' H' → ER g σ' H' e' → D.nx σ' H') ∧ (∀ e' σ' H', F.bk e' → Adv σ e H σ' e' H' → ER g σ' H' e' → D.bk σ' H') ∧
  (∀ e' σ' H', F.ct e' → Adv σ e H σ' e' H' → ER g σ' H' e' → D.ct σ' H') ∧ ∀ d c v H', F.rt d c → Lv σ e H H' → Pens g H' c → Rep g H' d v → D.rt v H'
def upG (g : Gx) (w : WG) : TG := fun v σ H Q => ∃ d e K, Rep g H d v ∧ ER g σ H e ∧ w d e K ∧ ∀ e' σ' H', K e' → Adv σ e H σ' e' H' → ER g σ' H' e' → Q σ' H'
abbrev DS (X : Cx) (s : Stmt) (w : WS) : Prop := PS X s (upS (gx X) w)
abbrev DSs (X : Cx) (s : List Stmt) (w : WS) : Prop := PSs X s (upS (gx X) w)
abbrev DG (X : Cx) (t : Expr) (w : WG) : Prop := PG X t (upG (gx X) w)

section
variable {g : Gx} {σ : L2.St} {H : Hp} {e : En} {i : Nat} {v : V} {d : D} {a : Addr}
theorem set_get (σ : L2.St) (i j : Nat) (x : Option V) : (σ.set i x)[j]? = if i = j then (if i < σ.length then some x else none) else σ[j]? := List.getElem?_set ..
/-- a slot is given a datum -/
theorem ER.put (r : ER g σ H e) (p : Rep g H d v) : ER g (σ.set i (some v)) H (e.asg i (.fz d)) := by
  refine ⟨fun j dj h => ?_, fun j dj h => ?_, fun j k dj dk b h1 h2 h3 h4 => ?_, r.pens, ⟨by show (e.sl.set i _).length = _; rw [List.length_set, List.length_set]; exact r.len.1, r.len.2.set⟩⟩
  · rw [asg_get] at h
    rw [set_get]
    by_cases q : i = j
    · rw [if_pos q] at h
      rw [if_pos q]
      by_cases q2 : i < e.sl.length
      · rw [if_pos q2] at h
        cases h
        exact ⟨v, by rw [if_pos (by rw [← r.len.1]; exact q2)], p⟩
      · rw [if_neg q2] at h; cases h
    · rw [if_neg q] at h
      rw [if_neg q]
      exact r.fz j dj h
  · rw [asg_get] at h
    rw [set_get]
    by_cases q : i = j
    · rw [if_pos q] at h
      split at h <;> cases h
    · rw [if_neg q] at h
      rw [if_neg q]
      exact r.ow j dj h
  · rw [asg_get] at h1 h2
    rw [set_get] at h3 h4
    by_cases q : i = j
    · rw [if_pos q] at h1
      split at h1 <;> cases h1
    · by_cases q2 : i = k
      · rw [if_pos q2] at h2
        split at h2 <;> cases h2
      · rw [if_neg q] at h1 h3
        rw [if_neg q2] at h2 h4
        exact r.apart j k dj dk b h1 h2 h3 h4
theorem Adv.put : Adv σ e H (σ.set i (some v)) (e.asg i (.fz d)) H := ⟨fun a o h _ _ => h, .refl H, fun _ h => h, fun b ⟨j, dj, h1, h2⟩ => .inl ⟨j, dj, by
  rw [asg_get] at h1
  by_cases q : i = j
  · rw [if_pos q] at h1
    split at h1 <;> cases h1
  · rw [if_neg q] at h1; exact h1, by
  rw [asg_get] at h1
  rw [set_get] at h2
  by_cases q : i = j
  · rw [if_pos q] at h1
    split at h1 <;> cases h1
  · rw [if_neg q] at h2; exact h2⟩⟩
/-- a slot is given a new thing -/
theorem ER.putN (r : ER g σ H e) (c : CellAt g H a d) (n : ¬ Own σ e a) : ER g (σ.set i (some (.ref a))) H (e.asg i (.ow d)) := by
  have sub : ∀ j dj b, (e.asg i (.ow d)).sl[j]? = some (.ow dj) → (σ.set i (some (.ref a)))[j]? = some (some (.ref b)) → (i = j ∧ dj = d ∧ b = a) ∨ (i ≠ j ∧ e.sl[j]? = some (.ow dj) ∧ σ[j]? = some (some (.ref b))) := fun j dj b h1 h2 => by
    rw [asg_get] at h1
    rw [set_get] at h2
    by_cases q : i = j
    · rw [if_pos q] at h1 h2
      split at h1
      · split at h2
        · cases h1; cases h2; exact .inl ⟨q, rfl, rfl⟩
        · cases h2
      · cases h1
    · rw [if_neg q] at h1 h2
      exact .inr ⟨q, h1, h2⟩
  refine ⟨fun j dj h => ?_, fun j dj h => ?_, fun j k dj dk b h1 h2 h3 h4 => ?_, r.pens, ⟨by show (e.sl.set i _).length = _; rw [List.length_set, List.length_set]; exact r.len.1, r.len.2.set⟩⟩
  · rw [asg_get] at h
    rw [set_get]
    by_cases q : i = j
    · rw [if_pos q] at h
      split at h <;> cases h
    · rw [if_neg q] at h
      rw [if_neg q]
      exact r.fz j dj h
  · rw [asg_get] at h
    rw [set_get]
    by_cases q : i = j
    · rw [if_pos q] at h
      rw [if_pos q]
      by_cases q2 : i < e.sl.length
      · rw [if_pos q2] at h
        cases h
        exact ⟨a, by rw [if_pos (by rw [← r.len.1]; exact q2)], c⟩
      · rw [if_neg q2] at h; cases h
    · rw [if_neg q] at h
      rw [if_neg q]
      exact r.ow j dj h
  · rcases sub j dj b h1 h3 with ⟨q1, _, q3⟩ | ⟨q1, q2, q3⟩
    · rcases sub k dk b h2 h4 with ⟨z1, _, _⟩ | ⟨z1, z2, z3⟩
      · exact q1.symm.trans z1
      · exact (n ⟨k, dk, z2, by rw [← q3]; exact z3⟩).elim
    · rcases sub k dk b h2 h4 with ⟨z1, _, z3⟩ | ⟨z1, z2, z3⟩
      · exact (n ⟨j, dj, q2, by rw [← z3]; exact q3⟩).elim
      · exact r.apart j k dj dk b q2 z2 q3 z3
theorem own_put {b : Addr} (h : Own (σ.set i (some (.ref a))) (e.asg i (.ow d)) b) : b = a ∨ Own σ e b := by
  obtain ⟨j, dj, h1, h2⟩ := h
  rw [asg_get] at h1
  rw [set_get] at h2
  by_cases q : i = j
  · rw [if_pos q] at h2
    split at h2
    · cases h2; exact .inl rfl
    · cases h2
  · rw [if_neg q] at h1 h2
    exact .inr ⟨j, dj, h1, h2⟩
end

section
variable {X : Cx} {st : Stmt} {rest body body2 : List Stmt} {t u : WS} {e a b c : Expr} {w : WE} {wt : WT} {pos pos' p : Pos} {tg : Expr} {wg : WG}
theorem ps_imp {t t' : TS} (h : PS X st t) (i : ∀ D σ H, t' D σ H → t D σ H) : PS X st t' := ⟨fun pins s σ H D I hw => h.run pins s σ H D I (i D σ H hw)⟩
theorem pss_imp {t t' : TS} (h : PSs X rest t) (i : ∀ D σ H, t' D σ H → t D σ H) : PSs X rest t' := ⟨fun pins s σ H D I hw => h.run pins s σ H D I (i D σ H hw)⟩
theorem pg_imp {t t' : TG} (h : PG X tg t) (i : ∀ v σ H Q, t' v σ H Q → t v σ H Q) : PG X tg t' := ⟨fun pins s σ H v u Q I r hw => h.run pins s σ H v u Q I r (i v σ H Q hw)⟩
def wNx : WS := fun e F => F.nx e
def wSeq (t u : WS) : WS := fun e F => t e { F with nx := fun e' => u e' F }
theorem ds_nil : DSs X [] wNx := pss_imp pss_nil fun D σ H ⟨e, F, r, k, n, _⟩ => n e σ H k (.refl ..) r
theorem ds_cons (h1 : DS X st t) (h2 : DSs X rest u) : DSs X (st :: rest) (wSeq t u) := pss_imp (pss_cons h1 h2) fun D σ H ⟨e, F, r, k, n, b, c, l⟩ =>
  ⟨e, _, r, k, fun e' σ' H' k' a' r' => ⟨e', F, r', k', fun e2 σ2 H2 k2 a2 r2 => n e2 σ2 H2 k2 (a'.trans a2) r2, fun e2 σ2 H2 k2 a2 r2 => b e2 σ2 H2 k2 (a'.trans a2) r2, fun e2 σ2 H2 k2 a2 r2 => c e2 σ2 H2 k2 (a'.trans a2) r2,
    fun d m v H2 k2 a2 p2 r2 => l d m v H2 k2 (a'.lvt a2) p2 r2⟩, b, c, l⟩
theorem ds_one (h1 : DS X st t) : DSs X [st] t := pss_one h1
theorem ds_pass : DS X (.Pass pos) wNx := ps_imp ps_pass fun D σ H ⟨e, F, r, k, n, _⟩ => n e σ H k (.refl ..) r
def wBk : WS := fun e F => F.bk e
def wCt : WS := fun e F => F.ct e
theorem ds_break : DS X (.Break pos) wBk := ps_imp ps_break fun D σ H ⟨e, F, r, k, _, n, _⟩ => n e σ H k (.refl ..) r
theorem ds_continue : DS X (.Continue pos) wCt := ps_imp ps_continue fun D σ H ⟨e, F, r, k, _, _, n, _⟩ => n e σ H k (.refl ..) r
/-- code that is not come to -/
def wNo : WS := fun _ _ => False
theorem ds_never : DS X st wNo := ps_imp ps_never fun D σ H ⟨e, F, r, k, _⟩ => k
theorem dss_never : DSs X rest wNo := pss_imp pss_never fun D σ H ⟨e, F, r, k, _⟩ => k
def wDrop (w : WE) : WS := fun e F => w e fun _ e1 => F.nx e1
theorem ds_expr (he : DE X e w) (hs : swapsWith e none pos.line X.env = pure false := by rfl) : DS X (.Expr e pos) (wDrop w) := ps_imp (ps_expr he hs) fun D σ H ⟨e, F, r, k, n, _⟩ =>
  ⟨e, _, r, k, fun _ e1 _ H1 k1 a1 r1 _ => n e1 σ H1 k1 a1 r1⟩
def wRet (w : WE) : WS := fun e F => w e fun d e1 => F.rt d e1.cnt
theorem ds_ret (he : DE X e w) : DS X (.Return (some e) pos) (wRet w) := ps_imp (ps_ret he) fun D σ H ⟨e, F, r, k, _, _, _, l⟩ =>
  ⟨e, _, r, k, fun d e1 v H1 k1 a1 r1 p1 => l d e1.cnt v H1 k1 a1.lv r1.pens p1⟩
def wRetN : WS := fun e F => F.rt .non e.cnt
theorem ds_retN : DS X (.Return none pos) wRetN := ps_imp ps_retN fun D σ H ⟨e, F, r, k, _, _, _, l⟩ => l .non e.cnt .non H k (Adv.refl σ e H).lv r.pens rfl
def wIfS (c : WT) (t u : WS) : WS := fun e F => c e fun b e1 => if b = true then t e1 F else u e1 F
theorem ds_if (hc : DT X c wt) (ha : DSs X body t) (hb : DSs X body2 u) : DS X (.If c body body2 pos) (wIfS wt t u) := ps_imp (ps_if hc ha hb) fun D σ H ⟨e, F, r, k, n, b, c, l⟩ =>
  ⟨e, _, r, k, fun z e1 H1 k1 a1 r1 => by
    have go : ∀ (q : WS), q e1 F → upS (gx X) q D σ H1 := fun q k2 => ⟨e1, F, r1, k2, fun e2 σ2 H2 k2 a2 r2 => n e2 σ2 H2 k2 (a1.trans a2) r2, fun e2 σ2 H2 k2 a2 r2 => b e2 σ2 H2 k2 (a1.trans a2) r2, fun e2 σ2 H2 k2 a2 r2 => c e2 σ2 H2 k2 (a1.trans a2) r2,
      fun d m v H2 k2 a2 p2 r2 => l d m v H2 k2 (a1.lvt a2) p2 r2⟩
    cases z with
    | true => exact iteT (go t k1)
    | false => exact iteF (go u k1)⟩

/-! ### assignments -/
def wSet (i : Nat) (w : WE) : WS := fun e F => w e fun d e1 => F.nx (e1.asg i (.fz d))
def wSetN (i : Nat) (w : WE) : WS := fun e F => w e fun d e1 => F.nx (e1.asg i (.ow d))
theorem up_set {i : Nat} {g : Gx} : ∀ D σ H, upS g (wSet i w) D σ H → tAsg (up g w) (gName i) D σ H := fun D σ H ⟨e, F, r, k, n, _⟩ =>
  ⟨e, _, r, k, fun d e1 v H1 k1 a1 r1 p1 => n _ _ H1 k1 (a1.trans .put) (r1.put p1)⟩
theorem up_setN {i : Nat} {g : Gx} : ∀ D σ H, upS g (wSetN i w) D σ H → tAsg (upN g w) (gName i) D σ H := fun D σ H ⟨e, F, r, k, n, _⟩ =>
  ⟨e, _, r, k, fun d e1 p H1 k1 a1 r1 c1 hp no => n _ _ H1 k1 ⟨a1.keep, a1.stab, a1.there, fun b ob => (own_put ob).elim (fun q => .inr (by rw [q]; exact hp)) (a1.owns b)⟩ (r1.putN c1 no)⟩
theorem ds_set {i : Nat} {x : Str} {pos' : Pos} (hN : X.N.Nodup) (he : DE X e w) (hi : X.N[i]? = some x := by rfl) (hx : Loc X.env.scope x := by first | exact Or.inl rfl | exact Or.inr rfl) (hs : swapsWith e (some (.Name x pos')) pos.line X.env = pure false := by rfl)
    (hf : X.fn x = true ∨ X.env.scope.names.lookup x = some .local := by first | exact .inl rfl | exact .inr rfl | assumption) : DS X (.Assign [.Name x pos'] e pos) (wSet i w) := ps_imp (ps_set hN hi hx he hs hf) up_set
theorem ds_setN {i : Nat} {x : Str} {pos' : Pos} (hN : X.N.Nodup) (he : DN X e w) (hi : X.N[i]? = some x := by rfl) (hx : Loc X.env.scope x := by first | exact Or.inl rfl | exact Or.inr rfl) (hs : swapsWith e (some (.Name x pos')) pos.line X.env = pure false := by rfl)
    (hf : X.fn x = true ∨ X.env.scope.names.lookup x = some .local := by first | exact .inl rfl | exact .inr rfl | assumption) : DS X (.Assign [.Name x pos'] e pos) (wSetN i w) := ps_imp (ps_set hN hi hx he hs hf) up_setN
/-- targets -/
def wgN (i : Nat) : WG := fun d e K => K (e.asg i (.fz d))
theorem dg_name {i : Nat} {x : Str} (hN : X.N.Nodup) (hi : X.N[i]? = some x := by rfl) (hx : Loc X.env.scope x := by first | exact Or.inl rfl | exact Or.inr rfl) (hf : X.fn x = true ∨ X.env.scope.names.lookup x = some .local := by first | exact .inl rfl | exact .inr rfl | assumption) :
    DG X (.Name x pos) (wgN i) := pg_imp (pg_name hN hi hx hf) fun v σ H Q ⟨d, e, K, p, r, k, q⟩ => q _ _ H k .put (r.put p)
abbrev WGs := List D → En → (En → Prop) → Prop
def upGs (g : Gx) (w : WGs) : TGs := fun vs σ H Q => ∃ ds e K, Reps g H ds vs ∧ ER g σ H e ∧ w ds e K ∧ ∀ e' σ' H', K e' → Adv σ e H σ' e' H' → ER g σ' H' e' → Q σ' H'
abbrev DGs (X : Cx) (ts : List Expr) (w : WGs) : Prop := PGs X ts (upGs (gx X) w)
theorem pgs_imp {ts : List Expr} {t t' : TGs} (h : PGs X ts t) (i : ∀ v σ H Q, t' v σ H Q → t v σ H Q) : PGs X ts t' := ⟨fun pins s σ H v u Q I r hw => h.run pins s σ H v u Q I r (i v σ H Q hw)⟩
def wgNil : WGs := fun ds e K => ds = [] ∧ K e
def wgCons (t : WG) (u : WGs) : WGs := fun ds e K => ∃ d r, ds = d :: r ∧ t d e fun e1 => u r e1 K
theorem dgs_nil : DGs X [] wgNil := pgs_imp pgs_nil fun vs σ H Q ⟨ds, e, K, p, r, ⟨h, k⟩, q⟩ => by
  subst h
  exact ⟨p, q e σ H k (.refl ..) r⟩
theorem dgs_cons {es : List Expr} {wgs : WGs} (h1 : DG X e wg) (h2 : DGs X es wgs) (hs : (assignEach (e :: es) X.env).map (·.2) = assign e X.env :: (assignEach es X.env).map (·.2) := by rfl) : DGs X (e :: es) (wgCons wg wgs) :=
  pgs_imp (pgs_cons h1 h2 hs) fun vs σ H Q ⟨ds, e, K, p, r, ⟨d, dr, h, k⟩, q⟩ => by
    subst h
    obtain ⟨v, vr, ev, pv, pr⟩ := p
    exact ⟨v, vr, ev, d, e, _, pv, r, k, fun e1 σ1 H1 k1 a1 r1 => ⟨dr, e1, K, pr.mono a1.stab dr vr, r1, k1, fun e2 σ2 H2 k2 a2 r2 => q e2 σ2 H2 k2 (a1.trans a2) r2⟩⟩
def wgT (n : Nat) (u : WGs) : WG := fun d e K => ∃ ds, d = .tup ds ∧ ds.length = n ∧ u ds e K
theorem dg_tup {es : List Expr} {k : Nat} {wgs : WGs} {n : Nat} (h : DGs X es wgs) (hc : X.calm = true := by rfl) (hn : (assignEach es X.env).length = n := by rfl) (hst : (assignEach es X.env).findIdx? (·.1) = none := by rfl) : DG X (.Tuple es k pos) (wgT n wgs) :=
  pg_imp (pg_tup hc h hn hst) fun v σ H Q ⟨d, e, K, p, r, ⟨ds, h, hl, k⟩, q⟩ => by
    subst h
    obtain ⟨a, xs, ev, q1, rs⟩ := p
    exact ⟨a, xs, ev, q1, by rw [rs.length]; exact hl, ds, e, K, rs, r, k, q⟩
def wAsg (w : WE) (g : WG) : WS := fun e F => w e fun d e1 => g d e1 F.nx
theorem ds_asg (he : DE X e w) (hg : DG X tg wg) (hs : swapsWithSole [tg] e pos.line X.env = pure false := by rfl) (hw : swappedStores [tg] e X.env = pure none := by rfl) (h1 : (assignEach [tg] X.env).map (·.2) = [assign tg X.env] := by rfl) :
    DS X (.Assign [tg] e pos) (wAsg w wg) := ps_imp (ps_asg he hg hs hw h1) fun D σ H ⟨e, F, r, k, n, _⟩ =>
  ⟨e, _, r, k, fun d e1 v H1 k1 a1 r1 p1 => ⟨d, e1, _, p1, r1, k1, fun e2 σ2 H2 k2 a2 r2 => n e2 σ2 H2 k2 (a1.trans a2) r2⟩⟩
/-- name op= e -/
def wAug (i : Nat) (f : D → D → Option D) (w : WE) : WS := fun e F => ∃ x, e.sl[i]? = some (.fz x) ∧ w e fun y e1 => ∃ z, f x y = some z ∧ F.nx (e1.asg i (.fz z))
theorem ds_aug {i : Nat} {x : Str} {op : Operator} {ti : TIp} {f : D → D → Option D} {pos' : Pos} (hN : X.N.Nodup) (he : DE X e w) (ho : PIp X op ti) (o : Op2 (gx X) ti f) (hi : X.N[i]? = some x := by rfl) (hx : Loc X.env.scope x := by first | exact Or.inl rfl | exact Or.inr rfl)
    (hf : X.fn x = true ∨ X.env.scope.names.lookup x = some .local := by first | exact .inl rfl | exact .inr rfl | assumption) : DS X (.AugAssign (.Name x pos') op e pos) (wAug i f w) := ps_imp (ps_aug hN hi hx he ho hf) fun D σ H ⟨e, F, r, ⟨x, hx, k⟩, n, _⟩ =>
  let ⟨v, h1, h2⟩ := r.fz i x hx
  ⟨v, h1, e, _, r, k, fun y e1 u H1 ⟨z, hz, k1⟩ a1 r1 p1 => o H1 v u x y z _ (h2.mono a1.stab x v) p1 hz fun zv H2 gr rz => n _ _ H2 k1 ((a1.trans (.grow gr)).trans .put) ((r1.grow gr).put rz)⟩

/-! ### loops -/
/-- the iterator goes through ds -/
def Goes (g : Gx) (J : It) (H0 : Hp) (ds : List D) : Prop := ∀ H, Stab H0 H → (∀ i d, ds[i]? = some d → J.go i H ∧ ∀ x H', J.yld i H x H' → Grow H H' ∧ Rep g H' d x) ∧ J.stop ds.length H
def upI (g : Gx) (w : WA) : TI := fun σ H R => ∃ e K, ER g σ H e ∧ w e K ∧ ∀ ds e' J H', K ds e' → Adv σ e H σ e' H' → ER g σ H' e' → Goes g J H' ds → R J H'
def DI (X : Cx) (tg iter : Expr) (w : WA) : Prop := PI X tg iter (upI (gx X) w)
theorem pi_imp {iter : Expr} {t t' : TI} (h : PI X tg iter t) (i : ∀ σ H R, t' σ H R → t σ H R) : PI X tg iter t' := ⟨fun pins s σ H R I hw => h.run pins s σ H R I (i σ H R hw)⟩
def wForR (g : WG) (wb : WS) (F : Fn) : List D → En → Prop
  | [], e => F.nx e
  | d :: ds, e => g d e fun e1 => wb e1 { F with nx := wForR g wb F ds, ct := wForR g wb F ds, bk := F.nx }
def wFor (wi : WA) (g : WG) (wb : WS) : WS := fun e F => wi e fun ds e1 => wForR g wb F ds e1
theorem up_for {g : Gx} {wi : WA} {wg : WG} {wb : WS} : ∀ D σ H, upS g (wFor wi wg wb) D σ H → tFor (upI g wi) (upG g wg) (upS g wb) D σ H := fun D σ H ⟨e, F, r, k, n, bk, ct, l⟩ =>
  ⟨e, _, r, k, fun ds e1 J H1 k1 a1 r1 go => by
    refine ⟨fun i m σ' H' => m = ds.length - i ∧ i ≤ ds.length ∧ ∃ e', ER g σ' H' e' ∧ Adv σ e H σ' e' H' ∧ Stab H1 H' ∧ wForR wg wb F (ds.drop i) e', ⟨ds.length, by simp, Nat.zero_le _, e1, r1, a1, .refl H1, k1⟩, ?_⟩
    rintro i m σ' H' ⟨rfl, hi, e', r', a', s', k'⟩
    by_cases hl : i < ds.length
    · have hd : ds[i]? = some ds[i] := List.getElem?_eq_getElem hl
      have hdrop : ds.drop i = ds[i] :: ds.drop (i + 1) := List.drop_eq_getElem_cons hl
      rw [hdrop] at k'
      obtain ⟨g1, g2⟩ := (go H' s').1 i _ hd
      refine .inr ⟨g1, fun σ2 H2 => ∃ e2, ER g σ2 H2 e2 ∧ Adv σ e H σ2 e2 H2 ∧ Stab H1 H2 ∧ wForR wg wb F (ds.drop (i + 1)) e2, fun σ2 H2 ⟨e2, q1, q2, q3, q4⟩ => ⟨ds.length - (i + 1), by omega, rfl, hl, e2, q1, q2, q3, q4⟩, fun x H2 y => ?_⟩
      obtain ⟨gr, rp⟩ := g2 x H2 y
      refine ⟨ds[i], e', _, rp, r'.grow gr, k', fun e3 σ3 H3 k3 a3 r3 => ?_⟩
      have a4 : Adv σ e H σ3 e3 H3 := (a'.trans (.grow gr)).trans a3
      have s4 : Stab H1 H3 := (s'.trans gr.stab).trans a3.stab
      refine ⟨e3, _, r3, k3, fun e5 σ5 H5 k5 a5 r5 => ⟨e5, r5, a4.trans a5, s4.trans a5.stab, k5⟩, fun e5 σ5 H5 k5 a5 r5 => n e5 σ5 H5 k5 (a4.trans a5) r5, fun e5 σ5 H5 k5 a5 r5 => ⟨e5, r5, a4.trans a5, s4.trans a5.stab, k5⟩, fun d m v H5 k5 a5 p5 r5 => l d m v H5 k5 (a4.lvt a5) p5 r5⟩
    · have e2 : i = ds.length := by omega
      subst e2
      rw [List.drop_length] at k'
      exact .inl ⟨(go H' s').2, n e' σ' H' k' a' r'⟩⟩
theorem ds_for {iter : Expr} {wi : WA} {wb : WS} (hp : PassesOwn (model X.prog X.w) X.A X.env X.xe) (hi : DI X tg iter wi) (hg : DG X tg wg) (hb : DSs X body wb) (hc : X.calm = true := by rfl) (hs : ∀ x, foldedSetIterable iter X.env x = pure x := by intro _; rfl) :
    DS X (.For tg iter body [] pos) (wFor wi wg wb) := ps_imp (ps_for hp hc hi hg hb hs) up_for
/-- while, at most n turns -/
def wWhN (t : WT) (wb : WS) (F : Fn) : Nat → En → Prop
  | 0, _ => False
  | n + 1, e => t e fun b e1 => if b = true then wb e1 { F with nx := wWhN t wb F n, ct := wWhN t wb F n, bk := F.nx } else F.nx e1
def wWhile (t : WT) (wb : WS) : WS := fun e F => ∃ n, wWhN t wb F n e
theorem ds_while {wb : WS} (hp : PassesOwn (model X.prog X.w) X.A X.env X.xe) (hc : DT X c wt) (hb : DSs X body wb) : DS X (.While c body [] pos) (wWhile wt wb) := ps_imp (ps_while hp hc hb) fun D σ H ⟨e, F, r, ⟨n0, k⟩, n, bk, ct, l⟩ => by
  refine ⟨fun m σ' H' => ∃ e', ER (gx X) σ' H' e' ∧ Adv σ e H σ' e' H' ∧ wWhN wt wb F m e', ⟨n0, e, r, .refl .., k⟩, ?_⟩
  rintro m σ' H' ⟨e', r', a', k'⟩
  cases m with
  | zero => exact (k' : False).elim
  | succ m =>
    refine ⟨e', _, r', k', fun b e1 H1 k1 a1 r1 => ?_⟩
    cases b with
    | true =>
      have a4 := a'.trans a1
      exact iteT ⟨fun σ2 H2 => ∃ e2, ER (gx X) σ2 H2 e2 ∧ Adv σ e H σ2 e2 H2 ∧ wWhN wt wb F m e2, fun σ2 H2 q => ⟨m, Nat.lt_succ_self m, q⟩, e1, _, r1, k1, fun e5 σ5 H5 k5 a5 r5 => ⟨e5, r5, a4.trans a5, k5⟩, fun e5 σ5 H5 k5 a5 r5 => n e5 σ5 H5 k5 (a4.trans a5) r5,
        fun e5 σ5 H5 k5 a5 r5 => ⟨e5, r5, a4.trans a5, k5⟩, fun d m v H5 k5 a5 p5 r5 => l d m v H5 k5 (a4.lvt a5) p5 r5⟩
    | false => exact iteF (n e1 σ' H1 k1 (a'.trans a1) r1)
end
end DL
/-! DL, part e: defs, their promises, calls. -/
namespace DL
open PySem PySem.Spec L2
open PyProof.Rows (envOfC)

/-- a call is over: nothing but the pen (and new things) -/
structure Out (H H' : Hp) : Prop where
  keep : ∀ a o, H a = some o → ¬ Lo o → H' a = some o
  stab : Stab H H'
  there : ∀ a, H' a = none → H a = none
/-- a promise over data: arguments, draws so far; the answer and draws then; an error and draws then -/
abbrev FS := List D → Nat → (D → Nat → Prop) → (D → Nat → Prop) → Prop
/-- an error in the air: its class, its own dict -/
def ErrAt (g : Gx) (H : Hp) (d : D) (cls : Value) (dd : Option Addr) : Prop := match d with
  | .err C ns ds => cls = .ref C ∧ ((ns = [] ∧ ds = [] ∧ dd = none) ∨ ∃ dx fs, dd = some dx ∧ H dx = some (.xd fs) ∧ ns.Nodup ∧ fs.map (·.1) = ns ∧ Reps g H ds (fs.map (·.2)))
  | _ => False
def spOf (g : Gx) (sp : FS) : Sp := fun vs H Q E => ∃ ds c K KE, Reps g H ds vs ∧ Pens g H c ∧ sp ds c K KE ∧ (∀ d c' v H', K d c' → Out H H' → Pens g H' c' → Rep g H' d v → Q v H') ∧ ∀ d c' cls dd H', KE d c' → Out H H' → Pens g H' c' → ErrAt g H' d cls dd → E cls dd H'

/-- slots at a def's entry -/
def en0 (N : List Str) (ds : List D) (c : Nat) : En := ⟨ds.map S.fz ++ List.replicate (N.length - ds.length) S.un, c, none⟩
theorem er_start {g : Gx} {H : Hp} {N : List Str} {ds : List D} {vs : List V} {c : Nat} (r : Reps g H ds vs) (p : Pens g H c) : ER g (L2.start N vs) H (en0 N ds c) ∧ ∀ a, ¬ Own (L2.start N vs) (en0 N ds c) a := by
  have hl := r.length
  have no : ∀ (j : Nat) (dj : D), (en0 N ds c).sl[j]? = some (.ow dj) → False := fun j dj h => by
    unfold en0 at h
    simp only [List.getElem?_append, List.getElem?_map, List.getElem?_replicate] at h
    split at h
    · cases q : ds[j]? with
      | none => rw [q] at h; cases h
      | some d => rw [q] at h; cases h
    · split at h <;> cases h
  refine ⟨⟨fun i d h => ?_, fun j dj h => (no j dj h).elim, fun j k dj dk b h => (no j dj h).elim, p, ?_⟩, fun a ⟨j, dj, h, _⟩ => no j dj h⟩
  · unfold en0 at h
    simp only [List.getElem?_append, List.getElem?_map, List.getElem?_replicate, List.length_map] at h
    unfold L2.start
    simp only [List.getElem?_append, List.getElem?_map, List.length_map]
    rw [hl]
    split at h
    · rename_i hi
      rw [if_pos hi]
      cases q : ds[i]? with
      | none => rw [q] at h; cases h
      | some d' =>
        rw [q] at h
        cases h
        obtain ⟨v, h1, h2⟩ := r.get q
        exact ⟨v, by rw [h1]; rfl, h2⟩
    · split at h <;> cases h
  · exact ⟨by unfold en0 L2.start; simp [hl], fun x h => nomatch h⟩

/-- slots at the entry of an __init__: the new instance ahead -/
def en0I (N : List Str) (x C : Addr) (ds : List D) (c : Nat) : En := ⟨S.ow (.obj C [] []) :: (en0 N.tail ds c).sl, c, some x⟩
theorem er_startI {g : Gx} {H : Hp} {n0 : Str} {N : List Str} {ds : List D} {vs : List V} {c : Nat} {x C dx : Addr} (hx : H x = some (.ins C dx [])) (r : Reps g H ds vs) (p : Pens g H c) :
    ER g (L2.start (n0 :: N) (.ref x :: vs)) H (en0I (n0 :: N) x C ds c) ∧ ∀ a, Own (L2.start (n0 :: N) (.ref x :: vs)) (en0I (n0 :: N) x C ds c) a → a = x := by
  obtain ⟨r0, no⟩ := er_start (N := N) r p
  have hs : L2.start (n0 :: N) (.ref x :: vs) = some (.ref x) :: L2.start N vs := by
    unfold L2.start
    simp [Nat.add_sub_add_right]
  have own0 : ∀ (j : Nat) (dj : D) (b : Addr), (en0I (n0 :: N) x C ds c).sl[j]? = some (.ow dj) → (L2.start (n0 :: N) (.ref x :: vs))[j]? = some (some (.ref b)) → j = 0 ∧ b = x := fun j dj b h1 h2 => by
    rw [hs] at h2
    cases j with
    | zero =>
      cases h2
      exact ⟨rfl, rfl⟩
    | succ j => exact (no b ⟨j, dj, by simpa [en0I] using h1, by simpa using h2⟩).elim
  refine ⟨⟨fun i d h => ?_, fun j dj h => ?_, fun j k dj dk b h1 h2 h3 h4 => (own0 j dj b h1 h3).1.trans (own0 k dk b h2 h4).1.symm, p, ⟨?_, fun y hy => ?_⟩⟩, fun a ⟨j, dj, h1, h2⟩ => (own0 j dj a h1 h2).2⟩
  · cases i with
    | zero => simp [en0I] at h
    | succ i =>
      obtain ⟨v, h1, h2⟩ := r0.fz i d (by simpa [en0I] using h)
      exact ⟨v, by rw [hs]; simpa using h1, h2⟩
  · cases j with
    | zero =>
      simp [en0I] at h
      subst h
      exact ⟨x, by rw [hs]; rfl, dx, [], hx, List.nodup_nil, rfl, rfl⟩
    | succ j =>
      obtain ⟨b, h1, h2⟩ := r0.ow j dj (by simpa [en0I] using h)
      exact ⟨b, by rw [hs]; simpa using h1, h2⟩
  · rw [hs]
    show (en0 N ds c).sl.length + 1 = (L2.start N vs).length + 1
    rw [r0.len.1]
  · cases hy
    rw [hs]; rfl
abbrev DFn (P : Program) (w : World) (K : PySem.W.Frag) (mg : Str → Option Value) (base : Heap) (k : Nat) (f : Addr) (fd : FuncData) (ps : List Str) (sp : FS) : Prop := FnOk P w K mg base (CX P w) k f fd ps (spOf ⟨P, w, K⟩ sp)

section
variable {P : Program} {w : World} {K : PySem.W.Frag} {mg : Str → Option Value} {base : Heap} {x qual : Str} {params : Arguments} {body : List Stmt} {scope : Scope} {dvs : List V} {kws : List (Str × V)} {f : Addr} {fd : FuncData}
theorem spOf_len {g : Gx} {sp : FS} {n : Nat} (h : ∀ ds c K KE, sp ds c K KE → ds.length = n) : ∀ vs H Q E, spOf g sp vs H Q E → vs.length = n := fun vs H Q E ⟨ds, c, K, KE, r, _, q, _⟩ => r.length.trans (h ds c K KE q)
/-- the context of a def's body that lets no error out -/
abbrev bX (P : Program) (w : World) (K : PySem.W.Frag) (mg : Str → Option Value) (base : Heap) (N : List Str) (qual : Str) (scope : Scope) (f : Addr) (cdv : Value) (A : Around) (outer : List Env) (s : Shared) (H : Hp) (E : XK) : Cx :=
  (cxOf (CX P w) P w K mg base N qual scope f cdv A outer s H E).nox
/-- a def that lets no error out, by its body -/
theorem dfn_ok {N ps : List Str} {k : Nat} {sp : FS} {W : WS} (F : FunD K x qual params body scope dvs kws f fd) (S : FnScope N ps scope) (len : ∀ ds c K KE, sp ds c K KE → ds.length = ps.length)
    (hb : ∀ (cdv : Value) (A : Around) (outer : List Env) (s : Shared) (H : Hp) (E : XK), Room k (A.deeper (envOfC qual scope s.heap.objs.size f cdv)) → DSs (bX P w K mg base N qual scope f cdv A outer s H E) body W)
    (q : ∀ ds c K KE, sp ds c K KE → W (en0 N ds c) { nx := fun e => K .non e.cnt, rt := K }) :
    DFn P w K mg base (k + 1) f fd ps sp := by
  refine F.ok S (spOf_len len) (fun cdv A outer s H vs Q E hr hsp => ?_)
  obtain ⟨ds, c, Kd, KE, r, p, hs, h1, h2⟩ := hsp
  refine ⟨_, (hb cdv A outer s H E hr).nox, ?_⟩
  obtain ⟨er, no⟩ := er_start (N := N) r p
  have out : ∀ {H'}, Lv (L2.start N vs) (en0 N ds c) H H' → Out H H' := fun l => ⟨fun a o h n => l.keep a o h (no a) n, l.stab, l.there⟩
  exact ⟨en0 N ds c, _, er, q ds c Kd KE hs, fun e' σ' H' k' a' r' => h1 .non _ .non H' k' (out a'.lv) r'.pens rfl, fun _ _ _ z => z.elim, fun _ _ _ z => z.elim, fun d c' v H' k' l p' r' => h1 d c' v H' k' (out l) p' r'⟩
/-- a def of the module, as those that call it see it: dd its defaults that fill up -/
structure DefAt (P : Program) (w : World) (K : PySem.W.Frag) (mg : Str → Option Value) (base : Heap) (x : Str) (k : Nat) (dd : List D) (sp : FS) : Prop where
  ex : ∃ (f : Addr) (fd : FuncData) (ps : List Str) (dvs : List V) (us : List Value), mg x = some (.ref f) ∧ PySem.W.keepIn K (.ref f) = true ∧ Binds K fd ps us ∧ Vals dvs us ∧ (∀ H, Reps ⟨P, w, K⟩ H dd dvs) ∧ DFn P w K mg base k f fd ps sp
end

/-! ### calls -/
theorem Out.adv {g : Gx} {σ : L2.St} {e : En} {H H' : Hp} (o : Out H H') (c : Nat) : Adv σ e H σ { e with cnt := c } H' := ⟨fun a u h _ l => o.keep a u h l, o.stab, o.there, fun _ h => .inl h⟩
theorem ER.out {g : Gx} {σ : L2.St} {e : En} {H H' : Hp} {c : Nat} (r : ER g σ H e) (o : Out H H') (p : Pens g H' c) : ER g σ H' { e with cnt := c } :=
  ⟨fun i d h => let ⟨v, h1, h2⟩ := r.fz i d h; ⟨v, h1, h2.mono o.stab d v⟩, fun i d h => let ⟨a, h1, h2⟩ := r.ow i d h
    ⟨a, h1, h2.keep o.stab fun u q => o.keep a u q fun l => by
      obtain ⟨u', e', _, n⟩ := h2.there
      rw [e'] at q
      cases q
      exact n l⟩, r.apart, p, r.len⟩
section
variable {X : Cx} {e : Expr} {es : List Expr} {ws : WA} {x : Str} {p pos : Pos} {k j : Nat} {dd : List D} {sp : FS}
/-- f(..) of a def that lets no error out here -/
def wCall (sp : FS) (dd : List D) (ws : WA) : WE := fun e K => ws e fun ds e1 => sp (ds ++ dd) e1.cnt (fun d c => K d { e1 with cnt := c }) fun _ _ => False
theorem passE0 {P : Program} {w : World} {X : Cx} : Passes (CX P w) X E0 := fun _ _ _ _ _ _ _ h => by
  obtain ⟨_, _, _, _, _, _, _, _, _, _, _, _, z⟩ := h
  exact z.elim
theorem up_call {g : Gx} {dvs : List V} (hd : ∀ H, Reps g H dd dvs) : ∀ σ H Q, up g (wCall sp dd ws) σ H Q → tCall (spOf g sp) dvs E0 (upA g ws) σ H Q := fun σ H Q ⟨e, K, r, k, q⟩ =>
  ⟨e, _, r, k, fun ds e1 vs H1 k1 a1 r1 p1 => ⟨ds ++ dd, e1.cnt, _, _, p1.append (hd H1), r1.pens, k1, fun d c v H' k' o p' r' => q d _ v H' k' (a1.trans (o.adv (g := g) c)) (r1.out o p') r', fun _ _ _ _ _ z => z.elim⟩⟩
theorem de_call (D : DefAt X.prog X.w X.K X.mg X.base x k dd sp) (hr : Room k X.A) (ha : DA X (e :: es) ws) (hg : Gl X x := by rfl) (hdb : (x == ("__debug__" : Str)) = false := by decide) (he : starEach (e :: es) X.env = (false, eval e X.env) :: starEach es X.env := by rfl)
    (hpl : (backTo pos (starEach es X.env)).any (·.1) = false := by rfl) : DE X (.Call (.Name x p) (e :: es) [] pos) (wCall sp dd ws) := by
  obtain ⟨f, fd, ps, dvs, us, hm, hk, hb, hv, hd, F⟩ := D.ex
  exact pe_imp (pe_call F hr hg hm hk hb hv passE0 ha hdb he hpl) (up_call hd)
theorem de_call0 (D : DefAt X.prog X.w X.K X.mg X.base x k dd sp) (hr : Room k X.A) (hg : Gl X x := by rfl) (hdb : (x == ("__debug__" : Str)) = false := by decide) : DE X (.Call (.Name x p) [] [] pos) (wCall sp dd wNil) := by
  obtain ⟨f, fd, ps, dvs, us, hm, hk, hb, hv, hd, F⟩ := D.ex
  refine pe_imp (pe_call0 F hr hg hm hk hb hv passE0 hdb) fun σ H Q h => up_call hd σ H Q h |> fun ⟨e, K, r, k, q⟩ => q [] e [] H k (.refl ..) r rfl
end
end DL
/-! DL, part f: the operations over data. -/
namespace DL
open PySem PySem.Spec L2

/-! ### an answer that is known, or a new thing: either way it becomes known -/
def upM (g : Gx) (w : WE) : TE := fun σ H Q => ∃ e K, ER g σ H e ∧ w e K ∧ ∀ d e' v H', K d e' → Adv σ e H σ e' H' → ER g σ H' e' → (Rep g H' d v ∨ ∃ a, v = .ref a ∧ H a = none ∧ CellAt g H' a d ∧ ¬ Own σ e' a) → Q v H'
section
variable {X : Cx} {e a b c : Expr} {es : List Expr} {pos p : Pos} {w wa wb : WE} {ws : WA}
theorem de_M (h : PE X e (upM (gx X) w)) : DE X e w := ⟨fun pins s σ H Q I ⟨e0, K, r, k, q⟩ => by
  refine thn (h.run pins s σ H (fun v H1 => ∃ d e', K d e' ∧ Adv σ e0 H σ e' H1 ∧ ER (gx X) σ H1 e' ∧ (Rep (gx X) H1 d v ∨ ∃ a, v = .ref a ∧ H a = none ∧ CellAt (gx X) H1 a d ∧ ¬ Own σ e' a)) I ⟨e0, K, r, k, fun d e' v H' k a1 i c => ⟨d, e', k, a1, i, c⟩⟩) fun u s1 h1 => ?_
  obtain ⟨v, H1, I1, rv, d, e', k', ad, i, c⟩ := h1
  rcases c with c | ⟨a, rfl, n, c, o⟩
  · exact ⟨v, H1, I1, rv, q d e' v H1 k' ad i c⟩
  · obtain ⟨H2, J, rp, f⟩ := freeze_at I1 c
    exact ⟨_, H2, J, rv, q d e' _ H2 k' (ad.frzn f n) (i.frzn f o) rp⟩⟩
def Got (g : Gx) (H H' : Hp) (z : D) (v : V) : Prop := Rep g H' z v ∨ ∃ a, v = .ref a ∧ H a = none ∧ CellAt g H' a z
def Op2M (g : Gx) (r : R2) (f : D → D → Option D) : Prop := ∀ (H : Hp) (x y : V) (dx dy z : D) (Q : VK), Rep g H dx x → Rep g H dy y → f dx dy = some z → (∀ v H', Grow H H' → Got g H H' z v → Q v H') → r x y H Q
def OpAM (g : Gx) (r : List V → Hp → VK → Prop) (f : List D → Option D) : Prop := ∀ (H : Hp) (xs : List V) (ds : List D) (z : D) (Q : VK), Reps g H ds xs → f ds = some z → (∀ v H', Grow H H' → Got g H H' z v → Q v H') → r xs H Q
theorem got_up {g : Gx} {σ : L2.St} {H H1 H' : Hp} {e : En} {z : D} {v : V} (th : ∀ a, H1 a = none → H a = none) (r : ER g σ H1 e) (h : Got g H1 H' z v) : Rep g H' z v ∨ ∃ a, v = .ref a ∧ H a = none ∧ CellAt g H' a z ∧ ¬ Own σ e a :=
  h.elim .inl fun ⟨a, e1, n, c⟩ => .inr ⟨a, e1, th a n, c, not_own r n⟩
theorem up_2M {g : Gx} {r : R2} {f : D → D → Option D} (o : Op2M g r f) : ∀ σ H Q, upM g (w2 f wa wb) σ H Q → tOp r (up g wa) (up g wb) σ H Q := fun σ H Q ⟨e, K, i, k, q⟩ =>
  ⟨e, _, i, k, fun dx e1 x H1 k1 a1 i1 r1 => ⟨e1, _, i1, k1, fun dy e2 y H2 ⟨z, hz, k2⟩ a2 i2 r2 => o H2 x y dx dy z Q (r1.mono a2.stab dx x) r2 hz fun v H' gr rv =>
    q z e2 v H' k2 ((a1.trans a2).trans (.grow gr)) (i2.grow gr) (got_up (a1.trans a2).there i2 rv)⟩⟩
theorem up_AM {g : Gx} {r : List V → Hp → VK → Prop} {f : List D → Option D} (o : OpAM g r f) : ∀ σ H Q, upM g (wB f ws) σ H Q → tCB r (upA g ws) σ H Q := fun σ H Q ⟨e, K, i, k, q⟩ =>
  ⟨e, _, i, k, fun ds e1 vs H1 ⟨z, hz, k1⟩ a1 r1 p1 => o H1 vs ds z Q p1 hz fun v H' gr rv => q z e1 v H' k1 (a1.trans (.grow gr)) (r1.grow gr) (got_up a1.there r1 rv)⟩
theorem de_opM {op : Operator} {r : R2} {f : D → D → Option D} (ho : OpR X (binaryOp op) r) (o : Op2M (gx X) r f) (ha : DE X a wa) (hb : DE X b wb) : DE X (.BinOp a op b pos) (w2 f wa wb) := de_M (pe_imp (pe_op ho ha hb) (up_2M o))
variable {x : Str} {id T : String} {r : List V → Hp → VK → Prop} {f : List D → Option D}
theorem de_BM (hc : CallR X (.builtin id) r) (o : OpAM (gx X) r f) (hm : X.mg x = none) (ha : DA X (e :: es) ws) (hg : Gl X x := by rfl) (hv : bootBuiltins x = some (.builtin id) := by decide +kernel) (hn : x ≠ "__name__" := by decide) (hdb : (x == ("__debug__" : Str)) = false := by decide)
    (he : starEach (e :: es) X.env = (false, eval e X.env) :: starEach es X.env := by rfl) (hpl : (backTo pos (starEach es X.env)).any (·.1) = false := by rfl) : DE X (.Call (.Name x p) (e :: es) [] pos) (wB f ws) := de_M (pe_imp (pe_callB hc hg hm hv ha hn hdb he hpl) (up_AM o))
theorem de_TyM (hc : CallR X (.type T) r) (o : OpAM (gx X) r f) (hm : X.mg x = none) (ha : DA X (e :: es) ws) (hg : Gl X x := by rfl) (hv : bootBuiltins x = some (.type T) := by decide +kernel) (hn : x ≠ "__name__" := by decide) (hdb : (x == ("__debug__" : Str)) = false := by decide)
    (he : starEach (e :: es) X.env = (false, eval e X.env) :: starEach es X.env := by rfl) (hpl : (backTo pos (starEach es X.env)).any (·.1) = false := by rfl) : DE X (.Call (.Name x p) (e :: es) [] pos) (wB f ws) := de_M (pe_imp (pe_callTy hc hg hm hv ha hn hdb he hpl) (up_AM o))
end

/-! ### what data is laid in the heap: helpers -/
theorem laid_tup {g : Gx} {H : Hp} {p : Addr} {ds : List D} {xs : List V} (hp : H p = none) (r : Reps g H ds xs) : Grow H (upd H p (.tup xs)) ∧ Rep g (upd H p (.tup xs)) (.tup ds) (.ref p) := by
  have gr : Grow H (upd H p (.tup xs)) := .new hp fun z => z
  exact ⟨gr, p, xs, rfl, .of upd_same, r.mono gr.stab ds xs⟩
theorem laid_lst {g : Gx} {H : Hp} {p : Addr} {ds : List D} {xs : List V} (hp : H p = none) (r : Reps g H ds xs) : Grow H (upd H p (.lst xs)) ∧ CellAt g (upd H p (.lst xs)) p (.lst ds) := by
  have gr : Grow H (upd H p (.lst xs)) := .new hp fun z => z
  exact ⟨gr, xs, upd_same, r.mono gr.stab ds xs⟩
theorem reps_flat {g : Gx} {H : Hp} : ∀ {ds : List D}, ds.all flat = true → Reps g H ds (ds.map flatV)
  | [], _ => rfl
  | d :: ds, h => by
    rw [List.all_cons, Bool.and_eq_true] at h
    exact ⟨_, _, rfl, flat_rep h.1, reps_flat h.2⟩
theorem rep_flat {g : Gx} {H : Hp} {d : D} {v : V} (h : flat d = true) (r : Rep g H d v) : v = flatV d := by
  cases d with
  | non => exact r
  | bl b => exact r
  | int i => exact r
  | str x => exact r
  | fn a => exact r
  | _ => cases h
theorem reps_flatV {g : Gx} {H : Hp} : ∀ {ds : List D} {xs : List V}, ds.all flat = true → Reps g H ds xs → xs = ds.map flatV
  | [], _, _, r => r
  | d :: ds, _, h, ⟨v, vs, e, r, rs⟩ => by
    rw [List.all_cons, Bool.and_eq_true] at h
    rw [e, rep_flat h.1 r, reps_flatV h.2 rs]; rfl

/-! ### lists that are read: held or known -/
section
variable {X : Cx}
abbrev LRd (H : Hp) (a : Addr) (xs : List V) : Prop := L2.Rd H a (.lst xs)
theorem LRd.sq {K : PySem.W.Frag} {H : Hp} {a : Addr} {xs : List V} (h : LRd H a xs) : SqL K H a xs := .inl h
theorem Inv.lrd {pins : List (Addr × Obj)} {σ : L2.St} {H : Hp} {s : Shared} {l : Addr} {xs : List V} (I : Inv X pins σ H s) (h : LRd H l xs) : xs.length ≤ sizeLine ∧ ∃ (its : List Value) (n : Nat), Vals xs its ∧ xs.length = its.length ∧ s.heap.get? l = some { cls := .type "list", data := .seq its.toArray n } := by
  obtain ⟨z, its, n, r, e⟩ := h.ok I.hok
  exact ⟨z, its, n, r, r.length, e⟩
/-- xs + ys of lists -/
def rCatL : R2 := fun x y H Q => ∃ l b xs zs, x = .ref l ∧ y = .ref b ∧ LRd H l xs ∧ LRd H b zs ∧ xs.length + zs.length ≤ sizeLine ∧ ∀ p, H p = none → Q (.ref p) (upd H p (.lst (xs ++ zs)))
theorem op_catL : OpR X (binaryOp .Add) rCatL := by
  intro pins s σ H x y v u Q I rx ry h
  obtain ⟨l, b, xs, zs, rfl, rfl, hH, hB, hz, q⟩ := h
  cases rx
  cases ry
  obtain ⟨z, its, n, r, hl, e⟩ := Inv.lrd I hH
  obtain ⟨z2, its2, n2, r2, hl2, e2⟩ := Inv.lrd I hB
  refine PySem.P.add_list e e2 ?_ (by rw [List.size_toArray, List.size_toArray]; omega)
  rw [show its.toArray ++ its2.toArray = (its ++ its2).toArray by simp]
  exact ⟨.ref _, _, I.lnew (t' := s.toks) (r.append r2) (by rw [List.length_append]; omega), rfl, q _ I.fresh⟩
end

/-! ### + -/
def D.add : D → D → Option D
  | .int i, .int j => some (.int (i + j))
  | .str x, .str y => if x.length + y.length ≤ sizeLine then some (.str (x ++ y)) else none
  | .tup a, .tup b => if a.length + b.length ≤ sizeLine then some (.tup (a ++ b)) else none
  | .lst a, .lst b => if a.length + b.length ≤ sizeLine then some (.lst (a ++ b)) else none
  | _, _ => none
def rAddStr : R2 := fun x y H Q => ∃ i j, x = .str i ∧ y = .str j ∧ i.length + j.length ≤ sizeLine ∧ Q (.str (i ++ j)) H
def rAddD (K : PySem.W.Frag) : R2 := fun x y H Q => rI0 (fun i j => .int (i + j)) x y H Q ∨ rAddStr x y H Q ∨ rCatA K x y H Q ∨ rCatL x y H Q
theorem op_addD {X : Cx} : OpR X (binaryOp .Add) (rAddD X.K) := op_add.or (OpR.or (r := rAddStr) op_add_str (op_catA.or op_catL))
theorem addD_ok {g : Gx} : Op2M g (rAddD g.K) D.add := fun H x y dx dy z Q rx ry h q => by
  cases dx with
  | int i =>
    cases dy with
    | int j =>
      cases h
      rw [show x = _ from rx, show y = _ from ry]
      exact .inl ⟨i, j, rfl, rfl, q _ H (.refl H) (.inl rfl)⟩
    | _ => cases h
  | str a =>
    cases dy with
    | str b =>
      simp only [D.add] at h
      split at h
      · cases h
        rw [show x = _ from rx, show y = _ from ry]
        exact .inr (.inl ⟨a, b, rfl, rfl, by assumption, q _ H (.refl H) (.inl rfl)⟩)
      · cases h
    | _ => cases h
  | tup a =>
    cases dy with
    | tup b =>
      simp only [D.add] at h
      split at h
      · rename_i hl
        cases h
        obtain ⟨p, xs, rfl, hx, rxs⟩ := id rx
        obtain ⟨p2, ys, rfl, hy, rys⟩ := id ry
        refine .inr (.inr (.inl ⟨p, p2, xs, ys, rfl, rfl, hx, hy, by rw [rxs.length, rys.length]; exact hl, fun e => ?_, fun _ e => ?_, fun _ _ p3 hp => ?_⟩))
        · have e2 : a = [] := List.eq_nil_of_length_eq_zero (by rw [← rxs.length, e]; rfl)
          refine q _ H (.refl H) (.inl ?_)
          rw [e2]
          exact ry
        · have e2 : b = [] := List.eq_nil_of_length_eq_zero (by rw [← rys.length, e]; rfl)
          refine q _ H (.refl H) (.inl ?_)
          rw [e2, List.append_nil]
          exact rx
        · obtain ⟨gr, rp⟩ := laid_tup (g := g) hp (rxs.append rys)
          exact q _ _ gr (.inl rp)
      · cases h
    | _ => cases h
  | lst a =>
    cases dy with
    | lst b =>
      simp only [D.add] at h
      split at h
      · rename_i hl
        cases h
        obtain ⟨p, xs, rfl, hx, rxs⟩ := rx
        obtain ⟨p2, ys, rfl, hy, rys⟩ := ry
        refine .inr (.inr (.inr ⟨p, p2, xs, ys, rfl, rfl, .inr hx, .inr hy, by rw [rxs.length, rys.length]; exact hl, fun p3 hp => ?_⟩))
        obtain ⟨gr, c⟩ := laid_lst (g := g) hp (rxs.append rys)
        exact q _ _ gr (.inr ⟨p3, rfl, hp, c⟩)
      · cases h
    | _ => cases h
  | _ => cases h
section
variable {X : Cx} {e a b c : Expr} {es : List Expr} {pos p : Pos} {w wa wb wc : WE} {ws : WA}
theorem de_add (ha : DE X a wa) (hb : DE X b wb) : DE X (.BinOp a .Add b pos) (w2 D.add wa wb) := de_opM op_addD addD_ok ha hb

/-! ### whole numbers -/
def iop (C : Int → Int → Prop) [∀ i j, Decidable (C i j)] (f : Int → Int → Int) : D → D → Option D
  | .int i, .int j => if C i j then some (.int (f i j)) else none
  | _, _ => none
theorem iop_ok {g : Gx} {C : Int → Int → Prop} [∀ i j, Decidable (C i j)] {f : Int → Int → Int} : Op2 g (rI C fun i j => .int (f i j)) (iop C f) := fun H x y dx dy z Q rx ry h q => by
  cases dx with
  | int i =>
    cases dy with
    | int j =>
      simp only [iop] at h
      split at h
      · cases h
        rw [show x = _ from rx, show y = _ from ry]
        exact ⟨i, j, rfl, rfl, by assumption, q _ H (.refl H) rfl⟩
      · cases h
    | _ => cases h
  | _ => cases h
instance : ∀ i j, Decidable (CDiv i j) := fun i j => by unfold CDiv; exact inferInstance
instance : ∀ i j, Decidable (CMul i j) := fun i j => by unfold CMul; exact inferInstance
instance : ∀ i j, Decidable (CPow i j) := fun i j => by unfold CPow; exact inferInstance
def D.sub : D → D → Option D
  | .int i, .int j => some (.int (i - j))
  | _, _ => none
theorem sub_ok {g : Gx} : Op2 g (rI0 fun i j => .int (i - j)) D.sub := fun H x y dx dy z Q rx ry h q => by
  cases dx with
  | int i =>
    cases dy with
    | int j =>
      cases h
      rw [show x = _ from rx, show y = _ from ry]
      exact ⟨i, j, rfl, rfl, q _ H (.refl H) rfl⟩
    | _ => cases h
  | _ => cases h
theorem de_sub (ha : DE X a wa) (hb : DE X b wb) : DE X (.BinOp a .Sub b pos) (w2 D.sub wa wb) := de_op op_sub sub_ok ha hb
theorem de_mul (ha : DE X a wa) (hb : DE X b wb) : DE X (.BinOp a .Mult b pos) (w2 (iop CMul fun i j => i * j) wa wb) := de_op op_mul iop_ok ha hb
theorem de_fdiv (ha : DE X a wa) (hb : DE X b wb) : DE X (.BinOp a .FloorDiv b pos) (w2 (iop CDiv fun i j => i / j) wa wb) := de_op op_fdiv iop_ok ha hb
theorem de_mod (ha : DE X a wa) (hb : DE X b wb) : DE X (.BinOp a .Mod b pos) (w2 (iop (fun _ j => 0 < j) fun i j => i % j) wa wb) := de_op op_mod iop_ok ha hb
theorem de_pow (ha : DE X a wa) (hb : DE X b wb) : DE X (.BinOp a .Pow b pos) (w2 (iop CPow fun i j => i ^ j.toNat) wa wb) := de_op op_pow iop_ok ha hb
def D.neg : D → Option D
  | .int i => some (.int (-i))
  | _ => none
theorem de_neg (ha : DE X a wa) : DE X (.UnaryOp .USub a pos) (w1 D.neg wa) := de_un un_neg (fun H x dx z Q rx h q => by
  cases dx with
  | int i =>
    cases h
    rw [show x = _ from rx]
    exact ⟨i, rfl, q _ H (.refl H) rfl⟩
  | _ => cases h) ha
end
end DL
/-! DL, part g: comparisons. -/
namespace DL
open PySem PySem.Spec L2

/-! ### data is the same, or not -/
mutual
def D.beq : D → D → Bool
  | .non, y => match y with
    | .non => true
    | _ => false
  | .bl a, y => match y with
    | .bl b => a == b
    | _ => false
  | .int a, y => match y with
    | .int b => decide (a = b)
    | _ => false
  | .str a, y => match y with
    | .str b => decide (a = b)
    | _ => false
  | .tup a, y => match y with
    | .tup b => D.beqs a b
    | _ => false
  | .lst a, y => match y with
    | .lst b => D.beqs a b
    | _ => false
  | .dct a b, y => match y with
    | .dct c d => D.beqs a c && D.beqs b d
    | _ => false
  | .set a, y => match y with
    | .set b => D.beqs a b
    | _ => false
  | .obj C n a, y => match y with
    | .obj C2 m b => decide (C = C2) && (decide (n = m) && D.beqs a b)
    | _ => false
  | .err C n a, y => match y with
    | .err C2 m b => decide (C = C2) && (decide (n = m) && D.beqs a b)
    | _ => false
  | .fn a, y => match y with
    | .fn b => decide (a = b)
    | _ => false
  | .pen, y => match y with
    | .pen => true
    | _ => false
  | .scr a, y => match y with
    | .scr b => decide (a = b)
    | _ => false
def D.beqs : List D → List D → Bool
  | [], y => match y with
    | [] => true
    | _ => false
  | a :: as, y => match y with
    | b :: bs => D.beq a b && D.beqs as bs
    | _ => false
end
mutual
theorem D.beq_self : ∀ a : D, D.beq a a = true
  | .non | .bl _ | .int _ | .str _ | .fn _ | .pen | .scr _ => by simp [D.beq]
  | .tup a | .lst a | .set a => by rw [D.beq]; exact D.beqs_self a
  | .dct a b => by rw [D.beq, D.beqs_self a, D.beqs_self b]; rfl
  | .obj _ _ a | .err _ _ a => by rw [D.beq, D.beqs_self a]; simp
theorem D.beqs_self : ∀ a : List D, D.beqs a a = true
  | [] => by rw [D.beqs]
  | a :: as => by rw [D.beqs, D.beq_self a, D.beqs_self as]; rfl
end
mutual
theorem D.eq_of_beq : ∀ a b : D, D.beq a b = true → a = b
  | .non, b, h => by cases b <;> simp_all [D.beq]
  | .bl _, b, h => by cases b <;> simp_all [D.beq]
  | .int _, b, h => by cases b <;> simp_all [D.beq]
  | .str _, b, h => by cases b <;> simp_all [D.beq]
  | .fn _, b, h => by cases b <;> simp_all [D.beq]
  | .pen, b, h => by cases b <;> simp_all [D.beq]
  | .scr _, b, h => by cases b <;> simp_all [D.beq]
  | .tup a, b, h => by
    cases b with
    | tup b => rw [D.beq] at h; rw [D.eq_of_beqs a b h]
    | _ => simp [D.beq] at h
  | .lst a, b, h => by
    cases b with
    | lst b => rw [D.beq] at h; rw [D.eq_of_beqs a b h]
    | _ => simp [D.beq] at h
  | .set a, b, h => by
    cases b with
    | set b => rw [D.beq] at h; rw [D.eq_of_beqs a b h]
    | _ => simp [D.beq] at h
  | .dct a c, b, h => by
    cases b with
    | dct b d =>
      rw [D.beq, Bool.and_eq_true] at h
      rw [D.eq_of_beqs a b h.1, D.eq_of_beqs c d h.2]
    | _ => simp [D.beq] at h
  | .obj _ _ a, b, h => by
    cases b with
    | obj _ _ b =>
      rw [D.beq, Bool.and_eq_true, Bool.and_eq_true] at h
      rw [of_decide_eq_true h.1, of_decide_eq_true h.2.1, D.eq_of_beqs a b h.2.2]
    | _ => simp [D.beq] at h
  | .err _ _ a, b, h => by
    cases b with
    | err _ _ b =>
      rw [D.beq, Bool.and_eq_true, Bool.and_eq_true] at h
      rw [of_decide_eq_true h.1, of_decide_eq_true h.2.1, D.eq_of_beqs a b h.2.2]
    | _ => simp [D.beq] at h
theorem D.eq_of_beqs : ∀ a b : List D, D.beqs a b = true → a = b
  | [], b, h => by cases b <;> simp_all [D.beqs]
  | a :: as, b, h => by
    cases b with
    | nil => simp [D.beqs] at h
    | cons b bs =>
      rw [D.beqs, Bool.and_eq_true] at h
      rw [D.eq_of_beq a b h.1, D.eq_of_beqs as bs h.2]
end
instance : DecidableEq D := fun a b => if h : D.beq a b = true then .isTrue (D.eq_of_beq a b h) else .isFalse fun e => h (by rw [e]; exact D.beq_self b)

/-! ### == of plain data -/
mutual
def D.py : D → Option PyData
  | .non => some .none
  | .bl b => some (.bool b)
  | .int i => some (.int i)
  | .str x => some (.str x)
  | .tup ds => (D.pys ds).map .tuple
  | .lst ds => (D.pys ds).map .list
  | _ => none
def D.pys : List D → Option (List PyData)
  | [] => some []
  | d :: ds => match D.py d, D.pys ds with
    | some a, some as => some (a :: as)
    | _, _ => none
end
mutual
theorem dp_of {g : Gx} {H : Hp} : ∀ (d : D) (v : V) (p : PyData), Rep g H d v → d.py = some p → Dp g.K H v p
  | .non, v, p, r, h => by rw [D.py] at h; cases h; rw [show v = _ from r]; exact .non
  | .bl b, v, p, r, h => by rw [D.py] at h; cases h; rw [show v = _ from r]; exact .bl b
  | .int i, v, p, r, h => by rw [D.py] at h; cases h; rw [show v = _ from r]; exact .int i
  | .str x, v, p, r, h => by rw [D.py] at h; cases h; rw [show v = _ from r]; exact .str x
  | .tup ds, v, p, ⟨a, xs, e, q, rs⟩, h => by
    rw [D.py] at h
    cases z : D.pys ds with
    | none => rw [z] at h; cases h
    | some ps => rw [z] at h; cases h; rw [e]; exact .tup q (dps_of ds xs ps rs z)
  | .lst ds, v, p, ⟨a, xs, e, q, rs⟩, h => by
    rw [D.py] at h
    cases z : D.pys ds with
    | none => rw [z] at h; cases h
    | some ps => rw [z] at h; cases h; rw [e]; exact .lst q.sq (dps_of ds xs ps rs z)
  | .dct _ _, _, _, _, h | .set _, _, _, _, h | .obj _ _ _, _, _, _, h | .err _ _ _, _, _, _, h | .fn _, _, _, _, h | .pen, _, _, _, h | .scr _, _, _, _, h => by simp [D.py] at h
theorem dps_of {g : Gx} {H : Hp} : ∀ (ds : List D) (xs : List V) (ps : List PyData), Reps g H ds xs → D.pys ds = some ps → DpAll g.K H xs ps
  | [], xs, ps, r, h => by rw [D.pys] at h; cases h; rw [show xs = _ from r]; exact .nil
  | d :: ds, xs, ps, ⟨v, vs, e, r, rs⟩, h => by
    rw [D.pys] at h
    cases z : D.py d with
    | none => rw [z] at h; cases h
    | some p =>
      cases z2 : D.pys ds with
      | none => rw [z, z2] at h; cases h
      | some qs => rw [z, z2] at h; cases h; rw [e]; exact .cons (dp_of d v p r z) (dps_of ds vs qs rs z2)
end
def eqc (x y : D) : Option Bool := match x.py, y.py with
  | some a, some b => if SeqAt.shaped a && SeqAt.shaped b then some (PyData.eqv a b) else none
  | _, _ => none
def D.eqo (x y : D) : Option D := (eqc x y).map .bl
def D.neo (x y : D) : Option D := (eqc x y).map fun b => .bl (!b)
theorem eqc_cases {x y : D} {k : Bool} (h : eqc x y = some k) : ∃ a b, x.py = some a ∧ y.py = some b ∧ SeqAt.shaped a = true ∧ SeqAt.shaped b = true ∧ k = PyData.eqv a b := by
  unfold eqc at h
  cases hx : x.py with
  | none => rw [hx] at h; cases h
  | some a =>
    cases hy : y.py with
    | none => rw [hx, hy] at h; cases h
    | some b =>
      rw [hx, hy] at h
      simp only at h
      split at h
      · rename_i q
        rw [Bool.and_eq_true] at q
        cases h
        exact ⟨a, b, rfl, rfl, q.1, q.2, rfl⟩
      · cases h
theorem eqo_ok {g : Gx} : Op2 g (rEqD g.K) D.eqo := fun H x y dx dy z Q rx ry h q => by
  unfold D.eqo at h
  cases hk : eqc dx dy with
  | none => rw [hk] at h; cases h
  | some k =>
    rw [hk] at h
    cases h
    obtain ⟨a, b, h1, h2, s1, s2, rfl⟩ := eqc_cases hk
    exact ⟨a, b, dp_of dx x a rx h1, dp_of dy y b ry h2, s1, s2, q _ H (.refl H) rfl⟩
theorem neo_ok {g : Gx} : Op2 g (rNeD g.K) D.neo := fun H x y dx dy z Q rx ry h q => by
  unfold D.neo at h
  cases hk : eqc dx dy with
  | none => rw [hk] at h; cases h
  | some k =>
    rw [hk] at h
    cases h
    obtain ⟨a, b, h1, h2, s1, s2, rfl⟩ := eqc_cases hk
    exact ⟨a, b, dp_of dx x a rx h1, dp_of dy y b ry h2, s1, s2, q _ H (.refl H) rfl⟩
mutual
/-- good data: no bool among it, texts of real signs, at most so deep -/
def D.gd : D → Nat → Bool
  | .non, _ => true
  | .int _, _ => true
  | .str x, _ => PyData.strOk x
  | .tup ds, n + 1 => D.gds ds n
  | .lst ds, n + 1 => D.gds ds n
  | _, _ => false
def D.gds : List D → Nat → Bool
  | [], _ => true
  | d :: ds, n => D.gd d n && D.gds ds n
end
mutual
theorem gd_py : ∀ (d : D) (n : Nat), d.gd n = true → ∃ p, d.py = some p ∧ p.canLay0 = true ∧ p.depth ≤ n
  | .non, n, _ => ⟨_, by rw [D.py], rfl, Nat.zero_le _⟩
  | .int i, n, _ => ⟨_, by rw [D.py], rfl, Nat.zero_le _⟩
  | .str x, n, h => ⟨_, by rw [D.py], by rw [D.gd] at h; exact h, Nat.zero_le _⟩
  | .tup ds, n + 1, h => by
    rw [D.gd] at h
    obtain ⟨ps, h1, h2, h3⟩ := gds_py ds n h
    exact ⟨.tuple ps, by rw [D.py, h1]; rfl, by rw [PyData.canLay0]; exact h2, by rw [PyData.depth]; omega⟩
  | .lst ds, n + 1, h => by
    rw [D.gd] at h
    obtain ⟨ps, h1, h2, h3⟩ := gds_py ds n h
    exact ⟨.list ps, by rw [D.py, h1]; rfl, by rw [PyData.canLay0]; exact h2, by rw [PyData.depth]; omega⟩
  | .tup ds, 0, h | .lst ds, 0, h => by simp [D.gd] at h
  | .bl _, _, h | .dct _ _, _, h | .set _, _, h | .obj _ _ _, _, h | .err _ _ _, _, h | .fn _, _, h | .pen, _, h | .scr _, _, h => by simp [D.gd] at h
theorem gds_py : ∀ (ds : List D) (n : Nat), D.gds ds n = true → ∃ ps, D.pys ds = some ps ∧ PyData.canLayAll0 ps = true ∧ PyData.depthAll ps ≤ n
  | [], n, _ => ⟨[], by rw [D.pys], by rw [PyData.canLayAll0], by rw [PyData.depthAll]; omega⟩
  | d :: ds, n, h => by
    rw [D.gds, Bool.and_eq_true] at h
    obtain ⟨p, h1, h2, h3⟩ := gd_py d n h.1
    obtain ⟨ps, k1, k2, k3⟩ := gds_py ds n h.2
    exact ⟨p :: ps, by rw [D.pys, h1, k1], by rw [PyData.canLayAll0, h2, k2]; rfl, by rw [PyData.depthAll]; omega⟩
end
mutual
theorem gd_eqv : ∀ (d e : D) (n m : Nat) (p q : PyData), d.gd n = true → e.gd m = true → d.py = some p → e.py = some q → PyData.eqv p q = D.beq d e
  | .non, e, n, m, p, q, h, k, h1, k1 => by
    rw [D.py] at h1; cases h1
    cases e with
    | bl b => exact absurd k (by simp [D.gd])
    | dct a b => exact absurd k (by simp [D.gd])
    | set a => exact absurd k (by simp [D.gd])
    | obj a b c => exact absurd k (by simp [D.gd])
    | err a b c => exact absurd k (by simp [D.gd])
    | fn a => exact absurd k (by simp [D.gd])
    | pen => exact absurd k (by simp [D.gd])
    | scr a => exact absurd k (by simp [D.gd])
    | non => rw [D.py] at k1; cases k1; (rw [PyData.eqv, D.beq]; all_goals first | rfl | (intros; contradiction))
    | int j => rw [D.py] at k1; cases k1; (rw [PyData.eqv, D.beq]; all_goals first | rfl | (intros; contradiction))
    | str y => rw [D.py] at k1; cases k1; (rw [PyData.eqv, D.beq]; all_goals first | rfl | (intros; contradiction))
    | tup es =>
      rw [D.py] at k1
      obtain ⟨qs, _, rfl⟩ := Option.map_eq_some_iff.mp k1
      (rw [PyData.eqv, D.beq]; all_goals first | rfl | (intros; contradiction))
    | lst es =>
      rw [D.py] at k1
      obtain ⟨qs, _, rfl⟩ := Option.map_eq_some_iff.mp k1
      (rw [PyData.eqv, D.beq]; all_goals first | rfl | (intros; contradiction))
  | .int i, e, n, m, p, q, h, k, h1, k1 => by
    rw [D.py] at h1; cases h1
    cases e with
    | bl b => exact absurd k (by simp [D.gd])
    | dct a b => exact absurd k (by simp [D.gd])
    | set a => exact absurd k (by simp [D.gd])
    | obj a b c => exact absurd k (by simp [D.gd])
    | err a b c => exact absurd k (by simp [D.gd])
    | fn a => exact absurd k (by simp [D.gd])
    | pen => exact absurd k (by simp [D.gd])
    | scr a => exact absurd k (by simp [D.gd])
    | non => rw [D.py] at k1; cases k1; (rw [PyData.eqv, D.beq]; all_goals first | rfl | (intros; contradiction))
    | int j => rw [D.py] at k1; cases k1; (rw [PyData.eqv, D.beq]; all_goals first | rfl | (intros; contradiction))
    | str y => rw [D.py] at k1; cases k1; (rw [PyData.eqv, D.beq]; all_goals first | rfl | (intros; contradiction))
    | tup es =>
      rw [D.py] at k1
      obtain ⟨qs, _, rfl⟩ := Option.map_eq_some_iff.mp k1
      (rw [PyData.eqv, D.beq]; all_goals first | rfl | (intros; contradiction))
    | lst es =>
      rw [D.py] at k1
      obtain ⟨qs, _, rfl⟩ := Option.map_eq_some_iff.mp k1
      (rw [PyData.eqv, D.beq]; all_goals first | rfl | (intros; contradiction))
  | .str x, e, n, m, p, q, h, k, h1, k1 => by
    rw [D.py] at h1; cases h1
    cases e with
    | bl b => exact absurd k (by simp [D.gd])
    | dct a b => exact absurd k (by simp [D.gd])
    | set a => exact absurd k (by simp [D.gd])
    | obj a b c => exact absurd k (by simp [D.gd])
    | err a b c => exact absurd k (by simp [D.gd])
    | fn a => exact absurd k (by simp [D.gd])
    | pen => exact absurd k (by simp [D.gd])
    | scr a => exact absurd k (by simp [D.gd])
    | non => rw [D.py] at k1; cases k1; (rw [PyData.eqv, D.beq]; all_goals first | rfl | (intros; contradiction))
    | int j => rw [D.py] at k1; cases k1; (rw [PyData.eqv, D.beq]; all_goals first | rfl | (intros; contradiction))
    | str y => rw [D.py] at k1; cases k1; (rw [PyData.eqv, D.beq]; all_goals first | rfl | (intros; contradiction))
    | tup es =>
      rw [D.py] at k1
      obtain ⟨qs, _, rfl⟩ := Option.map_eq_some_iff.mp k1
      (rw [PyData.eqv, D.beq]; all_goals first | rfl | (intros; contradiction))
    | lst es =>
      rw [D.py] at k1
      obtain ⟨qs, _, rfl⟩ := Option.map_eq_some_iff.mp k1
      (rw [PyData.eqv, D.beq]; all_goals first | rfl | (intros; contradiction))
  | .tup ds, e, n + 1, m, p, q, h, k, h1, k1 => by
    rw [D.gd] at h
    obtain ⟨ps, e1, _, _⟩ := gds_py ds n h
    rw [D.py, e1] at h1; cases h1
    cases e with
    | tup es =>
      cases m with
      | zero => simp [D.gd] at k
      | succ m =>
        rw [D.gd] at k
        obtain ⟨qs, e2, _, _⟩ := gds_py es m k
        rw [D.py, e2] at k1; cases k1
        rw [PyData.eqv, D.beq]
        exact gds_eqv ds es n m ps qs h k e1 e2
    | lst es =>
      cases z : D.pys es with
      | none => rw [D.py, z] at k1; cases k1
      | some qs => rw [D.py, z] at k1; cases k1; (rw [PyData.eqv, D.beq]; all_goals first | rfl | (intros; contradiction))
    | _ => first | (simp [D.gd] at k; done) | (rw [D.py] at k1; cases k1; (rw [PyData.eqv, D.beq]; all_goals first | rfl | (intros; contradiction)))
  | .lst ds, e, n + 1, m, p, q, h, k, h1, k1 => by
    rw [D.gd] at h
    obtain ⟨ps, e1, _, _⟩ := gds_py ds n h
    rw [D.py, e1] at h1; cases h1
    cases e with
    | lst es =>
      cases m with
      | zero => simp [D.gd] at k
      | succ m =>
        rw [D.gd] at k
        obtain ⟨qs, e2, _, _⟩ := gds_py es m k
        rw [D.py, e2] at k1; cases k1
        rw [PyData.eqv, D.beq]
        exact gds_eqv ds es n m ps qs h k e1 e2
    | tup es =>
      cases z : D.pys es with
      | none => rw [D.py, z] at k1; cases k1
      | some qs => rw [D.py, z] at k1; cases k1; (rw [PyData.eqv, D.beq]; all_goals first | rfl | (intros; contradiction))
    | _ => first | (simp [D.gd] at k; done) | (rw [D.py] at k1; cases k1; (rw [PyData.eqv, D.beq]; all_goals first | rfl | (intros; contradiction)))
  | .tup ds, _, 0, _, _, _, h, _, _, _ | .lst ds, _, 0, _, _, _, h, _, _, _ => by simp [D.gd] at h
  | .bl _, _, _, _, _, _, h, _, _, _ | .dct _ _, _, _, _, _, _, h, _, _, _ | .set _, _, _, _, _, _, h, _, _, _ | .obj _ _ _, _, _, _, _, _, h, _, _, _ | .err _ _ _, _, _, _, _, _, h, _, _, _ | .fn _, _, _, _, _, _, h, _, _, _ | .pen, _, _, _, _, _, h, _, _, _
  | .scr _, _, _, _, _, _, h, _, _, _ => by simp [D.gd] at h
termination_by d => sizeOf d
theorem gds_eqv : ∀ (ds es : List D) (n m : Nat) (ps qs : List PyData), D.gds ds n = true → D.gds es m = true → D.pys ds = some ps → D.pys es = some qs → PyData.eqvAll ps qs = D.beqs ds es
  | [], [], n, m, ps, qs, h, k, h1, k1 => by rw [D.pys] at h1 k1; cases h1; cases k1; (rw [PyData.eqvAll, D.beqs]; all_goals first | rfl | (intros; contradiction))
  | [], e :: es, n, m, ps, qs, h, k, h1, k1 => by
    rw [D.gds, Bool.and_eq_true] at k
    obtain ⟨q, e1, _, _⟩ := gd_py e m k.1
    obtain ⟨qs', e2, _, _⟩ := gds_py es m k.2
    rw [D.pys] at h1; cases h1
    rw [D.pys, e1, e2] at k1; cases k1; (rw [PyData.eqvAll, D.beqs]; all_goals first | rfl | (intros; contradiction))
  | d :: ds, [], n, m, ps, qs, h, k, h1, k1 => by
    rw [D.gds, Bool.and_eq_true] at h
    obtain ⟨q, e1, _, _⟩ := gd_py d n h.1
    obtain ⟨qs', e2, _, _⟩ := gds_py ds n h.2
    rw [D.pys] at k1; cases k1
    rw [D.pys, e1, e2] at h1; cases h1; (rw [PyData.eqvAll, D.beqs]; all_goals first | rfl | (intros; contradiction))
  | d :: ds, e :: es, n, m, ps, qs, h, k, h1, k1 => by
    rw [D.gds, Bool.and_eq_true] at h k
    obtain ⟨p, e1, _, _⟩ := gd_py d n h.1
    obtain ⟨ps', e2, _, _⟩ := gds_py ds n h.2
    obtain ⟨q, f1, _, _⟩ := gd_py e m k.1
    obtain ⟨qs', f2, _, _⟩ := gds_py es m k.2
    rw [D.pys, e1, e2] at h1; cases h1
    rw [D.pys, f1, f2] at k1; cases k1
    rw [PyData.eqvAll, D.beqs, gd_eqv d e n m p q h.1 k.1 e1 f1, gds_eqv ds es n m ps' qs' h.2 k.2 e2 f2]
termination_by ds => sizeOf ds
end
theorem beq_dec (x y : D) : D.beq x y = decide (x = y) := by
  cases h : D.beq x y with
  | true => rw [D.eq_of_beq x y h]; simp
  | false => exact (decide_eq_false fun e => by rw [e, D.beq_self] at h; cases h).symm
/-- == of good data tells whether it is the same -/
theorem eqc_gd {x y : D} (hx : x.gd 64 = true) (hy : y.gd 64 = true) : eqc x y = some (decide (x = y)) := by
  obtain ⟨p, h1, h2, h3⟩ := gd_py x 64 hx
  obtain ⟨q, k1, k2, k3⟩ := gd_py y 64 hy
  unfold eqc
  rw [h1, k1]
  have s1 : SeqAt.shaped p = true := by unfold SeqAt.shaped; rw [h2, decide_eq_true h3]; rfl
  have s2 : SeqAt.shaped q = true := by unfold SeqAt.shaped; rw [k2, decide_eq_true k3]; rfl
  simp only [s1, s2, Bool.and_self, if_true]
  rw [gd_eqv x y 64 64 p q hx hy h1 k1, beq_dec]
section
variable {X : Cx} {e a b c : Expr} {es : List Expr} {pos p : Pos} {w wa wb wc : WE} {ws : WA} {k : Nat}
theorem room64 (hr : Room k X.A) : X.A.units + 64 < cLine := by
  have := hr.un
  omega
theorem de_eq (hr : Room k X.A) (ha : DE X a wa) (hb : DE X b wb) : DE X (.Compare a [.Eq] [b] pos) (w2 D.eqo wa wb) := de_cmp (op_eqD (room64 hr)) eqo_ok ha hb
theorem de_ne (hr : Room k X.A) (ha : DE X a wa) (hb : DE X b wb) : DE X (.Compare a [.NotEq] [b] pos) (w2 D.neo wa wb) := de_cmp (op_neD (room64 hr)) neo_ok ha hb
theorem dt_eq (hr : Room k X.A) (ha : DE X a wa) (hb : DE X b wb) : DT X (.Compare a [.Eq] [b] pos) (wTst (w2 D.eqo wa wb)) := dt_cmp (op_eqD (room64 hr)) eqo_ok ha hb
theorem dt_ne (hr : Room k X.A) (ha : DE X a wa) (hb : DE X b wb) : DT X (.Compare a [.NotEq] [b] pos) (wTst (w2 D.neo wa wb)) := dt_cmp (op_neD (room64 hr)) neo_ok ha hb
end
end DL
/-! DL, part h: dicts. -/
namespace DL
open PySem PySem.Spec L2

/-! ### keys -/
mutual
theorem kg_key : ∀ (d : D) (n : Nat), d.kg n = true → ∃ k, d.key = some k ∧ k.depth ≤ n
  | .non, _, _ => ⟨_, rfl, Nat.zero_le _⟩
  | .int _, _, _ => ⟨_, rfl, Nat.zero_le _⟩
  | .str _, _, _ => ⟨_, rfl, Nat.zero_le _⟩
  | .tup ds, n + 1, h => by
    rw [D.kg] at h
    obtain ⟨ks, h1, h2⟩ := kgs_key ds n h
    exact ⟨.tup ks, by rw [D.key, h1]; rfl, by rw [NestedKey.depth]; omega⟩
  | .tup _, 0, h | .bl _, _, h | .lst _, _, h | .dct _ _, _, h | .set _, _, h | .obj _ _ _, _, h | .err _ _ _, _, h | .fn _, _, h | .pen, _, h | .scr _, _, h => by simp [D.kg] at h
theorem kgs_key : ∀ (ds : List D) (n : Nat), D.kgs ds n = true → ∃ ks, D.key.keys ds = some ks ∧ NestedKey.depthAll ks ≤ n
  | [], _, _ => ⟨[], rfl, Nat.zero_le _⟩
  | d :: ds, n, h => by
    rw [D.kgs, Bool.and_eq_true] at h
    obtain ⟨k, h1, h2⟩ := kg_key d n h.1
    obtain ⟨ks, k1, k2⟩ := kgs_key ds n h.2
    exact ⟨k :: ks, by rw [D.key.keys, h1, k1], by rw [NestedKey.depthAll]; omega⟩
end
mutual
theorem key_inj : ∀ (d e : D) (n m : Nat) (k : NestedKey), d.kg n = true → e.kg m = true → d.key = some k → e.key = some k → d = e
  | .non, e, n, m, k, h1, h2, h3, h4 => by
    cases h3
    cases e with
    | non => rfl
    | int _ => cases h4
    | str _ => cases h4
    | tup ds =>
      rw [D.key] at h4
      obtain ⟨_, _, q⟩ := Option.map_eq_some_iff.mp h4
      cases q
    | _ => simp [D.kg] at h2
  | .int i, e, n, m, k, h1, h2, h3, h4 => by
    cases h3
    cases e with
    | non => cases h4
    | int _ => cases h4; rfl
    | str _ => cases h4
    | tup ds =>
      rw [D.key] at h4
      obtain ⟨_, _, q⟩ := Option.map_eq_some_iff.mp h4
      cases q
    | _ => simp [D.kg] at h2
  | .str i, e, n, m, k, h1, h2, h3, h4 => by
    cases h3
    cases e with
    | non => cases h4
    | int _ => cases h4
    | str _ => cases h4; rfl
    | tup ds =>
      rw [D.key] at h4
      obtain ⟨_, _, q⟩ := Option.map_eq_some_iff.mp h4
      cases q
    | _ => simp [D.kg] at h2
  | .tup ds, e, n + 1, m, k, h1, h2, h3, h4 => by
    rw [D.kg] at h1
    rw [D.key] at h3
    obtain ⟨ks, q, rfl⟩ := Option.map_eq_some_iff.mp h3
    cases e with
    | non => cases h4
    | int _ => cases h4
    | str _ => cases h4
    | tup es =>
      cases m with
      | zero => simp [D.kg] at h2
      | succ m =>
        rw [D.kg] at h2
        rw [D.key] at h4
        obtain ⟨ks2, q2, e2⟩ := Option.map_eq_some_iff.mp h4
        cases e2
        rw [keys_inj ds es n m _ h1 h2 q q2]
    | _ => simp [D.kg] at h2
  | .tup _, _, 0, _, _, h, _, _, _ | .bl _, _, _, _, _, h, _, _, _ | .lst _, _, _, _, _, h, _, _, _ | .dct _ _, _, _, _, _, h, _, _, _ | .set _, _, _, _, _, h, _, _, _ | .obj _ _ _, _, _, _, _, h, _, _, _ | .err _ _ _, _, _, _, _, h, _, _, _
  | .fn _, _, _, _, _, h, _, _, _ | .pen, _, _, _, _, h, _, _, _ | .scr _, _, _, _, _, h, _, _, _ => by simp [D.kg] at h
theorem keys_inj : ∀ (ds es : List D) (n m : Nat) (ks : List NestedKey), D.kgs ds n = true → D.kgs es m = true → D.key.keys ds = some ks → D.key.keys es = some ks → ds = es
  | [], [], _, _, _, _, _, _, _ => rfl
  | [], e :: es, n, m, ks, h1, h2, h3, h4 => by
    rw [D.kgs, Bool.and_eq_true] at h2
    obtain ⟨k, q1, _⟩ := kg_key e m h2.1
    obtain ⟨kr, q2, _⟩ := kgs_key es m h2.2
    cases h3
    rw [D.key.keys, q1, q2] at h4
    cases h4
  | d :: ds, [], n, m, ks, h1, h2, h3, h4 => by
    rw [D.kgs, Bool.and_eq_true] at h1
    obtain ⟨k, q1, _⟩ := kg_key d n h1.1
    obtain ⟨kr, q2, _⟩ := kgs_key ds n h1.2
    cases h4
    rw [D.key.keys, q1, q2] at h3
    cases h3
  | d :: ds, e :: es, n, m, ks, h1, h2, h3, h4 => by
    rw [D.kgs, Bool.and_eq_true] at h1 h2
    obtain ⟨k, q1, _⟩ := kg_key d n h1.1
    obtain ⟨kr, q2, _⟩ := kgs_key ds n h1.2
    obtain ⟨k', q3, _⟩ := kg_key e m h2.1
    obtain ⟨kr', q4, _⟩ := kgs_key es m h2.2
    rw [D.key.keys, q1, q2] at h3
    rw [D.key.keys, q3, q4] at h4
    cases h3
    cases h4
    rw [key_inj d e n m _ h1.1 h2.1 q1 q3, keys_inj ds es n m _ h1.2 h2.2 q2 q4]
end
theorem tk_kg {d : D} (h : d.tk = true) : d.kg 8 = true := by
  cases d with
  | tup ds => rw [D.kg]; exact h
  | _ => cases h
theorem fk_kg {d : D} (h : d.fk = true) : d.kg 8 = true := by
  cases d with
  | int _ => rfl
  | str _ => rfl
  | _ => cases h
/-- the key of a good one -/
def D.nk (d : D) : NestedKey := d.key.getD .none
theorem nk_of {d : D} {n : Nat} (h : d.kg n = true) : d.key = some d.nk ∧ d.nk.depth ≤ n := by
  obtain ⟨k, h1, h2⟩ := kg_key d n h
  unfold D.nk
  rw [h1]
  exact ⟨rfl, h2⟩
theorem nk_inj {d e : D} (h : d.kg 8 = true) (k : e.kg 8 = true) (q : d.nk = e.nk) : d = e := key_inj d e 8 8 d.nk h k (nk_of h).1 (by rw [q]; exact (nk_of k).1)
/-! what is represented is that key in the heap -/
section
variable {X : Cx} {pins : List (Addr × Obj)} {σ : L2.St} {H : Hp} {s : Shared}
mutual
theorem nested_of (I : Inv X pins σ H s) : ∀ (d : D) (n : Nat) (v : V) (u : Value) (k : NestedKey), d.kg n = true → d.key = some k → Rep (gx X) H d v → RelV v u → NestedIs s.heap k u
  | .non, _, _, _, _, _, h, r, q => by
    cases h
    rw [show _ = _ from r] at q
    cases q
    exact .none
  | .int i, _, _, _, _, _, h, r, q => by
    cases h
    rw [show _ = _ from r] at q
    obtain ⟨t, rfl⟩ := q
    exact .int _ _
  | .str i, _, _, _, _, _, h, r, q => by
    cases h
    rw [show _ = _ from r] at q
    obtain ⟨t, rfl⟩ := q
    exact .text _ _
  | .tup ds, n + 1, _, _, _, g, h, ⟨a, xs, e, hq, rs⟩, q => by
    rw [D.kg] at g
    rw [D.key] at h
    obtain ⟨ks, h1, rfl⟩ := Option.map_eq_some_iff.mp h
    subst e
    cases q
    obtain ⟨its, rv, ⟨o, ho, hc, m, hd⟩, _⟩ := I.tuple hq
    exact .tup ho hc hd (by simpa using nesteds_of I ds n xs its ks g h1 rs rv)
  | .tup _, 0, _, _, _, h, _, _, _ | .bl _, _, _, _, _, h, _, _, _ | .lst _, _, _, _, _, h, _, _, _ | .dct _ _, _, _, _, _, h, _, _, _ | .set _, _, _, _, _, h, _, _, _ | .obj _ _ _, _, _, _, _, h, _, _, _ | .err _ _ _, _, _, _, _, h, _, _, _
  | .fn _, _, _, _, _, h, _, _, _ | .pen, _, _, _, _, h, _, _, _ | .scr _, _, _, _, _, h, _, _, _ => by simp [D.kg] at h
theorem nesteds_of (I : Inv X pins σ H s) : ∀ (ds : List D) (n : Nat) (vs : List V) (us : List Value) (ks : List NestedKey), D.kgs ds n = true → D.key.keys ds = some ks → Reps (gx X) H ds vs → Vals vs us → NestedAll s.heap ks us
  | [], _, _, _, _, _, h, r, q => by
    cases h
    rw [show _ = _ from r] at q
    cases q
    exact .nil
  | d :: ds, n, _, _, _, g, h, ⟨v, vs, e, r, rs⟩, q => by
    rw [D.kgs, Bool.and_eq_true] at g
    obtain ⟨k, q1, _⟩ := kg_key d n g.1
    obtain ⟨kr, q2, _⟩ := kgs_key ds n g.2
    rw [D.key.keys, q1, q2] at h
    cases h
    subst e
    cases q with
    | cons p1 p2 => exact .cons (nested_of I d n v _ k g.1 q1 r p1) (nesteds_of I ds n vs _ kr g.2 q2 rs p2)
end
/-- a tuple's key, by its address -/
theorem nkind_of (I : Inv X pins σ H s) {d : D} {b : Addr} (h : d.tk = true) (r : Rep (gx X) H d (.ref b)) : (nestedKind X.prog X.w).is s.heap d.nk b :=
  ⟨nested_of I d 8 _ _ _ (tk_kg h) (nk_of (tk_kg h)).1 r rfl, (nk_of (tk_kg h)).2⟩
end

/-! ### places -/
def dix (ks : List D) (k : D) : Option Nat := ks.findIdx? fun x => decide (x = k)
def dget (ks vs : List D) (k : D) : Option D := (dix ks k).bind fun i => vs[i]?
def dput (ks vs : List D) (k v : D) : List D × List D := match dix ks k with
  | some i => (ks, vs.set i v)
  | none => (ks ++ [k], vs ++ [v])
theorem dix_some {ks : List D} {k : D} {i : Nat} (h : dix ks k = some i) : ks[i]? = some k := by
  obtain ⟨hi, h1, _⟩ := List.findIdx?_eq_some_iff_getElem.mp h
  rw [List.getElem?_eq_getElem hi, of_decide_eq_true h1]
theorem dix_none {ks : List D} {k : D} (h : dix ks k = none) : k ∉ ks := fun q => by
  have := List.findIdx?_eq_none_iff.mp h k q
  simp at this
theorem dix_of {ks : List D} (nd : ks.Nodup) {k : D} {i : Nat} (h : ks[i]? = some k) : dix ks k = some i := by
  obtain ⟨hi, e⟩ := List.getElem?_eq_some_iff.mp h
  cases q : dix ks k with
  | none => exact (dix_none q (List.mem_of_getElem? h)).elim
  | some j =>
    obtain ⟨hj, e2⟩ := List.getElem?_eq_some_iff.mp (dix_some q)
    rw [(List.getElem_inj nd).mp (e2.trans e.symm)]

/-! ### dicts in the heap -/
theorem valueAt_get {κ : Type} [DecidableEq κ] {k : κ} {v : Value} : ∀ {l : List (κ × Value)} {i : Nat}, (l.map (·.1)).Nodup → l[i]? = some (k, v) → valueAt l k = some v
  | [], _, _, h => by simp at h
  | p :: r, 0, _, h => by simp at h; subst h; simp [valueAt]
  | p :: r, i + 1, nd, h => by
    rw [List.map_cons, List.nodup_cons] at nd
    have hr : r[i]? = some (k, v) := by simpa using h
    have hn : ¬ p.1 = k := fun e => nd.1 (by rw [e]; exact List.mem_map.mpr ⟨_, List.mem_of_getElem? hr, rfl⟩)
    have ih := valueAt_get nd.2 hr
    simpa [valueAt, List.find?_cons, hn] using ih
theorem valueAt_none {κ : Type} [DecidableEq κ] {k : κ} : ∀ {l : List (κ × Value)}, k ∉ l.map (·.1) → valueAt l k = none
  | [], _ => rfl
  | p :: r, h => by
    rw [List.map_cons, List.mem_cons, not_or] at h
    have ih := valueAt_none h.2
    have hn : ¬ p.1 = k := fun e => h.1 e.symm
    simpa [valueAt, List.find?_cons, hn] using ih
theorem stored_get {κ : Type} [DecidableEq κ] {k : κ} {v x : Value} : ∀ {l : List (κ × Value)} {i : Nat}, (l.map (·.1)).Nodup → l[i]? = some (k, x) → stored l k v = l.set i (k, v) := by
  intro l i nd h
  have hany : (l.any fun kv => decide (kv.1 = k)) = true := List.any_eq_true.mpr ⟨_, List.mem_of_getElem? h, by simp⟩
  unfold stored
  rw [if_pos hany]
  clear hany
  induction l generalizing i with
  | nil => simp at h
  | cons p r ih =>
    rw [List.map_cons, List.nodup_cons] at nd
    cases i with
    | zero =>
      simp at h
      subst h
      rw [List.map_cons, List.set_cons_zero, if_pos rfl]
      have hk : k ∉ r.map (·.1) := nd.1
      congr 1
      clear ih nd
      induction r with
      | nil => rfl
      | cons q r ih2 =>
        rw [List.map_cons, List.mem_cons, not_or] at hk
        rw [List.map_cons, if_neg (fun e => hk.1 e.symm), ih2 hk.2]
    | succ i =>
      have hr : r[i]? = some (k, x) := by simpa using h
      have hn : ¬ p.1 = k := fun e => nd.1 (by rw [e]; exact List.mem_map.mpr ⟨_, List.mem_of_getElem? hr, rfl⟩)
      rw [List.map_cons, List.set_cons_succ, if_neg hn, ih nd.2 hr]
theorem stored_none {κ : Type} [DecidableEq κ] {k : κ} {v : Value} {l : List (κ × Value)} (h : k ∉ l.map (·.1)) : stored l k v = l ++ [(k, v)] := by
  unfold stored
  rw [if_neg]
  intro q
  obtain ⟨x, hx, e⟩ := List.any_eq_true.mp q
  exact h (List.mem_map.mpr ⟨x, hx, by simpa using e⟩)
theorem storedH_get {κ : Type} [DecidableEq κ] {k : κ} {b c : Addr} {v x : Value} : ∀ {l : List (κ × Addr × Value)} {i : Nat}, (l.map (·.1)).Nodup → l[i]? = some (k, b, x) → storedH l k c v = l.set i (k, b, v) := by
  intro l i nd h
  rw [storedH_old (atKey_of_get nd h)]
  induction l generalizing i with
  | nil => simp at h
  | cons p r ih =>
    rw [List.map_cons, List.nodup_cons] at nd
    cases i with
    | zero =>
      simp at h
      subst h
      rw [List.map_cons, List.set_cons_zero, putAt, if_pos rfl, map_putAt_of_not_mem r k v nd.1]
    | succ i =>
      have hr : r[i]? = some (k, b, x) := by simpa using h
      have hn : ¬ p.1 = k := fun e => nd.1 (by rw [e]; exact List.mem_map.mpr ⟨_, List.mem_of_getElem? hr, rfl⟩)
      rw [List.map_cons, List.set_cons_succ, putAt, if_neg hn, ih nd.2 hr]
theorem atKey_none {κ : Type} [DecidableEq κ] {k : κ} {l : List (κ × Addr × Value)} (h : k ∉ l.map (·.1)) : atKey l k = none := atKey_none_of_get fun j p q => h (List.mem_map.mpr ⟨_, List.mem_of_getElem? q, rfl⟩)

/-- the number, the text, as a key -/
def D.mk : D → Key
  | .int i => .inl i
  | .str x => .inr x
  | _ => .inl 0
def D.cv : D → V
  | .int i => .int i
  | .str x => .str x
  | _ => .non
theorem mk_inj {d e : D} (h : d.fk = true) (k : e.fk = true) (q : d.mk = e.mk) : d = e := by
  cases d with
  | int i =>
    cases e with
    | int j => cases q; rfl
    | str _ => cases q
    | _ => cases k
  | str x =>
    cases e with
    | int j => cases q
    | str _ => cases q; rfl
    | _ => cases k
  | _ => cases h
theorem mk_is {g : Gx} {H : Hp} {d : D} {v : V} {u : Value} (h : d.fk = true) (r : Rep g H d v) (ru : RelV v u) : keyIs d.mk u = true := by
  cases d with
  | int i => rw [show v = _ from r] at ru; obtain ⟨t, rfl⟩ := ru; exact keyIs_int i t
  | str x => rw [show v = _ from r] at ru; obtain ⟨t, rfl⟩ := ru; exact keyIs_str x t
  | _ => cases h
theorem mk_hash {w : World} {d : D} (h : d.fk = true) : d.key = some d.nk ∧ d.nk.hash w = keyH w d.mk := by
  cases d with
  | int i => exact ⟨rfl, rfl⟩
  | str x => exact ⟨rfl, rfl⟩
  | _ => cases h
theorem cv_rep {g : Gx} {H : Hp} {d : D} (h : d.fk = true) : Rep g H d d.cv := by
  cases d with
  | int i => exact rfl
  | str x => exact rfl
  | _ => cases h
theorem cv_rel {d : D} {u : Value} (h : d.fk = true) (r : keyIs d.mk u = true) : RelV d.cv u := by
  cases d with
  | int i =>
    rcases keyIs_shape r with ⟨i, t, e, rfl⟩ | ⟨x, t, e, _⟩
    · cases e; exact ⟨t, rfl⟩
    · cases e
  | str x =>
    rcases keyIs_shape r with ⟨i, t, e, _⟩ | ⟨x, t, e, rfl⟩
    · cases e
    · cases e; exact ⟨t, rfl⟩
  | _ => cases h
theorem map_inj_nodup {α β : Type} {f : α → β} {p : α → Bool} (inj : ∀ a b, p a = true → p b = true → f a = f b → a = b) : ∀ {l : List α}, l.all p = true → l.Nodup → (l.map f).Nodup
  | [], _, _ => List.nodup_nil
  | a :: l, h, nd => by
    rw [List.all_cons, Bool.and_eq_true] at h
    rw [List.nodup_cons] at nd
    rw [List.map_cons, List.nodup_cons]
    refine ⟨fun q => ?_, map_inj_nodup inj h.2 nd.2⟩
    obtain ⟨b, hb, e⟩ := List.mem_map.mp q
    exact nd.1 ((inj b a (List.all_eq_true.mp h.2 b hb) h.1 e) ▸ hb)
theorem map_inj_mem {α β : Type} {f : α → β} {p : α → Bool} (inj : ∀ a b, p a = true → p b = true → f a = f b → a = b) {l : List α} (h : l.all p = true) {a : α} (ha : p a = true) (n : a ∉ l) : f a ∉ l.map f := fun q => by
  obtain ⟨b, hb, e⟩ := List.mem_map.mp q
  exact n ((inj b a (List.all_eq_true.mp h b hb) ha e) ▸ hb)

theorem ent_len {w : World} : ∀ {ks : List D} {kvs vvs : List V} {es : List DictEntry}, Entz w ks kvs vvs es → kvs.length = ks.length ∧ vvs.length = ks.length ∧ es.length = ks.length
  | [], _, _, _, ⟨h1, h2, h3⟩ => by subst h1 h2 h3; exact ⟨rfl, rfl, rfl⟩
  | _ :: _, _, _, _, ⟨_, _, _, _, _, _, _, h1, h2, h3, _, _, _, _, r⟩ => by
    subst h1 h2 h3
    obtain ⟨q1, q2, q3⟩ := ent_len r
    exact ⟨by simp [q1], by simp [q2], by simp [q3]⟩
theorem ent_get {w : World} : ∀ {ks : List D} {kvs vvs : List V} {es : List DictEntry}, Entz w ks kvs vvs es → ∀ {i : Nat} {k : D}, ks[i]? = some k →
    ∃ kv vv e kk, kvs[i]? = some kv ∧ vvs[i]? = some vv ∧ es[i]? = some e ∧ k.key = some kk ∧ e.hash = kk.hash w ∧ RelV kv e.key ∧ RelV vv e.val
  | [], _, _, _, _, _, _, h => by simp at h
  | _ :: _, _, _, _, ⟨kv, kr, vv, vr, e, er, kk, h1, h2, h3, h4, h5, h6, h7, r⟩, 0, k, h => by
    subst h1 h2 h3
    simp at h
    subst h
    exact ⟨kv, vv, e, kk, rfl, rfl, rfl, h4, h5, h6, h7⟩
  | _ :: _, _, _, _, ⟨kv, kr, vv, vr, e, er, kk, h1, h2, h3, h4, h5, h6, h7, r⟩, i + 1, k, h => by
    subst h1 h2 h3
    obtain ⟨a, b, c, d, q⟩ := ent_get r (i := i) (k := k) (by simpa using h)
    exact ⟨a, b, c, d, by simpa using q⟩
theorem ent_snoc {w : World} {k : D} {kv vv : V} {e : DictEntry} {kk : NestedKey} (h4 : k.key = some kk) (h5 : e.hash = kk.hash w) (h6 : RelV kv e.key) (h7 : RelV vv e.val) :
    ∀ {ks : List D} {kvs vvs : List V} {es : List DictEntry}, Entz w ks kvs vvs es → Entz w (ks ++ [k]) (kvs ++ [kv]) (vvs ++ [vv]) (es ++ [e])
  | [], _, _, _, ⟨h1, h2, h3⟩ => by subst h1 h2 h3; exact ⟨kv, [], vv, [], e, [], kk, rfl, rfl, rfl, h4, h5, h6, h7, rfl, rfl, rfl⟩
  | _ :: _, _, _, _, ⟨kv', kr, vv', vr, e', er, kk', g1, g2, g3, g4, g5, g6, g7, r⟩ => by
    subst g1 g2 g3
    exact ⟨kv', _, vv', _, e', _, kk', rfl, rfl, rfl, g4, g5, g6, g7, ent_snoc h4 h5 h6 h7 r⟩
theorem ent_set {w : World} {vv : V} {u : Value} (h7 : RelV vv u) : ∀ {ks : List D} {kvs vvs : List V} {es : List DictEntry} {i : Nat} {e : DictEntry}, Entz w ks kvs vvs es → es[i]? = some e → Entz w ks kvs (vvs.set i vv) (es.set i ⟨e.hash, e.key, u⟩)
  | [], _, _, _, _, _, ⟨h1, h2, h3⟩, h => by subst h3; simp at h
  | _ :: _, _, _, _, 0, e, ⟨kv', kr, vv', vr, e', er, kk', g1, g2, g3, g4, g5, g6, g7, r⟩, h => by
    subst g1 g2 g3
    simp at h
    subst h
    exact ⟨kv', kr, vv, vr, _, er, kk', rfl, rfl, rfl, g4, g5, g6, h7, r⟩
  | _ :: _, _, _, _, i + 1, e, ⟨kv', kr, vv', vr, e', er, kk', g1, g2, g3, g4, g5, g6, g7, r⟩, h => by
    subst g1 g2 g3
    exact ⟨kv', kr, vv', _, e', _, kk', rfl, rfl, rfl, g4, g5, g6, g7, ent_set h7 r (by simpa using h)⟩

section
variable {X : Cx} {pins : List (Addr × Obj)} {σ : L2.St} {H : Hp} {s : Shared} {a : Addr} {ks vs : List D} {es : Array DictEntry} {kvs vvs : List V}
/-- numbers and texts as keys: as the library tells it -/
def flatP (ks : List D) (es : List DictEntry) : List (Key × Value) := List.zipWith (fun k e => (k.mk, e.val)) ks es
theorem flatP_get {es : List DictEntry} {i : Nat} {k : D} {e : DictEntry} (h1 : ks[i]? = some k) (h2 : es[i]? = some e) : (flatP ks es)[i]? = some (k.mk, e.val) := by
  unfold flatP
  rw [List.getElem?_zipWith, h1, h2]
theorem flatP_keys : ∀ {ks : List D} {es : List DictEntry}, es.length = ks.length → (flatP ks es).map (·.1) = ks.map D.mk
  | [], _, _ => rfl
  | _ :: _, [], h => by simp at h
  | k :: ks, e :: es, h => by
    show k.mk :: (flatP ks es).map (·.1) = _
    rw [flatP_keys (by simpa using h)]; rfl
theorem flat_pairs {g : Gx} {P : Program} {w : World} : ∀ {ks : List D} {kvs vvs : List V} {es : List DictEntry}, Entz w ks kvs vvs es → ks.all D.fk = true → Reps g H ks kvs →
    PySem.Pairs (mixKind P w) es (flatP ks es) ∧ ∀ e ∈ es, ∃ k, keyIs k e.key = true ∧ e.hash = keyH w k
  | [], _, _, _, ⟨h1, h2, h3⟩, _, _ => by subst h3; exact ⟨.nil, fun _ h => nomatch h⟩
  | k :: ks, _, _, _, ⟨kv, kr, vv, vr, e, er, kk, h1, h2, h3, h4, h5, h6, h7, r⟩, hf, hr => by
    subst h1 h2 h3
    rw [List.all_cons, Bool.and_eq_true] at hf
    obtain ⟨v, vs, ev, p, pr⟩ := hr
    cases ev
    obtain ⟨q1, q2⟩ := flat_pairs (P := P) r hf.2 pr
    have hk := mk_is hf.1 p h6
    refine ⟨.cons hk rfl q1, fun x hx => ?_⟩
    rcases List.mem_cons.mp hx with rfl | hx
    · refine ⟨k.mk, hk, ?_⟩
      obtain ⟨z1, z2⟩ := mk_hash (w := w) hf.1
      rw [z1] at h4
      cases h4
      rw [h5, z2]
    · exact q2 x hx
theorem flat_of (R : s.heap.DictRaw a es ep) (K : KsOk ks) (hf : ks.all D.fk = true) (E : Entz X.w ks kvs vvs es.toList) (rk : Reps (gx X) H ks kvs) : s.heap.DictOf (mixKind X.prog X.w) a (flatP ks es.toList) := by
  obtain ⟨o, ho, hc, hd⟩ := R
  obtain ⟨q1, q2⟩ := flat_pairs (P := X.prog) E hf rk
  refine ⟨o, es, ep, ho, hc, hd, fun e he => q2 e (by simpa using he), q1, ?_⟩
  rw [flatP_keys (ent_len E).2.2]
  exact map_inj_nodup (fun _ _ => mk_inj) hf K.nd
/-- back: entries from what the library tells -/
theorem ent_of {g : Gx} {P : Program} {w : World} : ∀ {ks : List D} {vvs : List V} {es : List DictEntry} {L : List (Key × Value)}, PySem.Pairs (mixKind P w) es L → (∀ e ∈ es, ∃ k, keyIs k e.key = true ∧ e.hash = keyH w k) → L.map (·.1) = ks.map D.mk → Vals vvs (L.map (·.2)) → ks.all D.fk = true →
    Entz w ks (ks.map D.cv) vvs es ∧ Reps g H (ks : List D) (ks.map D.cv)
  | [], vvs, _, _, p, _, hk, hv, _ => by
    cases p with
    | nil => cases hv; exact ⟨⟨rfl, rfl, rfl⟩, rfl⟩
    | cons _ _ _ => simp at hk
  | k :: ks, vvs, _, _, p, hh, hk, hv, hf => by
    cases p with
    | nil => simp at hk
    | @cons e kv es L h1 h2 p =>
      rw [List.all_cons, Bool.and_eq_true] at hf
      rw [List.map_cons, List.map_cons] at hk
      injection hk with hk1 hk2
      cases hv with
      | @cons v u vr ur r1 r2 =>
        obtain ⟨q1, q2⟩ := ent_of (g := g) p (fun x hx => hh x (List.mem_cons_of_mem _ hx)) hk2 r2 hf.2
        have his : keyIs k.mk e.key = true := by rw [← hk1]; exact h1
        obtain ⟨k', g1, g2⟩ := hh e List.mem_cons_self
        have ek : k' = k.mk := (mixKind P w).inj _ _ _ g1 his
        obtain ⟨z1, z2⟩ := mk_hash (w := w) hf.1
        exact ⟨⟨k.cv, _, v, vr, e, es, k.nk, rfl, rfl, rfl, z1, by rw [g2, ek, z2], cv_rel hf.1 his, by rw [h2]; exact r1, q1⟩, k.cv, _, rfl, cv_rep hf.1, q2⟩
/-- tuples as keys -/
def adr : Value → Addr
  | .ref b => b
  | _ => 0
def tupP (ks : List D) (es : List DictEntry) : List (NestedKey × Addr × Value) := List.zipWith (fun k e => (k.nk, adr e.key, e.val)) ks es
theorem tupP_get {es : List DictEntry} {i : Nat} {k : D} {e : DictEntry} (h1 : ks[i]? = some k) (h2 : es[i]? = some e) : (tupP ks es)[i]? = some (k.nk, adr e.key, e.val) := by
  unfold tupP
  rw [List.getElem?_zipWith, h1, h2]
theorem tupP_keys : ∀ {ks : List D} {es : List DictEntry}, es.length = ks.length → (tupP ks es).map (·.1) = ks.map D.nk
  | [], _, _ => rfl
  | _ :: _, [], h => by simp at h
  | k :: ks, e :: es, h => by
    show k.nk :: (tupP ks es).map (·.1) = _
    rw [tupP_keys (by simpa using h)]; rfl
theorem rep_tk {g : Gx} {d : D} {v : V} (h : d.tk = true) (r : Rep g H d v) : ∃ b, v = .ref b := by
  cases d with
  | tup ds => obtain ⟨b, xs, e, _⟩ := r; exact ⟨b, e⟩
  | _ => cases h
theorem tup_ents (I : Inv X pins σ H s) : ∀ {ks : List D} {kvs vvs : List V} {es : List DictEntry}, Entz X.w ks kvs vvs es → ks.all D.tk = true → Reps (gx X) H ks kvs →
    es = (tupP ks es).map (entryOfKey (nestedKind X.prog X.w)) ∧ ∀ x ∈ tupP ks es, (nestedKind X.prog X.w).is s.heap x.1 x.2.1
  | [], _, _, _, ⟨h1, h2, h3⟩, _, _ => by subst h3; exact ⟨rfl, fun _ h => nomatch h⟩
  | k :: ks, _, _, _, ⟨kv, kr, vv, vr, e, er, kk, h1, h2, h3, h4, h5, h6, h7, r⟩, hf, hr => by
    subst h1 h2 h3
    rw [List.all_cons, Bool.and_eq_true] at hf
    obtain ⟨v, vs, ev, p, pr⟩ := hr
    cases ev
    obtain ⟨q1, q2⟩ := tup_ents I r hf.2 pr
    obtain ⟨b, rfl⟩ := rep_tk hf.1 p
    have hkey : e.key = .ref b := h6
    have hn : k.nk = kk := by unfold D.nk; rw [h4]; rfl
    refine ⟨?_, fun x hx => ?_⟩
    · show e :: er = entryOfKey (nestedKind X.prog X.w) (k.nk, adr e.key, e.val) :: _
      congr 1
      obtain ⟨eh, ek, ev⟩ := e
      show DictEntry.mk eh ek ev = ⟨k.nk.hash X.w, .ref (adr ek), ev⟩
      rw [hn, ← (show eh = kk.hash X.w from h5), show ek = .ref b from hkey]; rfl
    · rcases List.mem_cons.mp (show x ∈ (k.nk, adr e.key, e.val) :: tupP ks er from hx) with rfl | hx
      · show (nestedKind X.prog X.w).is s.heap k.nk (adr e.key)
        rw [hkey]
        exact nkind_of I hf.1 p
      · exact q2 x hx
theorem tup_of (I : Inv X pins σ H s) (R : s.heap.DictRaw a es ep) (K : KsOk ks) (hf : ks.all D.tk = true) (E : Entz X.w ks kvs vvs es.toList) (rk : Reps (gx X) H ks kvs) : s.heap.DictOfH (nestedKind X.prog X.w) a (tupP ks es.toList) := by
  obtain ⟨o, ho, hc, hd⟩ := R
  obtain ⟨q1, q2⟩ := tup_ents I E hf rk
  refine ⟨o, es, ep, ho, hc, hd, q1, q2, ?_⟩
  rw [tupP_keys (ent_len E).2.2]
  exact map_inj_nodup (p := D.tk) (fun a b h k q => nk_inj (tk_kg h) (tk_kg k) q) hf K.nd
end
end DL
/-! DL, part i: dicts read and written. -/
namespace DL
open PySem PySem.Spec L2

/-- a value that stands for d: known, or the def's own -/
def RepL (g : Gx) (H : Hp) (d : D) (v : V) : Prop := Rep g H d v ∨ ∃ a, v = .ref a ∧ CellAt g H a d
theorem RepL.flat {g : Gx} {H : Hp} {d : D} {v : V} (r : RepL g H d v) (h : CellAt g H 0 d → False) (hc : ∀ a b, CellAt g H a d → CellAt g H b d) : Rep g H d v := r.elim id fun ⟨a, _, c⟩ => (h (hc a 0 c)).elim
def DD (g : Gx) (H : Hp) (a : Addr) (ks vs : List D) : Prop := ∃ es kvs vvs, L2.Rd H a (dictO a es) ∧ ((a == sysModules) = false ∧ KsOk ks) ∧ Entz g.w ks kvs vvs es.toList ∧ Reps g H ks kvs ∧ Reps g H vs vvs
theorem repL_dct {g : Gx} {H : Hp} {ks vs : List D} {v : V} (r : RepL g H (.dct ks vs) v) : ∃ a, v = .ref a ∧ DD g H a ks vs := by
  rcases r with ⟨a, es, kvs, vvs, e, z, q, r1, r2, r3⟩ | ⟨a, e, es, kvs, vvs, z, q, r1, r2, r3⟩
  · exact ⟨a, e, es, kvs, vvs, .inr z, q, r1, r2, r3⟩
  · exact ⟨a, e, es, kvs, vvs, .inl z, q, r1, r2, r3⟩
def kok (ks : List D) (k : D) : Bool := (k.fk && ks.all D.fk) || (k.tk && ks.all D.tk)

section
variable {X : Cx} {pins : List (Addr × Obj)} {σ : L2.St} {H : Hp} {s : Shared} {a : Addr} {ks vs : List D} {es : Array DictEntry} {kvs vvs : List V} {k : D} {y : V} {u : Value} {A : Around} {E : Value → Shared → Prop}
theorem dd_raw (I : Inv X pins σ H s) (h : L2.Rd H a (dictO a es)) : ∃ ep, s.heap.DictRaw a es ep := (h.ok I.hok).1
theorem DD.raw (I : Inv X pins σ H s) (h : DD (gx X) H a ks vs) : ∃ es ep, s.heap.DictRaw a es ep ∧ es.size = ks.length ∧ (a == sysModules) = false := by
  obtain ⟨es, kvs, vvs, r, q, e, _⟩ := h
  obtain ⟨ep, R⟩ := dd_raw I r
  exact ⟨es, ep, R, by rw [← Array.length_toList]; exact (ent_len e).2.2, q.1⟩
/-- what a dict holds, as data and as value -/
def Lk (g : Gx) (H : Hp) (d : Option D) (o : Option Value) : Prop := (d = none ∧ o = none) ∨ ∃ z v u, d = some z ∧ o = some u ∧ Rep g H z v ∧ RelV v u
theorem Lk.isSome {g : Gx} {d : Option D} {o : Option Value} (h : Lk g H d o) : o.isSome = d.isSome := by
  rcases h with ⟨h1, h2⟩ | ⟨z, v, u, h1, h2, _⟩ <;> rw [h1, h2] <;> rfl
theorem lk_some {g : Gx} {w : World} (E : Entz w ks kvs vvs es.toList) (r : Reps g H vs vvs) {i : Nat} (h : dix ks k = some i) : ∃ kv z v e, ks[i]? = some k ∧ es.toList[i]? = some e ∧ kvs[i]? = some kv ∧ vvs[i]? = some v ∧ vs[i]? = some z ∧ dget ks vs k = some z ∧ Rep g H z v ∧ RelV v e.val ∧ RelV kv e.key := by
  obtain ⟨kv, vv, e, kk, h1, h2, h3, _, _, h6, h7⟩ := ent_get E (dix_some h)
  obtain ⟨z, h4, h5⟩ := r.getV h2
  exact ⟨kv, z, vv, e, dix_some h, h3, h1, h2, h4, by unfold dget; rw [h]; exact h4, h5, h7, h6⟩
theorem look_flat {g : Gx} {w : World} (E : Entz w ks kvs vvs es.toList) (K : KsOk ks) (hk : k.fk = true) (hf : ks.all D.fk = true) (r : Reps g H vs vvs) : Lk g H (dget ks vs k) (valueAt (flatP ks es.toList) k.mk) := by
  have hkeys := flatP_keys (ks := ks) (es := es.toList) (ent_len E).2.2
  cases h : dix ks k with
  | none =>
    refine .inl ⟨by unfold dget; rw [h]; rfl, valueAt_none ?_⟩
    rw [hkeys]
    exact map_inj_mem (fun _ _ => mk_inj) hf hk (dix_none h)
  | some i =>
    obtain ⟨kv, z, v, e, h1, h2, _, _, _, h3, h4, h5, _⟩ := lk_some E r h
    refine .inr ⟨z, v, e.val, h3, valueAt_get ?_ (flatP_get h1 h2), h4, h5⟩
    rw [hkeys]
    exact map_inj_nodup (fun _ _ => mk_inj) hf K.nd
theorem look_tup {g : Gx} {w : World} (E : Entz w ks kvs vvs es.toList) (K : KsOk ks) (hk : k.tk = true) (hf : ks.all D.tk = true) (r : Reps g H vs vvs) : Lk g H (dget ks vs k) ((atKey (tupP ks es.toList) k.nk).map (·.2)) := by
  have hkeys := tupP_keys (ks := ks) (es := es.toList) (ent_len E).2.2
  have inj : ∀ a b : D, a.tk = true → b.tk = true → a.nk = b.nk → a = b := fun a b h k q => nk_inj (tk_kg h) (tk_kg k) q
  cases h : dix ks k with
  | none =>
    refine .inl ⟨by unfold dget; rw [h]; rfl, ?_⟩
    rw [atKey_none]
    · rfl
    · rw [hkeys]
      exact map_inj_mem inj hf hk (dix_none h)
  | some i =>
    obtain ⟨kv, z, v, e, h1, h2, _, _, _, h3, h4, h5, _⟩ := lk_some E r h
    refine .inr ⟨z, v, e.val, h3, ?_, h4, h5⟩
    rw [atKey_of_get (by rw [hkeys]; exact map_inj_nodup inj hf K.nd) (tupP_get h1 h2)]; rfl
theorem in1_room (hu : A.units + 64 < cLine) : (nestedKind X.prog X.w).room A.in1 := by
  show A.units + 1 + 8 < cLine
  omega
theorem kok_cases (h : kok ks k = true) : (k.fk = true ∧ ks.all D.fk = true) ∨ (k.tk = true ∧ ks.all D.tk = true) := by
  unfold kok at h
  rw [Bool.or_eq_true, Bool.and_eq_true, Bool.and_eq_true] at h
  exact h
/-- k in d -/
theorem dd_in {Q : Value → Shared → Prop} (hu : A.units + 64 < cLine) (I : Inv X pins σ H s) (h : DD (gx X) H a ks vs) (hk : kok ks k = true) (r : Rep (gx X) H k y) (ru : RelV y u) (q : ∀ s', Inv X pins σ H s' → Q (.bool (dget ks vs k).isSome) s') :
    wpAny (model X.prog X.w) A (compareOp .In u (.ref a)) Q E s := by
  obtain ⟨es, kvs, vvs, hr, ⟨low, K⟩, E, rk, rv⟩ := h
  obtain ⟨ep, R⟩ := dd_raw I hr
  rcases kok_cases hk with ⟨h1, h2⟩ | ⟨h1, h2⟩
  · refine wpAny_in_of (mk_is h1 r ru) low (flat_of R K h2 E rk).mapOf ?_
    rw [(look_flat E K h1 h2 rv).isSome]
    exact q _ (I.tok _)
  · obtain ⟨b, rfl⟩ := rep_tk h1 r
    cases ru
    refine wpAny_in_heap (in1_room hu) (nkind_of I h1 r) low (tup_of I R K h2 E rk) ?_
    have e := (look_tup E K h1 h2 rv).isSome
    rw [Option.isSome_map] at e
    rw [e]
    exact q _ (I.tok _)
theorem dd_notIn {Q : Value → Shared → Prop} (hu : A.units + 64 < cLine) (I : Inv X pins σ H s) (h : DD (gx X) H a ks vs) (hk : kok ks k = true) (r : Rep (gx X) H k y) (ru : RelV y u) (q : ∀ s', Inv X pins σ H s' → Q (.bool (!(dget ks vs k).isSome)) s') :
    wpAny (model X.prog X.w) A (compareOp .NotIn u (.ref a)) Q E s := by
  obtain ⟨es, kvs, vvs, hr, ⟨low, K⟩, E, rk, rv⟩ := h
  obtain ⟨ep, R⟩ := dd_raw I hr
  rcases kok_cases hk with ⟨h1, h2⟩ | ⟨h1, h2⟩
  · refine wpAny_notIn_of (mk_is h1 r ru) low (flat_of R K h2 E rk).mapOf ?_
    rw [(look_flat E K h1 h2 rv).isSome]
    exact q _ (I.tok _)
  · obtain ⟨b, rfl⟩ := rep_tk h1 r
    cases ru
    refine PyProof.Rows.wpAny_notIn_heap (in1_room hu) (nkind_of I h1 r) low (tup_of I R K h2 E rk) ?_
    have e := (look_tup E K h1 h2 rv).isSome
    rw [Option.isSome_map] at e
    rw [e]
    exact q _ (I.tok _)
/-- d[k] -/
theorem dd_getItem {z : D} {Q : Value → Shared → Prop} (hu : A.units + 64 < cLine) (I : Inv X pins σ H s) (h : DD (gx X) H a ks vs) (hk : kok ks k = true) (hz : dget ks vs k = some z) (r : Rep (gx X) H k y) (ru : RelV y u) (q : ∀ v w s', Inv X pins σ H s' → Rep (gx X) H z v → RelV v w → Q w s') :
    wpAny (model X.prog X.w) A (getItem (.ref a) u) Q E s := by
  obtain ⟨es, kvs, vvs, hr, ⟨low, K⟩, E, rk, rv⟩ := h
  obtain ⟨ep, R⟩ := dd_raw I hr
  rcases kok_cases hk with ⟨h1, h2⟩ | ⟨h1, h2⟩
  · rcases look_flat E K h1 h2 rv with ⟨e, _⟩ | ⟨z', v, w, e, e2, p, p2⟩
    · rw [hz] at e; cases e
    · rw [hz] at e
      cases e
      exact wpAny_getItem_of (mk_is h1 r ru) (flat_of R K h2 E rk).mapOf e2 (q v w _ (I.tok _) p p2)
  · obtain ⟨b, rfl⟩ := rep_tk h1 r
    cases ru
    rcases look_tup E K h1 h2 rv with ⟨e, _⟩ | ⟨z', v, w, e, e2, p, p2⟩
    · rw [hz] at e; cases e
    · rw [hz] at e
      cases e
      obtain ⟨pp, g1, g2⟩ := Option.map_eq_some_iff.mp e2
      refine wpAny_getItem_heap (in1_room hu) (nkind_of I h1 r) (tup_of I R K h2 E rk) g1 ?_
      rw [g2]
      exact q v w _ (I.tok _) p p2
theorem dd_get1 {Q : Value → Shared → Prop} (hu : A.units + 64 < cLine) (I : Inv X pins σ H s) (h : DD (gx X) H a ks vs) (hk : kok ks k = true) (r : Rep (gx X) H k y) (ru : RelV y u)
    (q : ∀ v w s', Inv X pins σ H s' → Rep (gx X) H ((dget ks vs k).getD .non) v → RelV v w → Q w s') :
    wpAny (model X.prog X.w) A (call (.builtin "dict.get") [.ref a, u]) Q E s := by
  obtain ⟨es, kvs, vvs, hr, ⟨low, K⟩, E, rk, rv⟩ := h
  obtain ⟨ep, R⟩ := dd_raw I hr
  have fin : ∀ o s', Inv X pins σ H s' → Lk (gx X) H (dget ks vs k) o → Q (o.getD .none) s' := fun o s' J l => by
    rcases l with ⟨e, e2⟩ | ⟨z', v, w, e, e2, p, p2⟩
    · rw [e2]
      exact q .non _ s' J (by rw [e]; exact rfl) rfl
    · rw [e2]
      exact q v _ s' J (by rw [e]; exact p) p2
  rcases kok_cases hk with ⟨h1, h2⟩ | ⟨h1, h2⟩
  · have dd := flat_of R K h2 E rk
    exact call_meetsIn PySem.F.slot_dict_get dd.typeIs PySem.F.entry_dict_get (PySem.F.args_dict_get_2 _ _) (meets_dict_get (mixKind X.prog X.w) a (mk_is h1 r ru) low) ⟨_, dd.mapOf, fin _ _ (I.tok _) (look_flat E K h1 h2 rv)⟩
  · obtain ⟨b, rfl⟩ := rep_tk h1 r
    cases ru
    have dd := tup_of I R K h2 E rk
    exact call_meetsIn PySem.F.slot_dict_get dd.typeIs PySem.F.entry_dict_get (PySem.F.args_dict_get_2 _ _) (meetsH_dict_get (nestedKind X.prog X.w) a b low) ⟨in1_room hu, _, _, nkind_of I h1 r, dd, fin _ _ (I.tok _) (look_tup E K h1 h2 rv)⟩
theorem dd_get2 {x : D} {xv : V} {xu : Value} {Q : Value → Shared → Prop} (hu : A.units + 64 < cLine) (I : Inv X pins σ H s) (h : DD (gx X) H a ks vs) (hk : kok ks k = true) (r : Rep (gx X) H k y) (ru : RelV y u) (rx : Rep (gx X) H x xv) (rxu : RelV xv xu)
    (q : ∀ v w s', Inv X pins σ H s' → Rep (gx X) H ((dget ks vs k).getD x) v → RelV v w → Q w s') :
    wpAny (model X.prog X.w) A (call (.builtin "dict.get") [.ref a, u, xu]) Q E s := by
  obtain ⟨es, kvs, vvs, hr, ⟨low, K⟩, E, rk, rv⟩ := h
  obtain ⟨ep, R⟩ := dd_raw I hr
  have fin : ∀ o s', Inv X pins σ H s' → Lk (gx X) H (dget ks vs k) o → Q (o.getD xu) s' := fun o s' J l => by
    rcases l with ⟨e, e2⟩ | ⟨z', v, w, e, e2, p, p2⟩
    · rw [e2]
      exact q xv _ s' J (by rw [e]; exact rx) rxu
    · rw [e2]
      exact q v _ s' J (by rw [e]; exact p) p2
  rcases kok_cases hk with ⟨h1, h2⟩ | ⟨h1, h2⟩
  · have dd := flat_of R K h2 E rk
    exact call_meetsIn PySem.F.slot_dict_get dd.typeIs PySem.F.entry_dict_get (PySem.F.args_dict_get_3 _ _ _) (meets_dict_get_default (mixKind X.prog X.w) a (mk_is h1 r ru) low xu) ⟨_, dd.mapOf, fin _ _ (I.tok _) (look_flat E K h1 h2 rv)⟩
  · obtain ⟨b, rfl⟩ := rep_tk h1 r
    cases ru
    have dd := tup_of I R K h2 E rk
    exact call_meetsIn PySem.F.slot_dict_get dd.typeIs PySem.F.entry_dict_get (PySem.F.args_dict_get_3 _ _ _) (meetsH_dict_get_default (nestedKind X.prog X.w) a b low xu) ⟨in1_room hu, _, _, nkind_of I h1 r, dd, fin _ _ (I.tok _) (look_tup E K h1 h2 rv)⟩

/-! ### d[k] = v -/
theorem dput_ok (K : KsOk ks) (hk : kok ks k = true) {v : D} : KsOk (dput ks vs k v).1 := by
  unfold dput
  cases h : dix ks k with
  | some i => exact K
  | none =>
    refine ⟨List.nodup_append.mpr ⟨K.nd, by simp, fun a ha b hb => ?_⟩, ?_⟩
    · rw [List.mem_singleton] at hb
      subst hb
      exact fun e => dix_none h (e ▸ ha)
    · rcases kok_cases hk with ⟨h1, h2⟩ | ⟨h1, h2⟩
      · left; rw [List.all_append, h2]; simp [h1]
      · right; rw [List.all_append, h2]; simp [h1]
theorem dput_all {p : D → Bool} (h1 : p k = true) (h2 : ks.all p = true) {v : D} : (dput ks vs k v).1.all p = true := by
  unfold dput
  cases h : dix ks k with
  | some i => exact h2
  | none => show (ks ++ [k]).all p = true; rw [List.all_append, h2]; simp [h1]
theorem dput_len {v : D} : (dput ks vs k v).1.length ≤ ks.length + 1 := by
  unfold dput
  cases h : dix ks k with
  | some i => exact Nat.le_succ _
  | none => show (ks ++ [k]).length ≤ _; simp
theorem vals_set {x : V} {w : Value} (r : RelV x w) : ∀ {xs : List V} {us : List Value} (i : Nat), Vals xs us → Vals (xs.set i x) (us.set i w)
  | _, _, _, .nil => .nil
  | _, _, 0, .cons _ ps => .cons r ps
  | _, _, i + 1, .cons p ps => .cons p (vals_set r i ps)
/-- the entries behind -/
def PutE (g : Gx) (H : Hp) (ks vs : List D) (k v : D) (es' : Array DictEntry) : Prop := ∃ kvs' vvs', Entz g.w (dput ks vs k v).1 kvs' vvs' es'.toList ∧ Reps g H (dput ks vs k v).1 kvs' ∧ Reps g H (dput ks vs k v).2 vvs'
theorem dd_setItem {v : D} {x : V} {w : Value} {Q : Unit → Shared → Prop} (hu : A.units + 64 < cLine) (I : Inv X pins σ H s) (ha : H a = some (dictO a es)) (K : KsOk ks) (E0 : Entz X.w ks kvs vvs es.toList) (rk : Reps (gx X) H ks kvs) (rv : Reps (gx X) H vs vvs)
    (hk : kok ks k = true) (hz : ks.length ≤ sizeLine) (r : Rep (gx X) H k y) (ru : RelV y u) (rx : Rep (gx X) H v x) (rw' : RelV x w)
    (q : ∀ es' s', PutE (gx X) H ks vs k v es' → Inv X pins σ (upd H a (dictO a es')) s' → Q () s') :
    wpAny (model X.prog X.w) A (setItem (.ref a) u w) Q E s := by
  obtain ⟨ep, R⟩ := dd_raw I (.inl ha)
  have fin : ∀ (h' : Heap) (tk : Nat) es' ep', h'.DictRaw a es' ep' → Heap.SameBut a s.heap h' → PutE (gx X) H ks vs k v es' → Q () { s with heap := h', toks := tk } := fun h' tk es' ep' R' sb p => by
    refine q es' _ p (d_write I (by rw [ha]; exact True.intro) sb (let ⟨o, ho, _⟩ := R'; ⟨o, ho⟩) ⟨⟨ep', R'⟩, let ⟨o, ho, _⟩ := R'; ⟨o, ho⟩, fun h1 h2 ⟨e1, z⟩ k => ⟨e1, z.at k⟩⟩)
  obtain ⟨l1, l2, l3⟩ := ent_len E0
  rcases kok_cases hk with ⟨h1, h2⟩ | ⟨h1, h2⟩
  · have hlen : (flatP ks es.toList).length = ks.length := by unfold flatP; rw [List.length_zipWith, l3, Nat.min_self]
    refine wpAny_setItem_pairs (hsz := by rw [hlen]; exact hz) (mk_is h1 r ru) (flat_of R K h2 E0 rk) fun h' dd' sb => ?_
    obtain ⟨o, es', ep', ho, hc, hd, kk, pp, nd⟩ := dd'
    refine fin h' _ es' ep' ⟨o, ho, hc, hd⟩ sb ?_
    have hkeys := flatP_keys (ks := ks) (es := es.toList) l3
    have hnd : ((flatP ks es.toList).map (·.1)).Nodup := by rw [hkeys]; exact map_inj_nodup (fun _ _ => mk_inj) h2 K.nd
    have hkk : ∀ e ∈ es'.toList, ∃ k, keyIs k e.key = true ∧ e.hash = keyH X.w k := fun e he => kk e (by simpa using he)
    have vals : ∀ {ks : List D} {kvs vvs : List V} {es : List DictEntry}, Entz X.w ks kvs vvs es → Vals vvs ((flatP ks es).map (·.2)) := by
      intro ks
      induction ks with
      | nil => exact fun ⟨_, z, _⟩ => by subst z; exact .nil
      | cons k ks ih =>
        intro _ _ _ hh
        obtain ⟨_, _, _, _, _, _, _, g1, g2, g3, _, _, _, g7, gr⟩ := hh
        subst g1 g2 g3
        exact .cons g7 (ih gr)
    cases h : dix ks k with
    | some i =>
      obtain ⟨kv, z, vo, e, g1, g2, _, g3, g4, _⟩ := lk_some E0 rv h
      rw [stored_get hnd (flatP_get g1 g2)] at pp
      have hm : ((flatP ks es.toList).set i (k.mk, w)).map (·.1) = ks.map D.mk := by
        rw [List.map_set, ← hkeys]
        exact List.ext_getElem? fun j => by
          rw [List.getElem?_set]
          split
          · rename_i e
            subst e
            rw [List.getElem?_map, flatP_get g1 g2]
            simp [(List.getElem?_eq_some_iff.mp (flatP_get g1 g2)).1]
          · rfl
      have hv : Vals (vvs.set i x) (((flatP ks es.toList).set i (k.mk, w)).map (·.2)) := by
        rw [List.map_set]
        exact vals_set rw' i (vals E0)
      obtain ⟨q1, q2⟩ := ent_of (g := gx X) (H := H) pp hkk hm hv h2
      refine ⟨ks.map D.cv, vvs.set i x, ?_, ?_, ?_⟩
      · unfold dput; rw [h]; exact q1
      · unfold dput; rw [h]; exact q2
      · unfold dput; rw [h]; exact rv.set rx i
    | none =>
      have hn : k.mk ∉ (flatP ks es.toList).map (·.1) := by rw [hkeys]; exact map_inj_mem (fun _ _ => mk_inj) h2 h1 (dix_none h)
      rw [stored_none hn] at pp
      have hall : (ks ++ [k]).all D.fk = true := by rw [List.all_append, h2]; simp [h1]
      obtain ⟨q1, q2⟩ := ent_of (g := gx X) (H := H) (ks := ks ++ [k]) (vvs := vvs ++ [x]) pp hkk (by rw [List.map_append, List.map_append, hkeys]; rfl) (by rw [List.map_append]; exact (vals E0).append (.cons rw' .nil)) hall
      refine ⟨(ks ++ [k]).map D.cv, vvs ++ [x], ?_, ?_, ?_⟩
      · unfold dput; rw [h]; exact q1
      · unfold dput; rw [h]; exact q2
      · unfold dput; rw [h]; exact rv.append (.one rx)
  · obtain ⟨b, rfl⟩ := rep_tk h1 r
    cases ru
    have hlen : (tupP ks es.toList).length = ks.length := by unfold tupP; rw [List.length_zipWith, l3, Nat.min_self]
    refine wpAny_setItem_heap (hsz := by rw [hlen]; exact hz) (in1_room hu) (nkind_of I h1 r) (tup_of I R K h2 E0 rk) fun h' dd' sb => ?_
    obtain ⟨o, es', ep', ho, hc, hd, he, _, nd⟩ := dd'
    refine fin h' _ es' ep' ⟨o, ho, hc, hd⟩ sb ?_
    have hkeys := tupP_keys (ks := ks) (es := es.toList) l3
    have inj : ∀ a b : D, a.tk = true → b.tk = true → a.nk = b.nk → a = b := fun a b h k q => nk_inj (tk_kg h) (tk_kg k) q
    have hes := (tup_ents I E0 h2 rk).1
    cases h : dix ks k with
    | some i =>
      obtain ⟨kv, z, vo, e, g1, g2, _, g3, g4, _⟩ := lk_some E0 rv h
      rw [storedH_get (by rw [hkeys]; exact map_inj_nodup inj h2 K.nd) (tupP_get g1 g2), List.map_set, ← hes] at he
      have h3 : es.toList[i]? = some (entryOfKey (nestedKind X.prog X.w) (k.nk, adr e.key, e.val)) := by
        conv => lhs; rw [hes]
        rw [List.getElem?_map, tupP_get g1 g2]; rfl
      rw [g2] at h3
      have h4 : entryOfKey (nestedKind X.prog X.w) (k.nk, adr e.key, w) = ⟨e.hash, e.key, w⟩ := by
        injection h3 with h3
        have a1 := congrArg DictEntry.hash h3
        have a2 := congrArg DictEntry.key h3
        rw [a1, a2]; rfl
      rw [h4] at he
      refine ⟨kvs, vvs.set i x, ?_, ?_, ?_⟩
      · unfold dput; rw [h, he]; exact ent_set rw' E0 g2
      · unfold dput; rw [h]; exact rk
      · unfold dput; rw [h]; exact rv.set rx i
    | none =>
      have hn : k.nk ∉ (tupP ks es.toList).map (·.1) := by rw [hkeys]; exact map_inj_mem inj h2 h1 (dix_none h)
      rw [storedH_new (atKey_none hn), List.map_append, ← hes] at he
      refine ⟨kvs ++ [.ref b], vvs ++ [x], ?_, ?_, ?_⟩
      · unfold dput; rw [h, he]; exact ent_snoc (kv := .ref b) (e := entryOfKey (nestedKind X.prog X.w) (k.nk, b, w)) (nk_of (tk_kg h1)).1 rfl (show RelV (.ref b) (.ref b) from rfl) rw' E0
      · unfold dput; rw [h]; exact rk.append (.one r)
      · unfold dput; rw [h]; exact rv.append (.one rx)
end
end DL
/-! DL, part j: names read as they come; things looked at without freezing them; subscripts, slices, in, len, is, isinstance. -/
namespace DL
open PySem PySem.Spec L2

/-! ### names -/
def datOf : Option S → Option D
  | some (.fz d) => some d
  | some (.ow d) => some d
  | _ => none
/-- a name, read to be known -/
def wN (i : Nat) : WE := fun e K => match e.sl[i]? with
  | some (.fz d) => K d e
  | some (.ow d) => K d (e.put i (.fz d))
  | _ => False
/-- a name, looked at -/
def wL (i : Nat) : WE := fun e K => ∃ d, datOf e.sl[i]? = some d ∧ K d e
def upL (g : Gx) (w : WE) : TE := fun σ H Q => ∃ e K, ER g σ H e ∧ w e K ∧ ∀ d e' v H', K d e' → Adv σ e H σ e' H' → ER g σ H' e' → RepL g H' d v → Q v H'
abbrev DQ (X : Cx) (e : Expr) (w : WE) : Prop := PE X e (upL (gx X) w)
theorem datOf_some {o : Option S} {d : D} (h : datOf o = some d) : o = some (.fz d) ∨ o = some (.ow d) := by
  cases o with
  | none => cases h
  | some x =>
    cases x with
    | un => cases h
    | fz d' => cases h; exact .inl rfl
    | ow d' => cases h; exact .inr rfl
theorem ER.dat {g : Gx} {σ : L2.St} {H : Hp} {e : En} {i : Nat} {d : D} (r : ER g σ H e) (h : datOf e.sl[i]? = some d) : ∃ v, σ[i]? = some (some v) ∧ RepL g H d v := by
  rcases datOf_some h with h | h
  · obtain ⟨v, h1, h2⟩ := r.fz i d h
    exact ⟨v, h1, .inl h2⟩
  · obtain ⟨a, h1, h2⟩ := r.ow i d h
    exact ⟨.ref a, h1, .inr ⟨a, rfl, h2⟩⟩
section
variable {X : Cx} {e a b c : Expr} {es : List Expr} {pos p : Pos} {w wa wb wc : WE} {ws : WA}
theorem de_n (i : Nat) {x : Str} (hN : X.N[i]? = some x := by rfl) (hv : Vis X.env.scope x := by first | exact Or.inl rfl | exact Or.inr (Or.inl rfl) | exact Or.inr (Or.inr rfl)) (hd : (x == ("__debug__" : Str)) = false := by decide)
    (hcd : (x == ("__classdict__" : Str)) = false := by decide) : DE X (.Name x pos) (wN i) := ⟨fun pins s σ H Q I ⟨e0, K, r, k, q⟩ => by
  unfold wN at k
  split at k
  · rename_i d h
    exact (de_v i hN hv hd hcd).run pins s σ H Q I ⟨e0, K, r, ⟨d, h, k⟩, q⟩
  · rename_i d h
    exact (de_f i hN hv hd hcd).run pins s σ H Q I ⟨e0, K, r, ⟨d, h, k⟩, q⟩
  · exact k.elim⟩
theorem up_l {g : Gx} {i : Nat} : ∀ σ H Q, upL g (wL i) σ H Q → tVar i σ H Q := fun σ H Q ⟨e, K, r, ⟨d, hd, k⟩, q⟩ =>
  let ⟨v, h1, h2⟩ := r.dat hd
  ⟨v, h1, q d e v H k (.refl ..) r h2⟩
theorem dq_n (i : Nat) {x : Str} (hN : X.N[i]? = some x := by rfl) (hv : Vis X.env.scope x := by first | exact Or.inl rfl | exact Or.inr (Or.inl rfl) | exact Or.inr (Or.inr rfl)) (hd : (x == ("__debug__" : Str)) = false := by decide)
    (hcd : (x == ("__classdict__" : Str)) = false := by decide) : DQ X (.Name x pos) (wL i) := pe_imp (pe_var hN hv hd hcd) up_l
theorem dq (h : DE X e w) : DQ X e w := pe_imp h fun σ H Q ⟨e, K, r, k, q⟩ => ⟨e, K, r, k, fun d e' v H' k' a1 i1 p1 => q d e' v H' k' a1 i1 (.inl p1)⟩

/-! ### operations that look only -/
def Op2L (g : Gx) (r : R2) (f : D → D → Option D) : Prop := ∀ (H : Hp) (x y : V) (dx dy z : D) (Q : VK), RepL g H dx x → RepL g H dy y → f dx dy = some z → (∀ v H', Grow H H' → Got g H H' z v → Q v H') → r x y H Q
def Op1L (g : Gx) (r : V → Hp → VK → Prop) (f : D → Option D) : Prop := ∀ (H : Hp) (x : V) (dx z : D) (Q : VK), RepL g H dx x → f dx = some z → (∀ v H', Grow H H' → Got g H H' z v → Q v H') → r x H Q
/-- name `op` e: the name is looked at, behind e -/
def w2O (i : Nat) (f : D → D → Option D) (wb : WE) : WE := fun e K => (datOf e.sl[i]?).isSome = true ∧ wb e fun y e1 => ∃ d, datOf e1.sl[i]? = some d ∧ ∃ z, f d y = some z ∧ K z e1
theorem up_2s {g : Gx} {r : R2} {f : D → D → Option D} {wa wb : WE} (o : Op2L g r f) : ∀ σ H Q, upM g (w2 f wa wb) σ H Q → tOp r (up g wa) (upL g wb) σ H Q := fun σ H Q ⟨e, K, i, k, q⟩ =>
  ⟨e, _, i, k, fun dx e1 x H1 k1 a1 i1 r1 => ⟨e1, _, i1, k1, fun dy e2 y H2 ⟨z, hz, k2⟩ a2 i2 r2 => o H2 x y dx dy z Q (.inl (r1.mono a2.stab dx x)) r2 hz fun v H' gr rv =>
    q z e2 v H' k2 ((a1.trans a2).trans (.grow gr)) (i2.grow gr) (got_up (a1.trans a2).there i2 rv)⟩⟩
theorem up_2o {g : Gx} {r : R2} {f : D → D → Option D} {i : Nat} {wb : WE} (o : Op2L g r f) : ∀ σ H Q, upM g (w2O i f wb) σ H Q → tOp r (tVar i) (up g wb) σ H Q := fun σ H Q ⟨e, K, r0, ⟨hi, k⟩, q⟩ => by
  obtain ⟨d0, h0⟩ := Option.isSome_iff_exists.mp hi
  obtain ⟨x, hx, _⟩ := r0.dat h0
  refine ⟨x, hx, e, _, r0, k, fun dy e2 y H2 ⟨d, hd, z, hz, k2⟩ a2 i2 r2 => ?_⟩
  obtain ⟨x', hx', rx⟩ := i2.dat hd
  rw [hx] at hx'
  cases hx'
  exact o H2 x y d dy z Q rx (.inl r2) hz fun v H' gr rv => q z e2 v H' k2 (a2.trans (.grow gr)) (i2.grow gr) (got_up a2.there i2 rv)
theorem up_1s {g : Gx} {r : V → Hp → VK → Prop} {f : D → Option D} {wa : WE} (o : Op1L g r f) : ∀ σ H Q, upM g (w1 f wa) σ H Q → tUn r (upL g wa) σ H Q := fun σ H Q ⟨e, K, i, k, q⟩ =>
  ⟨e, _, i, k, fun dx e1 x H1 ⟨z, hz, k1⟩ a1 i1 r1 => o H1 x dx z Q r1 hz fun v H' gr rv => q z e1 v H' k1 (a1.trans (.grow gr)) (i1.grow gr) (got_up a1.there i1 rv)⟩
/-- a built-in of one argument that it looks at -/
def OpAL (g : Gx) (r : List V → Hp → VK → Prop) (f : D → Option D) : Prop := ∀ (H : Hp) (x : V) (dx z : D) (Q : VK), RepL g H dx x → f dx = some z → (∀ v H', Grow H H' → Got g H H' z v → Q v H') → r [x] H Q
def tArg1 (t : TE) : TA := fun σ H Q => t σ H fun v H1 => Q [v] H1
theorem pa_one {t : TE} (h : PE X e t) (hs : starEach [e] X.env = (false, eval e X.env) :: starEach [] X.env := by rfl) : PA X [e] (tArg1 t) := pa_cons (t := tNil) h pa_nil hs
theorem up_B1 {g : Gx} {r : List V → Hp → VK → Prop} {f : D → Option D} (o : OpAL g r f) : ∀ σ H Q, upM g (w1 f w) σ H Q → tCB r (tArg1 (upL g w)) σ H Q := fun σ H Q ⟨e, K, i, k, q⟩ =>
  ⟨e, _, i, k, fun dx e1 x H1 ⟨z, hz, k1⟩ a1 i1 r1 => o H1 x dx z Q r1 hz fun v H' gr rv => q z e1 v H' k1 (a1.trans (.grow gr)) (i1.grow gr) (got_up a1.there i1 rv)⟩
variable {x : Str} {id T : String} {r : List V → Hp → VK → Prop} {f : D → Option D}
theorem de_B1 (hc : CallR X (.builtin id) r) (o : OpAL (gx X) r f) (hm : X.mg x = none) (ha : DQ X e w) (hg : Gl X x := by rfl) (hv : bootBuiltins x = some (.builtin id) := by decide +kernel) (hn : x ≠ "__name__" := by decide) (hdb : (x == ("__debug__" : Str)) = false := by decide)
    (he : starEach [e] X.env = (false, eval e X.env) :: starEach [] X.env := by rfl) (hpl : (backTo pos (starEach [] X.env)).any (·.1) = false := by rfl) : DE X (.Call (.Name x p) [e] [] pos) (w1 f w) := de_M (pe_imp (pe_callB hc hg hm hv (pa_one ha he) hn hdb he hpl) (up_B1 o))
theorem de_T1 (hc : CallR X (.type T) r) (o : OpAL (gx X) r f) (hm : X.mg x = none) (ha : DQ X e w) (hg : Gl X x := by rfl) (hv : bootBuiltins x = some (.type T) := by decide +kernel) (hn : x ≠ "__name__" := by decide) (hdb : (x == ("__debug__" : Str)) = false := by decide)
    (he : starEach [e] X.env = (false, eval e X.env) :: starEach [] X.env := by rfl) (hpl : (backTo pos (starEach [] X.env)).any (·.1) = false := by rfl) : DE X (.Call (.Name x p) [e] [] pos) (w1 f w) := de_M (pe_imp (pe_callTy hc hg hm hv (pa_one ha he) hn hdb he hpl) (up_B1 o))
/-- a built-in that makes a thing of the def's own -/
def OpAN (g : Gx) (r : List V → Hp → VK → Prop) (f : D → Option D) : Prop := ∀ (H : Hp) (x : V) (dx z : D) (Q : VK), RepL g H dx x → f dx = some z → (∀ a H', H a = none → Grow H H' → CellAt g H' a z → Q (.ref a) H') → r [x] H Q
theorem upN_B1 {g : Gx} {r : List V → Hp → VK → Prop} {f : D → Option D} (o : OpAN g r f) : ∀ σ H Q, upN g (w1 f w) σ H Q → tCB r (tArg1 (upL g w)) σ H Q := fun σ H Q ⟨e, K, i, k, q⟩ =>
  ⟨e, _, i, k, fun dx e1 x H1 ⟨z, hz, k1⟩ a1 i1 r1 => o H1 x dx z Q r1 hz fun p H' hp gr c => q z e1 p H' k1 (a1.trans (.grow gr)) (i1.grow gr) c (a1.there p hp) fun ow => by
    obtain ⟨_, h, _⟩ := i1.own ow
    rw [hp] at h
    cases h⟩
theorem dn_T1 (hc : CallR X (.type T) r) (o : OpAN (gx X) r f) (hm : X.mg x = none) (ha : DQ X e w) (hg : Gl X x := by rfl) (hv : bootBuiltins x = some (.type T) := by decide +kernel) (hn : x ≠ "__name__" := by decide) (hdb : (x == ("__debug__" : Str)) = false := by decide)
    (he : starEach [e] X.env = (false, eval e X.env) :: starEach [] X.env := by rfl) (hpl : (backTo pos (starEach [] X.env)).any (·.1) = false := by rfl) : DN X (.Call (.Name x p) [e] [] pos) (w1 f w) := pe_imp (pe_callTy hc hg hm hv (pa_one ha he) hn hdb he hpl) (upN_B1 o)
theorem dn_B1 (hc : CallR X (.builtin id) r) (o : OpAN (gx X) r f) (hm : X.mg x = none) (ha : DQ X e w) (hg : Gl X x := by rfl) (hv : bootBuiltins x = some (.builtin id) := by decide +kernel) (hn : x ≠ "__name__" := by decide) (hdb : (x == ("__debug__" : Str)) = false := by decide)
    (he : starEach [e] X.env = (false, eval e X.env) :: starEach [] X.env := by rfl) (hpl : (backTo pos (starEach [] X.env)).any (·.1) = false := by rfl) : DN X (.Call (.Name x p) [e] [] pos) (w1 f w) := pe_imp (pe_callB hc hg hm hv (pa_one ha he) hn hdb he hpl) (upN_B1 o)

/-! ### a[b] -/
theorem repL_lst {g : Gx} {H : Hp} {ds : List D} {v : V} (r : RepL g H (.lst ds) v) : ∃ a xs, v = .ref a ∧ LRd H a xs ∧ Reps g H ds xs := by
  rcases r with ⟨a, xs, e, h, r⟩ | ⟨a, e, xs, h, r⟩
  · exact ⟨a, xs, e, .inr h, r⟩
  · exact ⟨a, xs, e, .inl h, r⟩
theorem repL_tup {g : Gx} {H : Hp} {ds : List D} {v : V} (r : RepL g H (.tup ds) v) : ∃ a xs, v = .ref a ∧ SqT g.K H a xs ∧ Reps g H ds xs := by
  rcases r with r | ⟨_, _, c⟩
  · exact r
  · exact c.elim
theorem repL_flat {g : Gx} {H : Hp} {d : D} {v : V} (h : flat d = true) (r : RepL g H d v) : v = flatV d := by
  rcases r with r | ⟨_, _, c⟩
  · exact rep_flat h r
  · cases d <;> first | exact c.elim | cases h
def D.ix : D → D → Option D
  | .str x, .int i => if x.length ≤ sizeLine then (atI x.cps.toList i).map fun c => .str ⟨#[c]⟩ else none
  | .tup ds, .int i => atI ds i
  | .lst ds, .int i => atI ds i
  | .dct ks vs, k => if kok ks k = true then dget ks vs k else none
  | _, _ => none
theorem atI_reps {g : Gx} {H : Hp} {ds : List D} {xs : List V} {i : Int} {z : D} (r : Reps g H ds xs) (h : atI ds i = some z) : ∃ v, atI xs i = some v ∧ Rep g H z v := by
  unfold atI at h ⊢
  rw [r.length]
  cases q : ixN ds.length i with
  | none => rw [q] at h; cases h
  | some j =>
    rw [q] at h
    exact r.get h
def rIxDD (g : Gx) : R2 := fun x y H Q => ∃ a ks vs k z, x = .ref a ∧ DD g H a ks vs ∧ kok ks k = true ∧ Rep g H k y ∧ dget ks vs k = some z ∧ ∀ v, Rep g H z v → Q v H
theorem ix_dd (hu : X.A.units + 64 < cLine) : IxR X (rIxDD (gx X)) := by
  intro value slice pins s σ H x y v u Q I rx ry h hs
  obtain ⟨a, ks, vs, k, z, rfl, hd, hk, rk, hz, q⟩ := h
  cases rx
  obtain ⟨es, ep, R, _, _⟩ := DD.raw I hd
  exact PyProof.Rows.tail_any R.typeIs slot_dict_getitem.lookup (dd_getItem hu I hd hk hz rk ry fun v w s' J p1 p2 => ⟨v, H, J, p2, q v p1⟩) hs
def rIxD' (g : Gx) : R2 := fun x y H Q => rIx g.K x y H Q ∨ rIxDD g x y H Q
theorem ix_ok {g : Gx} : Op2L g (rIxD' g) D.ix := fun H x y dx dy z Q rx ry h q => by
  have fin : ∀ {v : V}, Rep g H z v → Q v H := fun p => q _ H (.refl H) (.inl p)
  cases dx with
  | str t =>
    cases dy with
    | int i =>
      simp only [D.ix] at h
      split at h
      · rename_i hl
        obtain ⟨c, hc, rfl⟩ := Option.map_eq_some_iff.mp h
        rw [repL_flat rfl rx, repL_flat rfl ry]
        exact .inl (.inr (.inr ⟨t, i, c, rfl, rfl, hl, hc, fin rfl⟩))
      · cases h
    | _ => cases h
  | tup ds =>
    cases dy with
    | int i =>
      obtain ⟨a, xs, rfl, hx, rs⟩ := repL_tup rx
      obtain ⟨v, hv, rv⟩ := atI_reps rs h
      rw [repL_flat rfl ry]
      exact .inl (.inr (.inl ⟨a, xs, i, v, rfl, rfl, hx, hv, fin rv⟩))
    | _ => cases h
  | lst ds =>
    cases dy with
    | int i =>
      obtain ⟨a, xs, rfl, hx, rs⟩ := repL_lst rx
      obtain ⟨v, hv, rv⟩ := atI_reps rs h
      rw [repL_flat rfl ry]
      exact .inl (.inl ⟨a, xs, i, v, rfl, rfl, hx.sq, hv, fin rv⟩)
    | _ => cases h
  | dct ks vs =>
    have h' : (if kok ks dy = true then dget ks vs dy else none) = some z := by
      cases dy <;> exact h
    split at h'
    · rename_i hk
      obtain ⟨a, rfl, hd⟩ := repL_dct rx
      have ry' : Rep g H dy y := by
        rcases ry with r | ⟨_, _, c⟩
        · exact r
        · cases dy <;> first | exact c.elim | (simp [kok, D.fk, D.tk] at hk)
      exact .inr ⟨a, ks, vs, dy, z, rfl, hd, hk, ry', h', fun v p => fin p⟩
    · cases h'
  | _ => cases dy <;> cases h
variable {k : Nat}
theorem ixr (hr : Room k X.A) : IxR X (rIxD' (gx X)) := ix_seq.or (ix_dd (room64 hr))
theorem de_ix (hr : Room k X.A) (ha : DE X a wa) (hb : DE X b wb) (hs : PlainIx b := by intro _ _; rfl) : DE X (.Subscript a b pos) (w2 D.ix wa wb) := de_M (pe_imp (pe_ix (ixr hr) ha (dq hb) hs) (up_2s ix_ok))
/-- name[e] -/
theorem de_ixO (hr : Room k X.A) (i : Nat) {y : Str} (hb : DE X b wb) (hN : X.N[i]? = some y := by rfl) (hv : Vis X.env.scope y := by first | exact Or.inl rfl | exact Or.inr (Or.inl rfl) | exact Or.inr (Or.inr rfl)) (hd : (y == ("__debug__" : Str)) = false := by decide)
    (hcd : (y == ("__classdict__" : Str)) = false := by decide) (hs : PlainIx b := by intro _ _; rfl) : DE X (.Subscript (.Name y p) b pos) (w2O i D.ix wb) := de_M (pe_imp (pe_ix (ixr hr) (pe_var hN hv hd hcd) hb hs) (up_2o ix_ok))
end
end DL
/-! DL, part k: slices, in, len, is, isinstance, order. -/
namespace DL
open PySem PySem.Spec L2

section
variable {X : Cx} {e a b c : Expr} {es : List Expr} {pos p p2 : Pos} {w wa wb wc : WE} {ws : WA} {k : Nat}
/-! ### a[lo:hi] -/
def cutD (ds : List D) (lo hi : Option Int) : List D := (ds.drop (HT.sIx ds.length 0 lo)).take (HT.sIx ds.length ds.length hi - HT.sIx ds.length 0 lo)
theorem cut_reps {g : Gx} {H : Hp} {ds : List D} {xs : List V} {lo hi : Option Int} (r : Reps g H ds xs) : Reps g H (cutD ds lo hi) (cutV xs lo hi) := by
  unfold cutD cutV
  rw [r.length]
  exact (r.drop _).take _
def D.sl : D → Option Int → Option Int → Option D
  | .str x, lo, hi => if x.length ≤ sizeLine then some (.str (cutS x lo hi)) else none
  | .tup ds, lo, hi => some (.tup (cutD ds lo hi))
  | .lst ds, lo, hi => some (.lst (cutD ds lo hi))
  | _, _, _ => none
def rSlD (K : PySem.W.Frag) : V → Option Int → Option Int → Hp → VK → Prop := fun x lo hi H Q => rSlL K x lo hi H Q ∨ rSlA K x lo hi H Q ∨ rSlS x lo hi H Q
theorem sl_D : SlR X (rSlD X.K) := sl_list.or (sl_tupA.or sl_str)
abbrev WO := En → (Option Int → En → Prop) → Prop
def wON : WO := fun e K => K none e
def wOS (w : WE) : WO := fun e K => w e fun d e1 => ∃ i, d = .int i ∧ K (some i) e1
def upO (g : Gx) (w : WO) : TO := fun σ H Q => ∃ e K, ER g σ H e ∧ w e K ∧ ∀ o e' H', K o e' → Adv σ e H σ e' H' → ER g σ H' e' → Q o H'
abbrev DO (X : Cx) (e : Option Expr) (w : WO) : Prop := PO X e (upO (gx X) w)
theorem po_imp {e : Option Expr} {t t' : TO} (h : PO X e t) (i : ∀ σ H Q, t' σ H Q → t σ H Q) : PO X e t' := ⟨fun pins s σ H Q I hw => h.run pins s σ H Q I (i σ H Q hw)⟩
theorem do_none : DO X none wON := po_imp po_none fun σ H Q ⟨e, K, r, k, q⟩ => q none e H k (.refl ..) r
theorem do_some (h : DE X e w) : DO X (some e) (wOS w) := po_imp (po_some h) fun σ H Q ⟨e, K, r, k, q⟩ => ⟨e, _, r, k, fun d e1 v H1 ⟨i, hi, k1⟩ a1 i1 r1 => ⟨i, by rw [hi] at r1; exact r1, q (some i) e1 H1 k1 a1 i1⟩⟩
def wSl (w : WE) (l h : WO) : WE := fun e K => w e fun d e1 => l e1 fun lo e2 => h e2 fun hi e3 => ∃ z, d.sl lo hi = some z ∧ K z e3
def SlOk (g : Gx) (r : V → Option Int → Option Int → Hp → VK → Prop) : Prop := ∀ (H : Hp) (x : V) (lo hi : Option Int) (dx z : D) (Q : VK), RepL g H dx x → dx.sl lo hi = some z → (∀ v H', Grow H H' → Got g H H' z v → Q v H') → r x lo hi H Q
theorem sl_ok {g : Gx} : SlOk g (rSlD g.K) := fun H x lo hi dx z Q rx h q => by
  cases dx with
  | str t =>
    simp only [D.sl] at h
    split at h
    · rename_i hl
      cases h
      rw [repL_flat rfl rx]
      exact .inr (.inr ⟨t, rfl, hl, q _ H (.refl H) (.inl rfl)⟩)
    · cases h
  | tup ds =>
    cases h
    obtain ⟨a, xs, rfl, hx, rs⟩ := repL_tup rx
    refine .inr (.inl ⟨a, xs, rfl, hx, fun ⟨h1, h2⟩ => ?_, fun _ p hp => ?_⟩)
    · refine q _ H (.refl H) (.inl ⟨a, xs, rfl, hx, ?_⟩)
      have c := cut_reps (lo := lo) (hi := hi) rs
      unfold cutV at c
      rw [h1, h2, List.drop_zero, Nat.sub_zero, List.take_length] at c
      exact c
    · obtain ⟨gr, rp⟩ := laid_tup (g := g) hp (cut_reps (lo := lo) (hi := hi) rs)
      exact q _ _ gr (.inl rp)
  | lst ds =>
    cases h
    obtain ⟨a, xs, rfl, hx, rs⟩ := repL_lst rx
    refine .inl ⟨a, xs, rfl, hx.sq, fun p hp => ?_⟩
    obtain ⟨gr, c⟩ := laid_lst (g := g) hp (cut_reps (lo := lo) (hi := hi) rs)
    exact q _ _ gr (.inr ⟨p, rfl, hp, c⟩)
  | _ => cases h
theorem de_sl {lo hi : Option Expr} {wl wh : WO} (ha : DE X a w) (hl : DO X lo wl) (hh : DO X hi wh) : DE X (.Subscript a (.Slice lo hi none p2) pos) (wSl w wl wh) :=
  de_M (pe_imp (pe_slice sl_D ha hl hh) fun σ H Q ⟨e, K, r, k, q⟩ => ⟨e, _, r, k, fun d e1 x H1 k1 a1 i1 r1 => ⟨e1, _, i1, k1, fun lo e2 H2 k2 a2 i2 => ⟨e2, _, i2, k2, fun hi e3 H3 ⟨z, hz, k3⟩ a3 i3 =>
    sl_ok H3 x lo hi d z Q (.inl (r1.mono (a2.trans a3).stab d x)) hz fun v H' gr rv => q z e3 v H' k3 (((a1.trans a2).trans a3).trans (.grow gr)) (i3.grow gr) (got_up ((a1.trans a2).trans a3).there i3 rv)⟩⟩⟩)

/-! ### in -/
def D.has : D → D → Option Bool
  | .str x, .str y => some (match x.cps.toList with
    | [c] => decide (c ∈ y.cps.toList)
    | _ => !(Builtin.Str.occurrences y x 0 y.length 1).isEmpty)
  | x, .lst ds => if x.gd 63 && D.gds ds 62 then some (decide (x ∈ ds)) else none
  | x, .tup ds => if x.gd 63 && D.gds ds 62 then some (decide (x ∈ ds)) else none
  | x, .dct ks vs => if kok ks x = true then some (dget ks vs x).isSome else none
  | _, _ => none
theorem any_mem {x : D} {d : PyData} : ∀ {ds : List D} {ps : List PyData} {n m : Nat}, x.gd n = true → D.gds ds m = true → x.py = some d → D.pys ds = some ps → (ps.any fun z => PyData.eqv z d) = decide (x ∈ ds)
  | [], ps, _, _, _, _, _, h => by cases h; simp
  | y :: ds, ps, n, m, hx, hy, h1, h2 => by
    rw [D.gds, Bool.and_eq_true] at hy
    rw [D.pys] at h2
    obtain ⟨p, hp, _⟩ := gd_py y m hy.1
    obtain ⟨pr, hpr, _⟩ := gds_py ds m hy.2
    rw [hp, hpr] at h2
    cases h2
    rw [List.any_cons, any_mem hx hy.2 h1 hpr, gd_eqv y x m n p d hy.1 hx hp h1, beq_dec]
    by_cases q : y = x
    · subst q; simp
    · have q' : ¬ x = y := fun z => q z.symm
      simp [q, q']
def rHasSeq (K : PySem.W.Frag) (neg : Bool) : R2 := fun x y H Q => ∃ d ds, Dp K H x d ∧ (Dp K H y (.list ds) ∨ Dp K H y (.tuple ds)) ∧ d.canLay0 = true ∧ PyData.canLayAll0 ds = true ∧ PyData.depthAll ds ≤ 62 ∧ Q (.bl (if neg then !(ds.any fun z => PyData.eqv z d) else ds.any fun z => PyData.eqv z d)) H
theorem op_hasSeq (hu : X.A.units + 64 < cLine) : OpR X (compareOp .In) (rHasSeq X.K false) := by
  intro pins s σ H x y v u Q I rx ry h
  obtain ⟨d, ds, hd, he, sd, se, hn, q⟩ := h
  obtain ⟨as, r1⟩ := Dp.reads I d x v hd rx
  have hroom : X.A.units + 1 + min (PyData.depthAll ds) d.depth < cLine := by omega
  rcases he with he | he
  · obtain ⟨bs, r2⟩ := Dp.reads I (.list ds) y u he ry
    exact SeqAt.in_list_reads r2 r1 se sd hroom ⟨.bl _, H, I, rfl, q⟩
  · obtain ⟨bs, r2⟩ := Dp.reads I (.tuple ds) y u he ry
    exact SeqAt.in_tuple_reads r2 r1 se sd hroom ⟨.bl _, H, I, rfl, q⟩
theorem op_hasSeqN (hu : X.A.units + 64 < cLine) : OpR X (compareOp .NotIn) (rHasSeq X.K true) := by
  intro pins s σ H x y v u Q I rx ry h
  obtain ⟨d, ds, hd, he, sd, se, hn, q⟩ := h
  obtain ⟨as, r1⟩ := Dp.reads I d x v hd rx
  have hroom : X.A.units + 1 + min (PyData.depthAll ds) d.depth < cLine := by omega
  rcases he with he | he
  · obtain ⟨bs, r2⟩ := Dp.reads I (.list ds) y u he ry
    exact SeqAt.notIn_list_reads r2 r1 se sd hroom ⟨.bl _, H, I, rfl, q⟩
  · obtain ⟨bs, r2⟩ := Dp.reads I (.tuple ds) y u he ry
    exact SeqAt.notIn_tuple_reads r2 r1 se sd hroom ⟨.bl _, H, I, rfl, q⟩
def rHasStr (neg : Bool) : R2 := fun x y H Q => ∃ i j : Str, x = .str i ∧ y = .str j ∧ Q (.bl (if neg then !(!(Builtin.Str.occurrences j i 0 j.length 1).isEmpty) else !(Builtin.Str.occurrences j i 0 j.length 1).isEmpty)) H
def rHasDD (g : Gx) (neg : Bool) : R2 := fun x y H Q => ∃ a ks vs k, y = .ref a ∧ DD g H a ks vs ∧ kok ks k = true ∧ Rep g H k x ∧ Q (.bl (if neg then !(dget ks vs k).isSome else (dget ks vs k).isSome)) H
theorem op_hasDD (hu : X.A.units + 64 < cLine) : OpR X (compareOp .In) (rHasDD (gx X) false) := by
  intro pins s σ H x y v u Q I rx ry h
  obtain ⟨a, ks, vs, k, rfl, hd, hk, rk, q⟩ := h
  cases ry
  exact dd_in hu I hd hk rk rx fun s' J => ⟨.bl _, H, J, rfl, q⟩
theorem op_hasDDN (hu : X.A.units + 64 < cLine) : OpR X (compareOp .NotIn) (rHasDD (gx X) true) := by
  intro pins s σ H x y v u Q I rx ry h
  obtain ⟨a, ks, vs, k, rfl, hd, hk, rk, q⟩ := h
  cases ry
  exact dd_notIn hu I hd hk rk rx fun s' J => ⟨.bl _, H, J, rfl, q⟩
def rHas (g : Gx) (neg : Bool) : R2 := fun x y H Q => rHasStr neg x y H Q ∨ rHasSeq g.K neg x y H Q ∨ rHasDD g neg x y H Q
theorem op_has (hu : X.A.units + 64 < cLine) : OpR X (compareOp .In) (rHas (gx X) false) := (OpR.or (r := rHasStr false) op_in_str) ((op_hasSeq hu).or (op_hasDD hu))
theorem op_hasN (hu : X.A.units + 64 < cLine) : OpR X (compareOp .NotIn) (rHas (gx X) true) := (OpR.or (r := rHasStr true) op_notIn_str) ((op_hasSeqN hu).or (op_hasDDN hu))
def D.inn (x y : D) : Option D := (x.has y).map .bl
def D.nin (x y : D) : Option D := (x.has y).map fun b => .bl (!b)
theorem has_ok {g : Gx} {neg : Bool} {H : Hp} {x y : V} {dx dy : D} {b : Bool} {Q : VK} (rx : RepL g H dx x) (ry : RepL g H dy y) (h : dx.has dy = some b) (q : Q (.bl (if neg then !b else b)) H) : rHas g neg x y H Q := by
  have frz : ∀ {n : Nat} {d : D} {v : V}, d.gd n = true → RepL g H d v → Rep g H d v ∨ ∃ ds, d = .lst ds := fun {n d v} hd r => by
    rcases r with r | ⟨_, _, c⟩
    · exact .inl r
    · cases d with
      | lst ds => exact .inr ⟨ds, rfl⟩
      | dct _ _ => simp [D.gd] at hd
      | obj _ _ _ => simp [D.gd] at hd
      | _ => exact c.elim
  have seq : ∀ (ds : List D) (hy : dy = .lst ds ∨ dy = .tup ds), (if dx.gd 63 && D.gds ds 62 then some (decide (dx ∈ ds)) else none) = some b → rHas g neg x y H Q := fun ds hy h => by
    split at h
    · rename_i hg
      rw [Bool.and_eq_true] at hg
      cases h
      obtain ⟨d, h1, h2, _⟩ := gd_py dx 63 hg.1
      obtain ⟨ps, h3, h4, h5⟩ := gds_py ds 62 hg.2
      have hx : Dp g.K H x d := by
        rcases rx with r | ⟨a, rfl, c⟩
        · exact dp_of dx x d r h1
        · cases dx with
          | lst es =>
            obtain ⟨xs, e, r⟩ := c
            rw [D.py] at h1
            obtain ⟨qs, g1, rfl⟩ := Option.map_eq_some_iff.mp h1
            exact .lst (.inl (.inl e)) (dps_of es xs qs r g1)
          | dct _ _ => simp [D.gd] at hg
          | obj _ _ _ => simp [D.gd] at hg
          | _ => exact c.elim
      refine .inr (.inl ⟨d, ps, hx, ?_, h2, h4, h5, by rw [any_mem hg.1 hg.2 h1 h3]; exact q⟩)
      rcases hy with rfl | rfl
      · obtain ⟨a, xs, rfl, hl, rs⟩ := repL_lst ry
        exact .inl (.lst hl.sq (dps_of ds xs ps rs h3))
      · obtain ⟨a, xs, rfl, hl, rs⟩ := repL_tup ry
        exact .inr (.tup hl (dps_of ds xs ps rs h3))
    · cases h
  cases dy with
  | str t =>
    cases dx with
    | str s =>
      simp only [D.has] at h
      rw [repL_flat rfl rx, repL_flat rfl ry]
      refine .inl ⟨s, t, rfl, rfl, ?_⟩
      have e : (!(Builtin.Str.occurrences t s 0 t.length 1).isEmpty) = b := by
        injection h with h
        rw [← h]
        split
        · rename_i c hc
          have es : s = ⟨#[c]⟩ := by
            obtain ⟨cs⟩ := s
            simp at hc
            rw [Str.mk.injEq]
            exact Array.toList_inj.mp (by simpa using hc)
          rw [es]
          exact PySem.StrLaws.found_one t c
        · rfl
      rw [e]
      exact q
    | _ => cases h
  | lst ds => exact seq ds (.inl rfl) (by cases dx <;> exact h)
  | tup ds => exact seq ds (.inr rfl) (by cases dx <;> exact h)
  | dct ks vs =>
    have h' : (if kok ks dx = true then some (dget ks vs dx).isSome else none) = some b := by cases dx <;> exact h
    split at h'
    · rename_i hk
      cases h'
      obtain ⟨a, rfl, hd⟩ := repL_dct ry
      have rx' : Rep g H dx x := by
        rcases rx with r | ⟨_, _, c⟩
        · exact r
        · cases dx <;> first | exact c.elim | (simp [kok, D.fk, D.tk] at hk)
      exact .inr (.inr ⟨a, ks, vs, dx, rfl, hd, hk, rx', q⟩)
    · cases h'
  | _ => cases dx <;> cases h
theorem inn_ok {g : Gx} : Op2L g (rHas g false) D.inn := fun H x y dx dy z Q rx ry h q => by
  obtain ⟨b, hb, rfl⟩ := Option.map_eq_some_iff.mp h
  exact has_ok rx ry hb (q _ H (.refl H) (.inl rfl))
theorem nin_ok {g : Gx} : Op2L g (rHas g true) D.nin := fun H x y dx dy z Q rx ry h q => by
  obtain ⟨b, hb, rfl⟩ := Option.map_eq_some_iff.mp h
  exact has_ok rx ry hb (q _ H (.refl H) (.inl rfl))
theorem de_cmpL {op : CmpOp} {r : R2} {f : D → D → Option D} (ho : OpR X (compareOp op) r) (o : Op2L (gx X) r f) (ha : DE X a wa) (hb : DQ X b wb) (hm : behindInMarks op b = false := by first | exact nomark _ | rfl) :
    DE X (.Compare a [op] [b] pos) (w2 f wa wb) := de_M (pe_imp (pe_cmpR ho ha hb hm) (up_2s o))
theorem dt_cmpL {op : CmpOp} {r : R2} {f : D → D → Option D} (ho : OpR X (compareOp op) r) (o : Op2L (gx X) r f) (ha : DE X a wa) (hb : DQ X b wb) (hm : behindInMarks op b = false := by first | exact nomark _ | rfl) :
    DT X (.Compare a [op] [b] pos) (wTst (w2 f wa wb)) := pt_imp (pt_cmpR ho ha hb hm) fun σ H Q ⟨e, K, r, k, q⟩ => up_2s o σ H _ ⟨e, _, r, k, fun d e1 x H1 ⟨b, hb, k1⟩ a1 r1 p1 => ⟨b, by
      rcases p1 with p1 | ⟨_, _, _, c, _⟩
      · rw [hb] at p1; exact p1
      · rw [hb] at c; exact c.elim, q b e1 H1 k1 a1 r1⟩⟩
theorem de_in (hr : Room k X.A) (ha : DE X a wa) (hb : DQ X b wb) (hm : behindInMarks .In b = false := by first | exact nomark _ | rfl) : DE X (.Compare a [.In] [b] pos) (w2 D.inn wa wb) := de_cmpL (op_has (room64 hr)) inn_ok ha hb hm
theorem dt_in (hr : Room k X.A) (ha : DE X a wa) (hb : DQ X b wb) (hm : behindInMarks .In b = false := by first | exact nomark _ | rfl) : DT X (.Compare a [.In] [b] pos) (wTst (w2 D.inn wa wb)) := dt_cmpL (op_has (room64 hr)) inn_ok ha hb hm
theorem de_nin (hr : Room k X.A) (ha : DE X a wa) (hb : DQ X b wb) (hm : behindInMarks .NotIn b = false := by first | exact nomark _ | rfl) : DE X (.Compare a [.NotIn] [b] pos) (w2 D.nin wa wb) := de_cmpL (op_hasN (room64 hr)) nin_ok ha hb hm
theorem dt_nin (hr : Room k X.A) (ha : DE X a wa) (hb : DQ X b wb) (hm : behindInMarks .NotIn b = false := by first | exact nomark _ | rfl) : DT X (.Compare a [.NotIn] [b] pos) (wTst (w2 D.nin wa wb)) := dt_cmpL (op_hasN (room64 hr)) nin_ok ha hb hm

/-! ### is, order -/
theorem op_isB : OpR X (compareOp .Is) (fun x y H Q => ∃ b, y = .bl b ∧ Q (.bl (decide (x = .bl b))) H) := by
  intro pins s σ H x y v u Q I rx ry h
  obtain ⟨b, rfl, q⟩ := h
  cases (show u = Value.bool b from ry)
  cases v with
  | bool c =>
    have ex : x = .bl c := by
      cases x <;> first
        | (obtain ⟨t, e⟩ := rx; cases e; done)
        | (cases rx; rfl)
        | (cases rx; done)
    subst ex
    by_cases e : c = b
    · subst e
      exact wpAny_is_self rfl ⟨.bl true, H, I, rfl, by simpa using q⟩
    · exact wpAny_is_other rfl (fun z => e (Value.bool.inj z)) ⟨.bl false, H, I, rfl, by simpa [e] using q⟩
  | builtin n =>
    cases x <;> first
      | (obtain ⟨t, e⟩ := rx; cases e; done)
      | (cases rx; done)
  | _ =>
    rw [decide_eq_false (fun e => by rw [e] at rx; cases (show _ = Value.bool b from rx))] at q
    exact wpAny_pure ⟨.bl false, H, I, rfl, q⟩
def D.isBl (b : Bool) : D → Bool
  | .bl c => c == b
  | _ => false
def D.isNon : D → Bool
  | .non => true
  | _ => false
theorem rep_bl {g : Gx} {H : Hp} {d : D} {v : V} {b : Bool} (r : Rep g H d v) : decide (v = .bl b) = d.isBl b := by
  cases d with
  | bl c =>
    rw [show v = _ from r]
    cases b <;> cases c <;> rfl
  | non => rw [show v = _ from r]; rfl
  | int i => rw [show v = _ from r]; rfl
  | str x => rw [show v = _ from r]; rfl
  | fn a => rw [show v = _ from r]; rfl
  | tup ds => obtain ⟨a, _, rfl, _⟩ := r; rfl
  | lst ds => obtain ⟨a, _, rfl, _⟩ := r; rfl
  | dct _ _ => obtain ⟨a, _, _, _, rfl, _⟩ := r; rfl
  | obj _ _ _ => obtain ⟨a, _, _, _, rfl, _⟩ := r; rfl
  | pen => obtain ⟨a, _, rfl, _⟩ := r; rfl
  | scr _ => obtain ⟨a, rfl, _⟩ := r; rfl
  | _ => exact r.elim
theorem rep_non {g : Gx} {H : Hp} {d : D} {v : V} (r : Rep g H d v) : decide (v = .non) = d.isNon := by
  cases d with
  | bl c => rw [show v = _ from r]; rfl
  | non => rw [show v = _ from r]; rfl
  | int i => rw [show v = _ from r]; rfl
  | str x => rw [show v = _ from r]; rfl
  | fn a => rw [show v = _ from r]; rfl
  | tup ds => obtain ⟨a, _, rfl, _⟩ := r; rfl
  | lst ds => obtain ⟨a, _, rfl, _⟩ := r; rfl
  | dct _ _ => obtain ⟨a, _, _, _, rfl, _⟩ := r; rfl
  | obj _ _ _ => obtain ⟨a, _, _, _, rfl, _⟩ := r; rfl
  | pen => obtain ⟨a, _, rfl, _⟩ := r; rfl
  | scr _ => obtain ⟨a, rfl, _⟩ := r; rfl
  | _ => exact r.elim
def D.isv : D → D → Option D
  | x, .non => some (.bl x.isNon)
  | x, .bl b => some (.bl (x.isBl b))
  | _, _ => none
theorem isv_ok {g : Gx} : Op2 g (fun x y H Q => (y = .non ∧ Q (.bl (decide (x = .non))) H) ∨ ∃ b, y = .bl b ∧ Q (.bl (decide (x = .bl b))) H) D.isv := fun H x y dx dy z Q rx ry h q => by
  cases dy with
  | non =>
    cases h
    refine .inl ⟨ry, ?_⟩
    rw [rep_non rx]
    exact q _ H (.refl H) rfl
  | bl b =>
    cases h
    refine .inr ⟨b, ry, ?_⟩
    rw [rep_bl rx]
    exact q _ H (.refl H) rfl
  | _ => cases h
def D.nsv : D → D → Option D
  | x, .non => some (.bl (!x.isNon))
  | _, _ => none
theorem nsv_ok {g : Gx} : Op2 g (fun x y H Q => y = .non ∧ Q (.bl (!decide (x = .non))) H) D.nsv := fun H x y dx dy z Q rx ry h q => by
  cases dy with
  | non =>
    cases h
    refine ⟨ry, ?_⟩
    rw [rep_non rx]
    exact q _ H (.refl H) rfl
  | _ => cases h
theorem de_is (ha : DE X a wa) (hb : DE X b wb) (hm : behindInMarks .Is b = false := by first | exact nomark _ | rfl) : DE X (.Compare a [.Is] [b] pos) (w2 D.isv wa wb) := de_cmp (op_isN.or op_isB) isv_ok ha hb hm
theorem dt_is (ha : DE X a wa) (hb : DE X b wb) (hm : behindInMarks .Is b = false := by first | exact nomark _ | rfl) : DT X (.Compare a [.Is] [b] pos) (wTst (w2 D.isv wa wb)) := dt_cmp (op_isN.or op_isB) isv_ok ha hb hm
theorem de_isnot (ha : DE X a wa) (hb : DE X b wb) (hm : behindInMarks .IsNot b = false := by first | exact nomark _ | rfl) : DE X (.Compare a [.IsNot] [b] pos) (w2 D.nsv wa wb) := de_cmp op_notN nsv_ok ha hb hm
theorem dt_isnot (ha : DE X a wa) (hb : DE X b wb) (hm : behindInMarks .IsNot b = false := by first | exact nomark _ | rfl) : DT X (.Compare a [.IsNot] [b] pos) (wTst (w2 D.nsv wa wb)) := dt_cmp op_notN nsv_ok ha hb hm
/-- <, <=, >, >= of numbers -/
def cop (f : Int → Int → Bool) : D → D → Option D
  | .int i, .int j => some (.bl (f i j))
  | _, _ => none
theorem cop_ok {g : Gx} {f : Int → Int → Bool} : Op2 g (rI0 fun i j => .bl (f i j)) (cop f) := fun H x y dx dy z Q rx ry h q => by
  cases dx with
  | int i =>
    cases dy with
    | int j =>
      cases h
      rw [show x = _ from rx, show y = _ from ry]
      exact ⟨i, j, rfl, rfl, q _ H (.refl H) rfl⟩
    | _ => cases h
  | _ => cases h
abbrev cLt : D → D → Option D := cop fun i j => decide (i < j)
abbrev cLe : D → D → Option D := cop fun i j => decide (i ≤ j)
abbrev cGt : D → D → Option D := cop fun i j => decide (j < i)
abbrev cGe : D → D → Option D := cop fun i j => decide (j ≤ i)
theorem de_lt (ha : DE X a wa) (hb : DE X b wb) : DE X (.Compare a [.Lt] [b] pos) (w2 cLt wa wb) := de_cmp op_lt cop_ok ha hb
theorem de_le (ha : DE X a wa) (hb : DE X b wb) : DE X (.Compare a [.LtE] [b] pos) (w2 cLe wa wb) := de_cmp op_le cop_ok ha hb
theorem de_gt (ha : DE X a wa) (hb : DE X b wb) : DE X (.Compare a [.Gt] [b] pos) (w2 cGt wa wb) := de_cmp op_gt cop_ok ha hb
theorem de_ge (ha : DE X a wa) (hb : DE X b wb) : DE X (.Compare a [.GtE] [b] pos) (w2 cGe wa wb) := de_cmp op_ge cop_ok ha hb
theorem dt_lt (ha : DE X a wa) (hb : DE X b wb) : DT X (.Compare a [.Lt] [b] pos) (wTst (w2 cLt wa wb)) := dt_cmp op_lt cop_ok ha hb
theorem dt_le (ha : DE X a wa) (hb : DE X b wb) : DT X (.Compare a [.LtE] [b] pos) (wTst (w2 cLe wa wb)) := dt_cmp op_le cop_ok ha hb
theorem dt_gt (ha : DE X a wa) (hb : DE X b wb) : DT X (.Compare a [.Gt] [b] pos) (wTst (w2 cGt wa wb)) := dt_cmp op_gt cop_ok ha hb
theorem dt_ge (ha : DE X a wa) (hb : DE X b wb) : DT X (.Compare a [.GtE] [b] pos) (wTst (w2 cGe wa wb)) := dt_cmp op_ge cop_ok ha hb
/-- a <= b <= c, of numbers (a chain of two) -/
def wCh (f g : D → D → Option D) (wa wb wc : WE) : WE := fun e K => wa e fun x e1 => wb e1 fun y e2 => ∃ z, f x y = some z ∧ ∃ b, z = .bl b ∧ if b = true then wc e2 fun u e3 => ∃ z2, g y u = some z2 ∧ K z2 e3 else K (.bl false) e2
theorem up_ch {g : Gx} {r r' : R2} {f f' : D → D → Option D} (o : Op2 g r f) (o' : Op2 g r' f') : ∀ σ H Q, up g (wCh f f' wa wb wc) σ H Q → tChain r r' (up g wa) (up g wb) (up g wc) σ H Q := fun σ H Q ⟨e, K, i, k, q⟩ =>
  ⟨e, _, i, k, fun dx e1 x H1 k1 a1 i1 r1 => ⟨e1, _, i1, k1, fun dy e2 y H2 ⟨z, hz, b, hb, k2⟩ a2 i2 r2 => o H2 x y dx dy z _ (r1.mono a2.stab dx x) r2 hz fun v H3 gr rv => ⟨b, by rw [hb] at rv; exact rv, by
    have a3 := (a1.trans a2).trans (.grow (σ := σ) (e := e2) gr)
    split
    · rename_i hb
      rw [if_pos hb] at k2
      exact ⟨e2, _, i2.grow gr, k2, fun du e4 u H4 ⟨z2, hz2, k4⟩ a4 i4 r4 => o' H4 y u dy du z2 Q (r2.mono (gr.stab.trans a4.stab) dy y) r4 hz2 fun v2 H5 gr5 rv5 =>
        q z2 e4 v2 H5 k4 ((a3.trans a4).trans (.grow gr5)) (i4.grow gr5) rv5⟩
    · rename_i hb
      rw [if_neg hb] at k2
      exact q (.bl false) e2 _ H3 k2 a3 (i2.grow gr) rfl⟩⟩⟩
theorem de_lele (ha : DE X a wa) (hb : DE X b wb) (hc : DE X c wc) (hm : lastMarks [.LtE, .LtE] [b, c] = false := by with_unfolding_all rfl) : DE X (.Compare a [.LtE, .LtE] [b, c] pos) (wCh cLe cLe wa wb wc) := pe_imp (pe_chain op_le op_le ha hb hc hm) (up_ch cop_ok cop_ok)
theorem de_lelt (ha : DE X a wa) (hb : DE X b wb) (hc : DE X c wc) (hm : lastMarks [.LtE, .Lt] [b, c] = false := by with_unfolding_all rfl) : DE X (.Compare a [.LtE, .Lt] [b, c] pos) (wCh cLe cLt wa wb wc) := pe_imp (pe_chain op_le op_lt ha hb hc hm) (up_ch cop_ok cop_ok)
theorem dt_ch {op op' : CmpOp} {r r' : R2} {f f' : D → D → Option D} (ho : OpR X (compareOp op) r) (ho' : OpR X (compareOp op') r') (o : Op2 (gx X) r f) (o' : Op2 (gx X) r' f') (ha : DE X a wa) (hb : DE X b wb) (hc : DE X c wc)
    (hm : lastMarks [op, op'] [b, c] = false := by with_unfolding_all rfl) : DT X (.Compare a [op, op'] [b, c] pos) (wTst (wCh f f' wa wb wc)) := pt_imp (pt_chain ho ho' ha hb hc hm) fun σ H Q ⟨e, K, r, k, q⟩ =>
  up_ch o o' σ H _ ⟨e, _, r, k, fun d e1 x H1 ⟨b, hb, k1⟩ a1 r1 p1 => ⟨b, by rw [hb] at p1; exact p1, q b e1 H1 k1 a1 r1⟩⟩
theorem dt_lele (ha : DE X a wa) (hb : DE X b wb) (hc : DE X c wc) (hm : lastMarks [.LtE, .LtE] [b, c] = false := by with_unfolding_all rfl) : DT X (.Compare a [.LtE, .LtE] [b, c] pos) (wTst (wCh cLe cLe wa wb wc)) := dt_ch op_le op_le cop_ok cop_ok ha hb hc hm
theorem dt_lelt (ha : DE X a wa) (hb : DE X b wb) (hc : DE X c wc) (hm : lastMarks [.LtE, .Lt] [b, c] = false := by with_unfolding_all rfl) : DT X (.Compare a [.LtE, .Lt] [b, c] pos) (wTst (wCh cLe cLt wa wb wc)) := dt_ch op_le op_lt cop_ok cop_ok ha hb hc hm

/-! ### len -/
def D.lenD : D → Option D
  | .str x => if x.length ≤ sizeLine then some (.int x.length) else none
  | .tup ds => some (.int ds.length)
  | .lst ds => some (.int ds.length)
  | .dct ks _ => if ks.length ≤ sizeLine then some (.int ks.length) else none
  | _ => none
def rLenDD (g : Gx) : List V → Hp → VK → Prop := fun xs H Q => ∃ a ks vs, xs = [.ref a] ∧ DD g H a ks vs ∧ ks.length ≤ sizeLine ∧ Q (.int ks.length) H
theorem call_lenDD : CallR X (.builtin "len") (rLenDD (gx X)) := by
  intro pins s σ H xs us Q I r h
  obtain ⟨a, ks, vs, rfl, hd, hl, q⟩ := h
  obtain ⟨u, rfl, ru⟩ := vals1 r
  cases ru
  obtain ⟨es, kvs, vvs, hr, ⟨low, K⟩, E, rk, rv⟩ := hd
  obtain ⟨ep, R⟩ := dd_raw I hr
  have hs := line63
  have hm := sizeLine_eq
  have hl3 : es.size = ks.length := by rw [← Array.length_toList]; exact (ent_len E).2.2
  refine Calls.call_function_entry kind_len plain_len entry_len (args_len1 _) ?_
  unfold Builtin.«len»
  refine wpAny_bind (m := oneArg "len" _) (wpAny_pure ?_)
  refine wpAny_bind (m := callSpecial? (.ref a) (Str.ofString "__len__")) (wpAny_callSpecial?_slot (name := Str.ofString "__len__") R.typeIs PySem.F.slot_dict_len (call_len_raw low R ?_))
  show wpAny _ _ _ _ _ { s with toks := s.toks + 1 }
  refine wpAny_bind (wpAny_holding (wpAny_pure ?_))
  refine wpAny_bind (wpAny_letGo ?_)
  show wpAny _ _ (if ((es.size : Nat) : Int) < 0 then _ else _) _ _ _
  rw [if_neg (by omega)]
  show wpAny _ _ (if ((es.size : Nat) : Int) ≥ 2 ^ 63 then _ else _) _ _ _
  rw [if_neg (by omega), hl3]
  exact wpAny_bind (wpAny_mkInt (wpAny_pure ⟨_, rfl, .int ks.length, H, I.tok _, ⟨_, rfl⟩, q⟩))
def rLenD (g : Gx) : List V → Hp → VK → Prop := fun xs H Q => (∃ x n, xs = [x] ∧ LenV g.K x H n ∧ Q (.int n) H) ∨ rLenDD g xs H Q
theorem call_lenD : CallR X (.builtin "len") (rLenD (gx X)) := call_len.or call_lenDD
theorem len_ok {g : Gx} : OpAL g (rLenD g) D.lenD := fun H x dx z Q rx h q => by
  cases dx with
  | str t =>
    simp only [D.lenD] at h
    split at h
    · rename_i hl
      cases h
      rw [repL_flat rfl rx]
      exact .inl ⟨_, t.length, rfl, ⟨hl, rfl⟩, q _ H (.refl H) (.inl rfl)⟩
    · cases h
  | tup ds =>
    cases h
    obtain ⟨a, xs, rfl, hx, rs⟩ := repL_tup rx
    exact .inl ⟨_, ds.length, rfl, .inr ⟨xs, hx, rs.length.symm⟩, q _ H (.refl H) (.inl rfl)⟩
  | lst ds =>
    cases h
    obtain ⟨a, xs, rfl, hx, rs⟩ := repL_lst rx
    exact .inl ⟨_, ds.length, rfl, .inl ⟨xs, hx.sq, rs.length.symm⟩, q _ H (.refl H) (.inl rfl)⟩
  | dct ks vs =>
    simp only [D.lenD] at h
    split at h
    · rename_i hl
      cases h
      obtain ⟨a, rfl, hd⟩ := repL_dct rx
      exact .inr ⟨a, ks, vs, rfl, hd, hl, q _ H (.refl H) (.inl rfl)⟩
    · cases h
  | _ => cases h
theorem de_len (hm : X.mg "len" = none) (ha : DQ X e w) (hg : Gl X "len" := by rfl) (he : starEach [e] X.env = (false, eval e X.env) :: starEach [] X.env := by rfl) (hpl : (backTo pos (starEach [] X.env)).any (·.1) = false := by rfl) : DE X (.Call (.Name "len" p) [e] [] pos) (w1 D.lenD w) :=
  de_B1 call_lenD len_ok hm ha hg (by decide +kernel) (by decide) (by decide) he hpl
end
end DL
/-! DL, part l: methods; what changes a thing of the def's own. -/
namespace DL
open PySem PySem.Spec L2

/-! ### a slot's thing is written -/
section
variable {g : Gx} {σ : L2.St} {H : Hp} {e : En} {i : Nat} {d d' : D} {a : Addr} {u' : HO}
theorem CellAt.upd_ne {b : Addr} {c : D} (hn : b ≠ a) (st : Stab H (upd H a u')) (h : CellAt g H b c) : CellAt g (upd H a u') b c := h.keep st fun o q => by
  rw [L2.upd_ne hn]
  exact q
/-- the thing of slot i, at a, becomes d' -/
theorem ER.write (r : ER g σ H e) (hi : e.sl[i]? = some (.ow d)) (hs : σ[i]? = some (some (.ref a))) (hu : ∀ kvs, u' ≠ .dK kvs) (hc : Stab H (upd H a u') → CellAt g (upd H a u') a d') :
    ER g σ (upd H a u') (e.put i (.ow d')) ∧ Adv σ e H σ (e.put i (.ow d')) (upd H a u') := by
  obtain ⟨b, h1, h2⟩ := r.ow i d hi
  rw [hs] at h1
  cases h1
  obtain ⟨o, ho, ni, nl⟩ := h2.there
  have hil : i < e.sl.length := (List.getElem?_eq_some_iff.mp hi).1
  have st : Stab H (upd H a u') := by
    refine ⟨fun b p q im => ?_, fun b kvs q => ⟨kvs, ?_⟩⟩
    · rw [L2.upd_ne fun z => by rw [z, ho] at q; cases q; exact ni im]
      exact q
    · rw [L2.upd_ne fun z => by rw [z, ho] at q; cases q; exact nl trivial]
      exact q
  have sub : ∀ (j : Nat) (dj : D), (e.put i (.ow d')).sl[j]? = some (.ow dj) → (i = j ∧ dj = d') ∨ (i ≠ j ∧ e.sl[j]? = some (.ow dj)) := fun j dj h => by
    rw [put_get] at h
    by_cases q : i = j
    · rw [if_pos q, if_pos hil] at h
      cases h
      exact .inl ⟨q, rfl⟩
    · rw [if_neg q] at h
      exact .inr ⟨q, h⟩
  have any : ∀ (j : Nat) (dj : D), (e.put i (.ow d')).sl[j]? = some (.ow dj) → ∃ dk, e.sl[j]? = some (.ow dk) := fun j dj h => by
    rcases sub j dj h with ⟨rfl, _⟩ | ⟨_, h⟩
    · exact ⟨d, hi⟩
    · exact ⟨dj, h⟩
  refine ⟨⟨fun j dj h => ?_, fun j dj h => ?_, fun j k dj dk b h1 h2 h3 h4 => ?_, ?_, ?_⟩, ⟨fun b p q no nlo => ?_, st, fun b q => ?_, fun b ⟨j, dj, q1, q2⟩ => .inl ?_⟩⟩
  · rw [put_get] at h
    by_cases q : i = j
    · rw [if_pos q, if_pos hil] at h
      cases h
    · rw [if_neg q] at h
      obtain ⟨v, g1, g2⟩ := r.fz j dj h
      exact ⟨v, g1, g2.mono st dj v⟩
  · rcases sub j dj h with ⟨rfl, rfl⟩ | ⟨q, h⟩
    · exact ⟨a, hs, hc st⟩
    · obtain ⟨b, g1, g2⟩ := r.ow j dj h
      exact ⟨b, g1, g2.upd_ne (fun z => q (r.apart i j d dj a hi h hs (by rw [← z]; exact g1))) st⟩
  · obtain ⟨x1, y1⟩ := any j dj h1
    obtain ⟨x2, y2⟩ := any k dk h2
    exact r.apart j k x1 x2 b y1 y2 h3 h4
  · refine r.pens.mono (Nat.le_refl _) st fun b kvs q => ?_
    by_cases z : b = a
    · rw [z, upd_same] at q
      cases q
      exact (hu kvs rfl).elim
    · rw [L2.upd_ne z] at q
      exact q
  · exact ⟨by show (e.sl.set i _).length = _; rw [List.length_set]; exact r.len.1, r.len.2⟩
  · rw [L2.upd_ne fun z => no ⟨i, d, hi, by rw [z]; exact hs⟩]
    exact q
  · by_cases z : b = a
    · rw [z, upd_same] at q
      cases q
    · rw [L2.upd_ne z] at q
      exact q
  · obtain ⟨x1, y1⟩ := any j dj q1
    exact ⟨j, x1, y1, q2⟩
end

section
variable {X : Cx} {o e a b c f : Expr} {es : List Expr} {pos p apos cpos : Pos} {w wa wb wc : WE} {ws : WA} {k : Nat} {T id : String} {name : Str}
/-! ### methods of built-in types -/
def TyIs (X : Cx) (T : String) (ty : V → Hp → Prop) : Prop := ∀ (pins : List (Addr × Obj)) (s : Shared) (σ : L2.St) (H : Hp) (x : V) (v : Value), Inv X pins σ H s → RelV x v → ty x H → s.TypeIs v T ∧ ∀ a, v = .ref a → ∃ ob, s.heap.get? a = some ob ∧ ob.dict = none
def tMG (ty : V → Hp → Prop) (r : V → List V → Hp → VK → Prop) (to : TE) (t : TA) : TE := fun σ H Q => to σ H fun x H1 => ty x H1 ∧ t σ H1 fun xs H2 => r x xs H2 Q
theorem pe_mg {ty : V → Hp → Prop} {r : V → List V → Hp → VK → Prop} {to : TE} {t : TA} (pa : PlainAttrs T) (slot : Slot T name id) (hty : typeOf (.builtin id) = pure (.type "method_descriptor")) (tyis : TyIs X T ty) (hm : MtR X id r) (ho : PE X o to) (ha : PA X (e :: es) t)
    (hbase : attributeBase o name X.env (eval o X.env) = eval o X.env := by rfl) (hline : (apos.endLine == cpos.line) = true := by rfl)
    (hfew : ((backTo cpos (starEach (e :: es) X.env)).all (fun x => !x.1) && (backToKw cpos (keywordEach [] X.env)).all (fun x => x.1.isSome) && decide ((e :: es).length + ([] : List Keyword).length + (if ([] : List Keyword).isEmpty then 0 else 1) < 30)) = true := by rfl)
    (hs : starEach (e :: es) X.env = (false, eval e X.env) :: starEach es X.env := by rfl) (hplain : (backTo cpos (starEach es X.env)).any (·.1) = false := by rfl) : PE X (.Call (.Attribute o name apos) (e :: es) [] cpos) (tMG ty r to t) := ⟨fun pins s σ H Q I h =>
  wpAny_Call_method_late hbase hfew hline rfl (thn (ho.run pins s σ H _ I h) fun v s1 ⟨x, H1, I1, r1, t1, q1⟩ => by
    obtain ⟨h1, h2⟩ := tyis pins s1 σ H1 x v I1 r1 t1
    have hA := ha.run cpos pins s1 σ H1 _ I1 q1
    rw [hs] at hA
    refine ⟨T, id, pa, slot, hty, h1, h2, ?_⟩
    rw [hs]
    exact Calls.callWith_builtin (show (false || (backTo cpos (starEach es X.env)).any (·.1)) = false by rw [hplain]; rfl) (Calls.evalArgs_plain (thn hA fun us s2 ⟨xs, H2, I2, r2, q2⟩ => hm pins s2 σ H2 x xs v us Q I2 r1 r2 q2)))⟩
def tMG0 (ty : V → Hp → Prop) (r : V → List V → Hp → VK → Prop) (to : TE) : TE := fun σ H Q => to σ H fun x H1 => ty x H1 ∧ r x [] H1 Q
theorem pe_mg0 {ty : V → Hp → Prop} {r : V → List V → Hp → VK → Prop} {to : TE} (pa : PlainAttrs T) (slot : Slot T name id) (hty : typeOf (.builtin id) = pure (.type "method_descriptor")) (tyis : TyIs X T ty) (hm : MtR X id r) (ho : PE X o to)
    (hbase : attributeBase o name X.env (eval o X.env) = eval o X.env := by rfl) (hline : (apos.endLine == cpos.line) = true := by rfl) : PE X (.Call (.Attribute o name apos) [] [] cpos) (tMG0 ty r to) := ⟨fun pins s σ H Q I h =>
  wpAny_Call_method0_late hbase hline (thn (ho.run pins s σ H _ I h) fun v s1 ⟨x, H1, I1, r1, t1, q1⟩ => by
    obtain ⟨h1, h2⟩ := tyis pins s1 σ H1 x v I1 r1 t1
    exact ⟨T, id, pa, slot, hty, h1, h2, Calls.callWith_builtin rfl (PySem.evalArgs_none (hm pins s1 σ H1 x [] v [] Q I1 r1 .nil q1))⟩)⟩
def tyD (g : Gx) (x : V) (H : Hp) : Prop := ∃ a ks vs, x = .ref a ∧ DD g H a ks vs
theorem tyD_is : TyIs X "dict" (tyD (gx X)) := fun pins s σ H x v I r ⟨a, ks, vs, e, hd⟩ => by
  subst e
  cases r
  obtain ⟨es, ep, R, _⟩ := hd.raw I
  refine ⟨R.typeIs, fun b q => ?_⟩
  cases q
  obtain ⟨ob, h1, h2, _⟩ := R
  exact ⟨ob, h1, h2.2.1⟩
def tyL (x : V) (H : Hp) : Prop := ∃ a xs, x = .ref a ∧ LRd H a xs
theorem tyL_is : TyIs X "list" tyL := fun pins s σ H x v I r ⟨a, xs, e, hd⟩ => by
  subst e
  cases r
  obtain ⟨_, its, n, _, _, h⟩ := Inv.lrd I hd
  exact ⟨⟨_, h, rfl⟩, fun b q => by cases q; exact ⟨_, h, rfl⟩⟩

/-! ### d.get -/
def D.get1 : D → List D → Option D
  | .dct ks vs, [k] => if kok ks k = true then some ((dget ks vs k).getD .non) else none
  | .dct ks vs, [k, x] => if kok ks k = true then some ((dget ks vs k).getD x) else none
  | _, _ => none
def rGetDD (g : Gx) : V → List V → Hp → VK → Prop := fun x xs H Q => ∃ a ks vs k y z, x = .ref a ∧ DD g H a ks vs ∧ kok ks k = true ∧ Rep g H k y ∧
  ((xs = [y] ∧ z = (dget ks vs k).getD .non) ∨ ∃ u uv, xs = [y, uv] ∧ Rep g H u uv ∧ z = (dget ks vs k).getD u) ∧ ∀ v, Rep g H z v → Q v H
theorem mt_getDD (hu : X.A.units + 64 < cLine) : MtR X "dict.get" (rGetDD (gx X)) := by
  intro pins s σ H x xs v us Q I rx rv h
  obtain ⟨a, ks, vs, k, y, z, rfl, hd, hk, rk, hc, q⟩ := h
  cases rx
  rcases hc with ⟨rfl, rfl⟩ | ⟨u, uv, rfl, ru, rfl⟩
  · obtain ⟨w, rfl, rw'⟩ := rv.one
    exact dd_get1 hu I hd hk rk rw' fun v w s' J p1 p2 => ⟨v, H, J, p2, q v p1⟩
  · obtain ⟨w, w2, rfl, rw', rw2⟩ := rv.two
    exact dd_get2 hu I hd hk rk rw' ru rw2 fun v w s' J p1 p2 => ⟨v, H, J, p2, q v p1⟩
/-- the receiver is a name, looked at behind the arguments -/
def wMO (i : Nat) (f : D → List D → Option D) (ws : WA) : WE := fun e K => (∃ ks vs, datOf e.sl[i]? = some (.dct ks vs)) ∧ ws e fun ds e1 => ∃ d, datOf e1.sl[i]? = some d ∧ ∃ z, f d ds = some z ∧ K z e1
def wM (f : D → List D → Option D) (w : WE) (ws : WA) : WE := fun e K => w e fun d e1 => (∃ ks vs, d = .dct ks vs) ∧ ws e1 fun ds e2 => ∃ z, f d ds = some z ∧ K z e2
theorem reps_one {g : Gx} {H : Hp} {d : D} {xs : List V} (r : Reps g H [d] xs) : ∃ v, xs = [v] ∧ Rep g H d v := by
  obtain ⟨v, vs, e, r1, r2⟩ := r
  rw [show vs = [] from r2] at e
  exact ⟨v, e, r1⟩
theorem reps_two {g : Gx} {H : Hp} {d d' : D} {xs : List V} (r : Reps g H [d, d'] xs) : ∃ v v', xs = [v, v'] ∧ Rep g H d v ∧ Rep g H d' v' := by
  obtain ⟨v, vs, e, r1, r2⟩ := r
  obtain ⟨v', e', r3⟩ := reps_one r2
  exact ⟨v, v', by rw [e, e'], r1, r3⟩
theorem getDD_ok {g : Gx} {H : Hp} {x : V} {xs : List V} {d z : D} {ds : List D} {Q : VK} (rx : RepL g H d x) (rs : Reps g H ds xs) (h : d.get1 ds = some z) (q : ∀ v, Rep g H z v → Q v H) : rGetDD g x xs H Q := by
  cases d with
  | dct ks vs =>
    obtain ⟨a, rfl, hd⟩ := repL_dct rx
    rcases ds with _ | ⟨k, _ | ⟨u, _ | ⟨_, _⟩⟩⟩
    · cases h
    · simp only [D.get1] at h
      split at h
      · rename_i hk
        cases h
        obtain ⟨y, rfl, ry⟩ := reps_one rs
        exact ⟨a, ks, vs, k, y, _, rfl, hd, hk, ry, .inl ⟨rfl, rfl⟩, q⟩
      · cases h
    · simp only [D.get1] at h
      split at h
      · rename_i hk
        cases h
        obtain ⟨y, uv, rfl, ry, ru⟩ := reps_two rs
        exact ⟨a, ks, vs, k, y, _, rfl, hd, hk, ry, .inr ⟨u, uv, rfl, ru, rfl⟩, q⟩
      · cases h
    · cases h
  | _ => cases h
theorem de_get (hr : Room k X.A) (ho : DE X o w) (ha : DA X (e :: es) ws) (hbase : attributeBase o "get" X.env (eval o X.env) = eval o X.env := by rfl) (hline : (apos.endLine == cpos.line) = true := by rfl)
    (hfew : ((backTo cpos (starEach (e :: es) X.env)).all (fun x => !x.1) && (backToKw cpos (keywordEach [] X.env)).all (fun x => x.1.isSome) && decide ((e :: es).length + ([] : List Keyword).length + (if ([] : List Keyword).isEmpty then 0 else 1) < 30)) = true := by rfl)
    (hs : starEach (e :: es) X.env = (false, eval e X.env) :: starEach es X.env := by rfl) (hplain : (backTo cpos (starEach es X.env)).any (·.1) = false := by rfl) : DE X (.Call (.Attribute o "get" apos) (e :: es) [] cpos) (wM D.get1 w ws) :=
  pe_imp (pe_mg PySem.F.plainAttrs_dict PySem.F.slot_dict_get PySem.F.type_dict_get tyD_is (mt_getDD (room64 hr)) ho ha hbase hline hfew hs hplain) fun σ H Q ⟨e, K, r, k, q⟩ =>
    ⟨e, _, r, k, fun d e1 x H1 ⟨⟨ks, vs, hd⟩, k1⟩ a1 i1 r1 => ⟨by
      obtain ⟨a, ea, hdd⟩ := repL_dct (.inl (by rw [hd] at r1; exact r1))
      exact ⟨a, ks, vs, ea, hdd⟩, e1, _, i1, k1, fun ds e2 xs H2 ⟨z, hz, k2⟩ a2 i2 r2 => getDD_ok (.inl (r1.mono a2.stab d x)) r2 hz fun v rv => q z e2 v H2 k2 (a1.trans a2) i2 rv⟩⟩
theorem de_getO (hr : Room k X.A) (i : Nat) {y : Str} (ha : DA X (e :: es) ws) (hN : X.N[i]? = some y := by rfl) (hv : Vis X.env.scope y := by first | exact Or.inl rfl | exact Or.inr (Or.inl rfl) | exact Or.inr (Or.inr rfl)) (hd : (y == ("__debug__" : Str)) = false := by decide)
    (hcd : (y == ("__classdict__" : Str)) = false := by decide) (hbase : attributeBase (.Name y p) "get" X.env (eval (.Name y p) X.env) = eval (.Name y p) X.env := by rfl) (hline : (apos.endLine == cpos.line) = true := by rfl)
    (hfew : ((backTo cpos (starEach (e :: es) X.env)).all (fun x => !x.1) && (backToKw cpos (keywordEach [] X.env)).all (fun x => x.1.isSome) && decide ((e :: es).length + ([] : List Keyword).length + (if ([] : List Keyword).isEmpty then 0 else 1) < 30)) = true := by rfl)
    (hs : starEach (e :: es) X.env = (false, eval e X.env) :: starEach es X.env := by rfl) (hplain : (backTo cpos (starEach es X.env)).any (·.1) = false := by rfl) : DE X (.Call (.Attribute (.Name y p) "get" apos) (e :: es) [] cpos) (wMO i D.get1 ws) :=
  pe_imp (pe_mg PySem.F.plainAttrs_dict PySem.F.slot_dict_get PySem.F.type_dict_get tyD_is (mt_getDD (room64 hr)) (pe_var hN hv hd hcd) ha hbase hline hfew hs hplain) fun σ H Q ⟨e, K, r, ⟨⟨ks, vs, h0⟩, k⟩, q⟩ => by
    obtain ⟨x, hx, rx⟩ := r.dat h0
    refine ⟨x, hx, ?_, e, _, r, k, fun ds e2 xs H2 ⟨d, hd, z, hz, k2⟩ a2 i2 r2 => ?_⟩
    · obtain ⟨a, ea, hdd⟩ := repL_dct rx
      exact ⟨a, ks, vs, ea, hdd⟩
    · obtain ⟨x', hx', rx'⟩ := i2.dat hd
      rw [hx] at hx'
      cases hx'
      exact getDD_ok rx' r2 hz fun v rv => q z e2 v H2 k2 a2 i2 rv

/-! ### lists that change -/
def owned (o : Option S) : Option D := match o with
  | some (.ow d) => some d
  | _ => none
theorem owned_some {o : Option S} {d : D} (h : owned o = some d) : o = some (.ow d) := by
  cases o with
  | none => cases h
  | some x =>
    cases x with
    | ow d' => cases h; rfl
    | _ => cases h
/-- name.m(..) on an own list: what it answers, what the list then is -/
def wLM (i : Nat) (f : List D → List D → Option (D × List D)) (ws : WA) : WE := fun e K => (∃ ds, owned e.sl[i]? = some (.lst ds)) ∧ ws e fun xs e1 => ∃ ds, owned e1.sl[i]? = some (.lst ds) ∧ ∃ z ds', f ds xs = some (z, ds') ∧ K z (e1.put i (.ow (.lst ds')))
def LM (X : Cx) (r : V → List V → Hp → VK → Prop) (f : List D → List D → Option (D × List D)) : Prop := ∀ (H : Hp) (l : Addr) (xs ys : List V) (ds es ds' : List D) (z : D) (Q : VK), H l = some (.lst xs) → Reps (gx X) H ds xs → Reps (gx X) H es ys → f ds es = some (z, ds') →
  (∀ v xs', Rep (gx X) H z v → Reps (gx X) H ds' xs' → Q v (upd H l (.lst xs'))) → r (.ref l) ys H Q
theorem up_lm {r : V → List V → Hp → VK → Prop} {f : List D → List D → Option (D × List D)} {i : Nat} (o : LM X r f) : ∀ σ H Q, up (gx X) (wLM i f ws) σ H Q → tMG tyL r (tVar i) (upA (gx X) ws) σ H Q := fun σ H Q ⟨e, K, i0, ⟨⟨ds0, h0⟩, k⟩, q⟩ => by
  obtain ⟨l, hl, xs0, hx0, _⟩ := i0.ow i _ (owned_some h0)
  refine ⟨.ref l, hl, ⟨l, xs0, rfl, .inl hx0⟩, e, _, i0, k, fun es e1 ys H1 ⟨ds, hd, z, ds', hf, k1⟩ a1 i1 r1 => ?_⟩
  obtain ⟨l', hl', xs, hx, rs⟩ := i1.ow i _ (owned_some hd)
  rw [hl] at hl'
  cases hl'
  refine o H1 l xs ys ds es ds' z Q hx rs r1 hf fun v xs' rv rs' => ?_
  obtain ⟨J, A⟩ := i1.write (owned_some hd) hl (u' := .lst xs') (d' := .lst ds') (fun _ z => nomatch z) fun st => ⟨xs', upd_same, rs'.mono st ds' xs'⟩
  exact q z _ v _ k1 (a1.trans A) J (rv.mono A.stab z v)
theorem de_lm {r : V → List V → Hp → VK → Prop} {f : List D → List D → Option (D × List D)} (slot : Slot "list" name id) (hty : typeOf (.builtin id) = pure (.type "method_descriptor")) (hm : MtR X id r) (o : LM X r f) (i : Nat) {y : Str} (ha : DA X (e :: es) ws)
    (hN : X.N[i]? = some y := by rfl) (hv : Vis X.env.scope y := by first | exact Or.inl rfl | exact Or.inr (Or.inl rfl) | exact Or.inr (Or.inr rfl)) (hd : (y == ("__debug__" : Str)) = false := by decide)
    (hcd : (y == ("__classdict__" : Str)) = false := by decide) (hbase : attributeBase (.Name y p) name X.env (eval (.Name y p) X.env) = eval (.Name y p) X.env := by rfl) (hline : (apos.endLine == cpos.line) = true := by rfl)
    (hfew : ((backTo cpos (starEach (e :: es) X.env)).all (fun x => !x.1) && (backToKw cpos (keywordEach [] X.env)).all (fun x => x.1.isSome) && decide ((e :: es).length + ([] : List Keyword).length + (if ([] : List Keyword).isEmpty then 0 else 1) < 30)) = true := by rfl)
    (hs : starEach (e :: es) X.env = (false, eval e X.env) :: starEach es X.env := by rfl) (hplain : (backTo cpos (starEach es X.env)).any (·.1) = false := by rfl) : DE X (.Call (.Attribute (.Name y p) name apos) (e :: es) [] cpos) (wLM i f ws) :=
  pe_imp (pe_mg PySem.F.plainAttrs_list slot hty tyL_is hm (pe_var hN hv hd hcd) ha hbase hline hfew hs hplain) (up_lm o)
def lmApp : List D → List D → Option (D × List D)
  | ds, [x] => if ds.length < sizeLine then some (.non, ds ++ [x]) else none
  | _, _ => none
theorem lm_app : LM X rAppend lmApp := fun H l xs ys ds es ds' z Q hl rs re h q => by
  rcases es with _ | ⟨x, _ | ⟨_, _⟩⟩
  · cases h
  · simp only [lmApp] at h
    split at h
    · rename_i hz
      cases h
      obtain ⟨y, rfl, ry⟩ := reps_one re
      exact ⟨l, xs, y, rfl, rfl, hl, by rw [rs.length]; exact hz, q .non _ rfl (rs.append (.one ry))⟩
    · cases h
  · cases h
def lmPop : List D → List D → Option (D × List D)
  | ds, [.int i] => if -(2 ^ 63) ≤ i ∧ i < 2 ^ 63 then (seqIndex? i ds.length).bind fun k => ds[k]?.map fun x => (x, ds.eraseIdx k) else none
  | _, _ => none
theorem reps_erase {g : Gx} {H : Hp} : ∀ {ds : List D} {xs : List V} (k : Nat), Reps g H ds xs → Reps g H (ds.eraseIdx k) (xs.eraseIdx k)
  | [], _, _, h => by rw [show _ = _ from h]; exact (rfl : ([] : List V) = [])
  | _ :: _, _, 0, ⟨_, vs, e, _, rs⟩ => by rw [e]; exact rs
  | _ :: _, _, k + 1, ⟨v, vs, e, r, rs⟩ => ⟨v, vs.eraseIdx k, by rw [e]; rfl, r, reps_erase k rs⟩
theorem lm_pop : LM X rPopAt lmPop := fun H l xs ys ds es ds' z Q hl rs re h q => by
  rcases es with _ | ⟨x, _ | ⟨_, _⟩⟩
  · cases h
  · cases x with
    | int i =>
      simp only [lmPop] at h
      split at h
      · rename_i hb
        obtain ⟨k, hk, h⟩ := Option.bind_eq_some_iff.mp h
        obtain ⟨x, hx, h⟩ := Option.map_eq_some_iff.mp h
        cases h
        obtain ⟨y, rfl, ry⟩ := reps_one re
        rw [show y = _ from ry]
        obtain ⟨v, hv, rv⟩ := rs.get hx
        exact ⟨l, xs, i, k, v, rfl, rfl, hl, hb.1, hb.2, by rw [rs.length]; exact hk, hv, q v _ rv (reps_erase k rs)⟩
      · cases h
    | _ => cases h
  · cases x <;> cases h
def rExtendL : V → List V → Hp → VK → Prop := fun x vs H Q => ∃ l b xs zs, x = .ref l ∧ vs = [.ref b] ∧ H l = some (.lst xs) ∧ LRd H b zs ∧ xs.length + zs.length ≤ sizeLine ∧ Q .non (upd H l (.lst (xs ++ zs)))
theorem mt_extendL : MtR X "list.extend" rExtendL := by
  intro pins s σ H x vs v us Q I rx rv h
  obtain ⟨l, b, xs, zs, rfl, rfl, hH, hB, hz, q⟩ := h
  cases rx
  obtain ⟨u, rfl, ru⟩ := rv.one
  cases ru
  obtain ⟨z, its, n, r, hl, e⟩ := I.lstM hH
  obtain ⟨z2, its2, n2, r2, hl2, e2⟩ := Inv.lrd I hB
  have hsz : its.toArray.size + its2.toArray.size ≤ sizeLine := by simp only [List.size_toArray]; omega
  have hlong : ¬ (!its.toArray.isEmpty && Builtin.List.listTooLong (its.toArray.size + its2.toArray.size)) = true := by
    rw [notLongL hsz, Bool.and_false]; simp
  refine call_meets F.slot_list_extend ⟨_, e, rfl⟩ F.entry_list_extend (F.args_list_extend_2 _ _) (AutoSeq1.list_extend_list_list_0 l its.toArray n b its2.toArray n2 hlong (by simp only [List.size_toArray]; omega) (by omega)) ⟨e, e2, .non, _, I.lset (its' := its ++ its2) hH e (by simp) (r.append r2) (by rw [List.length_append]; omega), rfl, q⟩
def lmExt : List D → List D → Option (D × List D)
  | ds, [.lst es] => if ds.length + es.length ≤ sizeLine then some (.non, ds ++ es) else none
  | _, _ => none
theorem lm_ext : LM X rExtendL lmExt := fun H l xs ys ds es ds' z Q hl rs re h q => by
  rcases es with _ | ⟨x, _ | ⟨_, _⟩⟩
  · cases h
  · cases x with
    | lst es =>
      simp only [lmExt] at h
      split at h
      · rename_i hz
        cases h
        obtain ⟨y, rfl, b, zs, rfl, hb, rz⟩ := reps_one re
        exact ⟨l, b, xs, zs, rfl, rfl, hl, .inr hb, by rw [rs.length, rz.length]; exact hz, q .non _ rfl (rs.append rz)⟩
      · cases h
    | _ => cases h
  · cases x <;> cases h
end
end DL
/-! DL, part m: d[k] = v, displays of dicts, list(), tuple(), int(), str(), isinstance. -/
namespace DL
open PySem PySem.Spec L2
section
variable {X : Cx} {o e a b c f : Expr} {es : List Expr} {pos p apos cpos tpos : Pos} {w wa wb wc : WE} {ws : WA} {k : Nat} {T id : String} {name : Str}
/-! ### d[k] = v -/
def rSetDD (g : Gx) : TSet := fun o i v H Q => ∃ a es kvs vvs ks vs k dv, o = .ref a ∧ H a = some (dictO a es) ∧ ((a == sysModules) = false ∧ KsOk ks) ∧ Entz g.w ks kvs vvs es.toList ∧ Reps g H ks kvs ∧ Reps g H vs vvs ∧ kok ks k = true ∧ ks.length ≤ sizeLine ∧
  Rep g H k i ∧ Rep g H dv v ∧ ∀ es', PutE g H ks vs k dv es' → Q (upd H a (dictO a es'))
theorem pset_DD (hu : X.A.units + 64 < cLine) : PSet X (rSetDD (gx X)) := by
  intro pins s σ H o i v ov iv u Q I ro ri rv h
  obtain ⟨a, es, kvs, vvs, ks, vs, k, dv, rfl, ha, ⟨low, K⟩, E, rk, rvs, hk, hz, r1, r2, q⟩ := h
  cases ro
  exact dd_setItem hu I ha K E rk rvs hk hz r1 ri r2 rv fun es' s' pe J => ⟨_, J, q es' pe⟩
/-- name[k] = .. of an own dict -/
def wgD (i : Nat) (wk : WE) : WG := fun v e K => (owned e.sl[i]?).isSome = true ∧ wk e fun k e1 => ∃ ks vs, owned e1.sl[i]? = some (.dct ks vs) ∧ kok ks k = true ∧ ks.length ≤ sizeLine ∧ K (e1.put i (.ow (.dct (dput ks vs k v).1 (dput ks vs k v).2)))
theorem dg_D (hr : Room k X.A) (i : Nat) {y : Str} (hk : DE X b wb) (hN : X.N[i]? = some y := by rfl) (hv : Vis X.env.scope y := by first | exact Or.inl rfl | exact Or.inr (Or.inl rfl) | exact Or.inr (Or.inr rfl)) (hd : (y == ("__debug__" : Str)) = false := by decide)
    (hcd : (y == ("__classdict__" : Str)) = false := by decide)
    (ha : ∀ v, assign (.Subscript (.Name y p) b pos) X.env v = (do
      let ov ← holding [v] (eval (.Name y p) X.env)
      let iv ← holding [v, ov] (eval b X.env)
      standAt pos
      holding [v, ov, iv] (setItem ov iv v)
      release [v, ov, iv] []) := by intro _; rfl) : DG X (.Subscript (.Name y p) b pos) (wgD i wb) :=
  pg_imp (pg_sub (pe_var hN hv hd hcd) hk (pset_DD (room64 hr)) ha) fun v σ H Q ⟨d, e, K, rd, r, ⟨hi, kk⟩, q⟩ => by
    obtain ⟨d0, h0⟩ := Option.isSome_iff_exists.mp hi
    obtain ⟨a, hs, _⟩ := r.ow i d0 (owned_some h0)
    refine ⟨.ref a, hs, e, _, r, kk, fun kd e1 kv H1 ⟨ks, vs, ho, hok, hz, k1⟩ a1 i1 r1 => ?_⟩
    obtain ⟨a', hs', es, kvs, vvs, hH, hlow, E, rk, rv⟩ := i1.ow i _ (owned_some ho)
    rw [hs] at hs'
    cases hs'
    refine ⟨a, es, kvs, vvs, ks, vs, kd, d, rfl, hH, hlow, E, rk, rv, hok, hz, r1, rd.mono a1.stab d v, fun es' ⟨kvs', vvs', E', rk', rv'⟩ => ?_⟩
    obtain ⟨J, A⟩ := i1.write (owned_some ho) hs (u' := dictO a es') (d' := .dct (dput ks vs kd d).1 (dput ks vs kd d).2) (fun _ z => nomatch z) fun st =>
      ⟨es', kvs', vvs', upd_same, ⟨hlow.1, dput_ok hlow.2 hok⟩, E', rk'.mono st _ _, rv'.mono st _ _⟩
    exact q _ σ _ k1 (a1.trans A) J

/-! ### {} and {k: v, ..} -/
theorem dictO_new {h : Heap} {P : Program} {w : World} {H : Hp} : ObjOk P w H (h.push { cls := .type "dict", data := .dict #[] }) h.objs.size (dictO h.objs.size #[]) :=
  ⟨⟨0, _, Heap.get?_push_size _ rfl, ⟨rfl, rfl, rfl⟩, rfl⟩, ⟨_, Heap.get?_push_size _ rfl⟩, fun h1 h2 ⟨e1, z⟩ k => ⟨e1, z.at k⟩⟩
theorem big_low {pins : List (Addr × Obj)} {σ : L2.St} {H : Hp} {s : Shared} (I : Inv X pins σ H s) : (s.heap.objs.size == sysModules) = false := beq_eq_false_iff_ne.mpr (Ne.symm (Nat.ne_of_lt I.big))
theorem ks_nil : KsOk [] := ⟨List.nodup_nil, .inl rfl⟩
def wDct0 : WE := fun e K => K (.dct [] []) e
theorem dn_dct0 : DN X (.Dict [] [] pos) wDct0 := ⟨fun pins s σ H Q I ⟨e, K, r, k, q⟩ => by
  have hp := I.hok.fresh (Nat.le_refl s.heap.objs.size)
  have gr : Grow H (upd H s.heap.objs.size (dictO s.heap.objs.size #[])) := .new hp fun z => z
  exact wpAny_Dict_empty ⟨.ref s.heap.objs.size, _, I.laid (t' := s.toks) (fun _ _ q => Heap.get?_push_of_some _ q) (Nat.le_refl _) dictO_new, rfl,
    q _ e _ _ k (.grow gr) (r.grow gr) ⟨#[], [], [], upd_same, ⟨big_low I, ks_nil⟩, ⟨rfl, rfl, rfl⟩, rfl, rfl⟩ hp (not_own r hp)⟩⟩

/-! ### list(x), tuple(x) -/
def rListDD (g : Gx) : List V → Hp → VK → Prop := fun xs H Q => ∃ a ks vs, xs = [.ref a] ∧ DD g H a ks vs ∧ ks.length ≤ sizeLine ∧ ∀ q ys, H q = none → Reps g H ks ys → Q (.ref q) (upd H q (.lst ys))
theorem ent_vals {w : World} : ∀ {ks : List D} {kvs vvs : List V} {es : List DictEntry}, Entz w ks kvs vvs es → Vals kvs (es.map (·.key)) ∧ Vals vvs (es.map (·.val))
  | [], _, _, _, ⟨h1, h2, h3⟩ => by subst h1 h2 h3; exact ⟨.nil, .nil⟩
  | _ :: _, _, _, _, ⟨_, _, _, _, _, _, _, h1, h2, h3, _, _, h6, h7, r⟩ => by
    subst h1 h2 h3
    obtain ⟨q1, q2⟩ := ent_vals r
    exact ⟨.cons h6 q1, .cons h7 q2⟩
theorem call_listDD (hc : X.calm = true) : CallR X (.type "list") (rListDD (gx X)) := by
  intro pins s σ H xs us Q I r h
  obtain ⟨a, ks, vs, rfl, ⟨es, kvs, vvs, hr, ⟨low, K⟩, E, rk, rv⟩, hz, q⟩ := h
  obtain ⟨u, rfl, ru⟩ := vals1 r
  cases ru
  obtain ⟨ep, ob, ho, hx, hd⟩ := dd_raw I hr
  obtain ⟨l1, l2, l3⟩ := ent_len E
  have hsz : es.size = ks.length := by rw [← Array.length_toList]; exact l3
  refine PySem.W.kdl_call (kdl_raw low hx hd) (I.ok.hd hc) ho (by rw [hsz]; exact hz) fun h' tk acc' c' hkeep hS hacc => ?_
  have hl : acc'.toList = es.toList.map (·.key) := by
    refine List.ext_getElem? fun j => ?_
    rw [List.getElem?_map, Array.getElem?_toList, Array.getElem?_toList]
    cases hj : acc'[j]? with
    | some w =>
      obtain ⟨en, h1, h2⟩ := hacc.2 j w hj
      rw [h1, h2]; rfl
    | none =>
      have h1 : acc'.size ≤ j := Array.getElem?_eq_none_iff.mp hj
      rw [hacc.1] at h1
      rw [Array.getElem?_eq_none_iff.mpr h1]; rfl
  have hv : Vals kvs acc'.toList := by rw [hl]; exact (ent_vals E).1
  exact ⟨.ref s.heap.objs.size, _, I.laid (o := .lst kvs) hkeep (Nat.le_refl _) ⟨by rw [l1]; exact hz, acc'.toList, c', hv, by rw [Array.toArray_toList]; exact hS⟩, rfl, q _ _ (I.hok.fresh (Nat.le_refl _)) rk⟩
def D.list1 : D → Option D
  | .lst ds => some (.lst ds)
  | .tup ds => some (.lst ds)
  | .dct ks _ => if ks.length ≤ sizeLine then some (.lst ks) else none
  | _ => none
def rListD' (g : Gx) : List V → Hp → VK → Prop := fun xs H Q => (∃ p ys, xs = [.ref p] ∧ (SqL g.K H p ys ∨ SqT g.K H p ys) ∧ ∀ l, H l = none → Q (.ref l) (upd H l (.lst ys))) ∨ rListDD g xs H Q
theorem list1_ok {g : Gx} : OpAN g (rListD' g) D.list1 := fun H x dx z Q rx h q => by
  cases dx with
  | tup ds =>
    cases h
    obtain ⟨a, xs, rfl, hx, rs⟩ := repL_tup rx
    refine .inl ⟨a, xs, rfl, .inr hx, fun l hl => ?_⟩
    obtain ⟨gr, c⟩ := laid_lst (g := g) hl rs
    exact q l _ hl gr c
  | lst ds =>
    cases h
    obtain ⟨a, xs, rfl, hx, rs⟩ := repL_lst rx
    refine .inl ⟨a, xs, rfl, .inl hx.sq, fun l hl => ?_⟩
    obtain ⟨gr, c⟩ := laid_lst (g := g) hl rs
    exact q l _ hl gr c
  | dct ks vs =>
    simp only [D.list1] at h
    split at h
    · rename_i hz
      cases h
      obtain ⟨a, rfl, hd⟩ := repL_dct rx
      refine .inr ⟨a, ks, vs, rfl, hd, hz, fun l ys hl rs => ?_⟩
      obtain ⟨gr, c⟩ := laid_lst (g := g) hl rs
      exact q l _ hl gr c
    · cases h
  | _ => cases h
theorem dn_list (hm : X.mg "list" = none) (ha : DQ X e w) (hc : X.calm = true := by rfl) (hg : Gl X "list" := by rfl) (he : starEach [e] X.env = (false, eval e X.env) :: starEach [] X.env := by rfl) (hpl : (backTo pos (starEach [] X.env)).any (·.1) = false := by rfl) : DN X (.Call (.Name "list" p) [e] [] pos) (w1 D.list1 w) :=
  dn_T1 (call_list_of.or (call_listDD hc)) list1_ok hm ha hg (by decide +kernel) (by decide) (by decide) he hpl
def D.tup1 : D → Option D
  | .lst ds => some (.tup ds)
  | .tup ds => some (.tup ds)
  | _ => none
theorem tup1_ok {g : Gx} : OpAL g (fun xs H Q => ∃ p ys, xs = [.ref p] ∧ ((SqL g.K H p ys ∧ ∀ l, H l = none → Q (.ref l) (upd H l (.tup ys))) ∨ (SqT g.K H p ys ∧ Q (.ref p) H))) D.tup1 := fun H x dx z Q rx h q => by
  cases dx with
  | tup ds =>
    cases h
    obtain ⟨a, xs, rfl, hx, rs⟩ := repL_tup rx
    exact ⟨a, xs, rfl, .inr ⟨hx, q _ H (.refl H) (.inl ⟨a, xs, rfl, hx, rs⟩)⟩⟩
  | lst ds =>
    cases h
    obtain ⟨a, xs, rfl, hx, rs⟩ := repL_lst rx
    refine ⟨a, xs, rfl, .inl ⟨hx.sq, fun l hl => ?_⟩⟩
    obtain ⟨gr, rp⟩ := laid_tup (g := g) hl rs
    exact q _ _ gr (.inl rp)
  | _ => cases h
theorem de_tuple (hm : X.mg "tuple" = none) (ha : DQ X e w) (hg : Gl X "tuple" := by rfl) (he : starEach [e] X.env = (false, eval e X.env) :: starEach [] X.env := by rfl) (hpl : (backTo pos (starEach [] X.env)).any (·.1) = false := by rfl) : DE X (.Call (.Name "tuple" p) [e] [] pos) (w1 D.tup1 w) :=
  de_T1 call_tuple_of tup1_ok hm ha hg (by decide +kernel) (by decide) (by decide) he hpl
def D.str1 : D → Option D
  | .int i => if i.natAbs.log2 < 1920 then some (.str (toString i)) else none
  | .str x => some (.str x)
  | _ => none
theorem str1_ok {g : Gx} : OpAL g (fun xs H Q => (∃ i, xs = [V.int i] ∧ i.natAbs.log2 < 1920 ∧ Q (.str (toString i)) H) ∨ ∃ a, xs = [V.str a] ∧ Q (.str a) H) D.str1 := fun H x dx z Q rx h q => by
  cases dx with
  | int i =>
    simp only [D.str1] at h
    split at h
    · rename_i hl
      cases h
      rw [repL_flat rfl rx]
      exact .inl ⟨i, rfl, hl, q _ H (.refl H) (.inl rfl)⟩
    · cases h
  | str y =>
    cases h
    rw [repL_flat rfl rx]
    exact .inr ⟨y, rfl, q _ H (.refl H) (.inl rfl)⟩
  | _ => cases h
theorem de_str1 (hm : X.mg "str" = none) (ha : DQ X e w) (hg : Gl X "str" := by rfl) (he : starEach [e] X.env = (false, eval e X.env) :: starEach [] X.env := by rfl) (hpl : (backTo pos (starEach [] X.env)).any (·.1) = false := by rfl) : DE X (.Call (.Name "str" p) [e] [] pos) (w1 D.str1 w) :=
  de_T1 (call_str_int.or SkE.call_str_str) str1_ok hm ha hg (by decide +kernel) (by decide) (by decide) he hpl
def D.int1 : D → Option D
  | .int i => some (.int i)
  | .bl b => some (.int (if b then 1 else 0))
  | _ => none
theorem int1_ok {g : Gx} : OpAL g (fun xs H Q => (∃ i, xs = [V.int i] ∧ Q (.int i) H) ∨ ∃ k, xs = [V.bl k] ∧ Q (.int (if k then 1 else 0)) H) D.int1 := fun H x dx z Q rx h q => by
  cases dx with
  | int i =>
    cases h
    rw [repL_flat rfl rx]
    exact .inl ⟨i, rfl, q _ H (.refl H) (.inl rfl)⟩
  | bl y =>
    cases h
    rw [repL_flat rfl rx]
    exact .inr ⟨y, rfl, q _ H (.refl H) (.inl rfl)⟩
  | _ => cases h
theorem de_int1 (hm : X.mg "int" = none) (ha : DQ X e w) (hg : Gl X "int" := by rfl) (he : starEach [e] X.env = (false, eval e X.env) :: starEach [] X.env := by rfl) (hpl : (backTo pos (starEach [] X.env)).any (·.1) = false := by rfl) : DE X (.Call (.Name "int" p) [e] [] pos) (w1 D.int1 w) :=
  de_T1 call_int1 int1_ok hm ha hg (by decide +kernel) (by decide) (by decide) he hpl

/-! ### isinstance -/
/-- the type of a datum -/
def D.ty : D → Option Value
  | .non => some (.type "NoneType")
  | .bl _ => some (.type "bool")
  | .int _ => some (.type "int")
  | .str _ => some (.type "str")
  | .tup _ => some (.type "tuple")
  | .lst _ => some (.type "list")
  | .dct _ _ => some (.type "dict")
  | .obj C _ _ => some (.ref C)
  | _ => none
/-- what of the text a class must have that isinstance can be asked -/
structure ClI (K : PySem.W.Frag) (C : Addr) : Prop where
  pg : PySem.W.plainGet K C "__class__" = true
  hd : PySem.W.hasDictIn K C = true
  ha : PySem.W.findIn K (.ref C) "__class__" = some (some (.builtin "object.__class__"))
  hn : PySem.W.specialIn K (.builtin "object.__class__") "__get__" = some (some (.builtin "getset_descriptor.__get__"))
  htk : PySem.W.takesIn K (.builtin "object.__class__") = some true
  hm : PySem.W.mroIn K C (.type "object") = some true
theorem kit_D {pins : List (Addr × Obj)} {σ : L2.St} {H : Hp} {s : Shared} {d : D} {x : V} {u t : Value} (I : Inv X pins σ H s) (rx : RepL (gx X) H d x) (ru : RelV x u) (ht : d.ty = some t) (hC : ∀ C, t = .ref C → ClI X.K C) :
    ∃ P : Heap → Prop, PySem.W.KitX X.K u t P ∧ P s.heap ∧ u ≠ .builtin "__main__.__loader__#opaque" := by
  cases d with
  | non => cases ht; rw [repL_flat rfl rx] at ru; cases (show u = Value.none from ru); exact ⟨_, PySem.W.kitx_none, True.intro, fun z => nomatch z⟩
  | bl y => cases ht; rw [repL_flat rfl rx] at ru; cases (show u = Value.bool y from ru); exact ⟨_, PySem.W.kitx_bool, True.intro, fun z => nomatch z⟩
  | int i => cases ht; rw [repL_flat rfl rx] at ru; obtain ⟨t, q⟩ := (show ∃ t, u = Value.int i t from ru); cases q; exact ⟨_, PySem.W.kitx_int, True.intro, fun z => nomatch z⟩
  | str y => cases ht; rw [repL_flat rfl rx] at ru; obtain ⟨t, q⟩ := (show ∃ t, u = Value.str y t from ru); cases q; exact ⟨_, PySem.W.kitx_str, True.intro, fun z => nomatch z⟩
  | tup ds =>
    cases ht
    obtain ⟨a, xs, rfl, hx, rs⟩ := repL_tup rx
    cases (show u = Value.ref a from ru)
    obtain ⟨its, _, ⟨o, h1, h2, _⟩, _⟩ := I.tuple hx
    exact ⟨_, PySem.W.kitx_tuple, ⟨o, h1, h2⟩, fun z => nomatch z⟩
  | lst ds =>
    cases ht
    obtain ⟨a, xs, rfl, hx, rs⟩ := repL_lst rx
    cases (show u = Value.ref a from ru)
    obtain ⟨_, its, n, _, _, h1⟩ := Inv.lrd I hx
    exact ⟨_, PySem.W.kitx_list, ⟨_, h1, rfl⟩, fun z => nomatch z⟩
  | dct ks vs =>
    cases ht
    obtain ⟨a, rfl, hd⟩ := repL_dct rx
    cases (show u = Value.ref a from ru)
    obtain ⟨es, ep, ⟨o, h1, h2, _⟩, _⟩ := hd.raw I
    exact ⟨_, PySem.W.kitx_dict, ⟨o, h1, h2.1⟩, fun z => nomatch z⟩
  | obj C ns ds =>
    cases ht
    have c := hC C rfl
    rcases rx with ⟨a, dx, mA, us, rfl, ⟨o1, q1⟩, ⟨o2, q2⟩, ne, _⟩ | ⟨a, rfl, dx, fs, q, _⟩
    · cases (show u = Value.ref a from ru)
      have z1 : ObjOk X.prog X.w H s.heap a (.frz o1 (insO a C dx)) := I.hok a _ q1
      have z2 : ObjOk X.prog X.w H s.heap dx (.frz o2 (nsO dx mA)) := I.hok dx _ q2
      have O : ObjM s.heap a dx C mA := ⟨z1.2.1, z2.2.1, ne⟩
      obtain ⟨od, J, _⟩ := O.look
      exact ⟨_, PySem.W.kitx_own c.pg c.hd c.ha c.hn c.htk c.hm, J, fun z => nomatch z⟩
    · cases (show u = Value.ref a from ru)
      obtain ⟨mA, O, _⟩ := ins_get I.hok q
      obtain ⟨od, J, _⟩ := O.look
      exact ⟨_, PySem.W.kitx_own c.pg c.hd c.ha c.hn c.htk c.hm, J, fun z => nomatch z⟩
  | _ => cases ht
/-- isinstance(e, (c1, ..)) by a table -/
structure IsT (X : Cx) (cs : List Value) (tab : Value → Option Bool) : Prop where
  ok : ∀ t b, tab t = some b → PySem.W.kitAny X.K t cs = some b ∧ ∀ C, t = .ref C → ClI X.K C
def D.isI (tab : Value → Option Bool) (d : D) : Option D := (d.ty.bind tab).map .bl
theorem RepL.grow {g : Gx} {H H' : Hp} {d : D} {v : V} (gr : Grow H H') (r : RepL g H d v) : RepL g H' d v := r.elim (fun r => .inl (r.mono gr.stab d v)) fun ⟨a, e, c⟩ => .inr ⟨a, e, c.keep gr.stab fun o q => gr.keep _ o q⟩
def rIs1 (g : Gx) (cv : V) (tab : Value → Option Bool) : List V → Hp → VK → Prop := fun xs H Q => ∃ x d b, xs = [x, cv] ∧ RepL g H d x ∧ d.ty.bind tab = some b ∧ Q (.bl b) H
theorem call_is1 {cv : V} {cu : Value} {tab : Value → Option Bool} (hcv : ClsV cv cu) (T : IsT X [cu] tab) : CallR X (.builtin "isinstance") (rIs1 (gx X) cv tab) := by
  intro pins s σ H xs us Q I r h
  obtain ⟨x, d, b, rfl, rx, hb, q⟩ := h
  obtain ⟨u1, u2, rfl, r1, r2⟩ := vals2 r
  have e2 := hcv.eq r2
  subst e2
  obtain ⟨t, ht, hb⟩ := Option.bind_eq_some_iff.mp hb
  obtain ⟨h1, h2⟩ := T.ok t b hb
  obtain ⟨P, Z, pp, hx⟩ := kit_D I rx r1 ht h2
  refine PySem.W.kia_one Z I.kIn pp (b := b) ?_ hx fun tk => ⟨.bl b, H, I.tok tk, rfl, q⟩
  unfold PySem.W.kitAny at h1
  cases ho : PySem.W.kitOne X.K t u2 with
  | none => rw [ho] at h1; cases h1
  | some c =>
    rw [ho] at h1
    cases c with
    | true => exact h1
    | false => cases h1; rfl
theorem de_is1 {ce : Expr} {cv : V} {cu : Value} {tab : Value → Option Bool} (hm : X.mg "isinstance" = none) (hcv : ClsV cv cu) (T : IsT X [cu] tab) (ha : DQ X e w) (hce : PE X ce (tC cv)) (hg : Gl X "isinstance" := by rfl) (he : starEach [e, ce] X.env = (false, eval e X.env) :: starEach [ce] X.env := by rfl)
    (he2 : starEach [ce] X.env = (false, eval ce X.env) :: starEach [] X.env := by rfl) (hpl : (backTo pos (starEach [ce] X.env)).any (·.1) = false := by rfl) : DE X (.Call (.Name "isinstance" p) [e, ce] [] pos) (w1 (D.isI tab) w) :=
  pe_imp (pe_callB (call_is1 hcv T) hg hm (by decide +kernel) (pa_cons ha (pa_one hce he2) he) (by decide) (by decide) he hpl) fun σ H Q ⟨e, K, r, k, q⟩ =>
    ⟨e, _, r, k, fun d e1 x H1 ⟨z, hz, k1⟩ a1 i1 r1 => by
      obtain ⟨b, hb, rfl⟩ := Option.map_eq_some_iff.mp hz
      exact ⟨x, d, b, rfl, r1, hb, q (.bl b) e1 (.bl b) H1 k1 a1 i1 rfl⟩⟩
def rIsN (g : Gx) (cvs : List V) (tab : Value → Option Bool) : List V → Hp → VK → Prop := fun xs H Q => ∃ x tp d b, xs = [x, .ref tp] ∧ H tp = some (.tup cvs) ∧ RepL g H d x ∧ d.ty.bind tab = some b ∧ Q (.bl b) H
theorem call_isN {cvs : List V} {cus : List Value} {tab : Value → Option Bool} (hcv : Paired ClsV cvs cus) (T : IsT X cus tab) : CallR X (.builtin "isinstance") (rIsN (gx X) cvs tab) := by
  intro pins s σ H xs us Q I r h
  obtain ⟨x, tp, d, b, rfl, hT, rx, hb, q⟩ := h
  obtain ⟨u1, u2, rfl, r1, r2⟩ := vals2 r
  cases (show u2 = Value.ref tp from r2)
  obtain ⟨t, ht, hb⟩ := Option.bind_eq_some_iff.mp hb
  obtain ⟨h1, h2⟩ := T.ok t b hb
  obtain ⟨P, Z, pp, hx⟩ := kit_D I rx r1 ht h2
  obtain ⟨_, its, rv, ob, g1, g2, n, g3⟩ := (show ObjOk X.prog X.w H s.heap tp (.tup cvs) from I.hok tp _ hT)
  have e3 := ClsV.all hcv rv
  subst e3
  obtain ⟨oc, od, dt, sl⟩ := ob
  simp only at g2 g3
  subst g2 g3
  exact PySem.W.kia_tup Z I.kIn pp g1 h1 hx fun tk => ⟨.bl b, H, I.tok tk, rfl, q⟩
theorem de_isN {ces : List Expr} {x1 : Nat} {cvs : List V} {cus : List Value} {tab : Value → Option Bool} (hm : X.mg "isinstance" = none) (hcv : Paired ClsV cvs cus) (T : IsT X cus tab) (ha : DQ X e w) (hce : PA X ces (fun _ H Q => Q cvs H)) (hz : cvs.length ≤ 100 := by decide) (hg : Gl X "isinstance" := by rfl)
    (he : starEach [e, .Tuple ces x1 tpos] X.env = (false, eval e X.env) :: starEach [.Tuple ces x1 tpos] X.env := by rfl) (he2 : starEach [.Tuple ces x1 tpos] X.env = (false, eval (.Tuple ces x1 tpos) X.env) :: starEach [] X.env := by rfl)
    (hpl : (backTo pos (starEach [.Tuple ces x1 tpos] X.env)).any (·.1) = false := by rfl) : DE X (.Call (.Name "isinstance" p) [e, .Tuple ces x1 tpos] [] pos) (w1 (D.isI tab) w) :=
  pe_imp (pe_callB (call_isN hcv T) hg hm (by decide +kernel) (pa_cons ha (pa_one (pe_tup hce) he2) he) (by decide) (by decide) he hpl) fun σ H Q ⟨e, K, r, k, q⟩ =>
    ⟨e, _, r, k, fun d e1 x H1 ⟨z, hz', k1⟩ a1 i1 r1 => by
      obtain ⟨b, hb, rfl⟩ := Option.map_eq_some_iff.mp hz'
      refine ⟨by rw [sizeLine_eq]; omega, fun tp htp => ?_⟩
      have gr : Grow H1 (upd H1 tp (.tup cvs)) := .new htp fun z => z
      exact ⟨x, tp, d, b, rfl, upd_same, r1.grow gr, hb, q (.bl b) e1 (.bl b) _ k1 (a1.trans (.grow gr)) (i1.grow gr) rfl⟩⟩
/-- the classes: built-in types -/
theorem pe_ty {x : Str} {n : String} (hm : X.mg x = none) (hv : bootBuiltins x = some (.type n) := by decide +kernel) (hg : Gl X x := by rfl) (hn : x ≠ "__name__" := by decide) (hd : (x == ("__debug__" : Str)) = false := by decide) : PE X (.Name x pos) (tC (.ty n)) := pe_bltn hg hm hv rfl hn hd
theorem pa_ty2 {ea eb : Expr} {va vb : V} (h1 : PE X ea (tC va)) (h2 : PE X eb (tC vb)) (hs1 : starEach [ea, eb] X.env = (false, eval ea X.env) :: starEach [eb] X.env := by rfl) (hs2 : starEach [eb] X.env = (false, eval eb X.env) :: starEach [] X.env := by rfl) :
    PA X [ea, eb] (fun _ H Q => Q [va, vb] H) := pa_imp (pa_cons h1 (pa_one h2 hs2) hs1) fun σ H Q h => h
def tyNames : List String := ["NoneType", "bool", "int", "str", "tuple", "list", "dict"]
def tabB (ts : List String) : Value → Option Bool
  | .type n => if tyNames.contains n then some (ts.any fun t => t == n || (t == "int" && n == "bool")) else none
  | _ => none
def kitAB (a : String) : List String → Option Bool
  | [] => some false
  | t :: ts => match kitB a t with
    | some true => some true
    | some false => kitAB a ts
    | none => none
theorem kitAny_ty {K : PySem.W.Frag} {a : String} : ∀ ts : List String, PySem.W.kitAny K (.type a) (ts.map Value.type) = kitAB a ts
  | [] => rfl
  | t :: ts => by
    rw [List.map_cons, PySem.W.kitAny, kitAB, kitAny_ty ts]
    rfl
theorem isT_ty {ts : List String} (h : (tyNames.all fun n => kitAB n ts == some (ts.any fun t => t == n || (t == "int" && n == "bool"))) = true := by decide +kernel) : IsT X (ts.map Value.type) (tabB ts) := ⟨fun t b q => by
  cases t with
  | type n =>
    simp only [tabB] at q
    split at q
    · rename_i hn
      cases q
      refine ⟨?_, fun C q => nomatch q⟩
      rw [kitAny_ty]
      exact eq_of_beq (List.all_eq_true.mp h n (List.contains_iff_mem.mp hn))
    · cases q
  | _ => cases q⟩
theorem isT_str : IsT X [.type "str"] (tabB ["str"]) := isT_ty (ts := ["str"])
theorem isT_tup : IsT X [.type "tuple"] (tabB ["tuple"]) := isT_ty (ts := ["tuple"])
theorem isT_int : IsT X [.type "int"] (tabB ["int"]) := isT_ty (ts := ["int"])
theorem isT_bool : IsT X [.type "bool"] (tabB ["bool"]) := isT_ty (ts := ["bool"])
theorem isT_tl : IsT X [.type "tuple", .type "list"] (tabB ["tuple", "list"]) := isT_ty (ts := ["tuple", "list"])
/-- a class of the module: of the built-in types' things none is of it -/
def tabC (C : Addr) : Value → Option Bool
  | .type n => if tyNames.contains n then some false else none
  | .ref c => if c = C then some true else none
  | _ => none
theorem isT_C {C : Addr} (c : ClI X.K C) (h : (tyNames.all fun n => PySem.W.kitOne X.K (.type n) (.ref C) == some false) = true) : IsT X [.ref C] (tabC C) := ⟨fun t b q => by
  cases t with
  | type n =>
    simp only [tabC] at q
    split at q
    · rename_i hn
      cases q
      refine ⟨?_, fun C q => nomatch q⟩
      rw [PySem.W.kitAny, eq_of_beq (List.all_eq_true.mp h n (List.contains_iff_mem.mp hn))]
      rfl
    · cases q
  | ref d =>
    simp only [tabC] at q
    split at q
    · rename_i hd
      subst hd
      cases q
      refine ⟨?_, fun C q => by cases q; exact c⟩
      have e : PySem.W.kitOne X.K (.ref d) (.ref d) = some true := by unfold PySem.W.kitOne; rw [if_pos (by simp)]
      rw [PySem.W.kitAny, e]
    · cases q
  | _ => cases q⟩
end
end DL
/-! DL, part n: what a loop goes through; list comprehensions. -/
namespace DL
open PySem PySem.Spec L2

/-! ### iterators by values -/
def IV (X : Cx) (tg : Expr) (r : V → Hp → (It → Hp → Prop) → Prop) : Prop := ∀ (pins : List (Addr × Obj)) (s : Shared) (σ : L2.St) (H : Hp) (x : V) (v : Value) (R : It → Hp → Prop), Inv X pins σ H s → RelV x v → r x H R →
  wpAny (model X.prog X.w) X.A (pyIter v) (PIE X pins σ tg R) X.xe s
def tIV (te : TE) (r : V → Hp → (It → Hp → Prop) → Prop) : TI := fun σ H R => te σ H fun x H1 => r x H1 R
section
variable {X : Cx} {tg e a b c : Expr} {es : List Expr} {pos p : Pos} {w wa wb wc : WE} {ws : WA} {k : Nat}
theorem pi_iv {te : TE} {r : V → Hp → (It → Hp → Prop) → Prop} (iv : IV X tg r) (he : PE X e te) : PI X tg e (tIV te r) := ⟨fun pins s σ H R I h => thn (he.run pins s σ H _ I h) fun v s1 ⟨x, H1, I1, r1, q1⟩ => iv pins s1 σ H1 x v R I1 r1 q1⟩
theorem IV.or {r r' : V → Hp → (It → Hp → Prop) → Prop} (h : IV X tg r) (h' : IV X tg r') : IV X tg (fun x H R => r x H R ∨ r' x H R) := by
  intro pins s σ H x v R I rx q
  rcases q with q | q
  · exact h pins s σ H x v R I rx q
  · exact h' pins s σ H x v R I rx q
def ivL (K : PySem.W.Frag) : V → Hp → (It → Hp → Prop) → Prop := fun x H R => ∃ a xs, x = .ref a ∧ SqL K H a xs ∧ R (Itl K a) H
def ivT (K : PySem.W.Frag) : V → Hp → (It → Hp → Prop) → Prop := fun x H R => ∃ a xs, x = .ref a ∧ SqT K H a xs ∧ R (Itt K a) H
def ivS : V → Hp → (It → Hp → Prop) → Prop := fun x H R => ∃ t, x = .str t ∧ R (Its t) H
theorem iv_list : IV X tg (ivL X.K) := fun pins s σ H x v R I rx ⟨a, xs, e, hq, q⟩ => by
  subst e
  cases rx
  obtain ⟨its, rv, pl, hz⟩ := I.list hq
  exact wpAny_pyIter_list pl.isList (pi_one (tk := s.toks) I _ (turn_list a _) ⟨_, Heap.get?_push_size _ rfl, rfl, rfl⟩ q)
theorem iv_tup : IV X tg (ivT X.K) := fun pins s σ H x v R I rx ⟨a, xs, e, hq, q⟩ => by
  subst e
  cases rx
  obtain ⟨its, rv, pl, hz⟩ := I.tuple hq
  exact wpAny_pyIter_tuple (show s.heap.IsTuple a its.toArray from pl) (pi_one (tk := s.toks) I _ (turn_tuple a _) ⟨_, Heap.get?_push_size _ rfl, rfl, rfl⟩ q)
theorem iv_str : IV X tg ivS := fun pins s σ H x v R I rx ⟨t, e, q⟩ => by
  subst e
  obtain ⟨tk, rfl⟩ := rx
  cases ha : t.cps.all (· < 128)
  · exact wpAny_pyIter_wide ha (pi_one (tk := s.toks) I _ (turn_str _ t tk "str_iterator" (.inr rfl)) ⟨_, Heap.get?_push_size _ rfl, rfl, rfl⟩ q)
  · exact wpAny_pyIter_ascii ha (pi_one (tk := s.toks) I _ (turn_str _ t tk "str_ascii_iterator" (.inl rfl)) ⟨_, Heap.get?_push_size _ rfl, rfl, rfl⟩ q)
/-- the keys of a dict that is known -/
def ItK (d : Addr) (o : Obj) (es : Array DictEntry) (kvs : List V) : It :=
  ⟨fun i H => H d = some (.frz o (dictO d es)) ∧ Vals kvs (es.toList.map (·.key)) ∧ i < kvs.length, fun i H x H' => H' = H ∧ kvs[i]? = some x, fun i H => H d = some (.frz o (dictO d es)) ∧ Vals kvs (es.toList.map (·.key)) ∧ kvs.length ≤ i⟩
theorem frzD {pins : List (Addr × Obj)} {σ : L2.St} {H : Hp} {s : Shared} {d : Addr} {o : Obj} {es : Array DictEntry} (I : Inv X pins σ H s) (h : H d = some (.frz o (dictO d es))) : s.heap.get? d = some o ∧ o.ExactDict ∧ ∃ ep, o.data = .dict es ep := by
  obtain ⟨h1, ⟨ep, o2, h2, h3, h4⟩, _⟩ := (show ObjOk X.prog X.w H s.heap d (.frz o (dictO d es)) from I.hok d _ h)
  rw [h1] at h2
  cases h2
  exact ⟨h1, h3, ep, h4⟩
theorem turn_K {P : Program} {w : World} {K : PySem.W.Frag} {tg : Expr} {d : Addr} {o : Obj} {es : Array DictEntry} {ep : Nat} {kvs : List V} (it : Addr) (hod : o.data = .dict es ep) (hn : d ≠ it) : Turn P w K tg (ItK d o es kvs) [it] it (fun i h => h.IsKeyIter it d i es.size ep) where
  mem := by simp
  obj := fun i h st b hb => by
    obtain rfl : b = it := by simpa using hb
    obtain ⟨oi, e, c, dd⟩ := st
    exact ⟨oi, e, fun v z => by rw [dd] at z; cases z⟩
  keep := fun i h h' st k => st.at fun oi e => k it (by simp) oi e
  item := by
    intro X hP hw hK hc i pins s σ H E I hf st hg
    subst hP hw hK
    obtain ⟨hd, hv, hi⟩ := hg
    obtain ⟨f0, f1, f2, f3, f4, f5⟩ := hf it (by simp)
    obtain ⟨g1, g2, ep', g3⟩ := frzD I hd
    obtain ⟨x, hx⟩ : ∃ x, kvs[i]? = some x := ⟨kvs[i], List.getElem?_eq_getElem hi⟩
    obtain ⟨u, hu, ru⟩ := hv.get hx
    rw [List.getElem?_map] at hu
    obtain ⟨en, hen, rfl⟩ := Option.map_eq_some_iff.mp hu
    rw [Array.getElem?_toList] at hen
    refine next_key_item st g1 hod rfl hen fun h' st' sb => ?_
    have I1 : Inv X pins σ H { s with heap := h' } := I.turned (t' := s.toks) (fun b ob hb e => (sb.2 b hb).trans e) f0 f1 f3 f4 f5
    obtain ⟨oi, e, cc, dd⟩ := id st'
    exact ⟨en.key, rfl, go_of (s := { s with heap := h' }) e cc dd (by decide) ⟨x, H, I1, ru, ⟨rfl, hx⟩, st', fun b hb => (hf b hb).1⟩⟩
  done := by
    intro X hP hw hK hc i pins s σ H E I hf st hg
    subst hP hw hK
    obtain ⟨hd, hv, hi⟩ := hg
    obtain ⟨f0, f1, f2, f3, f4, f5⟩ := hf it (by simp)
    obtain ⟨g1, g2, ep', g3⟩ := frzD I hd
    have hl := hv.length
    simp only [List.length_map, Array.length_toList] at hl
    exact next_key_end (I.ok.hd hc) st g1 hod rfl (by omega) fun h' eb => ⟨rfl, I.turned (t' := s.toks) (fun b ob hb e => eb b ob hb e) f0 f1 f3 f4 f5⟩
  self := fun A i s Q E st h => wpAny_pyIter_keyiter st h
def ivK : V → Hp → (It → Hp → Prop) → Prop := fun x H R => ∃ d o es kvs, x = .ref d ∧ (d == sysModules) = false ∧ H d = some (.frz o (dictO d es)) ∧ R (ItK d o es kvs) H
theorem iv_K : IV X tg ivK := fun pins s σ H x v R I rx ⟨d, o, es, kvs, e, low, hd, q⟩ => by
  subst e
  cases rx
  obtain ⟨g1, g2, ep, g3⟩ := frzD I hd
  exact iter_keys low g1 g2 g3 (pi_one (tk := s.toks) I _ (turn_K _ g3 (Nat.ne_of_lt (Heap.lt_size g1))) ⟨_, Heap.get?_push_size _ rfl, rfl, rfl⟩ q)

/-! ### for x in e -/
def D.items : D → Option (List D)
  | .lst ds => some ds
  | .tup ds => some ds
  | .dct ks _ => some ks
  | .str x => some (x.cps.toList.map fun c => .str ⟨#[c]⟩)
  | .scr ns => some (ns.map .int)
  | _ => none
def wIt (w : WE) : WA := fun e K => w e fun d e1 => ∃ ds, d.items = some ds ∧ K ds e1
def ivD (K : PySem.W.Frag) : V → Hp → (It → Hp → Prop) → Prop := fun x H R => ivL K x H R ∨ ivT K x H R ∨ ivS x H R ∨ ivK x H R
theorem iv_D : IV X tg (ivD X.K) := iv_list.or (iv_tup.or (iv_str.or iv_K))
theorem goes_list {g : Gx} {H : Hp} {a : Addr} {ds : List D} {xs : List V} (h : FzL g.K H a xs) (r : Reps g H ds xs) : Goes g (Itl g.K a) H ds := fun H' st => by
  have hq := (h.mono st).sq
  refine ⟨fun i d hd => ?_, ⟨xs, hq, by rw [r.length]; exact Nat.le_refl _⟩⟩
  obtain ⟨v, h1, h2⟩ := r.get hd
  refine ⟨⟨xs, v, hq, h1⟩, fun x H2 ⟨e, y⟩ => ?_⟩
  subst e
  have := y xs hq
  rw [h1] at this
  cases this
  exact ⟨.refl _, h2.mono st d v⟩
theorem goes_tup {g : Gx} {H : Hp} {a : Addr} {ds : List D} {xs : List V} (h : SqT g.K H a xs) (r : Reps g H ds xs) : Goes g (Itt g.K a) H ds := fun H' st => by
  have hq := sqT_mono st h
  refine ⟨fun i d hd => ?_, ⟨xs, hq, by rw [r.length]; exact Nat.le_refl _⟩⟩
  obtain ⟨v, h1, h2⟩ := r.get hd
  refine ⟨⟨xs, v, hq, h1⟩, fun x H2 ⟨e, y⟩ => ?_⟩
  subst e
  have := y xs hq
  rw [h1] at this
  cases this
  exact ⟨.refl _, h2.mono st d v⟩
theorem reps_ints {g : Gx} {H : Hp} : ∀ ns : List Int, Reps g H (ns.map D.int) (ns.map V.int)
  | [] => rfl
  | n :: ns => ⟨_, _, rfl, rfl, reps_ints ns⟩
theorem items_ok {g : Gx} {H : Hp} {d : D} {ds : List D} {v : V} {R : It → Hp → Prop} (r : Rep g H d v) (h : d.items = some ds) (q : ∀ J, Goes g J H ds → R J H) : ivD g.K v H R := by
  cases d with
  | lst es =>
    cases h
    obtain ⟨a, xs, rfl, hx, rs⟩ := r
    exact .inl ⟨a, xs, rfl, hx.sq, q _ (goes_list (.inl hx) rs)⟩
  | tup es =>
    cases h
    obtain ⟨a, xs, rfl, hx, rs⟩ := r
    exact .inr (.inl ⟨a, xs, rfl, hx, q _ (goes_tup hx rs)⟩)
  | scr ns =>
    cases h
    obtain ⟨a, rfl, hx⟩ := r
    exact .inl ⟨a, _, rfl, hx.sq, q _ (goes_list hx (reps_ints ns))⟩
  | str x =>
    cases h
    rw [show v = _ from r]
    refine .inr (.inr (.inl ⟨x, rfl, q _ fun H' st => ⟨fun i d hd => ?_, ?_⟩⟩))
    · rw [List.getElem?_map] at hd
      obtain ⟨c, hc, rfl⟩ := Option.map_eq_some_iff.mp hd
      rw [Array.getElem?_toList] at hc
      refine ⟨(Array.getElem?_eq_some_iff.mp hc).1, fun y H2 ⟨e, c', hc', ey⟩ => ?_⟩
      rw [hc] at hc'
      cases hc'
      rw [e, ey]
      exact ⟨.refl _, rfl⟩
    · show x.cps.size ≤ _
      rw [List.length_map, Array.length_toList]; exact Nat.le_refl _
  | dct ks vs =>
    cases h
    obtain ⟨a, es, kvs, vvs, rfl, ⟨o, hf⟩, hl, E, rk, rv⟩ := r
    refine .inr (.inr (.inr ⟨a, o, es, kvs, rfl, hl.1, hf, q _ fun H' st => ?_⟩))
    have hf' := st.imm a _ hf trivial
    have hv := (ent_vals E).1
    have hlen := (ent_len E).1
    refine ⟨fun i d hd => ?_, hf', hv, by rw [hlen]; exact Nat.le_refl _⟩
    obtain ⟨v, h1, h2⟩ := rk.get hd
    refine ⟨⟨hf', hv, (List.getElem?_eq_some_iff.mp h1).1⟩, fun x H2 ⟨e, y⟩ => ?_⟩
    rw [h1] at y
    cases y
    rw [e]
    exact ⟨.refl _, h2.mono st d v⟩
  | _ => cases h
theorem di_any (he : DE X e w) : DI X tg e (wIt w) := pi_imp (pi_iv iv_D he) fun σ H R ⟨e, K, r, k, q⟩ => ⟨e, _, r, k, fun d e1 v H1 ⟨ds, hd, k1⟩ a1 r1 p1 => items_ok (g := gx X) p1 hd fun J go => q ds e1 J H1 k1 a1 r1 go⟩
/-- range(n), range(a, b) -/
def rangeD (a : Int) (n : Nat) : List D := (List.range n).map fun (i : Nat) => D.int (a + (i : Int))
theorem goes_range {g : Gx} {H : Hp} {a : Int} {n : Nat} : Goes g (Itr a n) H (rangeD a n) := fun H' st => by
  refine ⟨fun i d hd => ?_, show n ≤ (rangeD a n).length by simp [rangeD]⟩
  unfold rangeD at hd
  rw [List.getElem?_map] at hd
  obtain ⟨j, hj, rfl⟩ := Option.map_eq_some_iff.mp hd
  obtain ⟨h1, h2⟩ := List.getElem?_eq_some_iff.mp hj
  rw [List.getElem_range] at h2
  rw [List.length_range] at h1
  subst h2
  exact ⟨h1, fun x H2 ⟨e, y⟩ => by rw [e, y]; exact ⟨.refl _, rfl⟩⟩
def wRng1 (ws : WA) : WA := fun e K => ws e fun ds e1 => ∃ j, ds = [.int j] ∧ -(2 ^ 62) ≤ j ∧ j < 2 ^ 62 ∧ K (rangeD 0 j.toNat) e1
def wRng2 (ws : WA) : WA := fun e K => ws e fun ds e1 => ∃ i j, ds = [.int i, .int j] ∧ (-(2 ^ 62) ≤ i ∧ i < 2 ^ 62 ∧ -(2 ^ 62) ≤ j ∧ j < 2 ^ 62) ∧ K (rangeD i (j - i).toNat) e1
theorem di_range1 (hm : X.mg "range" = none) (ha : DA X [a] ws) (hg : Gl X "range" := by rfl) (hs : starEach [a] X.env = [(false, eval a X.env)] := by rfl) : DI X tg (.Call (.Name "range" p) [a] [] pos) (wRng1 ws) := pi_imp (pi_range1 hg hm ha hs) fun σ H R ⟨e, K, r, k, q⟩ =>
  ⟨e, _, r, k, fun ds e1 vs H1 ⟨j, hd, h1, h2, k1⟩ a1 r1 p1 => by
    subst hd
    obtain ⟨v, rfl, rv⟩ := reps_one p1
    exact ⟨j, by rw [show v = _ from rv], h1, h2, q _ e1 _ H1 k1 a1 r1 goes_range⟩⟩
theorem di_range2 (hm : X.mg "range" = none) (ha : DA X [a, b] ws) (hg : Gl X "range" := by rfl) (hs : starEach [a, b] X.env = [(false, eval a X.env), (false, eval b X.env)] := by rfl) (hs2 : starEach [b] X.env = [(false, eval b X.env)] := by rfl) : DI X tg (.Call (.Name "range" p) [a, b] [] pos) (wRng2 ws) :=
  pi_imp (pi_range2 hg hm ha hs hs2) fun σ H R ⟨e, K, r, k, q⟩ => ⟨e, _, r, k, fun ds e1 vs H1 ⟨i, j, hd, hb, k1⟩ a1 r1 p1 => by
    subst hd
    obtain ⟨v, v', rfl, rv, rv'⟩ := reps_two p1
    exact ⟨i, j, by rw [show v = _ from rv, show v' = _ from rv'], hb, q _ e1 _ H1 k1 a1 r1 goes_range⟩⟩
/-- zip of two lists, of two tuples -/
def zipD (ds es : List D) : List D := List.zipWith (fun a b => .tup [a, b]) ds es
def D.zip2 : D → D → Option (List D)
  | .lst ds, .lst es => some (zipD ds es)
  | .tup ds, .tup es => some (zipD ds es)
  | _, _ => none
def wZip (ws : WA) : WA := fun e K => ws e fun ds e1 => ∃ x y zs, ds = [x, y] ∧ x.zip2 y = some zs ∧ K zs e1
theorem zip_get {ds es : List D} {i : Nat} {d : D} (h : (zipD ds es)[i]? = some d) : ∃ x y, ds[i]? = some x ∧ es[i]? = some y ∧ d = .tup [x, y] := by
  unfold zipD at h
  rw [List.getElem?_zipWith] at h
  cases h1 : ds[i]? with
  | none => rw [h1] at h; cases h
  | some x =>
    cases h2 : es[i]? with
    | none => rw [h1, h2] at h; cases h
    | some y =>
      rw [h1, h2] at h
      cases h
      exact ⟨x, y, rfl, rfl, rfl⟩
theorem pair_grow {g : Gx} {H : Hp} {T : Addr} {x y : V} {dx dy : D} (h : H T = none) (rx : Rep g H dx x) (ry : Rep g H dy y) : Grow H (upd H T (.tup [x, y])) ∧ Rep g (upd H T (.tup [x, y])) (.tup [dx, dy]) (.ref T) := laid_tup h ⟨x, [y], rfl, rx, y, [], rfl, ry, rfl⟩
theorem di_zip {elts : List Expr} {kk : Nat} {tpos : Pos} (hm : X.mg "zip" = none) (ha : DA X [a, b] ws) (hg : Gl X "zip" := by rfl) (hs : starEach [a, b] X.env = (false, eval a X.env) :: starEach [b] X.env := by rfl) (hpl : (backTo pos (starEach [b] X.env)).any (·.1) = false := by rfl) :
    DI X (.Tuple elts kk tpos) (.Call (.Name "zip" p) [a, b] [] pos) (wZip ws) := pi_imp (RZ.pi_zipA hg hm ha hs hpl) fun σ H R ⟨e, K, r, k, q⟩ => ⟨e, _, r, k, fun ds e1 vs H1 ⟨x, y, zs, hd, hz, k1⟩ a1 r1 p1 => by
    subst hd
    obtain ⟨v, v', rfl, rv, rv'⟩ := reps_two p1
    cases x with
    | lst ds =>
      cases y with
      | lst es =>
        cases hz
        obtain ⟨a, xs, rfl, hx, rx⟩ := rv
        obtain ⟨b, ys, rfl, hy, ry⟩ := rv'
        refine ⟨a, b, xs, ys, rfl, .inl ⟨hx.sq, hy.sq, q _ e1 _ H1 k1 a1 r1 fun H' st => ⟨fun i d hd => ?_, ?_⟩⟩⟩
        · obtain ⟨dx, dy, h1, h2, rfl⟩ := zip_get hd
          obtain ⟨u1, g1, g2⟩ := rx.get h1
          obtain ⟨u2, g3, g4⟩ := ry.get h2
          refine ⟨⟨xs, ys, u1, u2, (hx.mono st).sq, (hy.mono st).sq, g1, g3⟩, fun v H2 ⟨T, x, y, ev, hT, eH, y1, y2⟩ => ?_⟩
          have z1 := y1 xs (hx.mono st).sq
          have z2 := y2 ys (hy.mono st).sq
          rw [g1] at z1
          rw [g3] at z2
          cases z1
          cases z2
          rw [ev, eH]
          exact pair_grow hT (g2.mono st _ _) (g4.mono st _ _)
        · refine ⟨xs, ys, (hx.mono st).sq, (hy.mono st).sq, ?_⟩
          rw [rx.length, ry.length]
          unfold zipD
          rw [List.length_zipWith]
          omega
      | _ => cases hz
    | tup ds =>
      cases y with
      | tup es =>
        cases hz
        obtain ⟨a, xs, rfl, hx, rx⟩ := rv
        obtain ⟨b, ys, rfl, hy, ry⟩ := rv'
        refine ⟨a, b, xs, ys, rfl, .inr ⟨hx, hy, q _ e1 _ H1 k1 a1 r1 fun H' st => ⟨fun i d hd => ?_, ?_⟩⟩⟩
        · obtain ⟨dx, dy, h1, h2, rfl⟩ := zip_get hd
          obtain ⟨u1, g1, g2⟩ := rx.get h1
          obtain ⟨u2, g3, g4⟩ := ry.get h2
          refine ⟨⟨xs, ys, u1, u2, sqT_mono st hx, sqT_mono st hy, g1, g3⟩, fun v H2 ⟨T, x, y, ev, hT, eH, y1, y2⟩ => ?_⟩
          have z1 := y1 xs (sqT_mono st hx)
          have z2 := y2 ys (sqT_mono st hy)
          rw [g1] at z1
          rw [g3] at z2
          cases z1
          cases z2
          rw [ev, eH]
          exact pair_grow hT (g2.mono st _ _) (g4.mono st _ _)
        · refine ⟨xs, ys, sqT_mono st hx, sqT_mono st hy, ?_⟩
          rw [rx.length, ry.length]
          unfold zipD
          rw [List.length_zipWith]
          omega
      | _ => cases hz
    | _ => cases hz⟩
end
end DL
/-! DL, part o: list comprehensions. -/
namespace DL
open PySem PySem.Spec L2

/-! ### the block's own slots -/
def En.wipe (e : En) : List Nat → En
  | [] => e
  | v :: vs => (e.wipe vs).asg v .un
/-- behind the block: its own slots as they were -/
def En.back (e4 e : En) : List Nat → En
  | [] => { e4 with me := e.me }
  | v :: vs => (e4.back e vs).put v (e.sl[v]?.getD .un)
theorem En.wipe_len (e : En) : ∀ vs, (e.wipe vs).sl.length = e.sl.length
  | [] => rfl
  | v :: vs => by show ((e.wipe vs).sl.set v _).length = _; rw [List.length_set, En.wipe_len e vs]
theorem En.back_len (e4 e : En) : ∀ vs, (e4.back e vs).sl.length = e4.sl.length
  | [] => rfl
  | v :: vs => by show ((e4.back e vs).sl.set v _).length = _; rw [List.length_set, En.back_len e4 e vs]
theorem En.wipe_in {e : En} {j : Nat} : ∀ {vs}, j ∈ vs → (e.wipe vs).sl[j]? = if j < e.sl.length then some .un else none
  | v :: vs, h => by
    unfold En.wipe
    rw [asg_get, En.wipe_len]
    by_cases q : v = j
    · rw [if_pos q, q]
    · rw [if_neg q]
      exact En.wipe_in ((List.mem_cons.mp h).resolve_left fun z => q z.symm)
theorem En.wipe_out {e : En} {j : Nat} : ∀ {vs}, j ∉ vs → (e.wipe vs).sl[j]? = e.sl[j]?
  | [], _ => rfl
  | v :: vs, h => by
    rw [List.mem_cons, not_or] at h
    unfold En.wipe
    rw [asg_get, if_neg fun z => h.1 z.symm]
    exact En.wipe_out h.2
theorem En.back_in {e4 e : En} {j : Nat} : ∀ {vs}, j ∈ vs → (e4.back e vs).sl[j]? = if j < e4.sl.length then some (e.sl[j]?.getD .un) else none
  | v :: vs, h => by
    unfold En.back
    rw [put_get, En.back_len]
    by_cases q : v = j
    · rw [if_pos q, q]
    · rw [if_neg q]
      exact En.back_in ((List.mem_cons.mp h).resolve_left fun z => q z.symm)
theorem En.back_out {e4 e : En} {j : Nat} : ∀ {vs}, j ∉ vs → (e4.back e vs).sl[j]? = e4.sl[j]?
  | [], _ => rfl
  | v :: vs, h => by
    rw [List.mem_cons, not_or] at h
    unfold En.back
    rw [put_get, if_neg fun z => h.1 z.symm]
    exact En.back_out h.2
theorem En.wipe_cnt (e : En) : ∀ vs, (e.wipe vs).cnt = e.cnt
  | [] => rfl
  | v :: vs => En.wipe_cnt e vs
theorem En.back_cnt (e4 e : En) : ∀ vs, (e4.back e vs).cnt = e4.cnt
  | [] => rfl
  | v :: vs => En.back_cnt e4 e vs
theorem En.back_me (e4 e : En) : ∀ vs, (e4.back e vs).me = e.me
  | [] => rfl
  | v :: vs => En.back_me e4 e vs
theorem MeOk.wipe {σ : L2.St} {e : En} (h : MeOk σ e) : ∀ vs, MeOk (L2.wipe σ vs) (e.wipe vs)
  | [] => h
  | v :: vs => (MeOk.wipe h vs).set
section
variable {g : Gx} {σ σ2 : L2.St} {H H4 : Hp} {e e4 : En} {vs : List Nat} {a : Addr}
theorem own_wipe (h : Own (wipe σ vs) (e.wipe vs) a) : Own σ e a := by
  obtain ⟨j, dj, h1, h2⟩ := h
  have hj : j ∉ vs := fun z => by
    rw [En.wipe_in z] at h1
    split at h1 <;> cases h1
  rw [En.wipe_out hj] at h1
  rw [L2.wipe_out hj] at h2
  exact ⟨j, dj, h1, h2⟩
theorem ER.wipe (r : ER g σ H e) : ER g (L2.wipe σ vs) H (e.wipe vs) := by
  have sub : ∀ (j : Nat) (x : S), (e.wipe vs).sl[j]? = some x → x ≠ .un → j ∉ vs ∧ e.sl[j]? = some x := fun j x h n => by
    have hj : j ∉ vs := fun z => by
      rw [En.wipe_in z] at h
      split at h
      · cases h; exact n rfl
      · cases h
    exact ⟨hj, by rw [← En.wipe_out hj]; exact h⟩
  refine ⟨fun j d h => ?_, fun j d h => ?_, fun j k dj dk b h1 h2 h3 h4 => ?_, ?_, ?_⟩
  · obtain ⟨hj, h⟩ := sub j _ h (fun z => nomatch z)
    obtain ⟨v, g1, g2⟩ := r.fz j d h
    exact ⟨v, by rw [L2.wipe_out hj]; exact g1, g2⟩
  · obtain ⟨hj, h⟩ := sub j _ h (fun z => nomatch z)
    obtain ⟨v, g1, g2⟩ := r.ow j d h
    exact ⟨v, by rw [L2.wipe_out hj]; exact g1, g2⟩
  · obtain ⟨hj, q1⟩ := sub j _ h1 (fun z => nomatch z)
    obtain ⟨hk, q2⟩ := sub k _ h2 (fun z => nomatch z)
    rw [L2.wipe_out hj] at h3
    rw [L2.wipe_out hk] at h4
    exact r.apart j k dj dk b q1 q2 h3 h4
  · rw [En.wipe_cnt]; exact r.pens
  · exact ⟨by rw [En.wipe_len, wipe_length]; exact r.len.1, r.len.2.wipe vs⟩
/-- the block is left -/
theorem ER.back (r : ER g σ H e) (A : Adv (L2.wipe σ vs) (e.wipe vs) H σ2 e4 H4) (r4 : ER g σ2 H4 e4) (hw : L2.wipe σ2 vs = L2.wipe σ vs) :
    ER g σ H4 (e4.back e vs) ∧ Adv σ e H σ (e4.back e vs) H4 ∧ ∀ b, Own σ (e4.back e vs) b → Own σ e b ∨ H b = none := by
  have hlen : e4.sl.length = e.sl.length := by rw [r4.len.1, r.len.1, ← wipe_length σ2 vs, hw, wipe_length]
  have same : ∀ j, j ∉ vs → σ2[j]? = σ[j]? := fun j hj => by rw [← L2.wipe_out (σ := σ2) hj, hw, L2.wipe_out hj]
  have inn : ∀ (j : Nat) (x : S), j ∈ vs → (e4.back e vs).sl[j]? = some x → x ≠ .un → e.sl[j]? = some x := fun j x hj h n => by
    rw [En.back_in hj] at h
    split at h
    · injection h with h
      cases q : e.sl[j]? with
      | none => rw [q] at h; exact (n h.symm).elim
      | some y => rw [q] at h; rw [show y = x from h]
    · cases h
  have out : ∀ (j : Nat) (x : S), j ∉ vs → (e4.back e vs).sl[j]? = some x → e4.sl[j]? = some x := fun j x hj h => by rw [← En.back_out hj]; exact h
  -- an outer slot's own thing stays
  have stay : ∀ (j : Nat) (d : D) (b : Addr), j ∈ vs → e.sl[j]? = some (.ow d) → σ[j]? = some (some (.ref b)) → ¬ Own (L2.wipe σ vs) (e.wipe vs) b := fun j d b hj h1 h2 ⟨k, dk, q1, q2⟩ => by
    have hk : k ∉ vs := fun z => by
      rw [En.wipe_in z] at q1
      split at q1 <;> cases q1
    rw [En.wipe_out hk] at q1
    rw [L2.wipe_out hk] at q2
    exact hk (r.apart j k d dk b h1 q1 h2 q2 ▸ hj)
  have ownb : ∀ b, Own σ (e4.back e vs) b → Own σ e b ∨ H b = none := fun b ⟨j, dj, h1, h2⟩ => by
    by_cases hj : j ∈ vs
    · exact .inl ⟨j, dj, inn j _ hj h1 (fun z => nomatch z), h2⟩
    · have q := A.owns b ⟨j, dj, out j _ hj h1, by rw [same j hj]; exact h2⟩
      exact q.elim (fun q => .inl (own_wipe q)) .inr
  refine ⟨⟨fun j d h => ?_, fun j d h => ?_, fun j k dj dk b h1 h2 h3 h4 => ?_, ?_, ?_⟩, ⟨fun b o h n l => A.keep b o h (fun q => n (own_wipe q)) l, A.stab, A.there, ownb⟩, ownb⟩
  · by_cases hj : j ∈ vs
    · obtain ⟨v, g1, g2⟩ := r.fz j d (inn j _ hj h (fun z => nomatch z))
      exact ⟨v, g1, g2.mono A.stab d v⟩
    · obtain ⟨v, g1, g2⟩ := r4.fz j d (out j _ hj h)
      exact ⟨v, by rw [← same j hj]; exact g1, g2⟩
  · by_cases hj : j ∈ vs
    · have h' := inn j _ hj h (fun z => nomatch z)
      obtain ⟨b, g1, g2⟩ := r.ow j d h'
      obtain ⟨o, e0, _, nl⟩ := g2.there
      refine ⟨b, g1, g2.keep A.stab fun o' q => A.keep b o' q (stay j d b hj h' g1) fun l => ?_⟩
      rw [e0] at q
      cases q
      exact nl l
    · obtain ⟨b, g1, g2⟩ := r4.ow j d (out j _ hj h)
      exact ⟨b, by rw [← same j hj]; exact g1, g2⟩
  · have cross : ∀ (j k : Nat) (dj dk : D) (b : Addr), j ∈ vs → k ∉ vs → e.sl[j]? = some (.ow dj) → e4.sl[k]? = some (.ow dk) → σ[j]? = some (some (.ref b)) → σ[k]? = some (some (.ref b)) → False := fun j k dj dk b hj hk q1 q2 q3 q4 => by
      rcases A.owns b ⟨k, dk, q2, by rw [same k hk]; exact q4⟩ with z | z
      · exact stay j dj b hj q1 q3 z
      · obtain ⟨b', z1, z2⟩ := r.ow j dj q1
        rw [q3] at z1
        cases z1
        obtain ⟨o, z3, _⟩ := z2.there
        rw [z] at z3
        cases z3
    by_cases hj : j ∈ vs
    · by_cases hk : k ∈ vs
      · exact r.apart j k dj dk b (inn j _ hj h1 (fun z => nomatch z)) (inn k _ hk h2 (fun z => nomatch z)) h3 h4
      · exact (cross j k dj dk b hj hk (inn j _ hj h1 (fun z => nomatch z)) (out k _ hk h2) h3 h4).elim
    · by_cases hk : k ∈ vs
      · exact (cross k j dk dj b hk hj (inn k _ hk h2 (fun z => nomatch z)) (out j _ hj h1) h4 h3).elim
      · exact r4.apart j k dj dk b (out j _ hj h1) (out k _ hk h2) (by rw [same j hj]; exact h3) (by rw [same k hk]; exact h4)
  · rw [En.back_cnt]; exact r4.pens
  · exact ⟨by rw [En.back_len, hlen]; exact r.len.1, fun x hx => r.len.2 x (by rw [← En.back_me e4 e vs]; exact hx)⟩
/-- a thing that no slot owns is written -/
theorem ER.other {D : Addr} {u u' : HO} (r : ER g σ H e) (hD : H D = some u) (ni : ¬ Imm u) (nl : ¬ Lo u) (hu : ∀ kvs, u' ≠ .dK kvs) (no : ¬ Own σ e D) : ER g σ (upd H D u') e ∧ Stab H (upd H D u') := by
  have st : Stab H (upd H D u') := ⟨fun b p q im => by
    rw [upd_ne fun z => by rw [z, hD] at q; cases q; exact ni im]
    exact q, fun b kvs q => ⟨kvs, by
    rw [upd_ne fun z => by rw [z, hD] at q; cases q; exact nl trivial]
    exact q⟩⟩
  refine ⟨⟨fun j d h => let ⟨v, g1, g2⟩ := r.fz j d h; ⟨v, g1, g2.mono st d v⟩, fun j d h => ?_, r.apart, r.pens.mono (Nat.le_refl _) st fun b kvs q => ?_, r.len⟩, st⟩
  · obtain ⟨b, g1, g2⟩ := r.ow j d h
    exact ⟨b, g1, g2.upd_ne (fun z => no ⟨j, d, h, by rw [← z]; exact g1⟩) st⟩
  · by_cases z : b = D
    · rw [z, upd_same] at q
      exact (hu kvs (Option.some.inj q)).elim
    · rw [upd_ne z] at q
      exact q
theorem Adv.other {σ0 : L2.St} {e0 : En} {H0 : Hp} {D : Addr} {u' : HO} (A : Adv σ0 e0 H0 σ e H) (h0 : H0 D = none) (st : Stab H (upd H D u')) : Adv σ0 e0 H0 σ e (upd H D u') :=
  ⟨fun b o h n l => by
    rw [upd_ne fun z => by rw [z, h0] at h; cases h]
    exact A.keep b o h n l, A.stab.trans st, fun b h => by
    by_cases z : b = D
    · rw [z]; exact h0
    · rw [upd_ne z] at h
      exact A.there b h, A.owns⟩
end

/-! ### targets in a block -/
def upGc (g : Gx) (vs : List Nat) (w : WG) : TG := fun v σ H Q => ∃ d e K, Rep g H d v ∧ ER g σ H e ∧ w d e K ∧ ∀ e' σ' H', K e' → Adv σ e H σ' e' H' → ER g σ' H' e' → wipe σ' vs = wipe σ vs → Q σ' H'
def upGcs (g : Gx) (vs : List Nat) (w : WGs) : TGs := fun us σ H Q => ∃ ds e K, Reps g H ds us ∧ ER g σ H e ∧ w ds e K ∧ ∀ e' σ' H', K e' → Adv σ e H σ' e' H' → ER g σ' H' e' → wipe σ' vs = wipe σ vs → Q σ' H'
abbrev CG (X : Cx) (vs : List Nat) (t : Expr) (w : WG) : Prop := PG X t (upGc (gx X) vs w)
abbrev CGs (X : Cx) (vs : List Nat) (t : List Expr) (w : WGs) : Prop := PGs X t (upGcs (gx X) vs w)
theorem wipe_in {τ : L2.St} {j : Nat} : ∀ {vs : List Nat}, j ∈ vs → (wipe τ vs)[j]? = if j < τ.length then some none else none
  | w :: ws, hm => by
    unfold wipe
    rw [List.getElem?_set, wipe_length]
    split
    · rename_i q; rw [q]
    · rename_i q; exact wipe_in ((List.mem_cons.mp hm).resolve_left fun z => q z.symm)
theorem wipe_twice {σ : L2.St} {vs : List Nat} : wipe (wipe σ vs) vs = wipe σ vs := List.ext_getElem? fun j => by
  by_cases hm : j ∈ vs
  · rw [wipe_in hm, wipe_in hm, wipe_length]
  · rw [L2.wipe_out hm]
theorem wipe_set {σ : L2.St} {i : Nat} {x : Option V} : ∀ {vs : List Nat}, i ∈ vs → wipe (σ.set i x) vs = wipe σ vs
  | v :: vs, h => by
    unfold wipe
    by_cases hi : i ∈ vs
    · rw [wipe_set hi]
    · have hv : v = i := ((List.mem_cons.mp h).resolve_right hi).symm
      subst hv
      refine List.ext_getElem? fun j => ?_
      simp only [List.getElem?_set, wipe_length, List.length_set]
      split
      · rfl
      · rename_i hj
        by_cases hm : j ∈ vs
        · rw [wipe_in hm, wipe_in hm, List.length_set]
        · rw [L2.wipe_out hm, L2.wipe_out hm, List.getElem?_set, if_neg hj]
section
variable {X : Cx} {tg e a b c : Expr} {es : List Expr} {pos p : Pos} {vs : List Nat} {wg : WG} {wgs : WGs}
theorem cg_name {i : Nat} {x : Str} (hN : X.N.Nodup) (hm : i ∈ vs := by decide) (hi : X.N[i]? = some x := by rfl) (hx : Loc X.env.scope x := by first | exact Or.inl rfl | exact Or.inr rfl) (hf : X.fn x = true ∨ X.env.scope.names.lookup x = some .local := by first | exact .inl rfl | exact .inr rfl | assumption) :
    CG X vs (.Name x pos) (wgN i) := pg_imp (pg_name hN hi hx hf) fun v σ H Q ⟨d, e, K, p, r, k, q⟩ => q _ _ H k .put (r.put p) (wipe_set hm)
theorem cgs_nil : CGs X vs [] wgNil := pgs_imp pgs_nil fun us σ H Q ⟨ds, e, K, p, r, ⟨h, k⟩, q⟩ => by
  subst h
  exact ⟨p, q e σ H k (.refl ..) r rfl⟩
theorem cgs_cons (h1 : CG X vs e wg) (h2 : CGs X vs es wgs) (hs : (assignEach (e :: es) X.env).map (·.2) = assign e X.env :: (assignEach es X.env).map (·.2) := by rfl) : CGs X vs (e :: es) (wgCons wg wgs) :=
  pgs_imp (pgs_cons h1 h2 hs) fun us σ H Q ⟨ds, e, K, p, r, ⟨d, dr, h, k⟩, q⟩ => by
    subst h
    obtain ⟨v, vr, ev, pv, pr⟩ := p
    exact ⟨v, vr, ev, d, e, _, pv, r, k, fun e1 σ1 H1 k1 a1 r1 w1 => ⟨dr, e1, K, pr.mono a1.stab dr vr, r1, k1, fun e2 σ2 H2 k2 a2 r2 w2 => q e2 σ2 H2 k2 (a1.trans a2) r2 (w2.trans w1)⟩⟩
theorem cg_tup {k : Nat} {n : Nat} (h : CGs X vs es wgs) (hc : X.calm = true := by rfl) (hn : (assignEach es X.env).length = n := by rfl) (hst : (assignEach es X.env).findIdx? (·.1) = none := by rfl) : CG X vs (.Tuple es k pos) (wgT n wgs) :=
  pg_imp (pg_tup hc h hn hst) fun v σ H Q ⟨d, e, K, p, r, ⟨ds, h, hl, k⟩, q⟩ => by
    subst h
    obtain ⟨a, xs, ev, q1, rs⟩ := p
    exact ⟨a, xs, ev, q1, by rw [rs.length]; exact hl, ds, e, K, rs, r, k, q⟩

/-! ### [elt for target in iter if test] -/
def wLcR (g : WG) (t : WT) (we : WE) (vs : List Nat) (K : DK) : List D → List D → En → Prop
  | [], acc, e => K (.lst acc) e
  | d :: ds, acc, e => g d (e.wipe vs) fun e2 => t e2 fun b e3 => if b = true then we e3 fun y e4 => acc.length < sizeLine ∧ wLcR g t we vs K ds (acc ++ [y]) (e4.back e vs) else wLcR g t we vs K ds acc (e3.back e vs)
def wLc (wi : WA) (g : WG) (t : WT) (we : WE) (vs : List Nat) : WE := fun e K => wi e fun ds e1 => wLcR g t we vs K ds [] e1
def wYes : WT := fun e K => K true e
theorem up_lc {g : Gx} {wi : WA} {wg : WG} {wt : WT} {we : WE} : ∀ σ H Q, upN g (wLc wi wg wt we vs) σ H Q → tLc (upI g wi) (upGc g vs wg) (upT g wt) (up g we) vs σ H Q := fun σ H0 Q ⟨e0, K, r0, k0, q⟩ =>
  ⟨e0, _, r0, k0, fun ds e1 J H1 k1 a1 r1 go => fun D hD => by
    have gr : Grow H1 (upd H1 D (.lst [])) := .new hD fun z => z
    let Inv' : Nat → Hp → Prop := fun i H => ∃ acc xs e', ER g σ H e' ∧ Adv σ e1 H1 σ e' H ∧ ¬ Own σ e' D ∧ H D = some (.lst xs) ∧ Reps g H acc xs ∧ wLcR wg wt we vs K (ds.drop i) acc e'
    refine ⟨fun i m H => m = ds.length - i ∧ i ≤ ds.length ∧ Inv' i H, ⟨ds.length, by simp, Nat.zero_le _, [], [], e1, r1.grow gr, .grow gr, not_own r1 hD, upd_same, rfl, k1⟩, ?_⟩
    rintro i m H ⟨rfl, hi, acc, xs, e', r', a', no', hx, rx, k'⟩
    by_cases hl : i < ds.length
    · have hd : ds[i]? = some ds[i] := List.getElem?_eq_getElem hl
      rw [List.drop_eq_getElem_cons hl] at k'
      obtain ⟨g1, g2⟩ := (go H a'.stab).1 i _ hd
      refine .inr ⟨g1, Inv' (i + 1), fun H' n => ⟨ds.length - (i + 1), by omega, rfl, hl, n⟩, fun x H2 y => ?_⟩
      obtain ⟨gr2, rp⟩ := g2 x H2 y
      -- behind the block
      have fin : ∀ (σ4 : L2.St) (e4 : En) (H4 : Hp), Adv (wipe σ vs) (e'.wipe vs) H2 σ4 e4 H4 → ER g σ4 H4 e4 → wipe σ4 vs = wipe σ vs → ER g σ H4 (e4.back e' vs) ∧ Adv σ e1 H1 σ (e4.back e' vs) H4 ∧ ¬ Own σ (e4.back e' vs) D ∧ H4 D = some (.lst xs) ∧ Reps g H4 acc xs := fun σ4 e4 H4 A r4 hw => by
        have A2 : Adv (wipe σ vs) (e'.wipe vs) H σ4 e4 H4 := (Adv.grow gr2).trans A
        obtain ⟨b1, b2, b3⟩ := r'.back A2 r4 hw
        refine ⟨b1, a'.trans b2, fun q => (b3 D q).elim no' fun z => ?_, A2.keep D _ hx (fun q => no' (own_wipe q)) (fun z => z), rx.mono A2.stab acc xs⟩
        rw [hx] at z
        cases z
      refine ⟨ds[i], e'.wipe vs, _, rp, (r'.grow gr2).wipe, k', fun e2 σ2 H3 k2 a2 r2 hw => by
        have hw2 := hw.trans wipe_twice
        refine ⟨hw2, e2, _, r2, k2, fun b e3 H4 k3 a3 r3 => ?_⟩
        cases b with
        | false =>
          obtain ⟨b1, b2, b3, b4, b5⟩ := fin σ2 e3 H4 (a2.trans a3) r3 hw2
          exact iteF ⟨acc, xs, _, b1, b2, b3, b4, b5, k3⟩
        | true =>
          refine iteT ⟨e3, _, r3, k3, fun y e4 v H5 ⟨hz, k5⟩ a5 r5 rv => ?_⟩
          obtain ⟨b1, b2, b3, b4, b5⟩ := fin σ2 e4 H5 ((a2.trans a3).trans a5) r5 hw2
          refine ⟨xs, b4, by rw [b5.length]; exact hz, ?_⟩
          obtain ⟨c1, c2⟩ := b1.other b4 (fun z => z) (fun z => z) (u' := .lst (xs ++ [v])) (fun _ z => nomatch z) b3
          exact ⟨acc ++ [y], xs ++ [v], _, c1, b2.other hD c2, b3, upd_same, (b5.append (.one rv)).mono c2 _ _, k5⟩⟩
    · have e2 : i = ds.length := by omega
      subst e2
      rw [List.drop_length] at k'
      exact .inl ⟨(go H a'.stab).2, q (.lst acc) e' D H k' (a1.trans a') r' ⟨xs, hx, rx⟩ (a1.there D hD) no'⟩⟩
theorem cts_nil : PTs X [] (upT (gx X) wYes) := ⟨fun pins s σ H Q I ⟨e, K, r, k, q⟩ => pts_nil.run pins s σ H Q I (q true e H k (.refl ..) r)⟩
theorem cts_one {wt : WT} (h : DT X c wt) : PTs X [c] (upT (gx X) wt) := pts_one h
theorem dn_lc {elt iter : Expr} {ifs : List Expr} {scope : Scope} {own : List (Str × Nat)} {wi : WA} {wg : WG} {wt : WT} {we : WE} (hN : X.N.Nodup) (hi : DI X tg iter wi) (ok : BlkOk X.N X.env.scope scope own)
    (hg : ∀ (s : Shared) (H : Hp) (C : Addr) (cl : List (Str × Addr)) (fp : List Addr), CG (X.blk s H scope (compEnvC scope cl C X.env) fp) (own.map (·.2)) tg wg)
    (ht : ∀ (s : Shared) (H : Hp) (C : Addr) (cl : List (Str × Addr)) (fp : List Addr), PTs (X.blk s H scope (compEnvC scope cl C X.env) fp) ifs (upT (gx X) wt))
    (he : ∀ (s : Shared) (H : Hp) (C : Addr) (cl : List (Str × Addr)) (fp : List Addr), DE (X.blk s H scope (compEnvC scope cl C X.env) fp) elt we) (hc : X.calm = true := by rfl) (hs : ∀ x, foldedSetIterable iter X.env x = pure x := by intro _; rfl) :
    DN X (.ListComp elt [⟨tg, iter, ifs, 0⟩] scope pos) (wLc wi wg wt we (own.map (·.2))) := pe_imp (pe_lc hc hN hi ok hg ht he hs) up_lc
end
end DL
/-! DL, part p: objects of the module's classes. -/
namespace DL
open PySem PySem.Spec L2
open PyProof.Rows (envOfC)

def flk : List Str → List D → Str → Option D
  | n :: ns, d :: ds, f => if n = f then some d else flk ns ds f
  | _, _, _ => none
theorem flk_frz {g : Gx} {H : Hp} {mA : Str → Option Value} {f : Str} {z : D} : ∀ {ns : List Str} {ds : List D} {us : List V}, Flds mA ns us → Reps g H ds us → flk ns ds f = some z → ∃ v u, mA f = some u ∧ RelV v u ∧ Rep g H z v
  | [], _, _, _, _, h => by cases h
  | n :: ns, [], _, _, _, h => by cases h
  | n :: ns, d :: ds, _, ⟨v, vs, u, e, h1, h2, h3⟩, ⟨v', vs', e', r, rs⟩, h => by
    rw [e] at e'
    cases e'
    unfold flk at h
    by_cases q : n = f
    · rw [if_pos q] at h
      cases h
      exact ⟨v, u, by rw [← q]; exact h1, h2, r⟩
    · rw [if_neg q] at h
      exact flk_frz h3 rs h
theorem flk_ins {g : Gx} {H : Hp} {f : Str} {z : D} : ∀ {fs : List (Str × V)} {ds : List D}, Reps g H ds (fs.map (·.2)) → flk (fs.map (·.1)) ds f = some z → ∃ v, fs.lookup f = some v ∧ Rep g H z v
  | [], _, _, h => by cases h
  | (n, u) :: fs, [], _, h => by cases h
  | (n, u) :: fs, d :: ds, ⟨v', vs', e', r, rs⟩, h => by
    rw [List.map_cons] at e'
    cases e'
    rw [List.map_cons] at h
    unfold flk at h
    by_cases q : n = f
    · rw [if_pos q] at h
      cases h
      exact ⟨u, by rw [List.lookup_cons, q]; simp, r⟩
    · rw [if_neg q] at h
      obtain ⟨v, h1, h2⟩ := flk_ins rs h
      refine ⟨v, ?_, h2⟩
      rw [List.lookup_cons]
      have : (f == n) = false := beq_eq_false_iff_ne.mpr fun z => q z.symm
      rw [this]
      exact h1

section
variable {X : Cx} {pins : List (Addr × Obj)} {σ : L2.St} {H : Hp} {s : Shared} {C : Addr} {ns : List Str} {ds : List D}
theorem frzO {v : V} (I : Inv X pins σ H s) (r : Rep (gx X) H (.obj C ns ds) v) : ∃ a dx mA us, v = .ref a ∧ ObjM s.heap a dx C mA ∧ (∀ n, n ∉ ns → mA n = none) ∧ Flds mA ns us ∧ Reps (gx X) H ds us := by
  obtain ⟨a, dx, mA, us, e, ⟨o1, q1⟩, ⟨o2, q2⟩, ne, no, fl, rs⟩ := r
  have z1 : ObjOk X.prog X.w H s.heap a (.frz o1 (insO a C dx)) := I.hok a _ q1
  have z2 : ObjOk X.prog X.w H s.heap dx (.frz o2 (nsO dx mA)) := I.hok dx _ q2
  exact ⟨a, dx, mA, us, e, ⟨z1.2.1, z2.2.1, ne⟩, no, fl, rs⟩
end
section
variable {X : Cx} {o e a b c : Expr} {es : List Expr} {pos p apos tpos : Pos} {w wa wb wc : WE} {ws : WA} {k : Nat} {f m : Str}
/-! ### e.f -/
/-- the class has what reading its instances' attribute f needs -/
structure ClF (K : PySem.W.Frag) (f : Str) (C : Addr) : Prop where
  cls : Cls K C
  no : NoAttr K C f
def D.fld (C : Addr) (f : Str) : D → Option D
  | .obj C' ns ds => if C' = C then flk ns ds f else none
  | _ => none
def rFld (g : Gx) (C : Addr) (f : Str) : V → Hp → VK → Prop := fun x H Q => ∃ d z, RepL g H d x ∧ d.fld C f = some z ∧ ∀ v, Rep g H z v → Q v H
theorem pe_fldD {ta : TE} {C : Addr} (c : ClF X.K f C) (he : PE X e ta) (hb : attributeBase e f X.env (eval e X.env) = eval e X.env := by rfl) : PE X (.Attribute e f pos) (tUn (rFld (gx X) C f) ta) := ⟨fun pins s σ H Q I h =>
  attr_of hb (thn (he.run pins s σ H _ I h) fun u s1 ⟨x, H1, I1, rx, d, z, rd, hz, q⟩ => by
    cases d with
    | obj C' ns ds =>
      simp only [D.fld] at hz
      split at hz
      · rename_i hC
        subst hC
        rcases rd with rd | ⟨a, rfl, dx, fs, hH, nd, hm, rs⟩
        · obtain ⟨a, dx, mA, us, rfl, O, no, fl, rs⟩ := frzO I1 rd
          obtain rfl : u = Value.ref a := rx
          obtain ⟨v, w, h1, h2, h3⟩ := flk_frz fl rs hz
          exact get_map I1.kIn O (c.cls.get f) c.cls.hd c.no h1 (handed_of h2) ⟨v, H1, I1.tok _, h2, q v h3⟩
        · obtain rfl : u = Value.ref a := rx
          rw [← hm] at hz
          obtain ⟨v, h1, h2⟩ := flk_ins rs hz
          exact getattr_ok I1 hH c.cls c.no h1 fun u' s2 I2 ru => ⟨v, H1, I2, ru, q v h2⟩
      · cases hz
    | _ => cases hz)⟩
theorem de_fld {C : Addr} (c : ClF X.K f C) (he : DQ X e w) (hb : attributeBase e f X.env (eval e X.env) = eval e X.env := by rfl) : DE X (.Attribute e f pos) (w1 (D.fld C f) w) := pe_imp (pe_fldD c he hb) fun σ H Q ⟨e, K, r, k, q⟩ =>
  ⟨e, _, r, k, fun d e1 x H1 ⟨z, hz, k1⟩ a1 i1 r1 => ⟨d, z, r1, hz, fun v rv => q z e1 v H1 k1 a1 i1 rv⟩⟩

/-! ### self.f = e -/
def putN (f : Str) (x : D) : List Str → List D → List D
  | n :: ns, d :: ds => if n = f then x :: ds else d :: putN f x ns ds
  | _, _ => [x]
def putNs (f : Str) (ns : List Str) : List Str := if f ∈ ns then ns else ns ++ [f]
theorem putF_ns (f : Str) (v : V) : ∀ fs : List (Str × V), (putF f v fs).map (·.1) = putNs f (fs.map (·.1))
  | [] => by simp [putF, putNs]
  | (n, u) :: fs => by
    have ih := putF_ns f v fs
    rw [show putF f v ((n, u) :: fs) = (if n = f then (n, v) :: fs else (n, u) :: putF f v fs) from rfl]
    by_cases q : n = f
    · rw [if_pos q]; simp [putNs, q]
    · rw [if_neg q, List.map_cons, ih]
      have q' : ¬ f = n := fun z => q z.symm
      unfold putNs
      simp only [List.map_cons, List.mem_cons, q', false_or]
      split <;> simp_all
theorem putF_ds {g : Gx} {H : Hp} {f : Str} {v : V} {x : D} (r : Rep g H x v) : ∀ {fs : List (Str × V)} {ds : List D}, Reps g H ds (fs.map (·.2)) → Reps g H (putN f x (fs.map (·.1)) ds) ((putF f v fs).map (·.2))
  | [], ds, h => by
    cases ds with
    | nil => exact ⟨v, [], rfl, r, rfl⟩
    | cons _ _ => obtain ⟨_, _, e, _⟩ := h; cases e
  | (n, u) :: fs, [], h => by cases (show _ = _ from h)
  | (n, u) :: fs, d :: ds, ⟨v', vs', e', p, ps⟩ => by
    rw [List.map_cons] at e'
    cases e'
    rw [show putF f v ((n, u) :: fs) = (if n = f then (n, v) :: fs else (n, u) :: putF f v fs) from rfl, List.map_cons]
    unfold putN
    by_cases q : n = f
    · rw [if_pos q, if_pos q]
      exact ⟨v, _, rfl, r, ps⟩
    · rw [if_neg q, if_neg q]
      exact ⟨u, _, rfl, p, putF_ds r ps⟩
theorem putNs_nodup {f : Str} {ns : List Str} (h : ns.Nodup) : (putNs f ns).Nodup := by
  unfold putNs
  split
  · exact h
  · rename_i q
    exact List.nodup_append.mpr ⟨h, by simp, fun a ha b hb => by
      rw [List.mem_singleton] at hb
      subst hb
      exact fun e => q (e ▸ ha)⟩
def wFldS (C : Addr) (i : Nat) (f : Str) (w : WE) : WS := fun e F => w e fun d e1 => ∃ ns ds, owned e1.sl[i]? = some (.obj C ns ds) ∧ ns.length < 1000 ∧ F.nx (e1.put i (.ow (.obj C (putNs f ns) (putN f d ns ds))))
theorem ds_fld {C : Addr} {value : Expr} (c : ClF X.K f C) (i : Nat) {y : Str} {pos' : Pos} (hv : DE X value w) (hN : X.N[i]? = some y := by rfl) (hvis : Vis X.env.scope y := by first | exact Or.inl rfl | exact Or.inr (Or.inl rfl) | exact Or.inr (Or.inr rfl)) (hd : (y == ("__debug__" : Str)) = false := by decide)
    (hcd : (y == ("__classdict__" : Str)) = false := by decide) (hs : swapsWith value (some (.Attribute (.Name y p) f pos')) pos.line X.env = pure false := by rfl) : DS X (.Assign [.Attribute (.Name y p) f pos'] value pos) (wFldS C i f w) :=
  ps_imp (ps_fld (pe_var hN hvis hd hcd) hv hs) fun D σ H ⟨e, F, r, k, n, _⟩ => ⟨e, _, r, k, fun d e1 v H1 ⟨ns, ds, ho, hl, k1⟩ a1 i1 r1 => by
    obtain ⟨a, h1, dx, fs, hH, nd, hm, rs⟩ := i1.ow i _ (owned_some ho)
    refine ⟨.ref a, h1, a, C, dx, fs, rfl, hH, c.cls, c.no, by rw [← List.length_map (f := (·.1)), hm]; exact hl, ?_⟩
    obtain ⟨J, A⟩ := i1.write (owned_some ho) h1 (u' := .ins C dx (putF f v fs)) (d' := .obj C (putNs f ns) (putN f d ns ds)) (fun _ z => nomatch z) fun st =>
      ⟨dx, _, upd_same, putNs_nodup nd, by rw [putF_ns, hm], by rw [← hm]; exact (putF_ds (f := f) (r1.mono st d v) (rs.mono st ds _))⟩
    exact n _ σ _ k1 (a1.trans A) J⟩

/-! ### o.m(..) -/
/-- a method as those that call it see it; its promise is told of self and the arguments -/
structure MetAt (P : Program) (w : World) (K : PySem.W.Frag) (mg : Str → Option Value) (base : Heap) (C : Addr) (m : Str) (k : Nat) (dd : List D) (sp : FS) : Prop where
  cls : Cls K C
  ex : ∃ (f : Addr) (fd : FuncData) (ps : List Str) (dvs : List V) (us : List Value), Meth K C m f ∧ Binds K fd ps us ∧ Vals dvs us ∧ (∀ H, Reps ⟨P, w, K⟩ H dd dvs) ∧ DFn P w K mg base k f fd ps sp
def wMeth (C : Addr) (m : Str) (sp : FS) (dd : List D) (w : WE) (ws : WA) : WE := fun e K => w e fun d e1 => (∃ ns ds, d = .obj C ns ds ∧ m ∉ ns) ∧ ws e1 fun ds e2 => sp (d :: (ds ++ dd)) e2.cnt (fun z c => K z { e2 with cnt := c }) fun _ _ => False
def tMethD (g : Gx) (C : Addr) (m : Str) (sp : Sp) (dvs : List V) (E : XK) (ta : TE) (t : TA) : TE := fun σ H Q => ta σ H fun x H1 => (∃ ns ds, Rep g H1 (.obj C ns ds) x ∧ m ∉ ns) ∧ t σ H1 fun vs H2 => sp (x :: (vs ++ dvs)) H2 Q E
theorem pe_methD {pl : Sem Bool} {C f : Addr} {fd : FuncData} {ps : List Str} {dvs : List V} {us : List Value} {sp : Sp} {E : XK} {ta : TE} {t : TA} {CX : CXT} (he : PE X o ta) (c : Cls X.K C) (hm : Meth X.K C m f) (F : FnOk X.prog X.w X.K X.mg X.base CX k f fd ps sp) (hr : Room k X.A) (hb : Binds X.K fd ps us) (hd : Vals dvs us)
    (hx : Passes CX X E) (ha : PA X (e :: es) t) (hst : starEach (e :: es) X.env = (false, eval e X.env) :: starEach es X.env) (hpl : (backTo pos (starEach es X.env)).any (·.1) = false)
    (ht : eval (.Call (.Attribute o m apos) (e :: es) [] pos) X.env = (do
      let ov ← eval o X.env
      standAt apos.atName
      let (f, first) ← holding [ov] (getMethod ov m pl)
      callWith pos f first (backTo pos (starEach (e :: es) X.env)) (backToKw pos (keywordEach [] X.env)))) : PE X (.Call (.Attribute o m apos) (e :: es) [] pos) (tMethD (gx X) C m sp dvs E ta t) := ⟨fun pins s σ H Q I h =>
  PySem.W.methodCall_KW (pl := pl) (thn (he.run pins s σ H _ I h) fun u s1 ⟨x, H1, I1, rx, ⟨ns, ds, rd, nm⟩, q⟩ => by
    obtain ⟨a, dx, mA, vs, rfl, O, no, fl, rs⟩ := frzO I1 rd
    obtain rfl : u = Value.ref a := rx
    refine get_meth I1.kIn O (c.get m) hm.at_ hm.fn (no m nm) ?_
    refine PySem.W.callWith_K (first := [.ref a]) (h₀ := X.base) I.ok.mod.kin hm.kp (thn (ha.run pos pins s1 σ H1 _ I1 q) fun ws s2 ⟨vs, H2, I2, r, q2⟩ => ⟨I2.kIn, ?_⟩) hst hpl
    exact run_fn (us := .ref a :: ws) (vs := .ref a :: vs) F hr hb hd hx I2 (.cons rfl r) q2) ht⟩
theorem pe_methD0 {pl : Sem Bool} {C f : Addr} {fd : FuncData} {ps : List Str} {dvs : List V} {us : List Value} {sp : Sp} {E : XK} {ta : TE} {CX : CXT} (he : PE X o ta) (c : Cls X.K C) (hm : Meth X.K C m f) (F : FnOk X.prog X.w X.K X.mg X.base CX k f fd ps sp) (hr : Room k X.A) (hb : Binds X.K fd ps us) (hd : Vals dvs us)
    (hx : Passes CX X E) (ht : eval (.Call (.Attribute o m apos) [] [] pos) X.env = (do
      let ov ← eval o X.env
      standAt apos.atName
      let (f, first) ← holding [ov] (getMethod ov m pl)
      callWith pos f first (backTo pos (starEach [] X.env)) (backToKw pos (keywordEach [] X.env)))) : PE X (.Call (.Attribute o m apos) [] [] pos) (tMethD (gx X) C m sp dvs E ta tNil) := ⟨fun pins s σ H Q I h =>
  PySem.W.methodCall_KW (pl := pl) (thn (he.run pins s σ H _ I h) fun u s1 ⟨x, H1, I1, rx, ⟨ns, ds, rd, nm⟩, q⟩ => by
    obtain ⟨a, dx, mA, vs, rfl, O, no, fl, rs⟩ := frzO I1 rd
    obtain rfl : u = Value.ref a := rx
    refine get_meth I1.kIn O (c.get m) hm.at_ hm.fn (no m nm) ?_
    exact PySem.W.callWith_K0 (first := [.ref a]) I1.kIn hm.kp (run_fn (us := [.ref a]) (vs := [.ref a]) F hr hb hd hx I1 (.cons rfl .nil) q)) ht⟩
theorem up_meth {g : Gx} {C : Addr} {sp : FS} {dd : List D} {dvs : List V} (hd : ∀ H, Reps g H dd dvs) : ∀ σ H Q, up g (wMeth C m sp dd w ws) σ H Q → tMethD g C m (spOf g sp) dvs E0 (up g w) (upA g ws) σ H Q := fun σ H Q ⟨e, K, r, k, q⟩ =>
  ⟨e, _, r, k, fun d e1 x H1 ⟨⟨ns, ds, hd1, hm⟩, k1⟩ a1 i1 r1 => ⟨⟨ns, ds, by rw [← hd1]; exact r1, hm⟩, e1, _, i1, k1, fun ds e2 vs H2 k2 a2 i2 r2 =>
    ⟨d :: (ds ++ dd), e2.cnt, _, _, ⟨x, vs ++ dvs, rfl, r1.mono a2.stab d x, r2.append (hd H2)⟩, i2.pens, k2, fun z c v H' k' o p' r' => q z _ v H' k' ((a1.trans a2).trans (o.adv (g := g) c)) (i2.out o p') r', fun _ _ _ _ _ z => z.elim⟩⟩⟩
theorem de_meth {pl : Sem Bool} {C : Addr} {dd : List D} {sp : FS} {j : Nat} (M : MetAt X.prog X.w X.K X.mg X.base C m j dd sp) (hr : Room k X.A) (hj : j ≤ k) (ho : DE X o w) (ha : DA X (e :: es) ws) (hst : starEach (e :: es) X.env = (false, eval e X.env) :: starEach es X.env := by rfl) (hpl : (backTo pos (starEach es X.env)).any (·.1) = false := by rfl)
    (ht : eval (.Call (.Attribute o m apos) (e :: es) [] pos) X.env = (do
      let ov ← eval o X.env
      standAt apos.atName
      let (f, first) ← holding [ov] (getMethod ov m pl)
      callWith pos f first (backTo pos (starEach (e :: es) X.env)) (backToKw pos (keywordEach [] X.env))) := by rfl) : DE X (.Call (.Attribute o m apos) (e :: es) [] pos) (wMeth C m sp dd w ws) := by
  obtain ⟨f, fd, ps, dvs, us, hm, hb, hv, hd, F⟩ := M.ex
  exact pe_imp (pe_methD ho M.cls hm F (hr.mono hj) hb hv passE0 ha hst hpl ht) (up_meth hd)
theorem de_meth0 {pl : Sem Bool} {C : Addr} {dd : List D} {sp : FS} {j : Nat} (M : MetAt X.prog X.w X.K X.mg X.base C m j dd sp) (hr : Room k X.A) (hj : j ≤ k) (ho : DE X o w)
    (ht : eval (.Call (.Attribute o m apos) [] [] pos) X.env = (do
      let ov ← eval o X.env
      standAt apos.atName
      let (f, first) ← holding [ov] (getMethod ov m pl)
      callWith pos f first (backTo pos (starEach [] X.env)) (backToKw pos (keywordEach [] X.env))) := by rfl) : DE X (.Call (.Attribute o m apos) [] [] pos) (wMeth C m sp dd w wNil) := by
  obtain ⟨f, fd, ps, dvs, us, hm, hb, hv, hd, F⟩ := M.ex
  refine pe_imp (pe_methD0 ho M.cls hm F (hr.mono hj) hb hv passE0 ht) fun σ H Q h => ?_
  obtain ⟨e, K, r, k, q⟩ := up_meth hd σ H Q h
  exact ⟨e, K, r, k, fun d e1 x H1 k1 a1 i1 r1 => ⟨(q d e1 x H1 k1 a1 i1 r1).1, by
    obtain ⟨e2, K2, i2, k2, q2⟩ := (q d e1 x H1 k1 a1 i1 r1).2
    exact q2 [] e2 [] H1 k2 (.refl ..) i2 rfl⟩⟩
end
end DL
/-! DL, part q: instances are made. -/
namespace DL
open PySem PySem.Spec L2
open PyProof.Rows (envOfC)

/-- a call is over that may have changed the instance at x -/
structure OutI (x : Addr) (H H' : Hp) : Prop where
  keep : ∀ a o, H a = some o → a ≠ x → ¬ Lo o → H' a = some o
  stab : Stab H H'
  there : ∀ a, H' a = none → H a = none
/-- an __init__ over data: its arguments behind self; what the instance then is -/
def spI (g : Gx) (C : Addr) (sp : FS) : Sp := fun vs H Q E => ∃ x dx rest ds c K KE, vs = .ref x :: rest ∧ H x = some (.ins C dx []) ∧ Reps g H ds rest ∧ Pens g H c ∧ sp ds c K KE ∧
  (∀ d c' H', K d c' → OutI x H H' → Pens g H' c' → (Rep g H' d (.ref x) ∨ CellAt g H' x d) → Q .non H') ∧ ∀ d c' cls dd H', KE d c' → OutI x H H' → Pens g H' c' → ErrAt g H' d cls dd → E cls dd H'
section
variable {P : Program} {w : World} {K : PySem.W.Frag} {mg : Str → Option Value} {base : Heap} {x qual n0 : Str} {params : Arguments} {body : List Stmt} {scope : Scope} {dvs : List V} {kws : List (Str × V)} {f C : Addr} {fd : FuncData}
abbrev DFi (P : Program) (w : World) (K : PySem.W.Frag) (mg : Str → Option Value) (base : Heap) (C : Addr) (k : Nat) (f : Addr) (fd : FuncData) (ps : List Str) (sp : FS) : Prop := FnOk P w K mg base (CX P w) k f fd ps (spI ⟨P, w, K⟩ C sp)
theorem dfi_ok {N ps : List Str} {p0 : Str} {k : Nat} {sp : FS} {W : WS} (F : FunD K x qual params body scope dvs kws f fd) (S : FnScope (n0 :: N) (p0 :: ps) scope) (len : ∀ ds c K KE, sp ds c K KE → ds.length = ps.length)
    (hb : ∀ (cdv : Value) (A : Around) (outer : List Env) (s : Shared) (H : Hp) (E : XK), Room k (A.deeper (envOfC qual scope s.heap.objs.size f cdv)) → DSs (bX P w K mg base (n0 :: N) qual scope f cdv A outer s H E) body W)
    (q : ∀ x ds c K KE, sp ds c K KE → W (en0I (n0 :: N) x C ds c) { nx := fun e => e.me = some x ∧ ∃ d, datOf e.sl[0]? = some d ∧ K d e.cnt, rt := fun _ _ => False }) :
    DFi P w K mg base C (k + 1) f fd (p0 :: ps) sp := by
  refine F.ok S (fun vs H Q E h => ?_) (fun cdv A outer s H vs Q E hr hsp => ?_)
  · obtain ⟨x, dx, rest, ds, c, K, KE, e, _, r, _, h, _⟩ := h
    rw [e, List.length_cons, List.length_cons, r.length, len ds c K KE h]
  obtain ⟨x, dx, rest, ds, c, Kd, KE, rfl, hx, r, p, hs, h1, h2⟩ := hsp
  refine ⟨_, (hb cdv A outer s H E hr).nox, ?_⟩
  obtain ⟨er, ow⟩ := er_startI (n0 := n0) (N := N) hx r p
  refine ⟨en0I (n0 :: N) x C ds c, _, er, q x ds c Kd KE hs, fun e' σ' H' ⟨hme, d, hd, k'⟩ a' r' => ?_, fun _ _ _ z => z.elim, fun _ _ _ z => z.elim, fun _ _ _ _ z => z.elim⟩
  obtain ⟨v, g1, g2⟩ := r'.dat hd
  rw [r'.len.2 x hme] at g1
  cases g1
  refine h1 d e'.cnt H' k' ⟨fun a o h n l => a'.keep a o h (fun z => n (ow a z)) l, a'.stab, a'.there⟩ r'.pens ?_
  rcases g2 with g2 | ⟨a, ea, g2⟩
  · exact .inl g2
  · cases ea
    exact .inr g2
/-- a class that is made by its __init__, as those that call it see it -/
structure MkAt (P : Program) (w : World) (K : PySem.W.Frag) (mg : Str → Option Value) (base : Heap) (x : Str) (C : Addr) (k : Nat) (dd : List D) (sp : FS) : Prop where
  ex : ∃ (f : Addr) (fd : FuncData) (ps : List Str) (dvs : List V) (us : List Value), mg x = some (.ref C) ∧ Mk K C f ∧ Binds K fd ps us ∧ Vals dvs us ∧ (∀ H, Reps ⟨P, w, K⟩ H dd dvs) ∧ DFi P w K mg base C k f fd ps sp
end
section
variable {X : Cx} {o e a b c : Expr} {es : List Expr} {pos p apos tpos : Pos} {w wa wb wc : WE} {ws : WA} {k : Nat} {x : Str}
theorem grow_ins {H : Hp} {x dx C : Addr} (h1 : H x = none) (h2 : H dx = none) : Grow H (upd (upd H dx (.own x)) x (.ins C dx [])) := ⟨fun a o h => by
  rw [upd_ne (ne_of_none h h1), upd_ne (ne_of_none h h2)]
  exact h, fun a kvs h => by
  by_cases q : a = x
  · rw [q, upd_same] at h; cases h
  · rw [upd_ne q] at h
    by_cases q2 : a = dx
    · rw [q2, upd_same] at h; cases h
    · rw [upd_ne q2] at h
      exact h⟩
theorem ER.outI {g : Gx} {σ : L2.St} {e : En} {H H' : Hp} {x : Addr} {c : Nat} (r : ER g σ H e) (o : OutI x H H') (no : ¬ Own σ e x) (p : Pens g H' c) : ER g σ H' { e with cnt := c } :=
  ⟨fun i d h => let ⟨v, h1, h2⟩ := r.fz i d h; ⟨v, h1, h2.mono o.stab d v⟩, fun i d h => let ⟨a, h1, h2⟩ := r.ow i d h
    ⟨a, h1, h2.keep o.stab fun u q => o.keep a u q (fun z => no ⟨i, d, h, by rw [← z]; exact h1⟩) fun l => by
      obtain ⟨u', e', _, n⟩ := h2.there
      rw [e'] at q
      cases q
      exact n l⟩, r.apart, p, r.len⟩
/-- C(..): a new instance -/
theorem up_make {g : Gx} {C : Addr} {sp : FS} {dd : List D} {dvs : List V} (hd : ∀ H, Reps g H dd dvs) : ∀ σ H Q, upM g (wCall sp dd ws) σ H Q → tMake C (spI g C sp) dvs E0 (upA g ws) σ H Q := fun σ H Q ⟨e, K, r, k, q⟩ =>
  ⟨e, _, r, k, fun ds e1 vs H1 k1 a1 r1 p1 => fun x dx hx hdx hne => by
    have gr := grow_ins (C := C) hx hdx
    refine ⟨x, dx, vs ++ dvs, ds ++ dd, e1.cnt, _, _, rfl, upd_same, (p1.mono gr.stab ds vs).append (hd _), r1.pens.grow gr, k1, fun d c' H' k' o p' rv => ⟨rfl, ?_⟩, fun _ _ _ _ _ z => z.elim⟩
    have no := not_own r1 hx
    have A : Adv σ e1 H1 σ { e1 with cnt := c' } H' := ⟨fun a u h n l => o.keep a u (gr.keep a u h) (ne_of_none h hx) l, gr.stab.trans o.stab, fun a h => gr.there a (o.there a h), fun a h => .inl h⟩
    refine q d { e1 with cnt := c' } (.ref x) H' k' (a1.trans A) ((r1.grow gr).outI o no p') ?_
    rcases rv with rv | rv
    · exact .inl rv
    · exact .inr ⟨x, rfl, a1.there x hx, rv, no⟩⟩
theorem de_make {C : Addr} {dd : List D} {sp : FS} {j : Nat} (M : MkAt X.prog X.w X.K X.mg X.base x C j dd sp) (hr : Room k X.A) (ha : DA X (e :: es) ws) (hj : j + 1 ≤ k := by decide) (hg : Gl X x := by rfl) (hdb : (x == ("__debug__" : Str)) = false := by decide)
    (he : starEach (e :: es) X.env = (false, eval e X.env) :: starEach es X.env := by rfl) (hpl : (backTo pos (starEach es X.env)).any (·.1) = false := by rfl) : DE X (.Call (.Name x p) (e :: es) [] pos) (wCall sp dd ws) := by
  obtain ⟨f, fd, ps, dvs, us, hm, mk, hb, hv, hd, F⟩ := M.ex
  exact de_M (pe_imp (pe_make mk F (hr.mono hj) hg hm hb hv passE0 ha hdb he hpl) (up_make hd))
theorem de_make0 {C : Addr} {dd : List D} {sp : FS} {j : Nat} (M : MkAt X.prog X.w X.K X.mg X.base x C j dd sp) (hr : Room k X.A) (hj : j + 1 ≤ k := by decide) (hg : Gl X x := by rfl) (hdb : (x == ("__debug__" : Str)) = false := by decide) : DE X (.Call (.Name x p) [] [] pos) (wCall sp dd wNil) := by
  obtain ⟨f, fd, ps, dvs, us, hm, mk, hb, hv, hd, F⟩ := M.ex
  refine de_M (pe_imp (pe_make0 mk F (hr.mono hj) hg hm hb hv passE0 hdb) fun σ H Q h => ?_)
  obtain ⟨e, K, r, k, q⟩ := up_make hd σ H Q h
  exact q [] e [] H k (.refl ..) r rfl
end
end DL
/-! DL, part r: the pen. -/
namespace DL
open PySem PySem.Spec L2
open PyProof.Rows (envOfC)

def penK (l : Addr) (at_ dg c f : Int) : List (Key × V) := [(.inr "cells", .ref l), (.inr "at", .int at_), (.inr "digits", .int dg), (.inr "count", .int c), (.inr "fold", .int f)]
section
variable {l : Addr} {at_ dg c f x : Int}
theorem pk_cells : valV (penK l at_ dg c f) (.inr "cells") = some (.ref l) := by rfl
theorem pk_at : valV (penK l at_ dg c f) (.inr "at") = some (.int at_) := by rfl
theorem pk_digits : valV (penK l at_ dg c f) (.inr "digits") = some (.int dg) := by rfl
theorem pk_count : valV (penK l at_ dg c f) (.inr "count") = some (.int c) := by rfl
theorem pk_fold : valV (penK l at_ dg c f) (.inr "fold") = some (.int f) := by rfl
theorem pp_at : putK (penK l at_ dg c f) (.inr "at") (.int x) = penK l x dg c f := by rfl
theorem pp_digits : putK (penK l at_ dg c f) (.inr "digits") (.int x) = penK l at_ x c f := by rfl
theorem pp_count : putK (penK l at_ dg c f) (.inr "count") (.int x) = penK l at_ dg x f := by rfl
theorem pp_fold : putK (penK l at_ dg c f) (.inr "fold") (.int x) = penK l at_ dg c x := by rfl
end

/-! ### _law_draw, by values -/
section
variable (K : PySem.W.Frag)
def kN (n : Int) : TE := tC (.int n)
def vP (f : Str) : TE := tDGet (tVar 0) (tC (.str f))
def sPut (f : Str) (te : TE) : TS := sDPut (tVar 0) (tC (.str f)) te
abbrev oAdd : R2 := rI0 fun i j => .int (i + j)
abbrev oSub : R2 := rI0 fun i j => .int (i - j)
abbrev oMul : R2 := rI CMul fun i j => .int (i * j)
abbrev oMod : R2 := rI (fun _ j => 0 < j) fun i j => .int (i % j)
abbrev oDiv : R2 := rI CDiv fun i j => .int (i / j)
abbrev oPow : R2 := rI CPow fun i j => .int (i ^ j.toNat)
abbrev oLt : R2 := rI0 fun i j => .bl (decide (i < j))
abbrev oGt : R2 := rI0 fun i j => .bl (decide (j < i))
abbrev oGe : R2 := rI0 fun i j => .bl (decide (j ≤ i))
def rLenV : List V → Hp → VK → Prop := fun xs H Q => ∃ x n, xs = [x] ∧ LenV K x H n ∧ Q (.int n) H
def rInt1 : List V → Hp → VK → Prop := fun xs H Q => (∃ i, xs = [.int i] ∧ Q (.int i) H) ∨ ∃ k, xs = [.bl k] ∧ Q (.int (if k then 1 else 0)) H
def tInt (te : TE) : TE := tCB rInt1 (tArg1 te)
def tDraw : TS :=
  tSeq (sPut "count" (tOp oAdd (vP "count") (kN 1))) <|
  tSeq (tIfS (tAnd (tTest (tOp rEq (vP "digits") (kN 0))) (tTest (tOp oLt (vP "at") (tCB (rLenV K) (tArg1 (vP "cells"))))))
    (tSeq (tAsg (tOp (rIx K) (vP "cells") (vP "at")) (gName 2)) <|
      tSeq (sPut "at" (tOp oAdd (vP "at") (kN 1))) <|
      tIfS (tTest (tOp oGe (tVar 2) (tOp oPow (kN 10) (kN 18)))) (sPut "digits" (tOp oSub (tVar 2) (tOp oPow (kN 10) (kN 18))))
        (sPut "fold" (tOp oMod (tInt (tOp oAdd (tOp oMul (vP "fold") (kN 70117)) (tVar 2))) (kN 2147483171)))) tNext) <|
  tSeq (tIfS (tTest (tOp oGt (vP "digits") (kN 0)))
    (tSeq (tAsg (tOp oMod (tInt (vP "digits")) (tVar 1)) (gName 3)) <| tSeq (sPut "digits" (tOp oDiv (vP "digits") (tVar 1))) <| tRet (tVar 3)) tNext) <|
  tSeq (tAsg (tOp oAdd (tOp oAdd (vP "fold") (tOp oMul (vP "count") (kN 7949))) (kN 79)) (gName 4)) <|
  tRet (tOp oMod (tOp oDiv (tInt (tOp oMod (tOp oPow (tVar 4) (kN 17)) (kN 2305843009213693951))) (kN 128)) (tVar 1))
end

section
variable {K : PySem.W.Frag} {σ : L2.St} {H : Hp} {a l : Addr} {at_ dg c f many : Int} {D : Ends}
theorem vP_ok {kvs : List (Key × V)} {n : Str} {v : V} {Q : VK} (h0 : σ[0]? = some (some (.ref a))) (hH : H a = some (.dK kvs)) (hv : valV kvs (.inr n) = some v) (q : Q v H) : vP n σ H Q :=
  ⟨.ref a, h0, a, v, rfl, by rw [← hv]; exact DGet.k (k := .inr n) hH, q⟩
theorem put_ok {n : Str} {v : V} {kvs kvs' : List (Key × V)} (h0 : σ[0]? = some (some (.ref a))) (hH : H a = some (.dK kvs)) (hl : kvs.length < sizeLine) (e : putK kvs (.inr n) v = kvs') (h : D.nx σ (upd H a (.dK kvs'))) :
    tVar 0 σ H fun x H2 => tC (.str n) σ H2 fun y H3 => ∃ a H4, x = .ref a ∧ DPut H3 a y v H4 ∧ D.nx σ H4 :=
  ⟨.ref a, h0, a, _, rfl, DPut.k (k := .inr n) hH hl, by rw [e]; exact h⟩
theorem len5 : (penK l at_ dg c f).length < sizeLine := by rw [sizeLine_eq]; show 5 < 16777216; decide
theorem tDraw_ok {ns : List Int} {g : Gx} (hH : H a = some (.dK (penK l at_ dg c f))) (hl : Fz H l (.lst (ns.map V.int))) (h1 : 0 ≤ at_) (h2 : 0 ≤ dg) (h3 : 0 ≤ c) (h4 : c < 2 ^ 50) (h5 : 0 ≤ f) (h6 : f < 2147483171) (m1 : 0 < many) (m2 : many < 2 ^ 30)
    (q : ∀ r at' dg' f', 0 ≤ r → r < many → 0 ≤ at' → 0 ≤ dg' → 0 ≤ f' → f' < 2147483171 → D.rt (.int r) (upd H a (.dK (penK l at' dg' (c + 1) f')))) : tDraw K D [some (.ref a), some (.int many), none, none, none] H := by
  have hla : l ≠ a := fun e => by
    obtain ⟨o, ho⟩ := hl
    rw [e, hH] at ho
    cases ho
  have sq : ∀ u, SqL K (upd H a u) l (ns.map V.int) := fun u => by
    obtain ⟨o, ho⟩ := hl
    exact .inl (.inr ⟨o, by rw [upd_ne hla]; exact ho⟩)
  have mod1 : ∀ x : Int, 0 ≤ x % many ∧ x % many < many := fun x => ⟨Int.emod_nonneg x (by omega), Int.emod_lt_of_pos x m1⟩
  refine vP_ok rfl hH pk_count ⟨c, 1, rfl, rfl, put_ok rfl hH len5 pp_count ?_⟩
  -- behind the draw of a cell
  have rest : ∀ (at' dg' f' : Int) (x : Option V), 0 ≤ at' → 0 ≤ dg' → 0 ≤ f' → f' < 2147483171 →
      tSeq (tIfS (tTest (tOp oGt (vP "digits") (kN 0))) (tSeq (tAsg (tOp oMod (tInt (vP "digits")) (tVar 1)) (gName 3)) <| tSeq (sPut "digits" (tOp oDiv (vP "digits") (tVar 1))) <| tRet (tVar 3)) tNext) (
        tSeq (tAsg (tOp oAdd (tOp oAdd (vP "fold") (tOp oMul (vP "count") (kN 7949))) (kN 79)) (gName 4)) <|
        tRet (tOp oMod (tOp oDiv (tInt (tOp oMod (tOp oPow (tVar 4) (kN 17)) (kN 2305843009213693951))) (kN 128)) (tVar 1))) D [some (.ref a), some (.int many), x, none, none] (upd H a (.dK (penK l at' dg' (c + 1) f'))) := by
    intro at' dg' f' x a1 a2 a3 a4
    refine vP_ok rfl upd_same pk_digits ⟨dg', 0, rfl, rfl, _, rfl, ?_⟩
    by_cases hd : (0 : Int) < dg'
    · rw [decide_eq_true hd]
      refine iteT ?_
      refine vP_ok rfl upd_same pk_digits (.inl ⟨dg', rfl, .int many, rfl, dg', many, rfl, rfl, m1, ?_⟩)
      refine vP_ok rfl upd_same pk_digits ⟨.int many, rfl, dg', many, rfl, rfl, ⟨m1, by omega⟩, put_ok rfl upd_same len5 pp_digits ⟨.int (dg' % many), rfl, ?_⟩⟩
      rw [upd_upd]
      exact q _ _ _ _ (mod1 dg').1 (mod1 dg').2 a1 (Int.ediv_nonneg a2 (by omega)) a3 a4
    · rw [decide_eq_false hd]
      refine iteF ?_
      refine vP_ok rfl upd_same pk_fold (vP_ok rfl upd_same pk_count ⟨c + 1, 7949, rfl, rfl, .inr (by omega), f', (c + 1) * 7949, rfl, rfl, f' + (c + 1) * 7949, 79, rfl, rfl, ?_⟩)
      refine ⟨.int (f' + (c + 1) * 7949 + 79), rfl, _, 17, rfl, rfl, ⟨by omega, by omega, by omega⟩, _, 2305843009213693951, rfl, rfl, by omega, .inl ⟨_, rfl, _, 128, rfl, rfl, ⟨by omega, by omega⟩, .int many, rfl, _, many, rfl, rfl, m1, ?_⟩⟩
      exact q _ _ _ _ (mod1 _).1 (mod1 _).2 a1 a2 a3 a4
  refine vP_ok rfl upd_same pk_digits ⟨rfl, _, rfl, ?_⟩
  by_cases hd : (V.int dg = V.int 0)
  · rw [decide_eq_true hd]
    refine iteT ?_
    refine vP_ok rfl upd_same pk_at (vP_ok rfl upd_same pk_cells ⟨.ref l, ns.length, rfl, .inl ⟨_, sq _, by rw [List.length_map]⟩, at_, ns.length, rfl, rfl, _, rfl, ?_⟩)
    by_cases ha : at_ < ns.length
    · rw [decide_eq_true ha]
      refine iteT ?_
      obtain ⟨j, rfl⟩ : ∃ j : Nat, at_ = j := ⟨at_.toNat, by omega⟩
      have hj : j < ns.length := by omega
      refine vP_ok rfl upd_same pk_cells (vP_ok rfl upd_same pk_at (.inl ⟨l, _, j, .int ns[j], rfl, rfl, sq _, ?_, ?_⟩))
      · unfold atI ixN
        rw [if_pos (by omega), List.length_map, if_pos ha]
        show (ns.map V.int)[((j : Nat) : Int).toNat]? = _
        rw [Int.toNat_natCast, List.getElem?_map, List.getElem?_eq_getElem hj]; rfl
      refine vP_ok rfl upd_same pk_at ⟨(j : Int), 1, rfl, rfl, put_ok rfl upd_same len5 pp_at ?_⟩
      rw [upd_upd]
      refine ⟨.int ns[j], rfl, 10, 18, rfl, rfl, ⟨by omega, by omega, by decide⟩, ns[j], _, rfl, rfl, _, rfl, ?_⟩
      by_cases hg : (10 : Int) ^ (18 : Int).toNat ≤ ns[j]
      · rw [decide_eq_true hg]
        refine iteT ?_
        refine ⟨.int ns[j], rfl, 10, 18, rfl, rfl, ⟨by omega, by omega, by decide⟩, ns[j], _, rfl, rfl, put_ok rfl upd_same len5 pp_digits ?_⟩
        rw [upd_upd]
        exact rest _ _ _ _ (by omega) (by omega) h5 h6
      · rw [decide_eq_false hg]
        refine iteF ?_
        refine vP_ok rfl upd_same pk_fold ⟨f, 70117, rfl, rfl, .inr (by omega), .int ns[j], rfl, _, _, rfl, rfl, .inl ⟨_, rfl, _, 2147483171, rfl, rfl, by omega, put_ok rfl upd_same len5 pp_fold ?_⟩⟩
        rw [upd_upd]
        exact rest _ _ _ _ (by omega) h2 (Int.emod_nonneg _ (by omega)) (Int.emod_lt_of_pos _ (by omega))
    · rw [decide_eq_false ha]
      refine iteF ?_
      exact rest _ _ _ _ h1 h2 h5 h6
  · rw [decide_eq_false hd]
    refine iteF ?_
    exact rest _ _ _ _ h1 h2 h5 h6
end

/-! ### _law_draw, _law_pen over data -/
theorem pens_upd {g : Gx} {H : Hp} {a : Addr} {kvs kvs' : List (Key × V)} {n m : Nat} (hH : H a = some (.dK kvs)) (hn : n ≤ m) (p : Pens g H n) (q : Stab H (upd H a (.dK kvs')) → PenOk g (upd H a (.dK kvs')) kvs' m) : Out H (upd H a (.dK kvs')) ∧ Pens g (upd H a (.dK kvs')) m := by
  have st : Stab H (upd H a (.dK kvs')) := ⟨fun b o h i => by
    rw [upd_ne fun z => by rw [z, hH] at h; cases h; exact i]
    exact h, fun b k h => by
    by_cases z : b = a
    · exact ⟨kvs', by rw [z, upd_same]⟩
    · exact ⟨k, by rw [upd_ne z]; exact h⟩⟩
  refine ⟨⟨fun b o h l => ?_, st, fun b h => ?_⟩, fun b k h => ?_⟩
  · rw [upd_ne fun z => by rw [z, hH] at h; cases h; exact l trivial]
    exact h
  · by_cases z : b = a
    · rw [z, upd_same] at h; cases h
    · rw [upd_ne z] at h; exact h
  · by_cases z : b = a
    · rw [z, upd_same] at h
      cases h
      exact q st
    · rw [upd_ne z] at h
      exact (p b k h).mono st hn
def spDraw : FS := fun ds c K _ => ∃ many : Int, ds = [.pen, .int many] ∧ 0 < many ∧ many < 2 ^ 30 ∧ c < 2 ^ 50 ∧ ∀ r : Int, 0 ≤ r → r < many → K (.int r) (c + 1)
section
variable {P : Program} {w : World} {K : PySem.W.Frag} {mg : Str → Option Value} {base : Heap} {x qual : Str} {params : Arguments} {body : List Stmt} {scope : Scope} {dvs : List V} {kws : List (Str × V)} {f : Addr} {fd : FuncData} {k : Nat} {ps : List Str}
theorem dfn_draw (F : FunD K x qual params body scope dvs kws f fd) (S : FnScope ["pen", "many", "cell", "digit", "blend"] ps scope) (hps : ps.length = 2)
    (hb : ∀ (cdv : Value) (A : Around) (outer : List Env) (s : Shared) (H : Hp) (E : XK), Room k (A.deeper (envOfC qual scope s.heap.objs.size f cdv)) → PSs (bX P w K mg base ["pen", "many", "cell", "digit", "blend"] qual scope f cdv A outer s H E) body (tDraw K)) :
    DFn P w K mg base (k + 1) f fd ps spDraw := by
  refine F.ok S (spOf_len fun ds c K KE h => ?_) (fun cdv A outer s H vs Q E hr hsp => ?_)
  · obtain ⟨many, e, _⟩ := h
    rw [e, hps]; rfl
  obtain ⟨ds, c, Kd, KE, r, p, ⟨many, rfl, m1, m2, hc, hK⟩, h1, h2⟩ := hsp
  refine ⟨_, (hb cdv A outer s H E hr).nox, ?_⟩
  obtain ⟨v, v', rfl, ⟨a, kvs, rfl, hH⟩, e2⟩ := reps_two r
  rw [show v' = _ from e2]
  obtain ⟨l, ns, at_, dg, cn, f, ek, hl, b1, b2, b3, b4, b5, b6⟩ := p a kvs hH
  rw [ek] at hH
  refine tDraw_ok (g := ⟨P, w, K⟩) hH hl b1 b2 b3 (by omega) b5 b6 m1 m2 fun r at' dg' f' r1 r2 c1 c2 c3 c4 => ?_
  obtain ⟨o, pn⟩ := pens_upd (kvs' := penK l at' dg' (cn + 1) f') (m := c + 1) hH (Nat.le_succ c) p fun st => ⟨l, ns, at', dg', cn + 1, f', rfl, hl.mono st, c1, c2, by omega, by omega, c3, c4⟩
  exact h1 (.int r) (c + 1) (.int r) _ (hK r r1 r2) o pn rfl
end
def spPen : FS := fun ds c K _ => ∃ ns : List Int, ds = [.scr ns] ∧ K .pen c
def wPen (i j : Nat) : WE := fun e K => ∃ ns f, e.sl[i]? = some (.fz (.scr ns)) ∧ e.sl[j]? = some (.fz (.int f)) ∧ 0 ≤ f ∧ f < 2147483171 ∧ K .pen e
def rListV (K : PySem.W.Frag) : List V → Hp → VK → Prop := fun xs H Q => ∃ p ys, xs = [.ref p] ∧ (SqL K H p ys ∨ SqT K H p ys) ∧ ∀ l, H l = none → Q (.ref l) (upd H l (.lst ys))
def penTrs (K : PySem.W.Frag) (i j : Nat) : List (TE × TE) := [(tC (.str "cells"), tCB (rListV K) (tArg1 (tVar i))), (tC (.str "at"), kN 0), (tC (.str "digits"), kN 0), (tC (.str "count"), kN 0), (tC (.str "fold"), tVar j)]
theorem de_pen {X : Cx} {pos : Pos} {keys : List (Option Expr)} {values : List Expr} (i j : Nat) (h : PPs X pos keys values (penTrs X.K i j)) (hall : keys.all (·.isSome) = true := by rfl) (hl : keys.length = values.length := by rfl) (h0 : keys ≠ [] := by intro z; cases z) (h15 : keys.length ≤ 15 := by decide) :
    DE X (.Dict keys values pos) (wPen i j) := ⟨fun pins s σ H Q I ⟨e, K, r, ⟨ns, f, hi, hj, f1, f2, k⟩, q⟩ => by
  obtain ⟨v, hv, a, rfl, hs⟩ := r.fz i _ hi
  obtain ⟨v', hv', e2⟩ := r.fz j _ hj
  rw [show v' = _ from e2] at hv'
  refine thn ((pe_disp h hall hl h0 h15).run pins s σ H (fun v H1 => ∃ p l, v = .ref p ∧ H p = none ∧ H l = none ∧ p ≠ l ∧ H1 = upd (upd (upd H p (.dK [])) l (.lst (ns.map V.int))) p (.dK (penK l 0 0 0 f))) I fun p hp => ?_) fun u s1 h1 => ?_
  · have hq : SqL X.K (upd H p (.dK [])) a (ns.map V.int) := by
      rcases hs with ⟨o, ho⟩ | hs
      · exact .inl (.inr ⟨o, by rw [upd_ne (ne_of_none ho hp)]; exact ho⟩)
      · exact .inr hs
    refine ⟨.ref a, hv, a, _, rfl, .inl hq, fun l hl => ⟨.int f, hv', ?_⟩⟩
    have hlp : p ≠ l := fun z => by rw [← z, upd_same] at hl; cases hl
    have hln : H l = none := by rw [upd_ne fun z => hlp z.symm] at hl; exact hl
    exact ⟨by rw [upd_ne hlp, upd_same], [(.inr "cells", .ref l), (.inr "at", .int 0), (.inr "digits", .int 0), (.inr "count", .int 0), (.inr "fold", .int f)], rfl, by show 5 ≤ 15; decide, p, l, rfl, hp, hln, hlp, rfl⟩
  · obtain ⟨v, H1, I1, rv, p, l, rfl, hp, hln, hlp, rfl⟩ := h1
    obtain ⟨o, _, J⟩ := Inv.freeze (a := l) (u := .lst (ns.map V.int)) I1 (by rw [upd_ne fun z => hlp z.symm, upd_same]) trivial
    have st : Stab H (upd (upd (upd (upd H p (.dK [])) l (.lst (ns.map V.int))) p (.dK (penK l 0 0 0 f))) l (.frz o (.lst (ns.map V.int)))) := ⟨fun b u h _ => by
      rw [upd_ne (ne_of_none h hln), upd_ne (ne_of_none h hp), upd_ne (ne_of_none h hln), upd_ne (ne_of_none h hp)]
      exact h, fun b kv h => ⟨kv, by
      rw [upd_ne (ne_of_none h hln), upd_ne (ne_of_none h hp), upd_ne (ne_of_none h hln), upd_ne (ne_of_none h hp)]
      exact h⟩⟩
    have keep : ∀ b u, H b = some u → (upd (upd (upd (upd H p (.dK [])) l (.lst (ns.map V.int))) p (.dK (penK l 0 0 0 f))) l (.frz o (.lst (ns.map V.int)))) b = some u := fun b u h => by
      rw [upd_ne (ne_of_none h hln), upd_ne (ne_of_none h hp), upd_ne (ne_of_none h hln), upd_ne (ne_of_none h hp)]
      exact h
    have there : ∀ b, (upd (upd (upd (upd H p (.dK [])) l (.lst (ns.map V.int))) p (.dK (penK l 0 0 0 f))) l (.frz o (.lst (ns.map V.int)))) b = none → H b = none := fun b h => by
      cases z : H b with
      | none => rfl
      | some u => rw [keep b u z] at h; cases h
    have er : ER (gx X) σ (upd (upd (upd (upd H p (.dK [])) l (.lst (ns.map V.int))) p (.dK (penK l 0 0 0 f))) l (.frz o (.lst (ns.map V.int)))) e := by
      refine ⟨fun i d h => let ⟨v, h1, h2⟩ := r.fz i d h; ⟨v, h1, h2.mono st d v⟩, fun i d h => let ⟨a, h1, h2⟩ := r.ow i d h; ⟨a, h1, h2.keep st fun o q => keep _ o q⟩, r.apart, fun b kv h => ?_, r.len⟩
      by_cases z : b = p
      · rw [z, upd_ne hlp, upd_same] at h
        cases h
        exact ⟨l, ns, 0, 0, 0, f, rfl, ⟨o, upd_same⟩, by omega, by omega, by omega, by omega, f1, f2⟩
      · by_cases z2 : b = l
        · rw [z2, upd_same] at h; cases h
        · rw [upd_ne z2, upd_ne z, upd_ne z2, upd_ne z] at h
          exact (r.pens b kv h).mono st (Nat.le_refl _)
    exact ⟨_, _, J, rv, q .pen e _ _ k ⟨fun b u h _ _ => keep b u h, st, there, fun b h => .inl h⟩ er ⟨p, _, rfl, by rw [upd_ne hlp, upd_same]⟩⟩⟩
end DL
/-! DL, part s: any, all, max, min, sum, sorted. -/
namespace DL
open PySem PySem.Spec L2
section
variable {X : Cx} {e a b c : Expr} {es : List Expr} {pos p : Pos} {w wa wb wc : WE} {ws : WA} {k : Nat}
/-! ### any, all -/
def bools : List D → Option (List Bool)
  | [] => some []
  | .bl b :: ds => (bools ds).map (b :: ·)
  | _ :: _ => none
theorem bools_reps {g : Gx} {H : Hp} : ∀ {ds : List D} {bs : List Bool} {xs : List V}, bools ds = some bs → Reps g H ds xs → xs = bs.map V.bl
  | [], bs, xs, h, r => by cases h; exact r
  | d :: ds, bs, xs, h, ⟨v, vs, e, r, rs⟩ => by
    cases d with
    | bl b =>
      rw [bools] at h
      obtain ⟨bs', h', rfl⟩ := Option.map_eq_some_iff.mp h
      rw [e, bools_reps h' rs, show v = _ from r]; rfl
    | _ => simp [bools] at h
def D.any1 : D → Option D
  | .lst ds => (bools ds).map fun bs => .bl (bs.any id)
  | _ => none
def D.all1 : D → Option D
  | .lst ds => (bools ds).map fun bs => .bl (bs.all id)
  | _ => none
theorem any_ok {g : Gx} : OpAL g (rAny g.K) D.any1 := fun H x dx z Q rx h q => by
  cases dx with
  | lst ds =>
    obtain ⟨bs, h1, rfl⟩ := Option.map_eq_some_iff.mp h
    obtain ⟨a, xs, rfl, hx, rs⟩ := repL_lst rx
    rw [bools_reps h1 rs] at hx
    exact ⟨a, bs, rfl, hx.sq, q _ H (.refl H) (.inl rfl)⟩
  | _ => cases h
theorem all_ok {g : Gx} : OpAL g (rAll g.K) D.all1 := fun H x dx z Q rx h q => by
  cases dx with
  | lst ds =>
    obtain ⟨bs, h1, rfl⟩ := Option.map_eq_some_iff.mp h
    obtain ⟨a, xs, rfl, hx, rs⟩ := repL_lst rx
    rw [bools_reps h1 rs] at hx
    exact ⟨a, bs, rfl, hx.sq, q _ H (.refl H) (.inl rfl)⟩
  | _ => cases h
theorem de_any (hm : X.mg "any" = none) (ha : DQ X e w) (hc : X.calm = true := by rfl) (hg : Gl X "any" := by rfl) (he : starEach [e] X.env = (false, eval e X.env) :: starEach [] X.env := by rfl) (hpl : (backTo pos (starEach [] X.env)).any (·.1) = false := by rfl) : DE X (.Call (.Name "any" p) [e] [] pos) (w1 D.any1 w) :=
  de_B1 (cr_any hc) any_ok hm ha hg (by decide +kernel) (by decide) (by decide) he hpl
theorem de_all (hm : X.mg "all" = none) (ha : DQ X e w) (hc : X.calm = true := by rfl) (hg : Gl X "all" := by rfl) (he : starEach [e] X.env = (false, eval e X.env) :: starEach [] X.env := by rfl) (hpl : (backTo pos (starEach [] X.env)).any (·.1) = false := by rfl) : DE X (.Call (.Name "all" p) [e] [] pos) (w1 D.all1 w) :=
  de_B1 (cr_all hc) all_ok hm ha hg (by decide +kernel) (by decide) (by decide) he hpl
/-! ### max, min, sum of whole numbers -/
def dints : List D → Option (List Int)
  | [] => some []
  | .int i :: ds => (dints ds).map (i :: ·)
  | _ :: _ => none
theorem dints_reps {g : Gx} {H : Hp} : ∀ {ds : List D} {bs : List Int} {xs : List V}, dints ds = some bs → Reps g H ds xs → xs = bs.map V.int
  | [], bs, xs, h, r => by cases h; exact r
  | d :: ds, bs, xs, h, ⟨v, vs, e, r, rs⟩ => by
    cases d with
    | int b =>
      rw [dints] at h
      obtain ⟨bs', h', rfl⟩ := Option.map_eq_some_iff.mp h
      rw [e, dints_reps h' rs, show v = _ from r]; rfl
    | _ => simp [dints] at h
def maxI : List Int → Int
  | [] => 0
  | [i] => i
  | i :: j :: r => max i (maxI (j :: r))
def minI : List Int → Int
  | [] => 0
  | [i] => i
  | i :: j :: r => min i (minI (j :: r))
theorem maxI_ge : ∀ {l : List Int} {y : Int}, y ∈ l → y ≤ maxI l
  | [i], y, h => by rw [List.mem_singleton.mp h]; exact Int.le_refl _
  | i :: j :: r, y, h => by
    unfold maxI
    rcases List.mem_cons.mp h with rfl | h
    · omega
    · have := maxI_ge h; omega
theorem minI_le : ∀ {l : List Int} {y : Int}, y ∈ l → minI l ≤ y
  | [i], y, h => by rw [List.mem_singleton.mp h]; exact Int.le_refl _
  | i :: j :: r, y, h => by
    unfold minI
    rcases List.mem_cons.mp h with rfl | h
    · omega
    · have := minI_le h; omega
def D.max1 : D → Option D
  | .lst ds => (dints ds).bind fun ns => if ns = [] then none else some (.int (maxI ns))
  | _ => none
def D.min1 : D → Option D
  | .lst ds => (dints ds).bind fun ns => if ns = [] then none else some (.int (minI ns))
  | _ => none
def D.sum1 : D → Option D
  | .lst ds => (dints ds).map fun ns => .int ns.sum
  | _ => none
theorem maxI_mem : ∀ {l : List Int}, l ≠ [] → maxI l ∈ l
  | [i], _ => List.mem_cons_self
  | i :: j :: r, _ => by
    have ih := maxI_mem (l := j :: r) (by simp)
    show max i (maxI (j :: r)) ∈ _
    by_cases q : i ≤ maxI (j :: r)
    · rw [Int.max_eq_right q]; exact List.mem_cons_of_mem _ ih
    · rw [Int.max_eq_left (by omega)]; exact List.mem_cons_self
theorem minI_mem : ∀ {l : List Int}, l ≠ [] → minI l ∈ l
  | [i], _ => List.mem_cons_self
  | i :: j :: r, _ => by
    have ih := minI_mem (l := j :: r) (by simp)
    show min i (minI (j :: r)) ∈ _
    by_cases q : i ≤ minI (j :: r)
    · rw [Int.min_eq_left q]; exact List.mem_cons_self
    · rw [Int.min_eq_right (by omega)]; exact List.mem_cons_of_mem _ ih
theorem max_ok {g : Gx} : OpAL g (rMax g.K) D.max1 := fun H x dx z Q rx h q => by
  cases dx with
  | lst ds =>
    obtain ⟨ns, h1, h⟩ := Option.bind_eq_some_iff.mp h
    split at h
    · cases h
    · rename_i hn
      cases h
      obtain ⟨a, xs, rfl, hx, rs⟩ := repL_lst rx
      rw [dints_reps h1 rs] at hx
      refine ⟨a, ns, rfl, hx.sq, List.length_pos_iff.mpr hn, fun m hm hy => ?_⟩
      have e : m = maxI ns := by
        have i1 := maxI_ge hm
        have i2 := hy _ (maxI_mem hn)
        omega
      rw [e]
      exact q _ H (.refl H) (.inl rfl)
  | _ => cases h
theorem min_ok {g : Gx} : OpAL g (rMin g.K) D.min1 := fun H x dx z Q rx h q => by
  cases dx with
  | lst ds =>
    obtain ⟨ns, h1, h⟩ := Option.bind_eq_some_iff.mp h
    split at h
    · cases h
    · rename_i hn
      cases h
      obtain ⟨a, xs, rfl, hx, rs⟩ := repL_lst rx
      rw [dints_reps h1 rs] at hx
      refine ⟨a, ns, rfl, hx.sq, List.length_pos_iff.mpr hn, fun m hm hy => ?_⟩
      have e : m = minI ns := by
        have i1 := minI_le hm
        have i2 := hy _ (minI_mem hn)
        omega
      rw [e]
      exact q _ H (.refl H) (.inl rfl)
  | _ => cases h
theorem sum_ok {g : Gx} : OpAL g (rSum g.K) D.sum1 := fun H x dx z Q rx h q => by
  cases dx with
  | lst ds =>
    obtain ⟨ns, h1, rfl⟩ := Option.map_eq_some_iff.mp h
    obtain ⟨a, xs, rfl, hx, rs⟩ := repL_lst rx
    rw [dints_reps h1 rs] at hx
    exact ⟨a, ns, rfl, hx.sq, q _ H (.refl H) (.inl rfl)⟩
  | _ => cases h
theorem de_max (hm : X.mg "max" = none) (ha : DQ X e w) (hc : X.calm = true := by rfl) (hg : Gl X "max" := by rfl) (he : starEach [e] X.env = (false, eval e X.env) :: starEach [] X.env := by rfl) (hpl : (backTo pos (starEach [] X.env)).any (·.1) = false := by rfl) : DE X (.Call (.Name "max" p) [e] [] pos) (w1 D.max1 w) :=
  de_B1 (cr_max hc) max_ok hm ha hg (by decide +kernel) (by decide) (by decide) he hpl
theorem de_min (hm : X.mg "min" = none) (ha : DQ X e w) (hc : X.calm = true := by rfl) (hg : Gl X "min" := by rfl) (he : starEach [e] X.env = (false, eval e X.env) :: starEach [] X.env := by rfl) (hpl : (backTo pos (starEach [] X.env)).any (·.1) = false := by rfl) : DE X (.Call (.Name "min" p) [e] [] pos) (w1 D.min1 w) :=
  de_B1 (cr_min hc) min_ok hm ha hg (by decide +kernel) (by decide) (by decide) he hpl
theorem de_sum (hm : X.mg "sum" = none) (ha : DQ X e w) (hc : X.calm = true := by rfl) (hg : Gl X "sum" := by rfl) (he : starEach [e] X.env = (false, eval e X.env) :: starEach [] X.env := by rfl) (hpl : (backTo pos (starEach [] X.env)).any (·.1) = false := by rfl) : DE X (.Call (.Name "sum" p) [e] [] pos) (w1 D.sum1 w) :=
  de_B1 (cr_sum hc) sum_ok hm ha hg (by decide +kernel) (by decide) (by decide) he hpl
/-- min(a, b), max(a, b) -/
def m2 (f : Int → Int → Int) : List D → Option D
  | [.int i, .int j] => some (.int (f i j))
  | _ => none
theorem m2_ok {g : Gx} {f : Int → Int → Int} {u : Int → Int → Int} (hf : ∀ i j, u i j = f i j) : OpA g (fun xs H Q => ∃ i j, xs = [V.int i, V.int j] ∧ Q (.int (u i j)) H) (m2 f) := fun H xs ds z Q r h q => by
  rcases ds with _ | ⟨d, _ | ⟨d', _ | ⟨_, _⟩⟩⟩
  · cases h
  · cases d <;> cases h
  · cases d with
    | int i =>
      cases d' with
      | int j =>
        cases h
        obtain ⟨v, v', rfl, rv, rv'⟩ := reps_two r
        refine ⟨i, j, by rw [show v = _ from rv, show v' = _ from rv'], ?_⟩
        rw [hf]
        exact q _ H (.refl H) rfl
      | _ => cases h
    | _ => cases h
  · cases d <;> first | cases h | (cases d' <;> cases h)
theorem de_min2 (hm : X.mg "min" = none) (ha : DA X [a, b] ws) (hc : X.calm = true := by rfl) (hg : Gl X "min" := by rfl) (he : starEach [a, b] X.env = (false, eval a X.env) :: starEach [b] X.env := by rfl) (hpl : (backTo pos (starEach [b] X.env)).any (·.1) = false := by rfl) : DE X (.Call (.Name "min" p) [a, b] [] pos) (wB (m2 min) ws) :=
  de_B (call_min2 hc) (m2_ok fun i j => by show (if j < i then j else i) = min i j; omega) hm ha hg (by decide +kernel) (by decide) (by decide) he hpl
theorem de_max2 (hm : X.mg "max" = none) (ha : DA X [a, b] ws) (hc : X.calm = true := by rfl) (hg : Gl X "max" := by rfl) (he : starEach [a, b] X.env = (false, eval a X.env) :: starEach [b] X.env := by rfl) (hpl : (backTo pos (starEach [b] X.env)).any (·.1) = false := by rfl) : DE X (.Call (.Name "max" p) [a, b] [] pos) (wB (m2 max) ws) :=
  de_B (call_max2 hc) (m2_ok fun i j => by show (if j > i then j else i) = max i j; omega) hm ha hg (by decide +kernel) (by decide) (by decide) he hpl

/-! ### sorted(list) -/
def D.enc (d : D) : PyData := d.py.getD .none
def dle (a b : D) : Bool := PySem.W.dataLe false D.enc a b
/-- these can be sorted -/
structure SrtOk (ds : List D) : Prop where
  gd : D.gds ds 60 = true
  al : ∀ d ∈ ds, ∀ e ∈ ds, PySem.W.alike d.enc e.enc = true
  kind : (∀ d ∈ ds, ∃ x r, d = .tup (x :: r)) ∨ ∀ d ∈ ds, d ≠ .non ∧ ∀ r, d ≠ .tup r
  sz : ds.length ≤ sizeLine
def srt (ds : List D) : List D := ds.mergeSort dle
open Classical in
noncomputable def D.sort1 : D → Option D
  | .lst ds => if SrtOk ds then some (.lst (srt ds)) else none
  | .tup ds => if SrtOk ds then some (.lst (srt ds)) else none
  | _ => none
theorem gds_mem {ds : List D} {n : Nat} (h : D.gds ds n = true) : ∀ d ∈ ds, d.gd n = true := by
  induction ds with
  | nil => exact fun _ h => nomatch h
  | cons x ds ih =>
    rw [D.gds, Bool.and_eq_true] at h
    intro d hd
    rcases List.mem_cons.mp hd with rfl | hd
    · exact h.1
    · exact ih h.2 d hd
theorem enc_of {d : D} {n : Nat} (h : d.gd n = true) : d.py = some d.enc ∧ d.enc.depth ≤ n := by
  obtain ⟨p, h1, _, h3⟩ := gd_py d n h
  unfold D.enc
  rw [h1]
  exact ⟨rfl, h3⟩
theorem sortable_of {ds : List D} (S : SrtOk ds) : PySem.W.Sortable (ds.map D.enc) := by
  have hg := gds_mem S.gd
  rcases S.kind with h | h
  · refine .inl fun e he => ?_
    obtain ⟨d, hd, rfl⟩ := List.mem_map.mp he
    obtain ⟨x, r, rfl⟩ := h d hd
    have h1 := (enc_of (hg _ hd)).1
    rw [D.py] at h1
    obtain ⟨ps, h2, h3⟩ := Option.map_eq_some_iff.mp h1
    cases ps with
    | nil =>
      rw [D.pys] at h2
      split at h2 <;> cases h2
    | cons q qs => exact ⟨q, qs, h3.symm⟩
  · refine .inr fun e he => ?_
    obtain ⟨d, hd, rfl⟩ := List.mem_map.mp he
    have h1 := (enc_of (hg _ hd)).1
    refine ⟨fun z => ?_, fun xs z => ?_⟩
    · rw [z] at h1
      cases d with
      | non => exact (h _ hd).1 rfl
      | tup r => exact (h _ hd).2 r rfl
      | lst r => rw [D.py] at h1; obtain ⟨_, _, h3⟩ := Option.map_eq_some_iff.mp h1; cases h3
      | _ => simp [D.py] at h1
    · rw [z] at h1
      cases d with
      | non => exact (h _ hd).1 rfl
      | tup r => exact (h _ hd).2 r rfl
      | lst r => rw [D.py] at h1; obtain ⟨_, _, h3⟩ := Option.map_eq_some_iff.mp h1; cases h3
      | _ => simp [D.py] at h1
theorem each_of {g : Gx} {H : Hp} : ∀ {ds : List D} {xs : List V} {vs : List Value}, Reps g H ds xs → Vals xs vs → PySem.W.EachIs (fun v d => ∃ x, RelV x v ∧ Rep g H d x) vs ds
  | [], _, _, r, h => by
    rw [show _ = _ from r] at h
    cases h
    exact .nil
  | d :: ds, _, _, ⟨x, xs, e, r, rs⟩, h => by
    rw [e] at h
    cases h with
    | cons h1 h2 => exact .cons ⟨x, h1, r⟩ (each_of rs h2)
theorem of_each {g : Gx} {H : Hp} : ∀ {ds : List D} {vs : List Value}, PySem.W.EachIs (fun v d => ∃ x, RelV x v ∧ Rep g H d x) vs ds → ∃ xs, Vals xs vs ∧ Reps g H ds xs
  | _, _, .nil => ⟨[], .nil, rfl⟩
  | _, _, .cons ⟨x, h1, r⟩ h => by
    obtain ⟨xs, h2, rs⟩ := of_each h
    exact ⟨x :: xs, .cons h1 h2, x, xs, rfl, r, rs⟩
def rSortD (g : Gx) : List V → Hp → VK → Prop := fun xs H Q => ∃ a ys ds, xs = [.ref a] ∧ (SqL g.K H a ys ∨ SqT g.K H a ys) ∧ Reps g H ds ys ∧ SrtOk ds ∧ ∀ p zs, H p = none → Reps g H (srt ds) zs → Q (.ref p) (upd H p (.lst zs))
theorem srt_len (ds : List D) : (srt ds).length = ds.length := List.length_mergeSort _
theorem call_sortL (hu : X.A.units + 64 < cLine) : CallR X (.builtin "sorted") (fun xs H Q => ∃ a ys ds, xs = [.ref a] ∧ SqL X.K H a ys ∧ Reps (gx X) H ds ys ∧ SrtOk ds ∧ ∀ p zs, H p = none → Reps (gx X) H (srt ds) zs → Q (.ref p) (upd H p (.lst zs))) := by
  intro pins s σ H xs us Q I r h
  obtain ⟨a, ys, ds, rfl, hl, rs, S, q⟩ := h
  obtain ⟨u, rfl, ru⟩ := vals1 r
  cases ru
  obtain ⟨its, rv, pl, hz⟩ := I.list hl
  have hg := gds_mem S.gd
  have e := each_of rs rv
  have er : PySem.W.EachIs (fun v d => ∃ as, Reads s.heap v (D.enc d) as) its ds := by
    have em := PySem.W.each_mem e
    exact em.mono fun v d ⟨⟨x, h1, h2⟩, hd⟩ => Dp.reads I d.enc x v (dp_of d x d.enc h2 (enc_of (hg d hd)).1) h1
  refine PySem.W.sorted_data (R := fun v d => ∃ x, RelV x v ∧ Rep (gx X) H d x) (enc := D.enc) (bs := ds) pl.isList e er (fun x hx y hy => ?_) (sortable_of S) S.sz (fun d hd => ?_) fun out ho eo => ?_
  · obtain ⟨d, hd, rfl⟩ := List.mem_map.mp hx
    obtain ⟨d', hd', rfl⟩ := List.mem_map.mp hy
    exact S.al d hd d' hd'
  · have := (enc_of (hg d hd)).2
    omega
  · obtain ⟨zs, h1, h2⟩ := of_each eo
    obtain ⟨ep, he⟩ := PyProof.Rows.sortedAll_at s.heap its (List.toArray out)
    have hlen : zs.length ≤ sizeLine := by
      rw [h2.length]
      show (srt ds).length ≤ _
      rw [srt_len]; exact S.sz
    exact ⟨.ref _, _, I.laid (o := .lst zs) (t' := s.toks) (fun _ _ => PyProof.Rows.sortedAll_old) (Nat.le_succ _) ⟨hlen, out, ep, h1, he⟩, rfl, q _ zs (I.hok.fresh (Nat.le_succ _)) h2⟩
end
end DL
/-! DL, part sa: tables of a set with up to 512 slots: the library's words, its masks one more. -/
namespace DL
open PySem PySem.Spec L2 PyProof.Rows
/-- what a table's mask must be like -/
structure MaskW (m : Nat) : Prop where
  full : ∀ {j : Nat}, j ≤ m → ∃ b, b ≤ m ∧ lcgN m b = j
  back : lcgN m (m + 1) = 0
  is : m = 7 ∨ m = 31 ∨ m = 127 ∨ m = 511
def lcgL (m : Nat) : Nat → Nat → List Nat
  | 0, _ => []
  | n + 1, x => x :: lcgL m n ((x * 5 + 1) % (m + 1))
theorem lcgL_mem {m : Nat} : ∀ (n a j : Nat), j ∈ lcgL m n (lcgN m a) → ∃ k, k < n ∧ lcgN m (a + k) = j
  | 0, _, _, h => nomatch h
  | n + 1, a, j, h => by
    rcases List.mem_cons.mp h with h | h
    · exact ⟨0, Nat.succ_pos _, h.symm⟩
    · obtain ⟨k, hk, e⟩ := lcgL_mem n (a + 1) j h
      exact ⟨k + 1, by omega, by rw [← e]; congr 1; omega⟩
theorem mw_of {m : Nat} (h : ((List.range (m + 1)).all fun j => (lcgL m (m + 1) 0).contains j) = true) (b : lcgN m (m + 1) = 0) (i : m = 7 ∨ m = 31 ∨ m = 127 ∨ m = 511) : MaskW m where
  full := fun {j} hj => by
    have h1 := List.all_eq_true.mp h j (List.mem_range.mpr (by omega))
    obtain ⟨k, hk, e⟩ := lcgL_mem (m := m) (m + 1) 0 j (by have := List.contains_iff_mem.mp h1; exact this)
    exact ⟨k, by omega, by rw [← e]; congr 1; omega⟩
  back := b
  is := i
theorem mw7 : MaskW 7 := mw_of (by decide +kernel) (by decide +kernel) (.inl rfl)
theorem mw31 : MaskW 31 := mw_of (by decide +kernel) (by decide +kernel) (.inr (.inl rfl))
theorem mw127 : MaskW 127 := mw_of (by decide +kernel) (by decide +kernel) (.inr (.inr (.inl rfl)))
theorem mw511 : MaskW 511 := mw_of (by decide +kernel) (by decide +kernel) (.inr (.inr (.inr rfl)))
section
variable {m : Nat}
theorem MaskW.odd (w : MaskW m) : m % 2 = 1 := by rcases w.is with e | e | e | e <;> rw [e]
theorem MaskW.small (w : MaskW m) : m ≤ 511 := by rcases w.is with e | e | e | e <;> omega
theorem MaskW.period (w : MaskW m) (k : Nat) : lcgN m (m + 1 + k) = lcgN m k := by
  induction k with
  | zero => exact w.back
  | succ k ih => exact (congrArg (fun x => (x * 5 + 1) % (m + 1)) ih)
theorem MaskW.from (w : MaskW m) {i j : Nat} (hi : i ≤ m) (hj : j ≤ m) : ∃ k, k ≤ m ∧ lcgI m i k = j := by
  obtain ⟨a, ha, rfl⟩ := w.full hi
  obtain ⟨b, hb, rfl⟩ := w.full hj
  by_cases c : a ≤ b
  · exact ⟨b - a, by omega, (lcgN_add m a _).trans (congrArg (lcgN m) (by omega))⟩
  · exact ⟨b + (m + 1) - a, by omega, ((lcgN_add m a _).trans (congrArg (lcgN m) (by omega : a + (b + (m + 1) - a) = m + 1 + b))).trans (w.period b)⟩
theorem MaskW.run (w : MaskW m) (h : Int) {j : Nat} (hj : j ≤ m) : ∃ n, n ≤ m + 12 ∧ runI m (SetTable.bits h) n = j := by
  obtain ⟨k, hk, rfl⟩ := w.from (runI_le m (SetTable.bits h) 12) hj
  exact ⟨12 + k, by omega, runI_tail (bits_lt h) k⟩
theorem MaskW.met (w : MaskW m) (h : Int) {j : Nat} (hj : j ≤ m) : ∃ k, k < 10 * SetTable.turns m ∧ way m h k = j := by
  obtain ⟨n, hn, rfl⟩ := w.run h hj
  obtain ⟨k, hk, e⟩ := run_nth m (SetTable.bits h) n
  exact ⟨k, by unfold SetTable.turns; omega, congrArg SetTable.Probe.j e⟩
theorem way_in (m : Nat) (h : Int) (k : Nat) : way m h k ≤ m := by
  have hi : SetTable.bits h % (m + 1) ≤ m := Nat.le_of_lt_succ (Nat.mod_lt _ (Nat.succ_pos _))
  have r := runEnd_bd hi
  have q := nth_in (m := m) k (runAt m (SetTable.bits h % (m + 1)) (SetTable.bits h)) (Nat.le_trans (by show SetTable.bits h % (m + 1) + (SetTable.runEnd m (SetTable.bits h % (m + 1)) - SetTable.bits h % (m + 1)) ≤ SetTable.runEnd m (SetTable.bits h % (m + 1)); omega) r.1)
  exact Nat.le_trans (Nat.le_add_right _ _) q
end
/-- the table's word, over these masks -/
structure TabW (t : SetTable) (hs : List Int) : Prop where
  ris : Ris t.place.toList
  dm : t.dummies = #[]
  sz : t.place.size = hs.length
  mok : MaskW t.mask
  bd : ∀ x ∈ t.place.toList, x ≤ t.mask
  reach : ∀ (i : Nat) (h : Int) (j : Nat), hs[i]? = some h → t.place.toList[i]? = some j → ∃ k, way t.mask h k = j ∧ ∀ k', k' < k → way t.mask h k' ∈ t.place.toList
section
variable {t : SetTable} {hs : List Int}
theorem TabW.first (T : TabW t hs) (hl : hs.length ≤ t.mask) (h : Int) : ∃ K, K < 10 * SetTable.turns t.mask ∧ way t.mask h K ∉ t.place.toList ∧ ∀ k, k < K → way t.mask h k ∈ t.place.toList := by
  obtain ⟨j, hj, hn⟩ := st_missing t.place.toList (t.mask + 1) (by have z := T.sz; rw [← Array.length_toList] at z; omega)
  obtain ⟨k, hk, rfl⟩ := T.mok.met h (Nat.le_of_lt_succ hj)
  obtain ⟨K, h1, h2, h3⟩ := st_least (p := fun k => way t.mask h k ∉ t.place.toList) k hn
  exact ⟨K, Nat.lt_of_le_of_lt h1 hk, h2, fun k' hk' => Classical.byContradiction fun c => h3 k' hk' c⟩
theorem TabW.before (T : TabW t hs) {h : Int} {K i j : Nat} (hK : way t.mask h K ∉ t.place.toList) (hi : hs[i]? = some h) (hj : t.place.toList[i]? = some j) : ∃ k, k < K ∧ way t.mask h k = j := by
  obtain ⟨k, e, hb⟩ := T.reach i h j hi hj
  refine ⟨k, Classical.byContradiction fun c => ?_, e⟩
  by_cases d : K = k
  · subst d
    exact hK (e ▸ List.mem_of_getElem? hj)
  · exact hK (hb K (by omega))
theorem TabW.put (T : TabW t hs) {h : Int} {K : Nat} (hK : way t.mask h K ∉ t.place.toList) (hb : ∀ k, k < K → way t.mask h k ∈ t.place.toList) :
    (t.put (way t.mask h K)).2 = SetTable.below t.place (way t.mask h K) ∧ SetTable.below t.place (way t.mask h K) ≤ hs.length ∧ TabW (t.put (way t.mask h K)).1 (hs.take (SetTable.below t.place (way t.mask h K)) ++ h :: hs.drop (SetTable.below t.place (way t.mask h K))) ∧
    (t.put (way t.mask h K)).1.mask = t.mask ∧ (t.put (way t.mask h K)).1.led = t.led ∧ (t.put (way t.mask h K)).1.fill = hs.length + 1 := by
  have hjm := way_in t.mask h K
  obtain ⟨j, hj⟩ : ∃ j, j = way t.mask h K := ⟨_, rfl⟩
  rw [← hj] at hK hjm ⊢
  have c1 := (below_cut T.ris j).1
  have e0 : t.place.toList.length = hs.length := Array.length_toList.trans T.sz
  have hpl : SetTable.below t.place j ≤ t.place.toList.length := by rw [Array.length_toList]; exact c1
  have hph : SetTable.below t.place j ≤ hs.length := e0 ▸ hpl
  have hpp := put_place t j
  have hsize : (t.put j).1.place.size = hs.length + 1 := by rw [← Array.length_toList, hpp, len_ins _ hpl, e0]
  have up : ∀ {x : Nat}, x ∈ t.place.toList → x ∈ (t.put j).1.place.toList := fun hx => hpp ▸ mem_ins.2 (.inr hx)
  have hnp : t.place[SetTable.below t.place j]? ≠ some j := fun e => hK (List.mem_of_getElem? (i := SetTable.below t.place j) (by rw [Array.getElem?_toList]; exact e))
  have old : ∀ {i : Nat} {h' : Int} {j' : Nat}, hs[i]? = some h' → t.place.toList[i]? = some j' → ∃ k, way t.mask h' k = j' ∧ ∀ k', k' < k → way t.mask h' k' ∈ (t.put j).1.place.toList := fun h1 h2 => let ⟨k, e, z⟩ := T.reach _ _ _ h1 h2; ⟨k, e, fun k' hk' => up (z k' hk')⟩
  refine ⟨rfl, hph, ⟨ris_insert T.ris hnp, put_dm T.dm j, hsize.trans (len_ins hs hph h).symm, T.mok, fun x hx => ?_, fun i h' j' h1 h2 => ?_⟩, rfl, rfl, ?_⟩
  · rw [hpp] at hx
    exact (mem_ins.1 hx).elim (fun z => z ▸ hjm) (T.bd x)
  · rw [tins_get hs hph] at h1
    rw [hpp, tins_get _ hpl] at h2
    by_cases c : i < SetTable.below t.place j
    · rw [if_pos c] at h1 h2; exact old h1 h2
    rw [if_neg c] at h1 h2
    by_cases d : i = SetTable.below t.place j
    · rw [if_pos d] at h1 h2
      cases h1; cases h2
      exact ⟨K, hj.symm, fun k' hk' => up (hb k' hk')⟩
    · rw [if_neg d] at h1 h2; exact old h1 h2
  · have z : (t.put j).1.dummies.size = 0 := by rw [put_dm T.dm j]; rfl
    exact (congrArg (fun n => n + (t.put j).1.dummies.size) hsize).trans (by rw [z])
end
section
variable {m : Nat}
/-- a free slot on the way -/
theorem MaskW.free (w : MaskW m) (owner : Array (Option Nat)) (h : Int) {j : Nat} (hj : j ≤ m) (hf : oAt owner j = none) :
    ∃ K, SetTable.layClean.free m owner (SetTable.turns m) (SetTable.bits h % (m + 1)) (SetTable.bits h) = some (way m h K) ∧ oAt owner (way m h K) = none ∧ ∀ k, k < K → oAt owner (way m h k) ≠ none := by
  obtain ⟨n, hn, e⟩ := w.run h hj
  have hw : way m h (off m (SetTable.bits h % (m + 1)) (SetTable.bits h) n) = j := (congrArg SetTable.Probe.j ((nth_off m n _ _).trans (by rw [itL_run]))).trans e
  obtain ⟨K, k1, k2, k3⟩ := st_least (p := fun k => oAt owner (way m h k) = none) _ ((congrArg (oAt owner) hw).trans hf)
  refine ⟨K, free_spec m owner (SetTable.turns m) n _ _ K (by unfold SetTable.turns; omega) k1 (fun k hk => ?_) (Option.isNone_iff_eq_none.mpr k2), k2, k3⟩
  have q : oAt owner (way m h k) ≠ none := k3 k hk
  exact Bool.eq_false_iff.mpr fun z => q (Option.isNone_iff_eq_none.mp z)
theorem MaskW.lay (w : MaskW m) {done : List Int} {owner : Array (Option Nat)} (W : L2.Own m done owner) (hl : done.length ≤ m) (h : Int) :
    ∃ j, SetTable.layClean.free m owner (SetTable.turns m) (SetTable.bits h % (m + 1)) (SetTable.bits h) = some j ∧ L2.Own m (done ++ [h]) (owner.setIfInBounds j (some done.length)) := by
  obtain ⟨ps, hps, hin⟩ := W.ps
  obtain ⟨j0, h0, hn0⟩ := st_missing ps (m + 1) (by omega)
  have hj0 : oAt owner j0 = none := Classical.byContradiction fun c => hn0 (hin j0 (Nat.le_of_lt_succ h0) c)
  obtain ⟨K, e1, e2, e3⟩ := w.free owner h (Nat.le_of_lt_succ h0) hj0
  have hjm := way_in m h K
  generalize hj : way m h K = j at e1 e2 hjm
  have hjs : j < owner.size := by rw [W.sz]; omega
  have hself := oAt_set_self (some done.length) hjs
  have other : ∀ {i : Nat}, i ≠ j → oAt (owner.setIfInBounds j (some done.length)) i = oAt owner i := fun c => oAt_set_ne _ c
  have mono : ∀ {i : Nat}, oAt owner i ≠ none → oAt (owner.setIfInBounds j (some done.length)) i ≠ none := fun {i} hi => by
    by_cases c : i = j
    · rw [c, hself]; exact fun e => nomatch e
    · rw [other c]; exact hi
  refine ⟨j, e1, ⟨by rw [Array.size_setIfInBounds]; exact W.sz, fun i k hi e => ?_, fun k hk => ?_, ⟨j :: ps, by simp [hps], fun i hi e => ?_⟩⟩⟩
  · by_cases c : i = j
    · rw [c, hself] at e
      cases e
      exact ⟨h, K, by simp, hj.trans c.symm, fun k' hk' => mono (e3 k' hk')⟩
    · rw [other c] at e
      obtain ⟨h', K', a1, a2, a3⟩ := W.at_ i k hi e
      exact ⟨h', K', (List.getElem?_append_left (List.getElem?_eq_some_iff.mp a1).1).trans a1, a2, fun k' hk' => mono (a3 k' hk')⟩
  · by_cases c : k < done.length
    · obtain ⟨i, hi, e⟩ := W.all k c
      exact ⟨i, hi, (other fun z => by rw [z, e2] at e; cases e).trans e⟩
    · have ek : k = done.length := by simp at hk; omega
      exact ⟨j, hjm, ek ▸ hself⟩
  · by_cases c : i = j
    · exact c ▸ List.mem_cons_self
    · rw [other c] at e
      exact List.mem_cons_of_mem _ (hin i hi e)
theorem MaskW.lays (w : MaskW m) (rest : List Int) : ∀ (done : List Int) (owner : Array (Option Nat)), L2.Own m done owner → done.length + rest.length ≤ m → ∃ owner', rest.foldl (stepF m) (some (owner, done.length)) = some (owner', (done ++ rest).length) ∧ L2.Own m (done ++ rest) owner' := by
  induction rest with
  | nil => exact fun done owner W _ => ⟨owner, by rw [List.append_nil]; rfl, by rw [List.append_nil]; exact W⟩
  | cons h rest ih =>
    intro done owner W hl
    rw [List.length_cons] at hl
    obtain ⟨j, e, W'⟩ := w.lay W (by omega) h
    obtain ⟨owner', f, W2⟩ := ih (done ++ [h]) _ W' (by simp; omega)
    rw [List.append_assoc] at f W2
    refine ⟨owner', ?_, W2⟩
    rw [List.foldl_cons, stepF_some e]
    simpa using f
theorem MaskW.clean (w : MaskW m) {hs : Array Int} (hn : hs.size ≤ m) : ∃ owner, SetTable.layClean m hs = some owner ∧ L2.Own m hs.toList owner := by
  obtain ⟨owner, f, W⟩ := w.lays hs.toList [] _ (L2.Own.init m) (by simpa using hn)
  exact ⟨owner, (layClean_eq m hs).trans (congrArg (Option.map (·.1)) f), W⟩
theorem relaid_w (t : SetTable) {hs : Array Int} {wanted : Nat} (hw : SetTable.sizeAbove wanted - 1 = m) (w : MaskW m) (hn : hs.size ≤ m) :
    ∃ t' order, t.relaid hs wanted = some (t', order) ∧ order.toList.Perm (List.range hs.size) ∧ TabW t' (order.toList.map fun i => hs.getD i 0) ∧ t'.mask = m ∧ t'.led = t.led := by
  obtain ⟨owner, e, W⟩ := w.clean hn
  have hr : t.relaid hs wanted = some (tabOf t m owner, ((liveOf m owner).map (·.2)).toArray) := by rw [relaid_eq, hw, e]; rfl
  obtain ⟨r1, r2⟩ := ris_live (fun j => owner.getD j none) (List.range (m + 1)) (by unfold Ris; first | exact List.pairwise_lt_range | exact List.pairwise_lt_range _)
  have r1 : Ris ((liveOf m owner).map (·.1)) := r1
  have r2 : ∀ x ∈ (liveOf m owner).map (·.1), x ∈ List.range (m + 1) := r2
  have nd : ((liveOf m owner).map (·.1)).Nodup := List.Pairwise.imp (fun h => Nat.ne_of_lt h) r1
  have there : ∀ k, k < hs.size → k ∈ (liveOf m owner).map (·.2) := fun k hk => by
    obtain ⟨j, b1, b2⟩ := W.all k (by rw [Array.length_toList]; exact hk)
    exact List.mem_map.mpr ⟨(j, k), (mem_live W.sz).2 ⟨b1, b2⟩, rfl⟩
  have hlen : (liveOf m owner).length = hs.size := by
    obtain ⟨ps, p1, p2⟩ := W.ps
    have a := nat_nodup_len _ ps nd fun x hx => by
      obtain ⟨⟨y, k⟩, hq, rfl⟩ := List.mem_map.mp hx
      obtain ⟨b1, b2⟩ := (mem_live W.sz).1 hq
      exact p2 y b1 (b2 ▸ fun z => nomatch z)
    have b := nat_nodup_len (List.range hs.size) _ List.nodup_range fun k hk => there k (List.mem_range.mp hk)
    have hz : hs.toList.length = hs.size := Array.length_toList
    rw [List.length_map, p1] at a
    rw [List.length_map, List.length_range] at b
    omega
  refine ⟨_, _, hr, perm_range hs.size _ ((List.length_map _).trans hlen) there, ⟨r1, rfl, ?_, w, fun x hx => Nat.le_of_lt_succ (List.mem_range.mp (r2 x hx)), fun i h j h1 h2 => ?_⟩, rfl, rfl⟩
  · show ((liveOf m owner).map (·.1)).toArray.size = (((liveOf m owner).map (·.2)).map fun i => hs.getD i 0).length
    simp
  · have h1' : (((liveOf m owner).map (·.2)).map fun i => hs.getD i 0)[i]? = some h := h1
    have h2' : ((liveOf m owner).map (·.1))[i]? = some j := h2
    rw [List.getElem?_map, List.getElem?_map] at h1'
    rw [List.getElem?_map] at h2'
    obtain ⟨⟨y, k⟩, hq, rfl⟩ := Option.map_eq_some_iff.mp h2'
    rw [hq] at h1'
    obtain ⟨b1, b2⟩ := (mem_live W.sz).1 (List.mem_of_getElem? hq)
    obtain ⟨h0, K, a1, a2, a3⟩ := W.at_ y k b1 b2
    have e0 : h = h0 := (Option.some.inj h1').symm.trans (by show hs.getD k 0 = h0; rw [Array.getD_eq_getD_getElem?, ← Array.getElem?_toList, a1]; rfl)
    subst e0
    refine ⟨K, a2, fun k' hk' => ?_⟩
    obtain ⟨k2, z⟩ := Option.ne_none_iff_exists'.mp (a3 k' hk')
    exact List.mem_map.mpr ⟨(way m h k', k2), (mem_live W.sz).2 ⟨way_in .., z⟩, rfl⟩
end
theorem size_308 : SetTable.sizeAbove (SetTable.grown 77) = 512 := by decide +kernel
end DL
/-! DL, part t: sets of nested keys (tuples of texts, numbers, tuples): set(..) of fewer than 64 of them. -/
namespace DL
open PySem PySem.Spec L2
section
variable {P : Program} {w : World} {A : Around} {E : Value → Shared → Prop} {s : Shared}
/-- the tuple at b is the key k -/
abbrev IsN (P : Program) (w : World) (h : Heap) (k : NestedKey) (b : Addr) : Prop := (nestedKind P w).is h k b
theorem isN_ty {h : Heap} {k : NestedKey} {b : Addr} (x : IsN P w h k b) : ∃ o ks vs n, h.get? b = some o ∧ o.cls = .type "tuple" ∧ o.data = .seq vs n ∧ k = .tup ks ∧ NestedAll h ks vs.toList ∧ NestedKey.depthAll ks ≤ 7 := by
  obtain ⟨y, d⟩ := x
  cases y with
  | @tup a o vs n ks h1 h2 h3 h4 =>
    rw [NestedKey.depth] at d
    exact ⟨o, ks, vs, n, h1, h2, h3, rfl, h4, by omega⟩
/-! ### what is asked of an element -/
theorem depth_mem : ∀ {ks : List NestedKey} {k : NestedKey}, k ∈ ks → k.depth ≤ NestedKey.depthAll ks
  | k0 :: ks, k, h => by
    rw [NestedKey.depthAll]
    rcases List.mem_cons.mp h with rfl | h
    · omega
    · have := depth_mem h
      omega
theorem ofA_n : ∀ (n : Nat) (k : NestedKey) (v : Value) (s : Shared) (Q : Bool → Shared → Prop), NestedIs s.heap k v → k.depth ≤ n → Q false s → wpAny (model P w) A (ofAClassStatement n v) Q E s := by
  intro n
  induction n with
  | zero =>
    intro k v s Q hk hd h
    cases hk with
    | tup _ _ _ _ => rw [NestedKey.depth] at hd; omega
    | none => exact wpAny_pure h
    | bool e => exact wpAny_pure h
    | int i t => exact wpAny_pure h
    | text x t => exact wpAny_pure h
  | succ n ih =>
    intro k v s Q hk hd h
    cases hk with
    | @tup a o vs m ks h1 h2 h3 h4 =>
      rw [NestedKey.depth] at hd
      unfold ofAClassStatement
      refine wpAny_bind (wpAny_typeOf (show s.TypeIs (.ref a) "tuple" from ⟨o, h1, h2⟩) ?_)
      have e : (("tuple" : String) == "tuple") = true := by decide
      simp only [e, if_true, Bool.not_true, Bool.false_eq_true, if_false]
      try refine wpAny_bind (wpAny_pure ?_)
      try simp only [Bool.not_true, Bool.false_eq_true, if_false]
      show wpAny _ _ (seqItems? (.ref a) >>= _) _ _ s
      refine wpAny_bind (wpAny_seqItems h1 h3 ?_)
      refine wpAny_bind ?_
      show wpAny _ _ (forIn vs _ _) _ _ s
      rw [← Array.forIn_toList]
      refine wpAny_forIn_list _ (fun rest r s' => r.1 = none ∧ s' = s ∧ ∃ ks', NestedAll s.heap ks' rest ∧ (∀ k ∈ ks', k ∈ ks)) _ ?_ ?_ _ _ ⟨rfl, rfl, ks, h4, fun _ z => z⟩
      · rintro u rest r s' ⟨hr, rfl, ks', ha, hs⟩
        cases ha with
        | @cons k _ kr _ p1 p2 =>
          have hkd := depth_mem (hs k List.mem_cons_self)
          refine wpAny_bind (ih k u s' _ p1 (by omega) ?_)
          simp only [Bool.false_eq_true, if_false]
          exact wpAny_pure ⟨rfl, rfl, kr, p2, fun q z => hs q (List.mem_cons_of_mem _ z)⟩
      · rintro ⟨r1, r2⟩ s' ⟨hr, rfl, _⟩
        simp only at hr
        subst hr
        exact wpAny_pure h
    | none => exact wpAny_pure h
    | bool e => exact wpAny_pure h
    | int i t => exact wpAny_pure h
    | text x t => exact wpAny_pure h
/-- whether a hash is by value: either answer will do -/
theorem hashBy_n : ∀ (n : Nat) (v : Value) (k : NestedKey) (s : Shared) (Q : Bool → Shared → Prop), NestedIs s.heap k v → (∀ b, Q b s) → wpAny (model P w) A (hashByValue n v) Q E s := by
  intro n
  induction n with
  | zero => intro v k s Q hk h; cases hk <;> exact wpAny_pure (h _)
  | succ n ih =>
    intro v k s Q hk h
    cases hk with
    | @tup a o vs m ks h1 h2 h3 h4 =>
      unfold hashByValue
      refine wpAny_bind (wpAny_specialOf (show s.TypeIs (.ref a) "tuple" from ⟨o, h1, h2⟩) F.slot_tuple_hash.lookup ?_)
      show wpAny _ _ (seqItems? (.ref a) >>= _) _ _ s
      refine wpAny_bind (wpAny_seqItems h1 h3 ?_)
      refine wpAny_bind ?_
      show wpAny _ _ (forIn vs _ _) _ _ s
      rw [← Array.forIn_toList]
      refine wpAny_forIn_list _ (fun rest r s' => r.1 = none ∧ s' = s ∧ ∃ ks', NestedAll s.heap ks' rest) _ ?_ ?_ _ _ ⟨rfl, rfl, ks, h4⟩
      · rintro u rest r s' ⟨hr, rfl, ks', ha⟩
        cases ha with
        | @cons k _ kr _ p1 p2 =>
          refine wpAny_bind (ih u k s' _ p1 fun b => ?_)
          cases b with
          | true =>
            simp only [Bool.not_true, Bool.false_eq_true, if_false]
            exact wpAny_pure ⟨rfl, rfl, kr, p2⟩
          | false =>
            simp only [Bool.not_false, if_true]
            exact wpAny_pure (wpAny_pure (h _))
      · rintro ⟨r1, r2⟩ s' ⟨hr, rfl, _⟩
        simp only at hr
        subst hr
        exact wpAny_pure (h _)
    | none => exact wpAny_pure (h _)
    | bool e => exact wpAny_pure (h _)
    | int i t => exact wpAny_pure (h _)
    | text x t => exact wpAny_pure (h _)
/-- a search among such keys shows nothing -/
theorem seen_n {k : NestedKey} {b : Addr} {Q : Bool → Shared → Prop} (hk : IsN P w s.heap k b) {ys : List Value} (hy : ∀ y ∈ ys, ∃ k' c, y = Value.ref c ∧ IsN P w s.heap k' c) (h : Q false s) :
    wpAny (model P w) A (searchCouldBeSeen (.ref b) ys) Q E s := by
  unfold searchCouldBeSeen
  refine wpAny_bind (wpAny_forIn_list _ (fun rest r s' => r.1 = none ∧ s' = s ∧ ∀ y ∈ rest, ∃ k' c, y = Value.ref c ∧ IsN P w s.heap k' c) _ ?_ ?_ _ _ ⟨rfl, rfl, hy⟩)
  · rintro v rest r s' ⟨hr, rfl, all⟩
    obtain ⟨k', c, rfl, hc⟩ := all v List.mem_cons_self
    have more : ∀ y ∈ rest, ∃ k' c, y = Value.ref c ∧ IsN P w s'.heap k' c := fun u z => all u (List.mem_cons_of_mem _ z)
    dsimp only
    by_cases hv : (b == c || (carriedByValue (.ref b) && carriedByValue (.ref c))) = true
    · exact wp_if_pos hv (wpAny_pure ⟨rfl, rfl, more⟩)
    · refine wp_if_neg hv (wpAny_bind ((nestedKind P w).quiet hk ?_))
      simp only [Bool.not_true, Bool.false_eq_true, if_false]
      refine wpAny_bind ((nestedKind P w).quiet hc ?_)
      simp only [Bool.not_true, Bool.false_eq_true, if_false]
      refine wpAny_bind (ofA_n 8 k _ _ _ hk.1 hk.2 ?_)
      simp only [Bool.false_eq_true, if_false]
      refine wpAny_bind (ofA_n 8 k' _ _ _ hc.1 hc.2 ?_)
      simp only [Bool.false_eq_true, if_false]
      exact wpAny_pure ⟨rfl, rfl, more⟩
  · rintro ⟨r1, r2⟩ s' ⟨hr, rfl, _⟩
    simp only at hr
    subst hr
    exact wpAny_pure h

/-! ### the set -/
def rowsN (w : World) (L : List (Addr × NestedKey)) : List (Int × Value) := L.map fun p => (p.2.hash w, Value.ref p.1)
structure SetN (P : Program) (w : World) (h : Heap) (a : Addr) (L : List (Addr × NestedKey)) (es : Array (Int × Value)) (ep : Nat) (t : SetTable) : Prop where
  ob : ∃ o, h.get? a = some o ∧ o.ExactSet ∧ o.data = .set es ep t
  rows : es.toList = rowsN w L
  tab : TabW t (L.map fun p => p.2.hash w)
  nd : (L.map (·.2)).Nodup
  tup : ∀ p ∈ L, IsN P w h p.2 p.1
  led : w.params.followText "set-order" = true ∨ t.led = true
  room : L.length * 5 < t.mask * 3
  few : L.length < 307
variable {a : Addr} {L : List (Addr × NestedKey)} {es : Array (Int × Value)} {ep : Nat} {t : SetTable}
theorem rows_size (r : es.toList = rowsN w L) : es.size = L.length := by
  have z := congrArg List.length r
  unfold rowsN at z
  rwa [Array.length_toList, List.length_map] at z
theorem SetN.fits (R : SetN P w s.heap a L es ep t) : t.fits es.size = true := by
  have z1 := R.tab.sz
  rw [List.length_map] at z1
  have z2 := rows_size R.rows
  have z3 := R.room
  unfold SetTable.fits SetTable.fill
  rw [R.tab.dm, Bool.and_eq_true, beq_iff_eq, decide_eq_true_eq]
  show t.place.size = es.size ∧ t.place.size + 0 ≤ t.mask
  omega
theorem rows_at (r : es.toList = rowsN w L) {i : Nat} {p : Addr × NestedKey} (h : L[i]? = some p) : es[i]? = some (p.2.hash w, Value.ref p.1) := by
  rw [← Array.getElem?_toList, r, rowsN, List.getElem?_map, h]; rfl
theorem SetN.gw (R : SetN P w s.heap a L es ep t) : ¬ t.gaveWay = true := by
  unfold SetTable.gaveWay
  rw [R.tab.mok.odd]
  decide
/-- the way of the hash h in the table -/
abbrev wy (t : SetTable) (h : Int) : Nat → Nat := way t.mask h
abbrev st0 (t : SetTable) (h : Int) : SetTable.Probe := runAt t.mask (SetTable.bits h % (t.mask + 1)) (SetTable.bits h)
theorem no_dummy {m : Nat} : ∀ (n : Nat) (p : SetTable.Probe), p.dummy = none → (nth m p n).dummy = none
  | 0, _, h => h
  | n + 1, p, h => no_dummy n (adv m p) (by unfold adv; split <;> exact h)
theorem SetN.search (R : SetN P w s.heap a L es ep t) {x : Addr} {k : NestedKey} (hx : IsN P w s.heap k x) (hu : A.units + 8 < cLine) {K : Nat} (hKf : K < 10 * SetTable.turns t.mask)
    (hK : wy t (k.hash w) K ∉ t.place.toList) (hKb : ∀ c, c < K → wy t (k.hash w) c ∈ t.place.toList) {Q : SetFound → Shared → Prop} (hin : k ∈ L.map (·.2) → Q (.there none) s) (hout : k ∉ L.map (·.2) → Q (.free (wy t (k.hash w) K) false) s) :
    ∀ (f c : Nat) (stand : Option SetTable.Probe), stand.getD (t.probeStart (k.hash w)) = nth t.mask (st0 t (k.hash w)) c → c ≤ K → K - c < f →
      (∀ (i : Nat) p, L[i]? = some p → p.2 = k → ∃ c', c ≤ c' ∧ c' < K ∧ t.place.toList[i]? = some (wy t (k.hash w) c')) → wpAny (model P w) A (setSearchFrom a (.ref x) (k.hash w) true f stand) Q E s := by
  obtain ⟨o, ho, hex, hd⟩ := R.ob
  have hLp : L.length = t.place.toList.length := by
    have z := R.tab.sz
    rw [List.length_map] at z
    have z2 : t.place.toList.length = t.place.size := Array.length_toList
    omega
  generalize hH : k.hash w = hh at hK hKb hout ⊢
  have shift : ∀ c q, nth t.mask (nth t.mask (st0 t hh) c) q = nth t.mask (st0 t hh) (c + q) := fun c q => (nth_add t.mask c _ q).symm
  have shj : ∀ c q, (nth t.mask (nth t.mask (st0 t hh) c) q).j = wy t hh (c + q) := fun c q => congrArg SetTable.Probe.j (shift c q)
  have hash_at : ∀ (i : Nat) p, L[i]? = some p → (es[i]?.map (·.1)).getD 0 = p.2.hash w := fun i p hp => by rw [rows_at R.rows hp]; rfl
  intro f
  induction f with
  | zero => exact fun c stand _ _ hf _ => absurd hf (Nat.not_lt_zero _)
  | succ f ih =>
    intro c stand hst hc hf hre
    rw [setSearchFrom_succ]
    refine wpAny_bind (wpAny_setState_of ho hd R.fits ?_)
    dsimp only
    refine wp_if_neg R.gw ?_
    try refine wpAny_bind (wpAny_pure ?_)
    rcases go_spec t R.tab.ris R.tab.dm (fun i => (es[i]?.map (·.1)).getD 0) hh (10 * SetTable.turns t.mask) (K - c) _ (no_dummy c (st0 t hh) rfl) (by omega) (fun q hq => by rw [shj]; exact hKb (c + q) (by omega)) (by rw [shj, show c + (K - c) = K by omega]; exact hK) with
      ⟨q, i, hq, hi, hhe, hno, hpr⟩ | ⟨hno, hpr⟩
    · have hpr' : t.probe (fun i => (es[i]?.map (·.1)).getD 0) hh (stand.getD (t.probeStart hh)) = some (.candidate (wy t hh (c + q)) i (nth t.mask (st0 t hh) (c + (q + 1)))) := by
        rw [hst, ← shj, ← shift]
        exact hpr
      rw [hpr']
      dsimp only
      rw [shj] at hi
      have hil : i < L.length := by rw [hLp]; exact (List.getElem?_eq_some_iff.mp hi).1
      obtain ⟨p, hp⟩ : ∃ p, L[i]? = some p := ⟨_, List.getElem?_eq_getElem hil⟩
      have hmem : p ∈ L := List.mem_of_getElem? hp
      have rest : wpAny (model P w) A (searchRest a (.ref x) hh true f es t (wy t hh (c + q)) i (nth t.mask (st0 t hh) (c + (q + 1)))) Q E s := by
        unfold searchRest
        rw [rows_at R.rows hp]
        dsimp only
        refine wpAny_bind (wpAny_holding ((nestedKind P w).eqBool (show A.units + 8 < cLine from hu) (R.tup p hmem) hx ?_))
        refine wpAny_bind (wpAny_setState_of ho hd R.fits ?_)
        dsimp only
        by_cases hkk : p.2 = k
        · exact wp_if_pos (by simp [hkk]) (wpAny_pure (hin (List.mem_map.mpr ⟨p, hmem, hkk⟩)))
        · refine wp_if_neg (by simp [hkk]) ?_
          try refine wpAny_bind (wpAny_pure ?_)
          rw [sameMem]
          dsimp only
          have hsl : t.slot (wy t hh (c + q)) = .live i := slot_live R.tab.ris hi
          simp only [if_true, hsl, rows_at R.rows hp]
          refine wpAny_bind (wpAny_isSame_ref_self (wpAny_bind (wpAny_pure ?_)))
          simp only [if_true]
          refine wp_if_neg (by simp [hkk]) (ih (c + (q + 1)) _ rfl (by omega) (by omega) fun i0 p0 h0 hk0 => ?_)
          obtain ⟨c', a1, a2, a3⟩ := hre i0 p0 h0 hk0
          refine ⟨c', ?_, a2, a3⟩
          rcases Nat.lt_trichotomy c' (c + q) with z | z | z
          · exact (hno (c' - c) i0 (by omega) (by rw [shj, show c + (c' - c) = c' by omega]; exact a3) ((hash_at i0 p0 h0).trans ((congrArg (NestedKey.hash w) hk0).trans hH))).elim
          · rw [z] at a3
            have s0 := slot_live R.tab.ris a3
            rw [hsl] at s0
            injection s0 with s0
            rw [← s0, hp] at h0
            exact (hkk ((congrArg Prod.snd (Option.some.inj h0)).trans hk0)).elim
          · omega
      by_cases hl : t.led = true
      · refine wp_if_neg (by simp [hl]) ?_
        try refine wpAny_bind (wpAny_pure ?_)
        exact rest
      · refine wp_if_pos (by simp [hl]) (wpAny_bind (seen_n hx (fun y hy => ?_) ?_))
        · obtain ⟨e, he, ee⟩ := List.mem_map.mp hy
          have he1 : e ∈ es ∧ e.1 = hh := by simpa using he
          have he2 : e ∈ rowsN w L := by rw [← R.rows]; simpa using he1.1
          obtain ⟨p2, hp2, e2⟩ := List.mem_map.mp he2
          exact ⟨p2.2, p2.1, by rw [← ee, ← e2], R.tup p2 hp2⟩
        · refine wp_if_neg (by decide) ?_
          try refine wpAny_bind (wpAny_pure ?_)
          exact rest
    · have hpr' : t.probe (fun i => (es[i]?.map (·.1)).getD 0) hh (stand.getD (t.probeStart hh)) = some (.empty (wy t hh K) none) := by
        have e2 : wy t hh K = (nth t.mask (nth t.mask (st0 t hh) c) (K - c)).j := by rw [shj, show c + (K - c) = K by omega]
        rw [hst, e2]
        exact hpr
      rw [hpr']
      dsimp only
      refine wpAny_pure (hout fun hm => ?_)
      obtain ⟨p0, h0, hk0⟩ := List.mem_map.mp hm
      obtain ⟨i0, hi0, e0⟩ := List.getElem_of_mem h0
      have h00 : L[i0]? = some p0 := by rw [List.getElem?_eq_getElem hi0, e0]
      obtain ⟨c', a1, a2, a3⟩ := hre i0 p0 h00 hk0
      exact hno (c' - c) i0 (by omega) (by rw [shj, show c + (c' - c) = c' by omega]; exact a3) ((hash_at i0 p0 h00).trans ((congrArg (NestedKey.hash w) hk0).trans hH))
theorem SetN.seek (R : SetN P w s.heap a L es ep t) {x : Addr} {k : NestedKey} (hx : IsN P w s.heap k x) (hu : A.units + 8 < cLine) {Q : SetFound → Shared → Prop} (hin : k ∈ L.map (·.2) → Q (.there none) s)
    (hout : ∀ K, k ∉ L.map (·.2) → wy t (k.hash w) K ∉ t.place.toList → (∀ c, c < K → wy t (k.hash w) c ∈ t.place.toList) → Q (.free (wy t (k.hash w) K) false) s) : wpAny (model P w) A (setSearch a (.ref x) (k.hash w) true) Q E s := by
  have hroom := R.room
  have hlp : t.place.toList.length = L.length := by
    have z := R.tab.sz
    rw [List.length_map] at z
    have z2 : t.place.toList.length = t.place.size := Array.length_toList
    omega
  obtain ⟨K, hKf, hK, hKb⟩ := R.tab.first (by rw [List.length_map]; omega) (k.hash w)
  have hbig : K < 100000 := by
    have : 10 * SetTable.turns t.mask ≤ 5260 := by
      have := R.tab.mok.small
      unfold SetTable.turns
      omega
    omega
  unfold setSearch
  refine R.search hx hu hKf hK hKb hin (fun hn => hout K hn hK hKb) 100000 0 none rfl (Nat.zero_le _) (by omega) fun i p hp hk => ?_
  have hi : (L.map fun p => p.2.hash w)[i]? = some (k.hash w) := by rw [List.getElem?_map, hp, ← hk]; rfl
  have hil : i < t.place.toList.length := by rw [hlp]; exact (List.getElem?_eq_some_iff.mp hp).1
  have hj := List.getElem?_eq_getElem hil
  obtain ⟨c, hc, e⟩ := R.tab.before hK hi hj
  exact ⟨c, Nat.zero_le _, hc, hj.trans (congrArg some e.symm)⟩
/-- a key isn't the set -/
theorem isN_same {h h' : Heap} {k : NestedKey} {b : Addr} {o : Obj} (hb : IsN P w h k b) (ho : h.get? a = some o) (hd : o.data = .set es ep t) (hs : Heap.SameBut a h h') : IsN P w h' k b :=
  ⟨NestedIs.at (fun c ob vs n hc hdt => (hs.2 c fun e => by rw [e, ho] at hc; cases hc; rw [hd] at hdt; cases hdt).trans hc) _ _ hb.1, hb.2⟩
theorem rows_ins (L : List (Addr × NestedKey)) (p : Nat) (x : Addr) (k : NestedKey) : rowsN w (L.take p ++ (x, k) :: L.drop p) = (rowsN w L).take p ++ (k.hash w, Value.ref x) :: (rowsN w L).drop p := by
  unfold rowsN
  simp only [List.map_append, List.map_cons, List.map_take, List.map_drop]
theorem rows_order {L : List (Addr × NestedKey)} {es : Array (Int × Value)} {order : Array Nat} (hr : es.toList = rowsN w L) (hp : order.toList.Perm (List.range L.length)) :
    ∃ L2, (order.filterMap (es[·]?)).toList = rowsN w L2 ∧ L2.Perm L ∧ (L2.map fun p => p.2.hash w) = order.toList.map fun i => (es.map (·.1)).getD i 0 := by
  have hsz := rows_size hr
  refine ⟨order.toList.filterMap fun i => L[i]?, ?_, ?_, ?_⟩
  · have key : ∀ l : List Nat, l.filterMap (fun i => es[i]?) = rowsN w (l.filterMap fun i => L[i]?) := by
      intro l
      induction l with
      | nil => rfl
      | cons i l ih =>
        cases hi : L[i]? with
        | none =>
          have h2 : es[i]? = none := by
            rw [Array.getElem?_eq_none_iff, hsz]
            exact List.getElem?_eq_none_iff.mp hi
          rw [List.filterMap_cons_none h2, List.filterMap_cons_none hi, ih]
        | some p =>
          rw [List.filterMap_cons_some (rows_at hr hi), List.filterMap_cons_some hi, ih]; rfl
    first | (rw [Array.toList_filterMap]; exact key _) | simpa using key order.toList
  · have h1 : (order.toList.filterMap fun i => L[i]?).Perm ((List.range L.length).filterMap fun i => L[i]?) := hp.filterMap _
    have h2 : ∀ n, n ≤ L.length → (List.range n).filterMap (fun i => L[i]?) = L.take n := by
      intro n
      induction n with
      | zero => exact fun _ => rfl
      | succ n ih =>
        intro hn
        have hlt : n < L.length := hn
        rw [List.range_succ, List.filterMap_append, ih (Nat.le_of_lt hlt), List.take_succ, List.getElem?_eq_getElem hlt, List.filterMap_cons_some (List.getElem?_eq_getElem hlt)]; rfl
    rw [h2 _ (Nat.le_refl _), List.take_length] at h1
    exact h1
  · have hb : ∀ i ∈ order.toList, i < L.length := fun i hi => List.mem_range.mp (hp.mem_iff.mp hi)
    generalize order.toList = l at hb
    induction l with
    | nil => rfl
    | cons i l ih =>
      have hi := hb i List.mem_cons_self
      have hg := List.getElem?_eq_getElem hi
      rw [List.filterMap_cons_some hg, List.map_cons, List.map_cons, ih fun j hj => hb j (List.mem_cons_of_mem _ hj)]
      congr 1
      have e5 : (es.map (·.1))[i]? = some (L[i].2.hash w) := by rw [Array.getElem?_map, rows_at hr hg]; rfl
      simp [Array.getD_eq_getD_getElem?, e5]
theorem relay_n {o : Obj} (ho : s.heap.get? a = some o) (hex : o.ExactSet) (hd : o.data = .set es ep t) (hr : es.toList = rowsN w L) (hsz : t.place.size = es.size) (hdm : t.dummies = #[]) (hfl : es.size ≤ t.mask) (nd : (L.map (·.2)).Nodup) (tup : ∀ p ∈ L, IsN P w s.heap p.2 p.1)
    (ld : w.params.followText "set-order" = true ∨ t.led = true) (few : L.length < 307) {wanted M : Nat} (hw : SetTable.sizeAbove wanted - 1 = M) (hM : MaskW M) (hw2 : SetTable.sizeAbove wanted ≤ 512) (hn : L.length * 5 < M * 3) {Q : Unit → Shared → Prop}
    (hQ : ∀ h' L' es' ep' t', Heap.SameBut a s.heap h' → SetN P w h' a L' es' ep' t' → L'.Perm L → Q () { s with heap := h' }) : wpAny (model P w) A (setRelay a wanted) Q E s := by
  have hsl := rows_size hr
  have hfits : t.fits es.size = true := by
    unfold SetTable.fits SetTable.fill
    rw [hdm, Bool.and_eq_true, beq_iff_eq, decide_eq_true_eq]
    show t.place.size = es.size ∧ t.place.size + 0 ≤ t.mask
    omega
  obtain ⟨t', order, e, hp, T, em, el⟩ := relaid_w t (hs := es.map (·.1)) (wanted := wanted) hw hM (by rw [Array.size_map, hsl]; omega)
  rw [Array.size_map, hsl] at hp
  obtain ⟨L2, r1, r2, r3⟩ := rows_order hr hp
  rw [← r3] at T
  have hs2 : (order.filterMap (es[·]?)).size = es.size := by rw [rows_size r1, hsl, r2.length_eq]
  rw [setRelay_eq]
  refine wpAny_bind (wpAny_setState_of ho hd hfits ?_)
  dsimp only
  refine wp_if_neg (by rw [sizeLine_eq]; omega) ?_
  try refine wpAny_bind (wpAny_pure ?_)
  rw [e]
  dsimp only
  refine wpAny_bind (wp_if_neg (by rw [hs2]; simp) ?_)
  try refine wpAny_bind (wpAny_pure ?_)
  refine wpAny_pure ?_
  dsimp only
  refine wpAny_storeSet_of ho hd ?_ (by rw [hs2, hsl, sizeLine_eq]; omega)
  have sb : Heap.SameBut a s.heap (s.heap.update a (Obj.putSet (order.filterMap (es[·]?)) t')) := Heap.SameBut.update ..
  exact hQ _ L2 (order.filterMap (es[·]?)) (ep + 1) t' sb ⟨⟨_, store_at ho hd, ⟨hex.1, hex.2.1, hex.2.2⟩, rfl⟩, r1, T, (r2.map (·.2)).nodup_iff.mpr nd, fun p hpm => isN_same (tup p (r2.mem_iff.mp hpm)) ho hd sb, by rw [el]; exact ld, by rw [r2.length_eq, em]; exact hn, by rw [r2.length_eq]; exact few⟩ r2
/-- one more element, or none -/
theorem SetN.add (R : SetN P w s.heap a L es ep t) {x : Addr} {k : NestedKey} (hx : IsN P w s.heap k x) (hu : A.units + 8 < cLine) (hfew : L.length + 1 < 307) {Q : Bool → Shared → Prop}
    (hQ : ∀ b h' L' es' ep' t', Heap.SameBut a s.heap h' → SetN P w h' a L' es' ep' t' → (k ∈ L.map (·.2) → L' = L) → (k ∉ L.map (·.2) → L'.Perm ((x, k) :: L)) → Q b { s with heap := h' }) : wpAny (model P w) A (setAddHashed a (.ref x) (k.hash w)) Q E s := by
  obtain ⟨o, ho, hex, hd⟩ := R.ob
  have hsl := rows_size R.rows
  have hroom := R.room
  unfold setAddHashed
  refine wpAny_holding ?_
  rw [show (100000 : Nat) = 99999 + 1 from rfl, setAddHashedIn_succ]
  refine wpAny_bind (wpAny_setState_of ho hd R.fits ?_)
  dsimp only
  refine wp_if_neg (by simp [byScan, Value.scannable]) ?_
  try refine wpAny_bind (wpAny_pure ?_)
  refine wpAny_bind (R.seek hx hu (fun hm => wpAny_pure (hQ false s.heap L es ep t (Heap.SameBut.refl a s.heap) R (fun _ => rfl) fun z => absurd hm z)) fun K hm hK hb => ?_)
  dsimp only
  refine wpAny_bind (wpAny_setState_of ho hd R.fits ?_)
  dsimp only
  obtain ⟨q1, q2, q3, q4, q5, q9⟩ := R.tab.put hK hb
  generalize hpt : t.put (wy t (k.hash w) K) = pt at q1 q3 q4 q5 q9 ⊢
  obtain ⟨t1, p⟩ := pt
  dsimp only at q1 q3 q4 q5 q9 ⊢
  subst q1
  have hin : (SetTable.insertAt es (SetTable.below t.place (way t.mask (k.hash w) K)) (k.hash w, Value.ref x)).toList = rowsN w (L.take (SetTable.below t.place (way t.mask (k.hash w) K)) ++ (x, k) :: L.drop (SetTable.below t.place (way t.mask (k.hash w) K))) := by
    rw [SetTable.toList_insertAt, rows_ins, R.rows]
  generalize SetTable.below t.place (way t.mask (k.hash w) K) = p at q2 q3 hin ⊢
  have pm := put_perm L p (x, k)
  have hlen : (L.take p ++ (x, k) :: L.drop p).length = L.length + 1 := pm.length_eq
  have hhs : (L.take p ++ (x, k) :: L.drop p).map (fun p => p.2.hash w) = (L.map fun p => p.2.hash w).take p ++ k.hash w :: (L.map fun p => p.2.hash w).drop p := by simp only [List.map_append, List.map_cons, List.map_take, List.map_drop]
  rw [← hhs] at q3
  have nd1 : ((L.take p ++ (x, k) :: L.drop p).map (·.2)).Nodup := by
    refine (pm.map (·.2)).nodup_iff.mpr ?_
    rw [List.map_cons]
    exact List.nodup_cons.mpr ⟨hm, R.nd⟩
  have hes : (SetTable.insertAt es p (k.hash w, Value.ref x)).size = L.length + 1 := by rw [rows_size hin, hlen]
  generalize SetTable.insertAt es p (k.hash w, Value.ref x) = es1 at hin hes ⊢
  generalize L.take p ++ (x, k) :: L.drop p = L1 at pm hlen q3 nd1 hin
  -- whether the table is plain any more matters nothing here
  have go : ∀ t2 : SetTable, t2.place = t1.place → t2.mask = t1.mask → t2.dummies = t1.dummies → t2.led = t1.led → wpAny (model P w) A (do
      storeSet a es1 t2
      if !false && t2.tooFull then setRelay a (SetTable.grown (es.size + 1))
      return true : Sem Bool) Q E s := by
    intro t2 e1 e2 e3 e4
    have q3' : TabW t2 (L1.map fun p => p.2.hash w) := ⟨by rw [e1]; exact q3.ris, by rw [e3]; exact q3.dm, by rw [e1]; exact q3.sz, by rw [e2]; exact q3.mok, by rw [e1, e2]; exact q3.bd, by rw [e1, e2]; exact q3.reach⟩
    have hfill : t2.fill = L.length + 1 := by
      have h9 := q9
      unfold SetTable.fill at h9 ⊢
      rw [e1, e3, h9, List.length_map]
    refine wpAny_bind (wpAny_storeSet_of ho hd ?_ (by rw [hes, sizeLine_eq]; omega))
    have sb : Heap.SameBut a s.heap (s.heap.update a (Obj.putSet es1 t2)) := Heap.SameBut.update ..
    have ho1 := store_at (es' := es1) (t' := t2) ho hd
    generalize s.heap.update a (Obj.putSet es1 t2) = h1 at sb ho1 ⊢
    have tup1 : ∀ p ∈ L1, IsN P w h1 p.2 p.1 := fun p hp => by
      rcases List.mem_cons.mp (pm.mem_iff.mp hp) with e | hp
      · rw [e]; exact isN_same hx ho hd sb
      · exact isN_same (R.tup p hp) ho hd sb
    have ld1 : w.params.followText "set-order" = true ∨ t2.led = true := by rw [e4, q5]; exact R.led
    by_cases hf : t2.tooFull = true
    · first
        | (refine wpAny_bind ?_; refine wp_if_pos (by simp [hf]) ?_)
        | (refine wp_if_pos (by simp [hf]) ?_; refine wpAny_bind ?_)
      have hfull : (L.length + 1) * 5 ≥ t2.mask * 3 := by
        have h := hf
        unfold SetTable.tooFull at h
        rw [decide_eq_true_eq, hfill] at h
        exact h
      rw [hsl]
      have hsz1 : t2.place.size = es1.size := by rw [q3'.sz, List.length_map, hlen, hes]
      have two : (t.mask = 7 ∧ L.length = 4) ∨ (t.mask = 31 ∧ L.length = 18) ∨ (t.mask = 127 ∧ L.length = 76) := by
        rw [e2, q4] at hfull
        rcases R.tab.mok.is with e | e | e | e <;> rw [e] at hfull hroom
        · exact .inl ⟨e, by omega⟩
        · exact .inr (.inl ⟨e, by omega⟩)
        · exact .inr (.inr ⟨e, by omega⟩)
        · exfalso; omega
      have big : ∀ M, SetTable.sizeAbove (SetTable.grown (L.length + 1)) - 1 = M → MaskW M → SetTable.sizeAbove (SetTable.grown (L.length + 1)) ≤ 512 → (L.length + 1) * 5 < M * 3 →
          wpAny (model P w) A (setRelay a (SetTable.grown (L.length + 1))) (fun _ s' => wpAny (model P w) A (pure true) Q E s') E { s with heap := h1 } := fun M h1' h2' h3' h4' =>
        relay_n (s := { s with heap := h1 }) ho1 ⟨hex.1, hex.2.1, hex.2.2⟩ rfl hin hsz1 q3'.dm (by rw [hes, e2, q4]; rcases two with ⟨e, e2⟩ | ⟨e, e2⟩ | ⟨e, e2⟩ <;> omega) nd1 tup1 ld1 (by rw [hlen]; exact hfew) h1' h2' h3' (by rw [hlen]; exact h4')
          fun h2 L2 es2 ep2 t2 sb2 R2 pm2 => wpAny_pure (hQ true h2 L2 es2 ep2 t2 (sb.trans sb2) R2 (fun z => absurd z hm) fun _ => pm2.trans pm)
      rcases two with ⟨_, e2⟩ | ⟨_, e2⟩ | ⟨_, e2⟩
      · exact big 31 (by rw [e2, size_20]) mw31 (by rw [e2, size_20]; decide) (by omega)
      · exact big 127 (by rw [e2, size_76]) mw127 (by rw [e2, size_76]; decide) (by omega)
      · exact big 511 (by rw [e2, size_308]) mw511 (by rw [e2, size_308]; decide) (by omega)
    · first
        | refine wp_if_neg (by simp [hf]) ?_
        | (refine wpAny_bind ?_; refine wp_if_neg (by simp [hf]) ?_; refine wpAny_pure ?_)
      refine wpAny_pure (hQ true h1 L1 es1 (ep + 1) t2 sb ⟨⟨_, ho1, ⟨hex.1, hex.2.1, hex.2.2⟩, rfl⟩, hin, q3', nd1, tup1, ld1, ?_, by rw [hlen]; exact hfew⟩ (fun z => absurd z hm) fun _ => pm)
      have h := hf
      unfold SetTable.tooFull at h
      rw [decide_eq_true_eq, hfill] at h
      rw [hlen]
      omega
  by_cases hp1 : t1.plain = true
  · first
      | (refine wpAny_bind ?_; refine wp_if_pos hp1 ?_; refine hashBy_n 8 _ _ _ _ hx.1 fun b => ?_)
      | refine wp_if_pos hp1 (wpAny_bind (hashBy_n 8 _ _ _ _ hx.1 fun b => ?_))
    cases b with
    | true => simpa using go t1 rfl rfl rfl rfl
    | false => simpa using go { t1 with plain := false } rfl rfl rfl rfl
  · first
      | (refine wpAny_bind ?_; refine wp_if_neg hp1 ?_; refine wpAny_pure ?_)
      | refine wp_if_neg hp1 (wpAny_bind (wpAny_pure ?_))
    simpa using go t1 rfl rfl rfl rfl
end
end DL
/-! DL, part u: set(xs) of nested keys. -/
namespace DL
open PySem PySem.Spec L2
/-- what the set has from the first i items -/
structure GotN (ks : List (Addr × NestedKey)) (i : Nat) (L : List (Addr × NestedKey)) : Prop where
  sub : ∀ p ∈ L, p ∈ ks.take i
  all : ∀ p ∈ ks.take i, p.2 ∈ L.map (·.2)
  len : L.length ≤ i
section
variable {ks L L' : List (Addr × NestedKey)} {i : Nat} {x : Addr × NestedKey}
theorem take_succ' {α : Type} {l : List α} {i : Nat} {x : α} (h : l[i]? = some x) : l.take (i + 1) = l.take i ++ [x] := by rw [List.take_succ, h]; rfl
theorem GotN.same (g : GotN ks i L) (h : ks[i]? = some x) (hm : x.2 ∈ L.map (·.2)) : GotN ks (i + 1) L := by
  refine ⟨fun p hp => ?_, fun p hp => ?_, Nat.le_succ_of_le g.len⟩
  · rw [take_succ' h]; exact List.mem_append_left _ (g.sub p hp)
  · rw [take_succ' h, List.mem_append, List.mem_singleton] at hp
    exact hp.elim (g.all p) fun z => by rw [z]; exact hm
theorem GotN.more (g : GotN ks i L) (h : ks[i]? = some x) (pm : L'.Perm (x :: L)) : GotN ks (i + 1) L' := by
  refine ⟨fun p hp => ?_, fun p hp => ?_, ?_⟩
  · rw [take_succ' h, List.mem_append, List.mem_singleton]
    exact (List.mem_cons.mp (pm.mem_iff.mp hp)).elim .inr fun z => .inl (g.sub p z)
  · rw [(pm.map (·.2)).mem_iff, List.map_cons]
    rw [take_succ' h, List.mem_append, List.mem_singleton] at hp
    rcases hp with z | z
    · exact List.mem_cons_of_mem _ (g.all p z)
    · rw [z]; exact List.mem_cons_self
  · rw [pm.length_eq, List.length_cons]; exact Nat.succ_le_succ g.len
end
section
variable {P : Program} {w : World} {A : Around} {E : Value → Shared → Prop} {s : Shared}
theorem isN_keep {h h' : Heap} {k : NestedKey} {b : Addr} (x : IsN P w h k b) (hk : ∀ c o, h.get? c = some o → h'.get? c = some o) : IsN P w h' k b := ⟨NestedIs.at (fun c o _ _ q _ => hk c o q) _ _ x.1, x.2⟩
theorem SetN.keep {h h' : Heap} {a : Addr} {L : List (Addr × NestedKey)} {es : Array (Int × Value)} {ep : Nat} {t : SetTable} (R : SetN P w h a L es ep t) (ha : ∀ o, h.get? a = some o → h'.get? a = some o) (ht : ∀ p ∈ L, IsN P w h' p.2 p.1) : SetN P w h' a L es ep t := by
  obtain ⟨o, ho, r⟩ := R.ob
  exact ⟨⟨o, ha o ho, r⟩, R.rows, R.tab, R.nd, ht, R.led, R.room, R.few⟩
abbrev newSet (w : World) : Obj := { cls := .type "set", dict := none, data := .set #[] 0 (.fresh 0 0 (!w.params.followText "set-order")) }
theorem setN_new {h : Heap} {a : Addr} (ho : h.get? a = some (newSet w)) : SetN P w h a [] #[] 0 (.fresh 0 0 (!w.params.followText "set-order")) where
  ob := ⟨_, ho, ⟨rfl, rfl, rfl⟩, rfl⟩
  rows := rfl
  tab := ⟨List.Pairwise.nil, rfl, rfl, mw7, fun x hx => (by cases hx), fun i h j hi => (by simp at hi)⟩
  nd := List.nodup_nil
  tup := fun p hp => (by cases hp)
  led := by
    cases hf : w.params.followText "set-order" with
    | true => exact .inl rfl
    | false => exact .inr rfl
  room := by show 0 * 5 < 7 * 3; decide
  few := by show 0 < 307; decide
/-- the loop of set.update: J i is what the set is after i items -/
theorem loop_g {I : Addr} {fp wr : List Addr} {G : Array GenState → Array GenState → Prop} {n : Nat} {Pv : Nat → Value → Prop} {St : Nat → Shared → Prop} {R : Result → Shared → Prop} (W : WalksS P w A.in1 I fp wr G n Pv St) (S : Addr) (hSf : S ∉ fp) (J : Nat → Heap → Prop) (h0 : Heap) (hS0 : h0.get? S = none) (hw0 : ∀ b ∈ wr, h0.get? b = none)
    (stayJ : ∀ i h h', J i h → (∀ b o, h0.get? b = some o → h'.get? b = some o) → (∀ o, h.get? S = some o → h'.get? S = some o) → J i h')
    (stepJ : ∀ (i : Nat) (v : Value) (s : Shared) (Q : Bool → Shared → Prop) (E : Value → Shared → Prop), i < n → Pv i v → J i s.heap → (∀ b o, h0.get? b = some o → s.heap.get? b = some o) → (∀ b h' tk, s.toks ≤ tk → Heap.SameBut S s.heap h' → J (i + 1) h' → Q b { s with heap := h', toks := tk }) → wpAny (model P w) A.in1 (setAdd S v) Q E s) :
    ∀ (k i : Nat) (s : Shared), n - i = k → i ≤ n → St i s → (∀ b o, h0.get? b = some o → s.heap.get? b = some o) → J i s.heap →
      (∀ s', Moved (S :: wr) G s s' → J n s'.heap → (∀ b o, h0.get? b = some o → s'.heap.get? b = some o) → R (.ok (.ret .none)) s') →
      codeAny (model P w) A (.builtin "set.update.loop" ⟨[.ref S, .ref I], []⟩) R s := by
  have hSw : S ∉ wr := fun h => hSf (W.sub _ h)
  have hsub : ∀ b ∈ wr, b ∈ S :: wr := fun b hb => List.mem_cons_of_mem _ hb
  have keepM : ∀ {s s' : Shared}, Moved wr G s s' → (∀ b o, h0.get? b = some o → s.heap.get? b = some o) → ∀ b o, h0.get? b = some o → s'.heap.get? b = some o := fun hm hkp b o e => hm.heap b o (fun hb => by rw [hw0 b hb] at e; cases e) (hkp b o e)
  intro k
  induction k with
  | zero =>
    intro i s hk' hi hst hkp hS hR
    obtain rfl : i = n := by omega
    refine codeAny_builtin PyProof.Rows.F.entry_set_update_loop ?_
    rw [Around.under_plainId PyProof.Rows.F.plain_set_update_loop _]
    show wpAny _ A.in1 (pyNext (.ref I) >>= _) _ _ s
    refine wpAny_bind (W.done s _ _ hst fun s' hm => ?_)
    have hkp' := keepM hm hkp
    exact wpAny_pure (hR s' (hm.mono hsub) (stayJ i _ _ hS hkp' fun o e => hm.heap S o hSw e) hkp')
  | succ k ih =>
    intro i s hk' hi hst hkp hS hR
    have hlt : i < n := by omega
    refine codeAny_builtin PyProof.Rows.F.entry_set_update_loop ?_
    rw [Around.under_plainId PyProof.Rows.F.plain_set_update_loop _]
    show wpAny _ A.in1 (pyNext (.ref I) >>= _) _ _ s
    refine wpAny_bind (W.item i s _ _ hlt hst fun v s' hP hst' hm => ?_)
    have hkp' := keepM hm hkp
    have hS' := stayJ i _ _ hS hkp' fun o e => hm.heap S o hSw e
    show wpAny _ A.in1 (holding [v] (setAdd S v) >>= _) _ _ s'
    refine wpAny_bind (wpAny_holding ?_)
    refine stepJ i v s' _ _ hlt hP hS' hkp' fun b h' tk htk hsb hS2 => ?_
    have hkp2 : ∀ b o, h0.get? b = some o → h'.get? b = some o := fun b o e => (hsb.2 b (fun z => by rw [z, hS0] at e; cases e)).trans (hkp' b o e)
    refine wpAny_pure ⟨plainId_quiet PyProof.Rows.F.plain_set_update_loop _, ih (i + 1) _ (by omega) hlt (W.frame _ s' _ _ hst' htk fun b hb o e => ?_) hkp2 hS2 fun s'' hm'' hS'' hkp'' => ?_⟩
    · rw [hsb.2 b (fun h : b = S => hSf (h ▸ hb))]; exact e
    · refine hR s'' (Moved.trans W.gtrans ((hm.mono hsub).then_heap htk fun b o hb e => ?_) hm'') hS'' hkp''
      rw [hsb.2 b (fun h : b = S => hb (h ▸ List.mem_cons_self))]; exact e
/-- the source: a list, a tuple -/
def SrcAt (h : Heap) (l : Addr) (items : Array Value) : Prop := h.IsList l items ∨ h.IsTuple l items
set_option maxHeartbeats 8000000 in
theorem call_setG {l : Addr} {items : Array Value} (J : Nat → Heap → Prop) {Q : Value → Shared → Prop} (hh : A.handled = none) (hl : SrcAt s.heap l items)
    (newJ : ∀ h', h'.get? s.heap.objs.size = some (newSet w) → (∀ b o, s.heap.get? b = some o → h'.get? b = some o) → J 0 h')
    (stayJ : ∀ i h h', J i h → (∀ b o, s.heap.get? b = some o → h'.get? b = some o) → (∀ o, h.get? s.heap.objs.size = some o → h'.get? s.heap.objs.size = some o) → J i h')
    (stepJ : ∀ (A' : Around) (i : Nat) (v : Value) (s1 : Shared) (Q : Bool → Shared → Prop) (E : Value → Shared → Prop), A'.units ≤ A.units + 4 → items[i]? = some v → J i s1.heap → (∀ b o, s.heap.get? b = some o → s1.heap.get? b = some o) → (∀ b h' tk, s1.toks ≤ tk → Heap.SameBut s.heap.objs.size s1.heap h' → J (i + 1) h' → Q b { s1 with heap := h', toks := tk }) → wpAny (model P w) A' (setAdd s.heap.objs.size v) Q E s1)
    (h : ∀ (h' : Heap) (tk : Nat), J items.size h' → (∀ b o, s.heap.get? b = some o → h'.get? b = some o) → Q (.ref s.heap.objs.size) { s with heap := h', toks := tk }) :
    wpAny (model P w) A (call (.type "set") [.ref l]) Q E s := by
  have none_of : ∀ b, s.heap.objs.size ≤ b → s.heap.get? b = none := fun b hb => Heap.get?_none_of_le hb
  obtain ⟨c, tl, hmro⟩ := PySem.F.called_set.mro
  have hmade := PySem.F.called_set.made
  have hsub := PySem.F.called_set.sub
  refine wpAny_call (codeAny_of_tree ?_)
  show wpAny _ _ (callAny (.type "set") _) _ _ _
  refine wpAny_pure ⟨Code.quiet_builtin _ (by decide +kernel), codeAny_builtin PySem.F.entry_type_call ?_⟩
  rw [Around.under_plain (weight_type_call_type "set" [.ref l] []) rfl]
  have h1 := PySem.F.called_set.notType
  have h2 := PySem.F.called_set.canCreate
  have hct := PySem.F.typeCall_set_1 (.ref l)
  repeat (any_goals (first | assumption | wp_step))
  refine codeAny_mono (code_set_led1 (.ref l) (E := E) (Q₁ := fun obj s₁ => obj = .ref s.heap.objs.size ∧ s₁ = { s with heap := s.heap.push (newSet w) }) ⟨rfl, rfl⟩) fun r s₁ hr => ?_
  rcases r with e | fl
  · exact hr
  rcases fl with obj | _ | _ | _
  case next => exact hr.elim
  case brk => exact hr.elim
  case cont => exact hr.elim
  obtain ⟨rfl, rfl⟩ := hr
  have hS : (s.heap.push (newSet w)).get? s.heap.objs.size = some (newSet w) := Heap.get?_push_size _ rfl
  have hT : Shared.TypeIs { s with heap := s.heap.push (newSet w) } (.ref s.heap.objs.size) "set" := ⟨_, hS, rfl⟩
  have hli := PySem.F.called_set.init.lookup
  have hbi := PySem.F.called_set.init.bind (.ref s.heap.objs.size)
  repeat (any_goals (first | assumption | wp_step))
  have hz1 : (s.heap.push (newSet w)).objs.size = s.heap.objs.size + 1 := Heap.size_push ..
  have hh3 : A.in1.in1.in1.handled = none := by simp [hh]
  let Post : PySem.Value → Shared → Prop := fun r s₂ => r = .none ∧ ∃ h' tk, s₂ = { s with heap := h', toks := tk } ∧ J items.size h' ∧ ∀ b o, s.heap.get? b = some o → h'.get? b = some o
  refine codeAny_mono (codeAny_call_builtin (R := wants Post E) PySem.F.called_set.init.plain PySem.F.entry_set_init (PySem.check_set_init_1 hT ?_)) fun r₂ s₂ hr₂ => ?_
  · have lt_l : l < s.heap.objs.size := by
      rcases hl with ⟨ol, hol, _⟩ | ⟨ol, hol, _⟩ <;> exact Heap.lt_size hol
    have hneI : l ≠ (s.heap.push (newSet w)).objs.size := by rw [hz1]; exact Nat.ne_of_lt (Nat.lt_succ_of_lt lt_l)
    have hSf : s.heap.objs.size ∉ [(s.heap.push (newSet w)).objs.size, l] := by
      rw [hz1]; simp only [List.mem_cons, List.not_mem_nil, or_false, not_or]
      exact ⟨Nat.ne_of_lt (Nat.lt_succ_self _), Nat.ne_of_gt lt_l⟩
    rcases hl with ⟨ol, hol, hcl, nl, hdl⟩ | ⟨ol, hol, hcl, nl, hdl⟩
    · obtain ⟨ocls, odict, odata, oslots⟩ := ol
      simp only at hcl hdl
      subst hcl hdl
      have hol' : (s.heap.push (newSet w)).get? l = some { cls := .type "list", dict := odict, data := .seq items nl, slots := oslots } := Heap.get?_push_of_some _ hol
      have hsls := PySem.F.sub_list_set
      have hslf := PySem.F.sub_list_frozenset
      have hne : (Value.type "list" == Value.type "dict") = false := by decide
      have hl1 : (s.heap.push (newSet w)).IsList l items := ⟨_, hol', rfl, nl, rfl⟩
      unfold Builtin.«set.__init__» noKeywords Builtin.Frozenset.updateFrom
      generalize hPI : pyIter = PI
      wp_walk
      subst hPI
      refine wpAny_pyIter_list hl1 (wpAny_bind (wpAny_runValue ?_))
      refine loop_g ((Walks.list hh3 _ l hneI items).toS) s.heap.objs.size hSf J s.heap (none_of _ (Nat.le_refl _)) (fun b hb => none_of b (by rw [List.mem_singleton.mp hb, hz1]; exact Nat.le_succ _)) stayJ (fun i v s1 Q1 E1 hi hv => stepJ _ i v s1 Q1 E1 (show A.units + 1 + 1 + 1 ≤ A.units + 4 by omega) hv) (items.size - 0) 0 _ (by omega) (Nat.zero_le _)
        ⟨⟨_, Heap.get?_push_size _ rfl, rfl, rfl⟩, (hl1.push _)⟩ (fun b o e => Heap.get?_push_of_some _ (Heap.get?_push_of_some _ e)) (newJ _ (Heap.get?_push_of_some _ hS) fun b o e => Heap.get?_push_of_some _ (Heap.get?_push_of_some _ e)) ?_
      intro s' hm hS' hkp
      obtain ⟨h', g2, d', tk', os'⟩ := s'
      have eg : g2 = s.gens := hm.gens
      have ed : d' = s.drawn := hm.drawn
      have eo : os' = s.os := hm.os
      subst eg ed eo
      refine wpAny_pure ?_
      exact wpAny_pure ⟨rfl, h', tk', rfl, hS', hkp⟩
    · obtain ⟨ocls, odict, odata, oslots⟩ := ol
      simp only at hcl hdl
      subst hcl hdl
      have hol' : (s.heap.push (newSet w)).get? l = some { cls := .type "tuple", dict := odict, data := .seq items nl, slots := oslots } := Heap.get?_push_of_some _ hol
      have hsls := PySem.F.sub_tuple_set
      have hslf := PySem.F.sub_tuple_frozenset
      have hne : (Value.type "tuple" == Value.type "dict") = false := by decide
      have hl1 : (s.heap.push (newSet w)).IsTuple l items := ⟨_, hol', rfl, nl, rfl⟩
      unfold Builtin.«set.__init__» noKeywords Builtin.Frozenset.updateFrom
      generalize hPI : pyIter = PI
      wp_walk
      subst hPI
      refine wpAny_pyIter_tuple hl1 (wpAny_bind (wpAny_runValue ?_))
      refine loop_g ((Walks.tuple hh3 _ l hneI items).toS) s.heap.objs.size hSf J s.heap (none_of _ (Nat.le_refl _)) (fun b hb => none_of b (by rw [List.mem_singleton.mp hb, hz1]; exact Nat.le_succ _)) stayJ (fun i v s1 Q1 E1 hi hv => stepJ _ i v s1 Q1 E1 (show A.units + 1 + 1 + 1 ≤ A.units + 4 by omega) hv) (items.size - 0) 0 _ (by omega) (Nat.zero_le _)
        ⟨⟨_, Heap.get?_push_size _ rfl, rfl, rfl⟩, (hl1.push _)⟩ (fun b o e => Heap.get?_push_of_some _ (Heap.get?_push_of_some _ e)) (newJ _ (Heap.get?_push_of_some _ hS) fun b o e => Heap.get?_push_of_some _ (Heap.get?_push_of_some _ e)) ?_
      intro s' hm hS' hkp
      obtain ⟨h', g2, d', tk', os'⟩ := s'
      have eg : g2 = s.gens := hm.gens
      have ed : d' = s.drawn := hm.drawn
      have eo : os' = s.os := hm.os
      subst eg ed eo
      refine wpAny_pure ?_
      exact wpAny_pure ⟨rfl, h', tk', rfl, hS', hkp⟩
  · rcases r₂ with e | fl₂
    · exact hr₂
    rcases fl₂ with r | _ | _ | _
    case next => exact hr₂.elim
    case brk => exact hr₂.elim
    case cont => exact hr₂.elim
    obtain ⟨rfl, h', tk, rfl, hS', hk'⟩ := hr₂
    repeat (any_goals (first | assumption | wp_step))
    exact h _ _ hS' hk'
/-- set(xs), xs of nested keys -/
theorem call_setN {l : Addr} {items : Array Value} (ks : List (Addr × NestedKey)) {Q : Value → Shared → Prop} (hh : A.handled = none) (hl : SrcAt s.heap l items) (hit : items.toList = ks.map fun p => Value.ref p.1) (hk : ∀ p ∈ ks, IsN P w s.heap p.2 p.1) (hfew : ks.length < 307) (hu : A.units + 16 < cLine)
    (h : ∀ (h' : Heap) (tk : Nat) L es ep t, SetN P w h' s.heap.objs.size L es ep t → GotN ks ks.length L → (∀ b o, s.heap.get? b = some o → h'.get? b = some o) → Q (.ref s.heap.objs.size) { s with heap := h', toks := tk }) :
    wpAny (model P w) A (call (.type "set") [.ref l]) Q E s := by
  have hisz : items.size = ks.length := by
    have q := congrArg List.length hit
    rwa [Array.length_toList, List.length_map] at q
  refine call_setG (fun i h' => ∃ L es ep t, SetN P w h' s.heap.objs.size L es ep t ∧ GotN ks i L) hh hl (fun h' hn hkp => ⟨[], #[], 0, _, setN_new hn, ⟨fun p h => (by cases h), fun p h => (by simp at h), Nat.le_refl _⟩⟩) ?_ ?_ ?_
  · rintro i h1 h2 ⟨L, es, ep, t, hS, g⟩ hkp hs
    exact ⟨L, es, ep, t, hS.keep hs fun p hp => isN_keep (hk p (List.mem_of_mem_take (g.sub p hp))) hkp, g⟩
  · rintro A' i v s1 Q1 E1 hA hv ⟨L, es, ep, t, hS, g⟩ hkp hQ
    rw [← Array.getElem?_toList, hit, List.getElem?_map] at hv
    obtain ⟨p, hp, rfl⟩ := Option.map_eq_some_iff.mp hv
    have hi : i < ks.length := (List.getElem?_eq_some_iff.mp hp).1
    have hx : IsN P w s1.heap p.2 p.1 := isN_keep (hk p (List.mem_of_getElem? hp)) hkp
    unfold setAdd
    refine wpAny_holding (wpAny_bind ((nestedKind P w).pyHash (show A'.units + 8 < cLine by omega) hx ?_))
    refine SetN.add (s := { s1 with toks := s1.toks + p.2.draws }) hS hx (by omega) (by have := g.len; omega) fun b h' L' es' ep' t' hsb hS2 c1 c2 => ?_
    refine hQ b h' _ (Nat.le_add_right _ _) hsb ⟨L', es', ep', t', hS2, ?_⟩
    by_cases c : p.2 ∈ L.map (·.2)
    · rw [c1 c]; exact g.same hp c
    · exact g.more hp (c2 c)
  · rintro h' tk ⟨L, es, ep, t, hS, g⟩ hkp
    rw [hisz] at g
    exact h h' tk L es ep t hS g hkp
end
end DL
/-! DL, part v: sorted(set(xs)), len(set(xs)) of tuples. -/
namespace DL
open PySem PySem.Spec L2

/-! ### without repetition, in the order of the first ones -/
def ddup : List D → List D
  | [] => []
  | d :: ds => d :: (ddup ds).filter fun x => !decide (x = d)
theorem mem_ddup {x : D} : ∀ {ds : List D}, x ∈ ddup ds ↔ x ∈ ds
  | [] => Iff.rfl
  | d :: ds => by
    rw [ddup, List.mem_cons, List.mem_cons, List.mem_filter, mem_ddup]
    by_cases q : x = d
    · simp [q]
    · simp [q]
theorem nodup_ddup : ∀ ds : List D, (ddup ds).Nodup
  | [] => List.nodup_nil
  | d :: ds => by
    rw [ddup, List.nodup_cons]
    exact ⟨fun h => by simpa using (List.mem_filter.mp h).2, (nodup_ddup ds).filter _⟩
theorem ddup_len : ∀ ds : List D, (ddup ds).length ≤ ds.length
  | [] => Nat.le_refl _
  | d :: ds => by
    rw [ddup, List.length_cons, List.length_cons]
    have h1 := ddup_len ds
    have h2 := List.length_filter_le (fun x => !decide (x = d)) (ddup ds)
    omega
/-! ### sorting does not mind in what order the items stood -/
mutual
theorem toks_inj : ∀ (x y : PyData) (l m : List (Int ⊕ List Nat)), PySem.W.alike x y = true → PySem.W.keyToks x ++ l = PySem.W.keyToks y ++ m → x = y ∧ l = m
  | .none, y, l, m, h, e => by
    cases y <;> first | (simp [PySem.W.alike] at h; done) | exact ⟨rfl, by simpa [PySem.W.keyToks] using e⟩
  | .bool b, y, l, m, h, e => by
    cases y with
    | bool c =>
      simp only [PySem.W.keyToks, List.cons_append, List.nil_append, List.cons.injEq, Sum.inl.injEq] at e
      refine ⟨?_, e.2⟩
      cases b <;> cases c <;> simp_all
    | _ => simp [PySem.W.alike] at h
  | .int i, y, l, m, h, e => by
    cases y with
    | int c =>
      simp only [PySem.W.keyToks, List.cons_append, List.nil_append, List.cons.injEq, Sum.inl.injEq] at e
      exact ⟨by rw [e.1], e.2⟩
    | _ => simp [PySem.W.alike] at h
  | .str i, y, l, m, h, e => by
    cases y with
    | str c =>
      simp only [PySem.W.keyToks, List.cons_append, List.nil_append, List.cons.injEq, Sum.inr.injEq] at e
      exact ⟨by rw [PySem.W.str_of_cps e.1], e.2⟩
    | _ => simp [PySem.W.alike] at h
  | .list xs, y, l, m, h, e => by
    cases y with
    | list ys =>
      rw [PySem.W.alike] at h
      rw [PySem.W.keyToks, PySem.W.keyToks] at e
      obtain ⟨e1, e2⟩ := toksAll_inj xs ys l m h e
      exact ⟨by rw [e1], e2⟩
    | _ => simp [PySem.W.alike] at h
  | .tuple xs, y, l, m, h, e => by
    cases y with
    | tuple ys =>
      rw [PySem.W.alike] at h
      rw [PySem.W.keyToks, PySem.W.keyToks] at e
      obtain ⟨e1, e2⟩ := toksAll_inj xs ys l m h e
      exact ⟨by rw [e1], e2⟩
    | _ => simp [PySem.W.alike] at h
  | .dict _, y, l, m, h, e => by cases y <;> simp [PySem.W.alike] at h
theorem toksAll_inj : ∀ (xs ys : List PyData) (l m : List (Int ⊕ List Nat)), PySem.W.alikeAll xs ys = true → PySem.W.keyToksAll xs ++ l = PySem.W.keyToksAll ys ++ m → xs = ys ∧ l = m
  | [], [], l, m, _, e => by
    rw [PySem.W.keyToksAll] at e
    exact ⟨rfl, by simpa using e⟩
  | [], y :: ys, l, m, _, e => by
    rw [PySem.W.keyToksAll, PySem.W.keyToksAll] at e
    simp at e
  | x :: xs, [], l, m, _, e => by
    rw [PySem.W.keyToksAll, PySem.W.keyToksAll] at e
    simp at e
  | x :: xs, y :: ys, l, m, h, e => by
    obtain ⟨h1, h2⟩ := PySem.W.alike_all_cons h
    rw [PySem.W.keyToksAll, PySem.W.keyToksAll, List.cons_append, List.cons_append, List.append_assoc, List.append_assoc] at e
    injection e with _ e
    obtain ⟨e1, e2⟩ := toks_inj x y _ _ h1 e
    obtain ⟨e3, e4⟩ := toksAll_inj xs ys l m h2 e2
    exact ⟨by rw [e1, e3], e4⟩
end
theorem enc_inj {d e : D} {n m : Nat} (hd : d.gd n = true) (he : e.gd m = true) (q : d.enc = e.enc) (al : PySem.W.alike d.enc e.enc = true) : d = e := by
  have h := gd_eqv d e n m d.enc e.enc hd he (enc_of hd).1 (enc_of he).1
  rw [← q] at h al
  rw [PySem.W.eqv_refl_alike _ al] at h
  exact D.eq_of_beq d e h.symm
theorem dle_anti {d e : D} {n m : Nat} (hd : d.gd n = true) (he : e.gd m = true) (al : PySem.W.alike d.enc e.enc = true) (h1 : dle d e = true) (h2 : dle e d = true) : d = e := by
  have e1 : (PyProof.Rows.listOrd PyProof.Rows.itemOrd).blt (PySem.W.keyToks e.enc) (PySem.W.keyToks d.enc) = false := by simpa [dle, PySem.W.dataLe, PySem.W.sortLe] using h1
  have e2 : (PyProof.Rows.listOrd PyProof.Rows.itemOrd).blt (PySem.W.keyToks d.enc) (PySem.W.keyToks e.enc) = false := by simpa [dle, PySem.W.dataLe, PySem.W.sortLe] using h2
  have e3 : PySem.W.keyToks d.enc = PySem.W.keyToks e.enc := (PyProof.Rows.listOrd PyProof.Rows.itemOrd).total _ _ e2 e1
  exact enc_inj hd he (toks_inj d.enc e.enc [] [] al (by rw [List.append_nil, List.append_nil]; exact e3)).1 al
theorem dle_total : PySem.W.TotalLe dle := PySem.W.sortLe_total (PyProof.Rows.listOrd PyProof.Rows.itemOrd) false fun b => PySem.W.keyToks (D.enc b)
theorem eq_of_all {α : Type} {l m : List α} (p : l.Perm m) (h : ∀ a ∈ l, ∀ b ∈ l, a = b) : l = m := by
  cases l with
  | nil => exact (List.nil_perm.mp p).symm
  | cons a l =>
    have hl : ∀ b ∈ a :: l, b = a := fun b hb => h b hb a List.mem_cons_self
    have hm : ∀ b ∈ m, b = a := fun b hb => hl b (p.mem_iff.mpr hb)
    rw [List.eq_replicate_of_mem hl, List.eq_replicate_of_mem hm, p.length_eq]
theorem srt_perm {ds es : List D} (p : ds.Perm es) (gd : D.gds ds 60 = true) (al : ∀ d ∈ ds, ∀ e ∈ ds, PySem.W.alike d.enc e.enc = true) : srt ds = srt es := by
  have hg := gds_mem gd
  refine PySem.W.sort_unique dle_total (PySem.W.sort_pairwise dle_total ds) fun c => ?_
  refine eq_of_all ((((List.mergeSort_perm ds dle).trans p).filter _)) fun a ha b hb => ?_
  obtain ⟨a1, a2⟩ := List.mem_filter.mp ha
  obtain ⟨b1, b2⟩ := List.mem_filter.mp hb
  have a3 : a ∈ ds := (List.mergeSort_perm ds dle).mem_iff.mp a1
  have b3 : b ∈ ds := (List.mergeSort_perm ds dle).mem_iff.mp b1
  unfold PySem.W.sameRank at a2 b2
  rw [Bool.and_eq_true] at a2 b2
  exact dle_anti (hg a a3) (hg b b3) (al a a3 b b3) (dle_total.trans a c b a2.2 b2.1) (dle_total.trans b c a b2.2 a2.1)

/-! ### the lists that what is read goes by are there -/
mutual
theorem reads_old {h : Heap} : ∀ {v : Value} {d : PyData} {as : List Addr}, Reads h v d as → ∀ b ∈ as, ∃ o, h.get? b = some o
  | _, _, _, .none, _, z => nomatch z
  | _, _, _, .bool _, _, z => nomatch z
  | _, _, _, .int _ _, _, z => nomatch z
  | _, _, _, .str _ _, _, z => nomatch z
  | _, _, _, .list h1 _ _ h4, b, z => by
    rcases List.mem_cons.mp z with rfl | z
    · exact ⟨_, h1⟩
    · exact readsAll_old h4 b z
  | _, _, _, .tuple _ _ _ h4, b, z => readsAll_old h4 b z
  | _, _, _, .dict h1 _ _ h4 h5, b, z => by
    rcases List.mem_append.mp z with z | z
    · rcases List.mem_cons.mp z with rfl | z
      · exact ⟨_, h1⟩
      · exact readsAll_old h4 b z
    · exact readsAll_old h5 b z
theorem readsAll_old {h : Heap} : ∀ {vs : List Value} {ds : List PyData} {as : List Addr}, ReadsAll h vs ds as → ∀ b ∈ as, ∃ o, h.get? b = some o
  | _, _, _, .nil, _, z => nomatch z
  | _, _, _, .cons h1 h2, b, z => (List.mem_append.mp z).elim (reads_old h1 b) (readsAll_old h2 b)
end

/-! ### the members of a set -/
theorem perm_map {α β : Type} {f : α → β} {vs ws : List β} (p : vs.Perm ws) : ∀ {L : List α}, ws = L.map f → ∃ L1 : List α, L1.Perm L ∧ vs = L1.map f := by
  induction p with
  | nil => intro L h; cases L with
    | nil => exact ⟨[], .refl _, rfl⟩
    | cons _ _ => cases h
  | @cons x l1 l2 _ ih =>
    intro L h
    cases L with
    | nil => cases h
    | cons a L =>
      rw [List.map_cons] at h
      injection h with h1 h2
      obtain ⟨L1, q1, q2⟩ := ih h2
      exact ⟨a :: L1, q1.cons a, by rw [List.map_cons, h1, q2]⟩
  | @swap x y l =>
    intro L h
    rcases L with _ | ⟨a, _ | ⟨b, L⟩⟩
    · cases h
    · cases h
    · simp only [List.map_cons] at h
      injection h with h1 h2
      injection h2 with h2 h3
      exact ⟨b :: a :: L, .swap a b L, by simp only [List.map_cons]; rw [h1, h2, h3]⟩
  | trans _ _ ih1 ih2 =>
    intro L h
    obtain ⟨L2, q1, q2⟩ := ih2 h
    obtain ⟨L1, q3, q4⟩ := ih1 q2
    exact ⟨L1, q3.trans q1, q4⟩
section
variable {g : Gx} {H : Hp}
/-- the keys of tuples, with where they stand -/
theorem keys_at : ∀ {ds : List D} {xs : List V} {us : List Value}, ds.all D.tk = true → Reps g H ds xs → Vals xs us → ∃ ks : List (Addr × NestedKey), us = ks.map (fun p => Value.ref p.1) ∧ ks.length = ds.length ∧
    ∀ (i : Nat) (p : Addr × NestedKey), ks[i]? = some p → ∃ d, ds[i]? = some d ∧ p.2 = d.nk ∧ Rep g H d (.ref p.1)
  | [], _, _, _, r, h => by
    rw [show _ = _ from r] at h
    cases h
    exact ⟨[], rfl, rfl, fun i p z => by simp at z⟩
  | d :: ds, _, _, hf, ⟨x, xs, e, r, rs⟩, h => by
    rw [e] at h
    rw [List.all_cons, Bool.and_eq_true] at hf
    cases h with
    | cons h1 h2 =>
      obtain ⟨b, rfl⟩ := rep_tk hf.1 r
      cases h1
      obtain ⟨ks, q1, q2, q3⟩ := keys_at hf.2 rs h2
      refine ⟨(b, d.nk) :: ks, by rw [q1]; rfl, by simp [q2], fun i p z => ?_⟩
      cases i with
      | zero => simp at z; subst z; exact ⟨d, rfl, rfl, r⟩
      | succ i => exact q3 i p (by simpa using z)
theorem each_pick {ks L : List (Addr × NestedKey)} {ds : List D} (hk : ∀ p ∈ ks, ∃ d ∈ ds, p.2 = d.nk ∧ Rep g H d (.ref p.1)) (hs : ∀ p ∈ L, p ∈ ks) : ∃ es : List D, PySem.W.EachIs (fun v d => ∃ x, RelV x v ∧ Rep g H d x) (L.map fun p => Value.ref p.1) es ∧ es.map D.nk = L.map (·.2) ∧ ∀ e ∈ es, e ∈ ds := by
  induction L with
  | nil => exact ⟨[], .nil, rfl, fun _ z => nomatch z⟩
  | cons p L ih =>
    obtain ⟨es, h1, h2, h3⟩ := ih fun q z => hs q (List.mem_cons_of_mem _ z)
    obtain ⟨d, hd, hk1, hk2⟩ := hk p (hs p List.mem_cons_self)
    refine ⟨d :: es, .cons ⟨.ref p.1, rfl, hk2⟩ h1, by rw [List.map_cons, List.map_cons, h2, hk1], fun e z => ?_⟩
    rcases List.mem_cons.mp z with rfl | z
    · exact hd
    · exact h3 e z
/-- what the set holds, as data -/
theorem members {ks L : List (Addr × NestedKey)} {ds : List D} (hf : ds.all D.tk = true) (hk : ∀ p ∈ ks, ∃ d ∈ ds, p.2 = d.nk ∧ Rep g H d (.ref p.1)) (hd : ∀ d ∈ ds, ∃ p ∈ ks, p.2 = d.nk) (gt : GotN ks ks.length L) (nd : (L.map (·.2)).Nodup) {vs : List Value} (pv : vs.Perm (L.map fun p => Value.ref p.1)) :
    ∃ es : List D, PySem.W.EachIs (fun v d => ∃ x, RelV x v ∧ Rep g H d x) vs es ∧ es.Perm (ddup ds) := by
  have hg : ∀ d ∈ ds, d.kg 8 = true := fun d z => tk_kg (List.all_eq_true.mp hf d z)
  obtain ⟨L1, q1, q2⟩ := perm_map pv rfl
  have sub : ∀ p ∈ L, p ∈ ks := fun p z => List.mem_of_mem_take (gt.sub p z)
  obtain ⟨es, h1, h2, h3⟩ := each_pick (g := g) (H := H) hk fun p z => sub p (q1.mem_iff.mp z)
  refine ⟨es, by rw [q2]; exact h1, ?_⟩
  have ne : (es.map D.nk).Nodup := by rw [h2]; exact (q1.map (·.2)).nodup_iff.mpr nd
  have nes : es.Nodup := List.Pairwise.of_map D.nk (fun _ _ hne e => hne (congrArg D.nk e)) ne
  refine (List.perm_ext_iff_of_nodup nes (nodup_ddup ds)).mpr fun d => ?_
  rw [mem_ddup]
  refine ⟨h3 d, fun z => ?_⟩
  obtain ⟨p, hp, e⟩ := hd d z
  have hp' : p ∈ ks.take ks.length := by rw [List.take_length]; exact hp
  have m1 := gt.all p hp'
  have m2 : p.2 ∈ es.map D.nk := by rw [h2]; exact (q1.map (·.2)).mem_iff.mpr m1
  obtain ⟨d', hd', e'⟩ := List.mem_map.mp m2
  have : d' = d := nk_inj (hg d' (h3 d' hd')) (hg d z) (e'.trans e)
  rw [← this]
  exact hd'
end
end DL
/-! DL, part w: sets of flat keys (texts, numbers). -/
namespace DL
open PySem PySem.Spec L2
section
variable {P : Program} {w : World} {A : Around} {E : Value → Shared → Prop} {s : Shared} {K : Type} [DecidableEq K] {knd : KeyKind P w K}
/-- the set at a holds the values L -/
structure SetF (knd : KeyKind P w K) (h : Heap) (a : Addr) (L : List Value) (es : Array (Int × Value)) (ep : Nat) (t : SetTable) : Prop where
  ob : ∃ o, h.get? a = some o ∧ o.ExactSet ∧ o.data = .set es ep t
  el : ElemsOf knd es.toList
  pm : (es.toList.map (·.2)).Perm L
  small : es.size < scanBound
  fits : t.fits es.size = true
  ris : Ris t.place.toList
  led : w.params.followText "set-order" = true ∨ t.led = true
abbrev SetFO (knd : KeyKind P w K) (h : Heap) (a : Addr) (L : List Value) : Prop := ∃ es ep t, SetF knd h a L es ep t
variable {a : Addr} {L : List Value} {es : Array (Int × Value)} {ep : Nat} {t : SetTable}
theorem SetF.len (R : SetF knd s.heap a L es ep t) : es.size = L.length := by rw [← Array.length_toList, ← R.pm.length_eq, List.length_map]
theorem setF_keep {h h' : Heap} (R : SetF knd h a L es ep t) (ha : ∀ o, h.get? a = some o → h'.get? a = some o) : SetF knd h' a L es ep t := by
  obtain ⟨o, ho, r⟩ := R.ob
  exact ⟨⟨o, ha o ho, r⟩, R.el, R.pm, R.small, R.fits, R.ris, R.led⟩
theorem setF_new {h : Heap} {a : Addr} (ho : h.get? a = some (newSet w)) : SetF knd h a [] #[] 0 (.fresh 0 0 (!w.params.followText "set-order")) where
  ob := ⟨_, ho, ⟨rfl, rfl, rfl⟩, rfl⟩
  el := fun e z => by simp at z
  pm := .refl _
  small := by decide
  fits := rfl
  ris := List.Pairwise.nil
  led := by
    cases hf : w.params.followText "set-order" with
    | true => exact .inl rfl
    | false => exact .inr rfl
/-- the values of this key -/
def HasK (knd : KeyKind P w K) (k : K) (L : List Value) : Prop := ∃ v ∈ L, knd.is k v = true
theorem setF_tail {g : Bool → Sem Unit} (hg : ∀ (b : Bool) (s₁ : Shared) (Q' : Unit → Shared → Prop), Q' () s₁ → wpAny (model P w) A (g b) Q' E s₁) {o : Obj} (ho : s.heap.get? a = some o) (hex : o.ExactSet) (hd : o.data = .set es ep t)
    {es1 : Array (Int × Value)} {t2 : SetTable} (el1 : ElemsOf knd es1.toList) (pm1 : (es1.toList.map (·.2)).Perm L) (hb1 : es1.size < scanBound) (hf2 : t2.fits es1.size = true) (hr : Ris t2.place.toList) (hl : w.params.followText "set-order" = true ∨ t2.led = true) {wasDummy : Bool} {R : Option Bool → Shared → Prop}
    (hR : ∀ h', Heap.SameBut a s.heap h' → SetFO knd h' a L → R (some true) { s with heap := h' }) :
    wpAny (model P w) A (do
        storeSet a es1 t2
        if (!wasDummy && t2.tooFull) = true then do
            g (relayAll t2 es1 (SetTable.grown es1.size)).2.2
            storeSet a (relayAll t2 es1 (SetTable.grown es1.size)).1 (relayAll t2 es1 (SetTable.grown es1.size)).2.1
            pure (some true)
          else pure (some true)) R E s := by
  refine wpAny_bind (wpAny_storeSet_of ho hd ?_ (fits_of_scanBound hb1))
  have ho1 := store_at (es' := es1) (t' := t2) ho hd
  have sb1 := Heap.SameBut.update s.heap a (Obj.putSet es1 t2)
  split
  · have pm := relayAll_perm t2 es1 (SetTable.grown es1.size)
    have hf3 := relayAll_fits t2 es1 (SetTable.grown es1.size)
    have hr3 := relayAll_ris t2 es1 (SetTable.grown es1.size)
    have hl3 := relayAll_led t2 es1 (SetTable.grown es1.size)
    generalize relayAll t2 es1 (SetTable.grown es1.size) = Z at pm hf3 hr3 hl3 ⊢
    obtain ⟨es2, t3, gave⟩ := Z
    dsimp only at pm hf3 hr3 hl3 ⊢
    have hsz : es2.size = es1.size := by rw [← Array.length_toList, pm.length_eq, Array.length_toList]
    have hb2 : es2.size < scanBound := hsz ▸ hb1
    refine wpAny_bind (hg _ _ _ (wpAny_bind (wpAny_storeSet_of ho1 rfl ?_ (fits_of_scanBound hb2))))
    refine wpAny_pure (hR _ (sb1.trans (Heap.SameBut.update _ a _)) ⟨es2, _, t3, ⟨_, store_at ho1 rfl, hex, rfl⟩, fun e he => el1 e (pm.mem_iff.mp he), (pm.map (·.2)).trans pm1, hb2, hf3, hr3, hl.imp id fun z => hl3.trans z⟩)
  · exact wpAny_pure (hR _ sb1 ⟨es1, _, t2, ⟨_, ho1, hex, rfl⟩, el1, pm1, hb1, hf2, hr, hl⟩)
theorem SetF.add {k : K} {v : Value} {Q : Bool → Shared → Prop} (R : SetF knd s.heap a L es ep t) (hkey : knd.is k v = true) (hsc : v.scannable = true) (room : L.length + 1 < scanBound)
    (hQ : ∀ b h' L', Heap.SameBut a s.heap h' → SetFO knd h' a L' → (HasK knd k L → L' = L) → (¬ HasK knd k L → L' = v :: L) → Q b { s with heap := h' }) :
    wpAny (model P w) A (setAddHashed a v (knd.hash k)) Q E s := by
  have hlen := R.len
  obtain ⟨⟨o, ho, hex, hd⟩, hel, hpm, hb, hf, hr, hl⟩ := id R
  have mem : HasK knd k L ↔ ∃ e ∈ es.toList, knd.is k e.2 = true := by
    constructor
    · rintro ⟨u, hu, q⟩
      obtain ⟨e, he, rfl⟩ := List.mem_map.mp (hpm.mem_iff.mpr hu)
      exact ⟨e, he, q⟩
    · rintro ⟨e, he, q⟩
      exact ⟨e.2, hpm.mem_iff.mp (List.mem_map.mpr ⟨e, he, rfl⟩), q⟩
  unfold setAddHashed setAddHashedIn
  refine wpAny_holding (wpAny_bind (wpAny_setState_of ho hd hf ?_))
  dsimp only
  rw [byScan_of hsc hb hel]
  simp only [↓reduceIte]
  unfold setAddByScan
  refine wpAny_bind (wpAny_bind (wpAny_rule (wpAny_bind (wpAny_setScan_of hkey ho hd hf hel ?_))))
  cases hfi : List.findIdx? (fun e => knd.is k e.2) es.toList with
  | some j =>
    dsimp only
    obtain ⟨hj, pj, _⟩ := List.findIdx?_eq_some_iff_getElem.mp hfi
    exact wpAny_pure (wpAny_pure (hQ _ s.heap L (Heap.SameBut.refl a s.heap) ⟨es, ep, t, R⟩ (fun _ => rfl) fun z => absurd (mem.2 ⟨es.toList[j], List.getElem_mem hj, pj⟩) z))
  | none =>
    dsimp only
    have hnk : ¬ HasK knd k L := fun z => by
      obtain ⟨e, he, q⟩ := mem.1 z
      have c := List.findIdx?_eq_none_iff.mp hfi e he
      rw [q] at c
      cases c
    have hgw : ∀ (b : Bool) {s₁ : Shared} {Q' : Unit → Shared → Prop}, Q' () s₁ → wpAny (model P w) A (match b with | true => rule "set.scan.the-table-gave-way" | false => pure ()) Q' E s₁ :=
      fun b s₁ Q' q => by cases b <;> first | exact wpAny_pure q | exact wpAny_rule q
    have pm := layNew_perm t es (knd.hash k) v
    have hf1 := layNew_fits t es (knd.hash k) v
    have hr1 := layNew_ris t es (knd.hash k) v hr
    have hl1 := layNew_led t es (knd.hash k) v
    generalize layNew t es (knd.hash k) v = Z at pm hf1 hr1 hl1 ⊢
    obtain ⟨es1, t1, wasDummy, gave⟩ := Z
    dsimp only at pm hf1 hr1 hl1 ⊢
    rw [Array.toList_push] at pm
    have pc : es1.toList.Perm ((knd.hash k, v) :: es.toList) := pm.trans (List.perm_append_singleton _ _)
    have el1 : ElemsOf knd es1.toList := fun e he => by
      rcases List.mem_cons.mp (pc.mem_iff.mp he) with z | z
      · rw [z]; exact ⟨⟨k, hkey, rfl⟩, hsc⟩
      · exact hel e z
    have pm1 : (es1.toList.map (·.2)).Perm (v :: L) := by
      have q := pc.map (fun e : Int × Value => e.2)
      rw [List.map_cons] at q
      exact q.trans (hpm.cons v)
    have hsz : es1.size = L.length + 1 := by rw [← Array.length_toList, pc.length_eq, List.length_cons, Array.length_toList, hlen]
    have hb1 : es1.size < scanBound := hsz ▸ room
    have hled : w.params.followText "set-order" = true ∨ t1.led = true := hl.imp id fun z => hl1.trans z
    refine wpAny_bind (hgw _ ?_)
    split
    · refine wpAny_bind ?_
      rw [hashByValue_scannable 8 hsc]
      refine wpAny_pure (setF_tail ?_ ho hex hd el1 pm1 hb1 ?_ ?_ ?_ ?_)
      · exact fun b s₁ Q' q => by cases b <;> first | exact wpAny_pure q | exact wpAny_rule q
      · first | (split <;> first | exact hf1 | exact SetTable.fits_plain_off hf1) | exact hf1
      · first | (split <;> exact hr1) | exact hr1
      · first | (split <;> exact hled) | exact hled
      · exact fun h' sb r => wpAny_pure (hQ _ h' _ sb r (fun z => absurd z hnk) fun _ => rfl)
    · refine wpAny_bind (wpAny_pure ?_)
      simp only [↓reduceIte]
      refine setF_tail ?_ ho hex hd el1 pm1 hb1 hf1 hr1 hled ?_
      · exact fun b s₁ Q' q => by cases b <;> first | exact wpAny_pure q | exact wpAny_rule q
      · exact fun h' sb r => wpAny_pure (hQ _ h' _ sb r (fun z => absurd z hnk) fun _ => rfl)
/-- what the set has from the first i items -/
structure GotF (ks : List (K × Value)) (i : Nat) (L : List (K × Value)) : Prop where
  sub : ∀ p ∈ L, p ∈ ks.take i
  all : ∀ p ∈ ks.take i, p.1 ∈ L.map (·.1)
  nd : (L.map (·.1)).Nodup
  len : L.length ≤ i
theorem GotF.same {ks L : List (K × Value)} {i : Nat} {x : K × Value} (g : GotF ks i L) (h : ks[i]? = some x) (hm : x.1 ∈ L.map (·.1)) : GotF ks (i + 1) L := by
  refine ⟨fun p hp => ?_, fun p hp => ?_, g.nd, Nat.le_succ_of_le g.len⟩
  · rw [take_succ' h]; exact List.mem_append_left _ (g.sub p hp)
  · rw [take_succ' h, List.mem_append, List.mem_singleton] at hp
    exact hp.elim (g.all p) fun z => by rw [z]; exact hm
theorem GotF.more {ks L : List (K × Value)} {i : Nat} {x : K × Value} (g : GotF ks i L) (h : ks[i]? = some x) (hm : x.1 ∉ L.map (·.1)) : GotF ks (i + 1) (x :: L) := by
  refine ⟨fun p hp => ?_, fun p hp => ?_, List.nodup_cons.mpr ⟨hm, g.nd⟩, Nat.succ_le_succ g.len⟩
  · rw [take_succ' h, List.mem_append, List.mem_singleton]
    exact (List.mem_cons.mp hp).elim .inr fun z => .inl (g.sub p z)
  · rw [take_succ' h, List.mem_append, List.mem_singleton] at hp
    rcases hp with z | z
    · exact List.mem_cons_of_mem _ (g.all p z)
    · rw [z]; exact List.mem_cons_self
theorem hasK_iff {L : List (K × Value)} (hk : ∀ p ∈ L, knd.is p.1 p.2 = true) {k : K} : HasK knd k (L.map (·.2)) ↔ k ∈ L.map (·.1) := by
  constructor
  · rintro ⟨v, hv, q⟩
    obtain ⟨p, hp, rfl⟩ := List.mem_map.mp hv
    exact List.mem_map.mpr ⟨p, hp, knd.inj p.2 p.1 k (hk p hp) q⟩
  · intro z
    obtain ⟨p, hp, rfl⟩ := List.mem_map.mp z
    exact ⟨p.2, List.mem_map.mpr ⟨p, hp, rfl⟩, hk p hp⟩
/-- set(xs), xs of flat keys -/
theorem call_setF {l : Addr} {items : Array Value} (ks : List (K × Value)) {Q : Value → Shared → Prop} (hh : A.handled = none) (hl : SrcAt s.heap l items) (hit : items.toList = ks.map (·.2)) (hk : ∀ p ∈ ks, knd.is p.1 p.2 = true ∧ p.2.scannable = true) (hfew : ks.length + 1 < scanBound)
    (h : ∀ (h' : Heap) (tk : Nat) L, SetFO knd h' s.heap.objs.size (L.map (·.2)) → GotF ks ks.length L → (∀ b o, s.heap.get? b = some o → h'.get? b = some o) → Q (.ref s.heap.objs.size) { s with heap := h', toks := tk }) :
    wpAny (model P w) A (call (.type "set") [.ref l]) Q E s := by
  have hisz : items.size = ks.length := by
    have q := congrArg List.length hit
    rwa [Array.length_toList, List.length_map] at q
  refine call_setG (fun i h' => ∃ L, SetFO knd h' s.heap.objs.size (L.map (·.2)) ∧ GotF ks i L) hh hl (fun h' hn hkp => ⟨[], ⟨_, _, _, setF_new hn⟩, ⟨fun p h => (by cases h), fun p h => (by simp at h), List.nodup_nil, Nat.le_refl _⟩⟩) ?_ ?_ ?_
  · rintro i h1 h2 ⟨L, ⟨es, ep, t, hS⟩, g⟩ hkp hs
    exact ⟨L, ⟨es, ep, t, setF_keep hS hs⟩, g⟩
  · rintro A' i v s1 Q1 E1 hA hv ⟨L, ⟨es, ep, t, hS⟩, g⟩ hkp hQ
    rw [← Array.getElem?_toList, hit, List.getElem?_map] at hv
    obtain ⟨p, hp, rfl⟩ := Option.map_eq_some_iff.mp hv
    have hi : i < ks.length := (List.getElem?_eq_some_iff.mp hp).1
    obtain ⟨h1, h2⟩ := hk p (List.mem_of_getElem? hp)
    unfold setAdd
    refine wpAny_holding (wpAny_bind (knd.pyHash h1 ?_))
    have hL : ∀ q ∈ L, knd.is q.1 q.2 = true := fun q z => (hk q (List.mem_of_mem_take (g.sub q z))).1
    refine SetF.add (s := { s1 with toks := s1.toks + 1 }) hS h1 h2 (by have := g.len; rw [List.length_map]; omega) fun b h' L' hsb hS2 c1 c2 => ?_
    refine hQ b h' _ (Nat.le_add_right _ _) hsb ?_
    by_cases c : p.1 ∈ L.map (·.1)
    · rw [c1 ((hasK_iff hL).2 c)] at hS2
      exact ⟨L, hS2, g.same hp c⟩
    · rw [c2 fun z => c ((hasK_iff hL).1 z)] at hS2
      exact ⟨p :: L, hS2, g.more hp c⟩
  · rintro h' tk ⟨L, hS, g⟩ hkp
    rw [hisz] at g
    exact h h' tk L hS g hkp
end
end DL
/-! DL, part x: sorted(set(xs)), len(set(xs)). -/
namespace DL
open PySem PySem.Spec L2
/-- a set with these values -/
structure SetW (w : World) (h : Heap) (a : Addr) (L : List Value) (es : Array (Int × Value)) (ep : Nat) (t : SetTable) : Prop where
  ob : ∃ o, h.get? a = some o ∧ o.ExactSet ∧ o.data = .set es ep t
  pm : (es.toList.map (·.2)).Perm L
  small : es.size < scanBound
  fits : t.fits es.size = true
  ris : Ris t.place.toList
  led : w.params.followText "set-order" = true ∨ t.led = true
def SetWO (w : World) (a : Addr) (L : List Value) : HO := .ext fun h => ∃ es ep t, SetW w h a L es ep t
theorem setWO_new {P : Program} {w : World} {H : Hp} {h : Heap} {a : Addr} {L : List Value} (R : ∃ es ep t, SetW w h a L es ep t) : ObjOk P w H h a (SetWO w a L) := by
  refine ⟨R, ?_, fun h1 h2 p k => ?_⟩
  · obtain ⟨es, ep, t, R⟩ := R
    obtain ⟨o, ho, _⟩ := R.ob
    exact ⟨o, ho⟩
  · obtain ⟨es, ep, t, R⟩ := p
    obtain ⟨o, ho, r⟩ := R.ob
    exact ⟨es, ep, t, ⟨o, k o ho, r⟩, R.pm, R.small, R.fits, R.ris, R.led⟩
theorem setWO_get {X : Cx} {pins : List (Addr × Obj)} {σ : L2.St} {H : Hp} {s : Shared} {a : Addr} {L : List Value} (I : Inv X pins σ H s) (h : H a = some (SetWO X.w a L)) : ∃ es ep t, SetW X.w s.heap a L es ep t := (I.hok a _ h).1
/-- the set of the data ds -/
def SetD (g : Gx) (H : Hp) (a : Addr) (ds : List D) : Prop := ∃ L, H a = some (SetWO g.w a L) ∧ ∃ es, PySem.W.EachIs (fun v d => ∃ x, RelV x v ∧ Rep g H d x) L es ∧ es.Perm (ddup ds)
/-- of these a set can be made -/
def SetIn (ds : List D) : Prop := (ds.all D.tk = true ∧ ds.length < 307) ∨ (ds.all D.fk = true ∧ ds.length + 1 < scanBound)
def rSetD (g : Gx) : List V → Hp → VK → Prop := fun xs H Q => ∃ l ys ds, xs = [V.ref l] ∧ (SqL g.K H l ys ∨ SqT g.K H l ys) ∧ Reps g H ds ys ∧ SetIn ds ∧ ∀ a L, H a = none → SetD g (upd H a (SetWO g.w a L)) a ds → Q (.ref a) (upd H a (SetWO g.w a L))
section
variable {g : Gx} {H : Hp}
/-- the flat keys, with their values -/
theorem keysF_at : ∀ {ds : List D} {xs : List V} {us : List Value}, ds.all D.fk = true → Reps g H ds xs → Vals xs us → ∃ ks : List (Key × Value), us = ks.map (·.2) ∧ ks.length = ds.length ∧ (∀ d ∈ ds, ∃ p ∈ ks, p.1 = d.mk) ∧
    ∀ p ∈ ks, (keyIs p.1 p.2 = true ∧ p.2.scannable = true) ∧ ∃ d ∈ ds, p.1 = d.mk ∧ ∃ x, RelV x p.2 ∧ Rep g H d x
  | [], _, _, _, r, h => by
    rw [show _ = _ from r] at h
    cases h
    exact ⟨[], rfl, rfl, fun d z => (nomatch z), fun p z => (nomatch z)⟩
  | d :: ds, _, _, hf, ⟨x, xs, e, r, rs⟩, h => by
    rw [e] at h
    rw [List.all_cons, Bool.and_eq_true] at hf
    cases h with
    | @cons _ u _ us h1 h2 =>
      obtain ⟨ks, q1, q2, q4, q3⟩ := keysF_at hf.2 rs h2
      have hk := mk_is hf.1 r h1
      have hsc : u.scannable = true := by
        rcases keyIs_shape hk with ⟨i, t, _, rfl⟩ | ⟨y, t, _, rfl⟩ <;> rfl
      refine ⟨(d.mk, u) :: ks, by rw [q1]; rfl, by simp [q2], fun d' z => ?_, fun p z => ?_⟩
      · rcases List.mem_cons.mp z with rfl | z
        · exact ⟨_, List.mem_cons_self, rfl⟩
        · obtain ⟨p, hp, e⟩ := q4 d' z
          exact ⟨p, List.mem_cons_of_mem _ hp, e⟩
      · rcases List.mem_cons.mp z with rfl | z
        · exact ⟨⟨hk, hsc⟩, d, List.mem_cons_self, rfl, x, h1, r⟩
        · obtain ⟨a1, d', b1, b2⟩ := q3 p z
          exact ⟨a1, d', List.mem_cons_of_mem _ b1, b2⟩
theorem membersF {ks L : List (Key × Value)} {ds : List D} (hf : ds.all D.fk = true) (hk : ∀ p ∈ ks, ∃ d ∈ ds, p.1 = d.mk ∧ ∃ x, RelV x p.2 ∧ Rep g H d x) (hd : ∀ d ∈ ds, ∃ p ∈ ks, p.1 = d.mk) (gt : GotF ks ks.length L) :
    ∃ es : List D, PySem.W.EachIs (fun v d => ∃ x, RelV x v ∧ Rep g H d x) (L.map (·.2)) es ∧ es.Perm (ddup ds) := by
  have hg : ∀ d ∈ ds, d.fk = true := fun d z => List.all_eq_true.mp hf d z
  have pick : ∀ L : List (Key × Value), (∀ p ∈ L, p ∈ ks) → ∃ es : List D, PySem.W.EachIs (fun v d => ∃ x, RelV x v ∧ Rep g H d x) (L.map (·.2)) es ∧ es.map D.mk = L.map (·.1) ∧ ∀ e ∈ es, e ∈ ds := by
    intro L
    induction L with
    | nil => exact fun _ => ⟨[], .nil, rfl, fun _ z => nomatch z⟩
    | cons p L ih =>
      intro hs
      obtain ⟨es, h1, h2, h3⟩ := ih fun q z => hs q (List.mem_cons_of_mem _ z)
      obtain ⟨d, hd, hk1, hk2⟩ := hk p (hs p List.mem_cons_self)
      refine ⟨d :: es, .cons hk2 h1, by rw [List.map_cons, List.map_cons, h2, hk1], fun e z => ?_⟩
      rcases List.mem_cons.mp z with rfl | z
      · exact hd
      · exact h3 e z
  obtain ⟨es, h1, h2, h3⟩ := pick L fun p z => List.mem_of_mem_take (gt.sub p z)
  refine ⟨es, h1, ?_⟩
  have ne : (es.map D.mk).Nodup := by rw [h2]; exact gt.nd
  have nes : es.Nodup := List.Pairwise.of_map D.mk (fun _ _ hne e => hne (congrArg D.mk e)) ne
  refine (List.perm_ext_iff_of_nodup nes (nodup_ddup ds)).mpr fun d => ?_
  rw [mem_ddup]
  refine ⟨h3 d, fun z => ?_⟩
  obtain ⟨p, hp, e⟩ := hd d z
  have m1 := gt.all p (by rw [List.take_length]; exact hp)
  rw [← h2] at m1
  obtain ⟨d', hd', e'⟩ := List.mem_map.mp m1
  have : d' = d := mk_inj (hg d' (h3 d' hd')) (hg d z) (e'.trans e)
  exact this ▸ hd'
/-- in another order -/
theorem each_perm {α β : Type} {R : α → β → Prop} {L vs : List α} {es : List β} (e : PySem.W.EachIs R L es) (p : vs.Perm L) : ∃ es', PySem.W.EachIs R vs es' ∧ es'.Perm es := by
  have z : ∃ ps : List (α × β), L = ps.map (·.1) ∧ es = ps.map (·.2) ∧ ∀ q ∈ ps, R q.1 q.2 := by
    clear p
    induction e with
    | nil => exact ⟨[], rfl, rfl, fun _ z => nomatch z⟩
    | @cons a b as bs h _ ih =>
      obtain ⟨ps, rfl, rfl, h3⟩ := ih
      refine ⟨(a, b) :: ps, rfl, rfl, fun q z => ?_⟩
      rcases List.mem_cons.mp z with rfl | z
      · exact h
      · exact h3 q z
  obtain ⟨ps, e1, rfl, h3⟩ := z
  obtain ⟨ps', q1, rfl⟩ := perm_map p e1
  refine ⟨ps'.map (·.2), ?_, q1.map _⟩
  have h4 : ∀ q ∈ ps', R q.1 q.2 := fun q z => h3 q (q1.mem_iff.mp z)
  clear q1 p
  induction ps' with
  | nil => exact .nil
  | cons q ps' ih => exact .cons (h4 q List.mem_cons_self) (ih fun r z => h4 r (List.mem_cons_of_mem _ z))
end
section
variable {X : Cx}
theorem call_setD (hc : X.calm = true) (hu : X.A.units + 64 < cLine) : CallR X (.type "set") (rSetD (gx X)) := by
  intro pins s σ H xs us Q I r h
  obtain ⟨l, ys, ds, rfl, hq, rs, hin, q⟩ := h
  rw [Vals.ref1 r]
  have hn : H s.heap.objs.size = none := I.hok.fresh (Nat.le_refl _)
  obtain ⟨its, rv, sa⟩ : ∃ its : List Value, Vals ys its ∧ SrcAt s.heap l its.toArray := by
    rcases hq with hq | hq
    · obtain ⟨its, rv, pl, _⟩ := I.list hq
      exact ⟨its, rv, .inl pl.isList⟩
    · obtain ⟨its, rv, pl, _⟩ := I.tuple hq
      exact ⟨its, rv, .inr pl⟩
  have fin : ∀ (h' : Heap) (tk : Nat) (L : List Value), (∃ es ep t, SetW X.w h' s.heap.objs.size L es ep t) → (∀ b o, s.heap.get? b = some o → h'.get? b = some o) → (∃ es, PySem.W.EachIs (fun v d => ∃ x, RelV x v ∧ Rep (gx X) H d x) L es ∧ es.Perm (ddup ds)) →
      EP X pins σ Q (.ref s.heap.objs.size) { s with heap := h', toks := tk } := fun h' tk L R k ⟨es, e, p⟩ =>
    ⟨.ref s.heap.objs.size, upd H s.heap.objs.size (SetWO X.w s.heap.objs.size L), I.laid (t' := tk) k (Nat.le_refl _) (setWO_new R), rfl,
      q _ L hn ⟨L, by simp [upd], es, e.mono fun v d ⟨x, h1, h2⟩ => ⟨x, h1, h2.mono (Grow.new (o := SetWO X.w s.heap.objs.size L) hn fun z => z).stab d x⟩, p⟩⟩
  rcases hin with ⟨hf, h64⟩ | ⟨hf, hsb⟩
  · obtain ⟨ks, q1, q2, q3⟩ := keys_at hf rs rv
    have hk : ∀ p ∈ ks, ∃ d ∈ ds, p.2 = d.nk ∧ Rep (gx X) H d (.ref p.1) := fun p hp => by
      obtain ⟨i, hi⟩ := List.mem_iff_getElem?.mp hp
      obtain ⟨d, h1, h2⟩ := q3 i p hi
      exact ⟨d, List.mem_of_getElem? h1, h2⟩
    have hd : ∀ d ∈ ds, ∃ p ∈ ks, p.2 = d.nk := fun d hd => by
      obtain ⟨i, hi⟩ := List.mem_iff_getElem?.mp hd
      have hlt : i < ks.length := by rw [q2]; exact (List.getElem?_eq_some_iff.mp hi).1
      obtain ⟨d', h1, h2, _⟩ := q3 i ks[i] (List.getElem?_eq_getElem hlt)
      rw [hi] at h1
      cases h1
      exact ⟨ks[i], List.getElem_mem hlt, h2⟩
    refine call_setN (P := X.prog) (w := X.w) ks (I.ok.hd hc) sa (by simpa using q1) (fun p hp => ?_) (by omega) (by omega) fun h' tk L es ep t R g k => ?_
    · obtain ⟨d, h1, h2, h3⟩ := hk p hp
      rw [h2]
      exact nkind_of I (List.all_eq_true.mp hf d h1) h3
    · obtain ⟨es', e, p⟩ := members (g := gx X) (H := H) hf hk hd g R.nd (.refl _)
      refine fin h' tk _ ⟨es, ep, t, R.ob, ?_, ?_, SetN.fits (s := { s with heap := h' }) R, R.tab.ris, R.led⟩ k ⟨es', e, p⟩
      · rw [R.rows, rowsN, List.map_map]
        exact .refl _
      · rw [rows_size R.rows]; have := R.few; unfold scanBound; omega
  · obtain ⟨ks, q1, q2, q4, q3⟩ := keysF_at hf rs rv
    refine call_setF (knd := mixKind X.prog X.w) ks (I.ok.hd hc) sa (by simpa using q1) (fun p hp => (q3 p hp).1) (by omega) fun h' tk L ⟨es, ep, t, R⟩ g k => ?_
    exact fin h' tk _ ⟨es, ep, t, R.ob, R.pm, R.small, R.fits, R.ris, R.led⟩ k (membersF hf (fun p hp => (q3 p hp).2) q4 g)
/-- sorted(set) -/
theorem srtOk_perm {ds es : List D} (p : es.Perm ds) (S : SrtOk ds) : SrtOk es where
  gd := by
    have h := gds_mem S.gd
    have : ∀ l : List D, (∀ d ∈ l, d.gd 60 = true) → D.gds l 60 = true := by
      intro l
      induction l with
      | nil => exact fun _ => rfl
      | cons d l ih =>
        intro hl
        rw [D.gds, Bool.and_eq_true]
        exact ⟨hl d List.mem_cons_self, ih fun e z => hl e (List.mem_cons_of_mem _ z)⟩
    exact this es fun d hd => h d (p.mem_iff.mp hd)
  al := fun d hd e he => S.al d (p.mem_iff.mp hd) e (p.mem_iff.mp he)
  kind := S.kind.imp (fun h d hd => h d (p.mem_iff.mp hd)) (fun h d hd => h d (p.mem_iff.mp hd))
  sz := by rw [p.length_eq]; exact S.sz
def rSortS (g : Gx) : List V → Hp → VK → Prop := fun xs H Q => ∃ a ds, xs = [.ref a] ∧ SetD g H a ds ∧ SrtOk (ddup ds) ∧ ∀ p zs, H p = none → Reps g H (srt (ddup ds)) zs → Q (.ref p) (upd H p (.lst zs))
open PyProof.Rows in
/-- sorted(..), from what the thing gives -/
theorem sorted_core (hu : X.A.units + 64 < cLine) {pins : List (Addr × Obj)} {σ : L2.St} {H : Hp} {s : Shared} {v : Value} {ds : List D} {Q : VK} (I : Inv X pins σ H s) (S0 : SrtOk ds) (q : ∀ p zs, H p = none → Reps (gx X) H (srt ds) zs → Q (.ref p) (upd H p (.lst zs)))
    (col : ∀ Q' : List Value → Shared → Prop, (∀ s1 vs bs, (∀ b o, s.heap.get? b = some o → s1.heap.get? b = some o) → s.heap.objs.size ≤ s1.heap.objs.size → s1.gens = s.gens → s1.os = s.os → PySem.W.EachIs (fun v d => ∃ x, RelV x v ∧ Rep (gx X) H d x) vs bs → bs.Perm ds → Q' vs s1) → wpAny (model X.prog X.w) X.A.in1 (collect v) Q' X.xe s) :
    wpAny (model X.prog X.w) X.A (call (.builtin "sorted") [v]) (EP X pins σ Q) X.xe s := by
  refine PySem.Calls.call_function_entry kind_sorted plain_sorted entry_sorted (args_sorted1 _) ?_
  unfold Builtin.«sorted»
  refine wpAny_bind (m := checkCount "sorted" 1 1 _) (wpAny_pure ?_)
  refine wpAny_bind (col _ fun s1 vs bs k1 hz g1 o1 eb pd => ?_)
  have S : SrtOk bs := srtOk_perm pd S0
  have hsort : srt bs = srt ds := srt_perm pd S.gd S.al
  have hg := gds_mem S.gd
  have hlen : vs.length = bs.length := eb.length
  refine wpAny_bind (wpAny_newList ?_ (by have := S.sz; omega))
  have hoL : (s1.heap.push (seqObj "list" vs.toArray 0)).get? s1.heap.objs.size = some (seqObj "list" vs.toArray 0) := Heap.get?_push_size _ rfl
  have er : PySem.W.EachIs (fun v d => ∃ as, Reads (s1.heap.push (seqObj "list" vs.toArray 0)) v (D.enc d) as ∧ s1.heap.objs.size ∉ as) vs bs := by
    refine (PySem.W.each_mem eb).mono fun v d ⟨⟨x, h1, h2⟩, hd⟩ => ?_
    obtain ⟨as, rd⟩ := Dp.reads I d.enc x v (dp_of d x d.enc h2 (enc_of (hg d hd)).1) h1
    refine ⟨as, PyProof.Rows.Reads.keeps (fun b u e => Heap.get?_push_of_some _ (k1 b u e)) rd, fun z => ?_⟩
    obtain ⟨u, hu⟩ := reads_old rd _ z
    exact absurd (Heap.lt_size hu) (Nat.not_lt.mpr hz)
  refine wpAny_bind (wpAny_holding (PySem.W.list_sort_data (R := fun v d => ∃ x, RelV x v ∧ Rep (gx X) H d x) (enc := D.enc) (bs := bs) (s := { s1 with heap := s1.heap.push (seqObj "list" vs.toArray 0) }) hoL eb er (fun x hx y hy => ?_) (sortable_of S) S.sz (fun d hd => ?_) fun out ho' eo => ?_))
  · obtain ⟨d, hd, rfl⟩ := List.mem_map.mp hx
    obtain ⟨d', hd', rfl⟩ := List.mem_map.mp hy
    exact S.al d hd d' hd'
  · have := (enc_of (hg d hd)).2
    show X.A.units + 1 + 1 + _ < _
    omega
  · obtain ⟨zs, h1, h2⟩ := of_each eo
    obtain ⟨c, hcell⟩ := sortedHeap_at (vs := vs) (out := out.toArray) hoL
    have hzl : zs.length ≤ sizeLine := by
      rw [h2.length]
      show (srt bs).length ≤ _
      rw [srt_len]; exact S.sz
    have hn : H s1.heap.objs.size = none := I.hok.fresh hz
    have keep : ∀ b u, s.heap.get? b = some u → (sortedHeap (s1.heap.push (seqObj "list" vs.toArray 0)) s1.heap.objs.size vs out.toArray).get? b = some u := fun b u e => by
      have q := k1 b u e
      have hlt := Heap.lt_size q
      rw [sortedHeap_old (Nat.ne_of_lt hlt) (by rw [size_push']; exact Nat.lt_succ_of_lt hlt)]
      exact Heap.get?_push_of_some _ q
    have J : Inv X pins σ (upd H s1.heap.objs.size (.lst zs)) { s with heap := sortedHeap (s1.heap.push (seqObj "list" vs.toArray 0)) s1.heap.objs.size vs out.toArray, gens := s1.gens, drawn := s1.drawn, toks := s1.toks } :=
      I.call (ch := []) (Un.laid keep hz hn) (I.hok.laid keep hz ⟨hzl, out, c, h1, hcell⟩) (by rw [g1]; exact I.bare) (fun _ z => nomatch z)
    have e : { s1 with heap := sortedHeap (s1.heap.push (seqObj "list" vs.toArray 0)) s1.heap.objs.size vs out.toArray } = { s with heap := sortedHeap (s1.heap.push (seqObj "list" vs.toArray 0)) s1.heap.objs.size vs out.toArray, gens := s1.gens, drawn := s1.drawn, toks := s1.toks } := by
      cases s1
      cases s
      cases o1
      rfl
    refine wpAny_pure ⟨_, rfl, ?_⟩
    refine Eq.mpr (congrArg (EP X pins σ Q (.ref s1.heap.objs.size)) e) ?_
    exact ⟨.ref s1.heap.objs.size, _, J, rfl, q _ zs hn (hsort ▸ h2)⟩
theorem call_sortS (hc : X.calm = true) (hu : X.A.units + 64 < cLine) : CallR X (.builtin "sorted") (rSortS (gx X)) := by
  intro pins s σ H xs us Q I r h
  obtain ⟨a, ds, rfl, ⟨L, ha, es0, e0, p0⟩, S0, q⟩ := h
  rw [Vals.ref1 r]
  obtain ⟨es, ep, t, R⟩ := setWO_get I ha
  obtain ⟨o, ho, hex, hd⟩ := R.ob
  refine sorted_core hu I S0 q fun Q' hQ => collect_set (A := X.A.in1) (I.ok.hd hc) ⟨o, ho, hex.1, hd⟩ R.fits R.small R.ris R.led fun s1 vs k1 hz g1 o1 pm => ?_
  obtain ⟨bs, eb, pb⟩ := each_perm e0 (pm.trans R.pm)
  exact hQ s1 vs bs k1 hz g1 o1 eb (pb.trans p0)
/-- what a list, a tuple gives: nothing is lost, nothing is taken back -/
theorem col_seq {P : Program} {w : World} {A : Around} {E : Value → Shared → Prop} {s : Shared} {Q : List Value → Shared → Prop} (it : Addr) {T : String} {o : Obj} {xs : Array Value} {n : Nat} (hT : T = "list" ∨ T = "tuple") (ho : s.heap.get? it = some o) (hc : o.cls = .type T) (hd : o.data = .seq xs n) (hsz : xs.size ≤ sizeLine)
    (hQ : ∀ h', (∀ b o', s.heap.get? b = some o' → h'.get? b = some o') → s.heap.objs.size ≤ h'.objs.size → Q xs.toList { s with heap := h' }) : wpAny (model P w) A (collect (.ref it)) Q E s := by
  let h1 : Heap := s.heap.push { cls := .type "list", data := .seq ([] : List Value).toArray }
  let h2 : Heap := h1.update s.heap.objs.size (Obj.mapSeq (· ++ xs))
  have new1 : h1.get? s.heap.objs.size = some { cls := .type "list", data := .seq #[] 0 } := Heap.get?_push_size _ rfl
  have new2 := Heap.get?_update_self (Obj.mapSeq (· ++ xs)) new1 rfl
  have end2 : Q xs.toList { s with heap := h2 } := hQ h2 (fun b o' hb => (Heap.get?_update_other _ _ (Nat.ne_of_gt (Heap.lt_size hb))).trans (Heap.get?_push_of_some _ hb)) (by
    show s.heap.objs.size ≤ (h1.update _ _).objs.size
    rw [Heap.size_update]
    show _ ≤ (s.heap.push _).objs.size
    rw [Heap.size_push]; exact Nat.le_succ _)
  unfold collect
  refine wpAny_bind (wpAny_runValue (codeAny_builtin PySem.F.entry_proto_collect ?_))
  rw [Around.under_plainId PySem.F.plain_proto_collect _]
  refine wpAny_bind (m := newList []) (wpAny_newObj_type (wpAny_pure ⟨plainId_quiet PySem.F.plain_list_iadd _, codeAny_builtin PySem.F.entry_list_iadd ?_⟩))
  rw [Around.under_plainId PySem.F.plain_list_iadd _]
  have tail : wpAny (model P w) A (match Value.ref s.heap.objs.size with
      | Value.ref a => do match (← load a).data with
          | Data.seq xs _ => pure xs.toList
          | _ => unsupported "internal:collect"
      | _ => unsupported "internal:collect") Q E { s with heap := h2 } := by
    refine wpAny_bind (wpAny_load new2 (wpAny_pure ?_))
    have e : ((#[] : Array Value) ++ xs).toList = xs.toList := by simp
    exact Eq.mpr (congrArg (fun l => Q l { s with heap := h2 }) e) end2
  refine wpAny_mono (wpAny_extend_seq (hsz := hsz) (A := A) (R := fun r s' => r = .ok (.ret (.ref s.heap.objs.size)) ∧ s' = { s with heap := h2 }) (s := { s with heap := h1 }) _ it _ 0 hT new1 (Heap.get?_push_of_some _ ho) hc hd ⟨rfl, rfl⟩) (fun fin s' h => ?_) fun e s' h => absurd h.1 (by simp)
  cases fin with
  | done f =>
    obtain ⟨e, rfl⟩ := h
    cases e
    exact tail
  | again c' => exact ⟨h.1, codeAny_mono h.2 fun r s'' hr => by obtain ⟨rfl, rfl⟩ := hr; exact tail⟩
theorem call_sortD (hu : X.A.units + 64 < cLine) : CallR X (.builtin "sorted") (rSortD (gx X)) := by
  intro pins s σ H xs us Q I r h
  obtain ⟨a, ys, ds, rfl, hq, rs, S0, q⟩ := h
  rw [Vals.ref1 r]
  have fin : ∀ (its : List Value) (T : String) (o : Obj) (n : Nat), (T = "list" ∨ T = "tuple") → s.heap.get? a = some o → o.cls = .type T → o.data = .seq its.toArray n → Vals ys its → its.length ≤ sizeLine →
      wpAny (model X.prog X.w) X.A (call (.builtin "sorted") [.ref a]) (EP X pins σ Q) X.xe s := fun its T o n hT ho hc hd rv hz =>
    sorted_core hu I S0 q fun Q' hQ => col_seq a hT ho hc hd (by simpa using hz) fun h' k hz' => hQ _ _ ds k hz' rfl rfl (by simpa using each_of rs rv) (.refl _)
  rcases hq with hq | hq
  · obtain ⟨its, rv, ⟨o, n, ho, hc, _, hd⟩, hz⟩ := I.list hq
    exact fin its "list" o n (.inl rfl) ho hc hd rv (by rw [← rv.length]; exact hz)
  · obtain ⟨its, rv, ⟨o, ho, hc, n, hd⟩, hz⟩ := I.tuple hq
    exact fin its "tuple" o n (.inr rfl) ho hc hd rv (by rw [← rv.length]; exact hz)
def rLenS (g : Gx) : List V → Hp → VK → Prop := fun xs H Q => ∃ a ds, xs = [.ref a] ∧ SetD g H a ds ∧ Q (.int (ddup ds).length) H
theorem call_lenS : CallR X (.builtin "len") (rLenS (gx X)) := by
  intro pins s σ H xs us Q I r h
  obtain ⟨a, ds, rfl, ⟨L, ha, es0, e0, p0⟩, q⟩ := h
  rw [Vals.ref1 r]
  obtain ⟨es, ep, t, R⟩ := setWO_get I ha
  obtain ⟨o, ho, hex, hd⟩ := R.ob
  have hl : es.size = (ddup ds).length := by
    have q1 := R.pm.length_eq
    have q2 := e0.length
    have q3 := p0.length_eq
    rw [List.length_map, Array.length_toList] at q1
    omega
  exact call_len_set ho hex hd R.fits (by have := R.small; unfold scanBound at this; omega) ⟨.int (ddup ds).length, H, I.tok _, ⟨_, by rw [hl]⟩, q⟩
open Classical in
/-- sorted(set(e)), len(set(e)) -/
noncomputable def D.sortSet : D → Option D
  | .lst ds => if SetIn ds ∧ SrtOk (ddup ds) then some (.lst (srt (ddup ds))) else none
  | .tup ds => if SetIn ds ∧ SrtOk (ddup ds) then some (.lst (srt (ddup ds))) else none
  | _ => none
open Classical in
noncomputable def D.lenSet : D → Option D
  | .lst ds => if SetIn ds then some (.int (ddup ds).length) else none
  | .tup ds => if SetIn ds then some (.int (ddup ds).length) else none
  | _ => none
theorem repL_seq {g : Gx} {H : Hp} {d : D} {ds : List D} {v : V} (h : d = .lst ds ∨ d = .tup ds) (r : RepL g H d v) : ∃ a xs, v = .ref a ∧ (SqL g.K H a xs ∨ SqT g.K H a xs) ∧ Reps g H ds xs := by
  rcases h with rfl | rfl
  · obtain ⟨a, xs, e, h, rs⟩ := repL_lst r
    exact ⟨a, xs, e, .inl h.sq, rs⟩
  · obtain ⟨a, xs, e, h, rs⟩ := repL_tup r
    exact ⟨a, xs, e, .inr h, rs⟩
theorem sortSet_of {d z : D} (h : D.sortSet d = some z) : ∃ ds, (d = .lst ds ∨ d = .tup ds) ∧ SetIn ds ∧ SrtOk (ddup ds) ∧ z = .lst (srt (ddup ds)) := by
  cases d with
  | lst ds =>
    simp only [D.sortSet] at h
    split at h
    · rename_i c; cases h; exact ⟨ds, .inl rfl, c.1, c.2, rfl⟩
    · cases h
  | tup ds =>
    simp only [D.sortSet] at h
    split at h
    · rename_i c; cases h; exact ⟨ds, .inr rfl, c.1, c.2, rfl⟩
    · cases h
  | _ => cases h
theorem lenSet_of {d z : D} (h : D.lenSet d = some z) : ∃ ds, (d = .lst ds ∨ d = .tup ds) ∧ SetIn ds ∧ z = .int (ddup ds).length := by
  cases d with
  | lst ds =>
    simp only [D.lenSet] at h
    split at h
    · rename_i c; cases h; exact ⟨ds, .inl rfl, c, rfl⟩
    · cases h
  | tup ds =>
    simp only [D.lenSet] at h
    split at h
    · rename_i c; cases h; exact ⟨ds, .inr rfl, c, rfl⟩
    · cases h
  | _ => cases h
variable {e : Expr} {w : WE} {p p2 pos pos2 : Pos}
theorem grow_set {H : Hp} {a : Addr} {w : World} {L : List Value} (h : H a = none) : Grow H (upd H a (SetWO w a L)) := Grow.new (o := SetWO w a L) h fun z => z
theorem dn_sortSet (hm : X.mg "sorted" = none) (hm2 : X.mg "set" = none) (ha : DQ X e w) (hu : X.A.units + 64 < cLine) (hc : X.calm = true := by rfl) (hg : Gl X "sorted" := by rfl) (hg2 : Gl X "set" := by rfl)
    (he : starEach [.Call (.Name "set" p2) [e] [] pos2] X.env = (false, eval (.Call (.Name "set" p2) [e] [] pos2) X.env) :: starEach [] X.env := by rfl) (hpl : (backTo pos (starEach [] X.env)).any (·.1) = false := by rfl)
    (he2 : starEach [e] X.env = (false, eval e X.env) :: starEach [] X.env := by rfl) (hpl2 : (backTo pos2 (starEach [] X.env)).any (·.1) = false := by rfl) :
    DN X (.Call (.Name "sorted" p) [.Call (.Name "set" p2) [e] [] pos2] [] pos) (w1 D.sortSet w) :=
  pe_imp (pe_callB (call_sortS hc hu) hg hm (by decide +kernel) (pa_one (pe_callTy (call_setD hc hu) hg2 hm2 (by decide +kernel) (pa_one ha he2) (by decide) (by decide) he2 hpl2) he) (by decide) (by decide) he hpl) fun σ H Q ⟨e0, K, i, k, q⟩ =>
    ⟨e0, _, i, k, fun dx e1 x H1 ⟨z, hz, k1⟩ a1 i1 r1 => by
      obtain ⟨ds, h1, h2, h3, rfl⟩ := sortSet_of hz
      obtain ⟨l, ys, rfl, hs, rs⟩ := repL_seq h1 r1
      refine ⟨l, ys, ds, rfl, hs, rs, h2, fun a L hn sd => ?_⟩
      have g1 : Grow H1 (upd H1 a (SetWO (gx X).w a L)) := grow_set hn
      refine ⟨a, ds, rfl, sd, h3, fun p zs hp rz => ?_⟩
      obtain ⟨g2, c⟩ := laid_lst (g := gx X) hp rz
      have hp1 : H1 p = none := g1.there p hp
      refine q _ e1 p _ k1 (a1.trans (.grow (g1.trans g2))) (i1.grow (g1.trans g2)) c (a1.there p hp1) fun ow => ?_
      obtain ⟨_, h, _⟩ := i1.own ow
      rw [hp1] at h
      cases h⟩
theorem de_lenSet (hm : X.mg "len" = none) (hm2 : X.mg "set" = none) (ha : DQ X e w) (hu : X.A.units + 64 < cLine) (hc : X.calm = true := by rfl) (hg : Gl X "len" := by rfl) (hg2 : Gl X "set" := by rfl)
    (he : starEach [.Call (.Name "set" p2) [e] [] pos2] X.env = (false, eval (.Call (.Name "set" p2) [e] [] pos2) X.env) :: starEach [] X.env := by rfl) (hpl : (backTo pos (starEach [] X.env)).any (·.1) = false := by rfl)
    (he2 : starEach [e] X.env = (false, eval e X.env) :: starEach [] X.env := by rfl) (hpl2 : (backTo pos2 (starEach [] X.env)).any (·.1) = false := by rfl) :
    DE X (.Call (.Name "len" p) [.Call (.Name "set" p2) [e] [] pos2] [] pos) (w1 D.lenSet w) :=
  pe_imp (pe_callB call_lenS hg hm (by decide +kernel) (pa_one (pe_callTy (call_setD hc hu) hg2 hm2 (by decide +kernel) (pa_one ha he2) (by decide) (by decide) he2 hpl2) he) (by decide) (by decide) he hpl) fun σ H Q ⟨e0, K, i, k, q⟩ =>
    ⟨e0, _, i, k, fun dx e1 x H1 ⟨z, hz, k1⟩ a1 i1 r1 => by
      obtain ⟨ds, h1, h2, rfl⟩ := lenSet_of hz
      obtain ⟨l, ys, rfl, hs, rs⟩ := repL_seq h1 r1
      refine ⟨l, ys, ds, rfl, hs, rs, h2, fun a L hn sd => ?_⟩
      have g1 : Grow H1 (upd H1 a (SetWO (gx X).w a L)) := grow_set hn
      exact ⟨a, ds, rfl, sd, q _ e1 _ _ k1 (a1.trans (.grow g1)) (i1.grow g1) rfl⟩⟩
/-! ### sorted(list or tuple) -/
theorem sort1_of {d z : D} (h : D.sort1 d = some z) : ∃ ds, (d = .lst ds ∨ d = .tup ds) ∧ SrtOk ds ∧ z = .lst (srt ds) := by
  cases d with
  | lst ds =>
    simp only [D.sort1] at h
    split at h
    · rename_i c; cases h; exact ⟨ds, .inl rfl, c, rfl⟩
    · cases h
  | tup ds =>
    simp only [D.sort1] at h
    split at h
    · rename_i c; cases h; exact ⟨ds, .inr rfl, c, rfl⟩
    · cases h
  | _ => cases h
theorem sort1_ok : OpAN (gx X) (rSortD (gx X)) D.sort1 := fun H x dx z Q rx h q => by
  obtain ⟨ds, h1, h2, rfl⟩ := sort1_of h
  obtain ⟨l, ys, rfl, hs, rs⟩ := repL_seq h1 rx
  refine ⟨l, ys, ds, rfl, hs, rs, h2, fun p zs hp rz => ?_⟩
  obtain ⟨g2, c⟩ := laid_lst (g := gx X) hp rz
  exact q p _ hp g2 c
theorem dn_sorted (hm : X.mg "sorted" = none) (ha : DQ X e w) (hu : X.A.units + 64 < cLine) (hg : Gl X "sorted" := by rfl) (he : starEach [e] X.env = (false, eval e X.env) :: starEach [] X.env := by rfl) (hpl : (backTo pos (starEach [] X.env)).any (·.1) = false := by rfl) : DN X (.Call (.Name "sorted" p) [e] [] pos) (w1 D.sort1 w) :=
  dn_B1 (call_sortD hu) sort1_ok hm ha hg (by decide +kernel) (by decide) (by decide) he hpl
end
end DL
/-! DL, part y: a, b = x, y with new things among them. -/
namespace DL
open PySem PySem.Spec L2
abbrev WAS := En → (List S → En → Prop) → Prop
def HeldS (g : Gx) (H : Hp) : List S → List V → Prop
  | [], xs => xs = []
  | .fz d :: ss, xs => ∃ v r, xs = v :: r ∧ Rep g H d v ∧ HeldS g H ss r
  | .ow d :: ss, xs => ∃ a r, xs = .ref a :: r ∧ CellAt g H a d ∧ HeldS g H ss r
  | .un :: _, _ => False
def owsOf : List S → List V → List Addr
  | .ow _ :: ss, .ref a :: r => a :: owsOf ss r
  | _ :: ss, _ :: r => owsOf ss r
  | _, _ => []
def upAS (g : Gx) (ws : WAS) : TA := fun σ H Q => ∃ e K, ER g σ H e ∧ ws e K ∧ ∀ ss e' vs H', K ss e' → Adv σ e H σ e' H' → ER g σ H' e' → HeldS g H' ss vs → (owsOf ss vs).Nodup → (∀ a ∈ owsOf ss vs, H a = none ∧ ¬ Own σ e' a) → Q vs H'
abbrev DAS (X : Cx) (es : List Expr) (ws : WAS) : Prop := PA X es (upAS (gx X) ws)
def sNil : WAS := fun e K => K [] e
def sFz (w : WE) (ws : WAS) : WAS := fun e K => w e fun d e1 => ws e1 fun ss e2 => K (.fz d :: ss) e2
def sOw (w : WE) (ws : WAS) : WAS := fun e K => w e fun d e1 => ws e1 fun ss e2 => K (.ow d :: ss) e2
section
variable {X : Cx} {e : Expr} {es : List Expr} {w : WE} {ws : WAS}
theorem das_nil : DAS X [] sNil := pa_imp pa_nil fun σ H Q ⟨e, K, r, k, q⟩ => q [] e [] H k (.refl ..) r rfl .nil fun _ z => nomatch z
theorem das_fz (h : DE X e w) (hr : DAS X es ws) (hs : starEach (e :: es) X.env = (false, eval e X.env) :: starEach es X.env := by rfl) : DAS X (e :: es) (sFz w ws) := pa_imp (pa_cons h hr hs) fun σ H Q ⟨e, K, r, k, q⟩ =>
  ⟨e, _, r, k, fun d e1 v H1 k1 a1 r1 p1 => ⟨e1, _, r1, k1, fun ss e2 vs H2 k2 a2 r2 p2 nd no => q (.fz d :: ss) e2 (v :: vs) H2 k2 (a1.trans a2) r2 ⟨v, vs, rfl, p1.mono a2.stab d v, p2⟩ nd fun a z => ⟨a1.there a (no a z).1, (no a z).2⟩⟩⟩
theorem das_ow (h : DN X e w) (hr : DAS X es ws) (hs : starEach (e :: es) X.env = (false, eval e X.env) :: starEach es X.env := by rfl) : DAS X (e :: es) (sOw w ws) := pa_imp (pa_cons h hr hs) fun σ H Q ⟨e, K, r, k, q⟩ =>
  ⟨e, _, r, k, fun d e1 a H1 k1 a1 r1 c1 hp no1 => ⟨e1, _, r1, k1, fun ss e2 vs H2 k2 a2 r2 p2 nd no => by
    obtain ⟨o, ho, _, nl⟩ := c1.there
    have k := a2.keep a o ho no1 nl
    refine q (.ow d :: ss) e2 (.ref a :: vs) H2 k2 (a1.trans a2) r2 ⟨a, vs, rfl, c1.keep a2.stab fun o' q => by rw [ho] at q; cases q; exact k, p2⟩ (List.nodup_cons.mpr ⟨fun z => ?_, nd⟩) fun b z => ?_
    · have := (no a z).1
      rw [ho] at this
      cases this
    · rcases List.mem_cons.mp z with rfl | z
      · refine ⟨hp, fun ow => ?_⟩
        rcases a2.owns b ow with q | q
        · exact no1 q
        · rw [ho] at q; cases q
      · exact ⟨a1.there b (no b z).1, (no b z).2⟩⟩⟩
end
def asgs : En → List Nat → List S → En
  | e, i :: is, s :: ss => asgs (e.asg i s) is ss
  | e, _, _ => e
def sets : L2.St → List Nat → List V → L2.St
  | σ, i :: is, v :: vs => sets (σ.set i (some v)) is vs
  | σ, _, _ => σ
section
variable {g : Gx} {H0 H : Hp} {σ0 : L2.St} {e0 : En}
theorem own_fz {σ : L2.St} {e : En} {i : Nat} {v : V} {d : D} {b : Addr} (h : Own (σ.set i (some v)) (e.asg i (.fz d)) b) : Own σ e b := ((Adv.put (σ := σ) (H := fun _ => some (.tup [])) (i := i) (v := v) (e := e) (d := d)).owns b h).resolve_right fun z => nomatch z
theorem asgs_ok : ∀ (is : List Nat) (ss : List S) (vs : List V) (σ : L2.St) (e : En), Adv σ0 e0 H0 σ e H → ER g σ H e → HeldS g H ss vs → (owsOf ss vs).Nodup → (∀ a ∈ owsOf ss vs, H0 a = none ∧ ¬ Own σ e a) → Adv σ0 e0 H0 (sets σ is vs) (asgs e is ss) H ∧ ER g (sets σ is vs) H (asgs e is ss)
  | [], _, _, _, _, a, r, _, _, _ => ⟨by simpa [asgs, sets] using a, by simpa [asgs, sets] using r⟩
  | _ :: _, [], vs, _, _, a, r, h, _, _ => by
    rw [show vs = [] from h]
    exact ⟨by simpa [asgs, sets] using a, by simpa [asgs, sets] using r⟩
  | i :: is, .fz d :: ss, _, σ, e, a, r, ⟨v, vs, rfl, p, hs⟩, nd, no =>
    asgs_ok is ss vs (σ.set i (some v)) (e.asg i (.fz d)) (a.trans .put) (r.put p) hs (by simpa [owsOf] using nd) fun b z => by
      obtain ⟨n1, n2⟩ := no b (by simpa [owsOf] using z)
      exact ⟨n1, fun q => n2 (own_fz q)⟩
  | i :: is, .ow d :: ss, _, σ, e, a, r, ⟨b, vs, rfl, c, hs⟩, nd, no => by
    rw [owsOf, List.nodup_cons] at nd
    rw [owsOf] at no
    obtain ⟨n1, n2⟩ := no b List.mem_cons_self
    refine asgs_ok is ss vs (σ.set i (some (.ref b))) (e.asg i (.ow d)) ⟨a.keep, a.stab, a.there, fun x ox => (own_put ox).elim (fun q => .inr (by rw [q]; exact n1)) (a.owns x)⟩ (r.putN c n2) hs nd.2 fun x z => ?_
    obtain ⟨m1, m2⟩ := no x (List.mem_cons_of_mem _ z)
    exact ⟨m1, fun q => (own_put q).elim (fun q => nd.1 (q ▸ z)) m2⟩
  | _ :: _, .un :: _, _, _, _, _, _, h, _, _ => h.elim
theorem HeldS.len : ∀ {ss : List S} {vs : List V}, HeldS g H ss vs → vs.length = ss.length
  | [], _, h => by rw [show _ = [] from h]; rfl
  | .fz _ :: _, _, ⟨_, _, e, _, h⟩ => by rw [e, List.length_cons, List.length_cons, h.len]
  | .ow _ :: _, _, ⟨_, _, e, _, h⟩ => by rw [e, List.length_cons, List.length_cons, h.len]
  | .un :: _, _, h => h.elim
theorem HeldS.mono {H' : Hp} (s : Stab H H') (k : ∀ a o, H a = some o → ¬ Lo o → H' a = some o) : ∀ {ss : List S} {vs : List V}, HeldS g H ss vs → HeldS g H' ss vs
  | [], _, h => h
  | .fz d :: _, _, ⟨v, r, e, p, h⟩ => ⟨v, r, e, p.mono s d v, h.mono s k⟩
  | .ow _ :: _, _, ⟨a, r, e, c, h⟩ => ⟨a, r, e, c.keep s fun o q => k a o q (by
      obtain ⟨o', q', _, nl⟩ := c.there
      rw [q] at q'
      cases q'
      exact nl), h.mono s k⟩
  | .un :: _, _, h => h.elim
end
/-- names = values, side by side -/
def wPar (is : List Nat) (ws : WAS) : WS := fun e F => ws e fun ss e1 => ss.length = is.length ∧ F.nx (asgs e1 is ss)
section
variable {X : Cx} {a b c : Expr} {ws : WAS} {pos px py pz pt pt2 : Pos} {kt k2 : Nat}
theorem ds_par2 {i j : Nat} {x y : Str} (hN : X.N.Nodup) (h : DAS X [a, b] ws) (hc : X.calm = true := by rfl) (hi : X.N[i]? = some x := by rfl) (hj : X.N[j]? = some y := by rfl) (hij : i ≠ j := by decide) (hx : X.env.scope.names.lookup x = some .local := by rfl) (hy : X.env.scope.names.lookup y = some .local := by rfl)
    (hw : swappedStores [.Tuple [.Name x px, .Name y py] kt pt] (.Tuple [a, b] k2 pt2) X.env = pure (some [x, y]) := by rfl) (hs : swapsWithSole [.Tuple [.Name x px, .Name y py] kt pt] (.Tuple [a, b] k2 pt2) pos.line X.env = pure false := by rfl) :
    DS X (.Assign [.Tuple [.Name x px, .Name y py] kt pt] (.Tuple [a, b] k2 pt2) pos) (wPar [i, j] ws) := ps_imp (ps_par hc hN hi hj hij hx hy h hw hs) fun D σ H ⟨e, F, r, k, n, _⟩ =>
  ⟨e, _, r, k, fun ss e1 vs H1 ⟨hl, k1⟩ a1 r1 p1 nd no => by
    obtain ⟨z1, z2⟩ := asgs_ok [i, j] ss vs σ e1 a1 r1 p1 nd no
    have q := n _ _ H1 k1 z1 z2
    have hv : vs.length = 2 := by rw [p1.len]; exact hl
    match vs, hv with
    | [v, w], _ => exact ⟨v, w, rfl, q⟩⟩
theorem ds_par3 {i j l : Nat} {x y z : Str} (hN : X.N.Nodup) (h : DAS X [a, b, c] ws) (hc : X.calm = true := by rfl) (hi : X.N[i]? = some x := by rfl) (hj : X.N[j]? = some y := by rfl) (hl : X.N[l]? = some z := by rfl) (hij : i ≠ j := by decide) (hil : i ≠ l := by decide) (hjl : j ≠ l := by decide)
    (hx : X.env.scope.names.lookup x = some .local := by rfl) (hy : X.env.scope.names.lookup y = some .local := by rfl) (hz : X.env.scope.names.lookup z = some .local := by rfl)
    (hw : swappedStores [.Tuple [.Name x px, .Name y py, .Name z pz] kt pt] (.Tuple [a, b, c] k2 pt2) X.env = pure (some [x, y, z]) := by rfl) (hs : swapsWithSole [.Tuple [.Name x px, .Name y py, .Name z pz] kt pt] (.Tuple [a, b, c] k2 pt2) pos.line X.env = pure false := by rfl) :
    DS X (.Assign [.Tuple [.Name x px, .Name y py, .Name z pz] kt pt] (.Tuple [a, b, c] k2 pt2) pos) (wPar [i, j, l] ws) := ps_imp (ps_par3 hc hN hi hj hl hij hil hjl hx hy hz h hw hs) fun D σ H ⟨e, F, r, k, n, _⟩ =>
  ⟨e, _, r, k, fun ss e1 vs H1 ⟨hl, k1⟩ a1 r1 p1 nd no => by
    obtain ⟨z1, z2⟩ := asgs_ok [i, j, l] ss vs σ e1 a1 r1 p1 nd no
    have q := n _ _ H1 k1 z1 z2
    have hv : vs.length = 3 := by rw [p1.len]; exact hl
    match vs, hv with
    | [v, w, u], _ => exact ⟨v, w, u, rfl, q⟩⟩
/-- where a name is seen by a comprehension's block: over a tuple -/
def gSets (is : List Nat) : TGs := fun vs σ H Q => vs.length = is.length ∧ Q (sets σ is vs) H
theorem pgs_none : PGs X [] (gSets []) := ⟨fun pins s σ H v u Q I r h => pgs_nil.run pins s σ H v u Q I r ⟨List.eq_nil_of_length_eq_zero h.1, by
  have e := List.eq_nil_of_length_eq_zero h.1
  subst e
  exact h.2⟩⟩
theorem pgs_more {i : Nat} {x : Str} {is : List Nat} {es : List Expr} (hN : X.N.Nodup) (hr : PGs X es (gSets is)) (hi : X.N[i]? = some x := by rfl) (hx : Loc X.env.scope x := by first | exact Or.inl rfl | exact Or.inr rfl) (hf : X.fn x = true ∨ X.env.scope.names.lookup x = some .local := by first | exact .inl rfl | exact .inr rfl | assumption)
    (hs : (assignEach (.Name x pos :: es) X.env).map (·.2) = assign (.Name x pos) X.env :: (assignEach es X.env).map (·.2) := by rfl) : PGs X (.Name x pos :: es) (gSets (i :: is)) :=
  ⟨fun pins s σ H v u Q I r h => (pgs_cons (pg_name hN hi hx hf) hr hs).run pins s σ H v u Q I r (by
    obtain ⟨h1, h2⟩ := h
    match v, h1 with
    | v :: vs, h1 => exact ⟨v, vs, rfl, by simpa using h1, h2⟩)⟩
theorem ds_parC {tg es : List Expr} {is : List Nat} {n : Nat} (h : DAS X es ws) (hg : PGs X tg (gSets is)) (hn : (assignEach tg X.env).length = n := by rfl) (hl : is.length = n := by rfl) (hsm : n ≤ sizeLine := by decide) (hc : X.calm = true := by rfl) (hst : (assignEach tg X.env).findIdx? (·.1) = none := by rfl)
    (hs : swapsWithSole [.Tuple tg kt pt] (.Tuple es k2 pt2) pos.line X.env = pure false := by rfl) (hw : swappedStores [.Tuple tg kt pt] (.Tuple es k2 pt2) X.env = pure none := by rfl) (h1 : (assignEach [.Tuple tg kt pt] X.env).map (·.2) = [assign (.Tuple tg kt pt) X.env] := by rfl) :
    DS X (.Assign [.Tuple tg kt pt] (.Tuple es k2 pt2) pos) (wPar is ws) := ps_imp (ps_asg (pe_tup h) (pg_tup hc hg hn hst) hs hw h1) fun D σ H ⟨e, F, r, k, n0, _⟩ =>
  ⟨e, _, r, k, fun ss e1 vs H1 ⟨hl1, k1⟩ a1 r1 p1 nd no => ⟨by rw [p1.len, hl1, hl]; exact hsm, fun p hp => by
    have gr : Grow H1 (upd H1 p (.tup vs)) := .new hp fun z => z
    obtain ⟨z1, z2⟩ := asgs_ok is ss vs σ e1 (a1.trans (.grow gr)) (r1.grow gr) (p1.mono gr.stab fun a o q _ => gr.keep a o q) nd no
    exact ⟨p, vs, rfl, .of upd_same, by rw [p1.len, hl1, hl], by rw [p1.len, hl1], n0 _ _ _ k1 z1 z2⟩⟩⟩
end
end DL
/-! DL, part z: dict comprehensions. -/
namespace DL
open PySem PySem.Spec L2
section
variable {X : Cx} {pins : List (Addr × Obj)} {σ : L2.St} {H : Hp} {s : Shared} {a : Addr} {ks vs : List D} {es : Array DictEntry} {kvs vvs : List V} {k : D} {y : V} {u : Value} {A : Around} {E : Value → Shared → Prop}
theorem dd_dictSet {v : D} {x : V} {w : Value} {Q : Unit → Shared → Prop} (hu : A.units + 64 < cLine) (I : Inv X pins σ H s) (ha : H a = some (dictO a es)) (K : KsOk ks) (E0 : Entz X.w ks kvs vvs es.toList) (rk : Reps (gx X) H ks kvs) (rv : Reps (gx X) H vs vvs)
    (hk : kok ks k = true) (hz : ks.length ≤ sizeLine) (r : Rep (gx X) H k y) (ru : RelV y u) (rx : Rep (gx X) H v x) (rw' : RelV x w)
    (q : ∀ es' s', PutE (gx X) H ks vs k v es' → Inv X pins σ (upd H a (dictO a es')) s' → Q () s') :
    wpAny (model X.prog X.w) A (dictSet a u w) Q E s := by
  obtain ⟨ep, R⟩ := dd_raw I (.inl ha)
  have fin : ∀ (h' : Heap) (tk : Nat) es' ep', h'.DictRaw a es' ep' → Heap.SameBut a s.heap h' → PutE (gx X) H ks vs k v es' → Q () { s with heap := h', toks := tk } := fun h' tk es' ep' R' sb p => by
    refine q es' _ p (d_write I (by rw [ha]; exact True.intro) sb (let ⟨o, ho, _⟩ := R'; ⟨o, ho⟩) ⟨⟨ep', R'⟩, let ⟨o, ho, _⟩ := R'; ⟨o, ho⟩, fun h1 h2 ⟨e1, z⟩ k => ⟨e1, z.at k⟩⟩)
  obtain ⟨l1, l2, l3⟩ := ent_len E0
  rcases kok_cases hk with ⟨h1, h2⟩ | ⟨h1, h2⟩
  · have hlen : (flatP ks es.toList).length = ks.length := by unfold flatP; rw [List.length_zipWith, l3, Nat.min_self]
    refine wpAny_dictSet_pairs (hsz := by rw [hlen]; exact hz) (mk_is h1 r ru) (flat_of R K h2 E0 rk) fun h' dd' sb => ?_
    obtain ⟨o, es', ep', ho, hc, hd, kk, pp, nd⟩ := dd'
    refine fin h' _ es' ep' ⟨o, ho, hc, hd⟩ sb ?_
    have hkeys := flatP_keys (ks := ks) (es := es.toList) l3
    have hnd : ((flatP ks es.toList).map (·.1)).Nodup := by rw [hkeys]; exact map_inj_nodup (fun _ _ => mk_inj) h2 K.nd
    have hkk : ∀ e ∈ es'.toList, ∃ k, keyIs k e.key = true ∧ e.hash = keyH X.w k := fun e he => kk e (by simpa using he)
    have vals : ∀ {ks : List D} {kvs vvs : List V} {es : List DictEntry}, Entz X.w ks kvs vvs es → Vals vvs ((flatP ks es).map (·.2)) := by
      intro ks
      induction ks with
      | nil => exact fun ⟨_, z, _⟩ => by subst z; exact .nil
      | cons k ks ih =>
        intro _ _ _ hh
        obtain ⟨_, _, _, _, _, _, _, g1, g2, g3, _, _, _, g7, gr⟩ := hh
        subst g1 g2 g3
        exact .cons g7 (ih gr)
    cases h : dix ks k with
    | some i =>
      obtain ⟨kv, z, vo, e, g1, g2, _, g3, g4, _⟩ := lk_some E0 rv h
      rw [stored_get hnd (flatP_get g1 g2)] at pp
      have hm : ((flatP ks es.toList).set i (k.mk, w)).map (·.1) = ks.map D.mk := by
        rw [List.map_set, ← hkeys]
        exact List.ext_getElem? fun j => by
          rw [List.getElem?_set]
          split
          · rename_i e
            subst e
            rw [List.getElem?_map, flatP_get g1 g2]
            simp [(List.getElem?_eq_some_iff.mp (flatP_get g1 g2)).1]
          · rfl
      have hv : Vals (vvs.set i x) (((flatP ks es.toList).set i (k.mk, w)).map (·.2)) := by
        rw [List.map_set]
        exact vals_set rw' i (vals E0)
      obtain ⟨q1, q2⟩ := ent_of (g := gx X) (H := H) pp hkk hm hv h2
      refine ⟨ks.map D.cv, vvs.set i x, ?_, ?_, ?_⟩
      · unfold dput; rw [h]; exact q1
      · unfold dput; rw [h]; exact q2
      · unfold dput; rw [h]; exact rv.set rx i
    | none =>
      have hn : k.mk ∉ (flatP ks es.toList).map (·.1) := by rw [hkeys]; exact map_inj_mem (fun _ _ => mk_inj) h2 h1 (dix_none h)
      rw [stored_none hn] at pp
      have hall : (ks ++ [k]).all D.fk = true := by rw [List.all_append, h2]; simp [h1]
      obtain ⟨q1, q2⟩ := ent_of (g := gx X) (H := H) (ks := ks ++ [k]) (vvs := vvs ++ [x]) pp hkk (by rw [List.map_append, List.map_append, hkeys]; rfl) (by rw [List.map_append]; exact (vals E0).append (.cons rw' .nil)) hall
      refine ⟨(ks ++ [k]).map D.cv, vvs ++ [x], ?_, ?_, ?_⟩
      · unfold dput; rw [h]; exact q1
      · unfold dput; rw [h]; exact q2
      · unfold dput; rw [h]; exact rv.append (.one rx)
  · obtain ⟨b, rfl⟩ := rep_tk h1 r
    cases ru
    have hlen : (tupP ks es.toList).length = ks.length := by unfold tupP; rw [List.length_zipWith, l3, Nat.min_self]
    refine wpAny_dictSet_heap (hsz := by rw [hlen]; exact hz) (show A.units + 8 < cLine by omega) (nkind_of I h1 r) (tup_of I R K h2 E0 rk) fun h' dd' sb => ?_
    obtain ⟨o, es', ep', ho, hc, hd, he, _, nd⟩ := dd'
    refine fin h' _ es' ep' ⟨o, ho, hc, hd⟩ sb ?_
    have hkeys := tupP_keys (ks := ks) (es := es.toList) l3
    have inj : ∀ a b : D, a.tk = true → b.tk = true → a.nk = b.nk → a = b := fun a b h k q => nk_inj (tk_kg h) (tk_kg k) q
    have hes := (tup_ents I E0 h2 rk).1
    cases h : dix ks k with
    | some i =>
      obtain ⟨kv, z, vo, e, g1, g2, _, g3, g4, _⟩ := lk_some E0 rv h
      rw [storedH_get (by rw [hkeys]; exact map_inj_nodup inj h2 K.nd) (tupP_get g1 g2), List.map_set, ← hes] at he
      have h3 : es.toList[i]? = some (entryOfKey (nestedKind X.prog X.w) (k.nk, adr e.key, e.val)) := by
        conv => lhs; rw [hes]
        rw [List.getElem?_map, tupP_get g1 g2]; rfl
      rw [g2] at h3
      have h4 : entryOfKey (nestedKind X.prog X.w) (k.nk, adr e.key, w) = ⟨e.hash, e.key, w⟩ := by
        injection h3 with h3
        have a1 := congrArg DictEntry.hash h3
        have a2 := congrArg DictEntry.key h3
        rw [a1, a2]; rfl
      rw [h4] at he
      refine ⟨kvs, vvs.set i x, ?_, ?_, ?_⟩
      · unfold dput; rw [h, he]; exact ent_set rw' E0 g2
      · unfold dput; rw [h]; exact rk
      · unfold dput; rw [h]; exact rv.set rx i
    | none =>
      have hn : k.nk ∉ (tupP ks es.toList).map (·.1) := by rw [hkeys]; exact map_inj_mem inj h2 h1 (dix_none h)
      rw [storedH_new (atKey_none hn), List.map_append, ← hes] at he
      refine ⟨kvs ++ [.ref b], vvs ++ [x], ?_, ?_, ?_⟩
      · unfold dput; rw [h, he]; exact ent_snoc (kv := .ref b) (e := entryOfKey (nestedKind X.prog X.w) (k.nk, b, w)) (nk_of (tk_kg h1)).1 rfl (show RelV (.ref b) (.ref b) from rfl) rw' E0
      · unfold dput; rw [h]; exact rk.append (.one r)
      · unfold dput; rw [h]; exact rv.append (.one rx)
end
open PyProof.Rows
/-- a key, a value are laid down in the dict at D -/
def rPut (g : Gx) (D : Addr) (y z : V) (H : Hp) (Nx : Hp → Prop) : Prop := ∃ es kvs vvs ks vs k d, H D = some (dictO D es) ∧ KsOk ks ∧ Entz g.w ks kvs vvs es.toList ∧ Reps g H ks kvs ∧ Reps g H vs vvs ∧ kok ks k = true ∧ ks.length ≤ sizeLine ∧ Rep g H k y ∧ Rep g H d z ∧ ∀ es', PutE g H ks vs k d es' → Nx (upd H D (dictO D es'))
theorem laydown_ok {X : Cx} {pins : List (Addr × Obj)} {σ : L2.St} {H : Hp} {s : Shared} {E : Value → Shared → Prop} {D : Addr} {y z : V} {u r : Value} {Nx : Hp → Prop} {Q : Unit → Shared → Prop} (hu : X.A.units + 64 < cLine) (I : Inv X pins σ H s) (ry : RelV y u) (rz : RelV z r) (p : rPut (gx X) D y z H Nx)
    (h : ∀ s' H', Inv X pins σ H' s' → Nx H' → Q () s') : wpAny (model X.prog X.w) X.A (dictSet D u r) Q E s := by
  obtain ⟨es, kvs, vvs, ks, vs, k, d, hD, K, E0, rk, rv, hk, hz, r1, r2, q⟩ := p
  exact dd_dictSet hu I hD K E0 rk rv hk hz r1 ry r2 rz fun es' s' pe I' => h s' _ I' (q es' pe)
section
variable {X : Cx}
/-- {k: v for target in iter if ..}: D the new dict -/
def tDcX (g0 : Gx) (wi : TI) (g : TG) (tt : TT) (tk tv : TE) (vs : List Nat) : TE := fun σ H Q => wi σ H fun J H1 => ∀ D, H1 D = none → (D == sysModules) = false → ∃ W : Nat → Nat → Hp → Prop, (∃ m, W 0 m (upd H1 D (dictO D #[]))) ∧ ∀ i m H, W i m H →
  (J.stop i H ∧ Q (.ref D) H) ∨ (J.go i H ∧ ∃ Nx : Hp → Prop, (∀ H', Nx H' → ∃ m', m' < m ∧ W (i + 1) m' H') ∧ ∀ x H', J.yld i H x H' → g x (wipe σ vs) H' fun σ2 H2 => wipe σ2 vs = wipe σ vs ∧ tt σ2 H2 fun b H3 =>
    if b = true then tk σ2 H3 fun y H4 => tv σ2 H4 fun z H5 => rPut g0 D y z H5 Nx else Nx H3)
theorem dcx_core {pins : List (Addr × Obj)} {s : Shared} {σ : L2.St} {H : Hp} {Q : VK} {kx vx tg iter : Expr} {ifs : List Expr} {scope : Scope} {own : List (Str × Nat)} {pos pos' : Pos} {wi : TI} {g : TG} {tt : TT} {tk tv : TE} {use : Option (Value → Sem Unit)} {Qf : Value → Shared → Prop}
    (hc : X.calm = true) (hu : X.A.units + 64 < cLine) (hN : X.N.Nodup) (I : Inv X pins σ H s) (hi : PI X tg iter wi) (ok : BlkOk X.N X.env.scope scope own)
    (hg : ∀ (s : Shared) (H : Hp) (C : Addr) (cl : List (Str × Addr)) (fp : List Addr), PG (X.blk s H scope (compEnvC scope cl C X.env) fp) tg g) (ht : ∀ (s : Shared) (H : Hp) (C : Addr) (cl : List (Str × Addr)) (fp : List Addr), PTs (X.blk s H scope (compEnvC scope cl C X.env) fp) ifs tt)
    (hk : ∀ (s : Shared) (H : Hp) (C : Addr) (cl : List (Str × Addr)) (fp : List Addr), PE (X.blk s H scope (compEnvC scope cl C X.env) fp) kx tk)
    (he : ∀ (s : Shared) (H : Hp) (C : Addr) (cl : List (Str × Addr)) (fp : List Addr), PE (X.blk s H scope (compEnvC scope cl C X.env) fp) vx tv) (hs : ∀ x, foldedSetIterable iter X.env x = pure x)
    (h : tDcX (gx X) wi g tt tk tv (own.map (·.2)) σ H Q)
    (hRR : ∀ D C s' m H', Inv X pins σ H' s' → Q (.ref D) H' → s'.heap.Ns C m → FpOk X pins H' C → compPost (model X.prog X.w) X.A X.xe use Qf (.ref D) C (.ok .next) s') :
    wpAny (model X.prog X.w) X.A (comprehension (.DictComp kx vx [⟨tg, iter, ifs, 0⟩] scope pos) scope X.env pos' newDict false (eval iter X.env) use) Qf X.xe s := by
  have hfree : ∀ y ∈ scope.names, y.2 = .free → ∃ c, X.env.cells.lookup y.1 = some c := fun y hy e => by
    rcases ok.free y hy e with k | k
    · exact I.ok.has _ (.inl k)
    · exact I.ok.has _ (.inr k)
  refine wpAny_comprehension_free (use := use) rfl hs (closure_ok hfree) ok.kind (fun y hy e => by rw [ok.uniq y hy, e])
    (thn (hi.run pins s σ H _ I h) fun xv s1 hx => thn hx fun itv s2 h2 => ?_)
  obtain ⟨it, fp, tn, J, H2, e, I2, T, st2, f2, q⟩ := h2
  subst e
  refine wpAny_newObj_type (newEnv_comp ?_)
  generalize hD : s2.heap.objs.size = D
  have hDn : H2 D = none := I2.hok.fresh (Nat.le_of_eq hD)
  obtain ⟨W, ⟨m0, w0⟩, turn⟩ := q D hDn (by rw [← hD]; exact big_low I2)
  -- the new list
  generalize hs3 : ({ s2 with heap := s2.heap.push { cls := .type "dict", data := .dict #[] } } : Shared) = s3
  have I3 : Inv X pins σ (upd H2 D (dictO D #[])) s3 := by
    rw [← hs3]
    refine I2.laid (t' := s2.toks) (fun b o e => Heap.get?_push_of_some _ e) (Nat.le_of_eq hD) ?_
    rw [← hD]
    exact dictO_new
  have h3 : s3.heap = s2.heap.push { cls := .type "dict", data := .dict #[] } := by rw [← hs3]
  have sz : ∀ b ∈ fp, b < s2.heap.objs.size := fun b hb => by
    obtain ⟨o, e, _⟩ := T.obj _ _ st2 b hb
    exact Heap.lt_size e
  have f3 : ∀ b ∈ fp, FpOk X pins (upd H2 D (dictO D #[])) b ∧ b < s3.heap.objs.size := fun b hb => by
    have hlt := sz b hb
    refine ⟨⟨?_, (f2 b hb).2⟩, by rw [h3, Heap.size_push]; exact Nat.lt_succ_of_lt hlt⟩
    rw [upd_ne (by rw [← hD]; exact Nat.ne_of_lt hlt)]
    exact (f2 b hb).1
  have st3 : tn 0 s3.heap := T.keep _ _ _ st2 fun b _ o e => by rw [h3]; exact Heap.get?_push_of_some _ e
  have I4 := block_start I3 ok hN f3
  have pg := hg s3 (upd H2 D (dictO D #[])) s3.heap.objs.size (cellsFrom (s3.heap.objs.size + 1) scope.names (cloFrom X.env.cells scope.names [])) fp
  have pt := ht s3 (upd H2 D (dictO D #[])) s3.heap.objs.size (cellsFrom (s3.heap.objs.size + 1) scope.names (cloFrom X.env.cells scope.names [])) fp
  have pk := hk s3 (upd H2 D (dictO D #[])) s3.heap.objs.size (cellsFrom (s3.heap.objs.size + 1) scope.names (cloFrom X.env.cells scope.names [])) fp
  have pe := he s3 (upd H2 D (dictO D #[])) s3.heap.objs.size (cellsFrom (s3.heap.objs.size + 1) scope.names (cloFrom X.env.cells scope.names [])) fp
  show codeAny _ _ (.compStart (.DictComp kx vx [⟨tg, iter, ifs, 0⟩] scope pos) 0 (.ref it) (.ref D) (compEnvC scope (cellsFrom (s3.heap.objs.size + 1) scope.names (cloFrom X.env.cells scope.names [])) s3.heap.objs.size X.env)) (compPost (model X.prog X.w) X.A X.xe use Qf (.ref D) s3.heap.objs.size) { s3 with heap := pushCells (s3.heap.push { cls := .type "dict", data := .dict #[] }) scope.names }
  have nfp : ∀ b ∈ fp, (upd H2 D (dictO D #[])) b = none := fun b hb => (f3 b hb).1.1
  generalize hce : compEnvC scope (cellsFrom (s3.heap.objs.size + 1) scope.names (cloFrom X.env.cells scope.names [])) s3.heap.objs.size X.env = ce at I4 pg pt pk pe ⊢
  have cL : ce.locals = s3.heap.objs.size := by subst hce; rfl
  generalize hH3 : upd H2 D (dictO D #[]) = H3 at I3 I4 pg pt pk pe w0 nfp f3
  generalize hs4 : ({ s3 with heap := pushCells (s3.heap.push { cls := .type "dict", data := .dict #[] }) scope.names } : Shared) = s4 at I4 ⊢
  have st4 : tn 0 s4.heap := T.keep _ _ _ st3 fun b _ o e => by rw [← hs4]; exact pushCells_keeps _ _ _ _ (Heap.get?_push_of_some _ e)
  have stat : ∀ {σ' : L2.St} {H' : Hp} {s' : Shared}, Inv (X.blk s3 H3 scope ce fp) [] σ' H' s' → (∀ b ∈ fp, H' b = none) → ∀ b ∈ fp, FpOk (X.blk s3 H3 scope ce fp) [] H' b := fun {σ' H' s'} I' hn b hb =>
    ⟨hn b hb, (I'.ok.exf b hb).1, I'.ok.exfs b hb, .inl hb, fun x c e => (I'.ok.exf b hb).2 x c e, fun p hp => absurd (show p ∈ ([] : List (Addr × Obj)) ++ [] from hp) (by simp)⟩
  have loop : codeAny (model X.prog X.w) X.A (.compLoop (.DictComp kx vx [⟨tg, iter, ifs, 0⟩] scope pos) 0 (.ref it) (.ref D) ce) (compPost (model X.prog X.w) X.A X.xe use Qf (.ref D) s3.heap.objs.size) s4 := by
    refine compLoop_anyD (fun n s' => ∃ i H', Inv (X.blk s3 H3 scope ce fp) [] (wipe σ (own.map (·.2))) H' s' ∧ tn i s'.heap ∧ (∀ b ∈ fp, H' b = none) ∧ W i n H') ?_ m0 ⟨0, H3, I4, st4, nfp, w0⟩
    rintro n s5 ⟨i, H5, I5, st5, n5, w5⟩
    rcases turn i n H5 w5 with ⟨stop, qq⟩ | ⟨go, Nx, hNx, step⟩
    · have td := T.done (X.blk s3 H3 scope ce fp) rfl rfl rfl hc i [] s5 _ H5 (fun _ _ => False) I5 (stat I5 n5) st5 stop
      refine thnF td fun r s6 ⟨hr, I6⟩ => ?_
      subst hr
      -- back in the def's context
      have I7 : Inv X pins σ H5 s6 := I3.call' (ch := fp) I6.os I6.base I6.hok I6.bare fun b hb => ⟨(f3 b hb).1.2.2.2.1, (f3 b hb).1.2.1, (f3 b hb).1.2.2.2.2.1, (f3 b hb).1.2.2.2.2.2⟩
      have nC : H5 s3.heap.objs.size = none := by
        have z : H5 ce.locals = none := I6.free
        rw [cL] at z
        exact z
      obtain ⟨m, hn, _⟩ := I6.loc
      have hn : s6.heap.Ns ce.locals m := hn
      rw [cL] at hn
      exact hRR D s3.heap.objs.size s6 m H5 I7 qq hn (I3.fpOk (Nat.le_refl _) nC)
    · have ti := T.item (X.blk s3 H3 scope ce fp) rfl rfl rfl hc i [] s5 _ H5 (fun _ _ => False) I5 (stat I5 n5) st5 go
      refine thnF ti fun r s6 ⟨u, hr, h6⟩ => ?_
      subst hr
      refine thnF h6 fun _ s7 ⟨x, H7, I7, r7, y7, st7, n7⟩ => ?_
      have I7' := I7.pinned (stat I7 n7) (T.obj _ _ st7)
      refine thnF (pg.run _ s7 _ H7 x u _ I7' r7 (step x H7 y7)) fun _ s8 ⟨σ8, H8, I8, hw8, q8⟩ => ?_
      refine thnF (pt.run _ s8 σ8 H8 _ I8 q8) fun b s9 ⟨H9, I9, q9⟩ => ?_
      -- the turn's end
      have fin : ∀ {s' : Shared} {H' : Hp}, Inv (X.blk s3 H3 scope ce fp) ([] ++ pinsAt fp s7.heap) σ8 H' s' → Nx H' → ∃ m, m < n ∧ ∃ i H', Inv (X.blk s3 H3 scope ce fp) [] (wipe σ (own.map (·.2))) H' s' ∧ tn i s'.heap ∧ (∀ b ∈ fp, H' b = none) ∧ W i m H' := fun {s' H'} I' nx => by
        obtain ⟨m', hm, w'⟩ := hNx H' nx
        have pin' : ∀ b ∈ fp, ∀ o, s7.heap.get? b = some o → s'.heap.get? b = some o ∧ H' b = none := fun b hb o e =>
          let z := I'.pin (b, o) (List.mem_append_right _ (List.mem_append_right _ (mem_pinsAt hb e)))
          ⟨z.1, z.2.1⟩
        have hl : (wipe σ (own.map (·.2))).length = σ8.length := by rw [← hw8, wipe_length]
        refine ⟨m', hm, i + 1, H', (I'.unpinned (pins := [])).weak hl (fun j v e => ?_), T.keep _ _ _ st7 fun b hb o e => (pin' b hb o e).1, fun b hb => ?_, w'⟩
        · rw [← hw8] at e
          exact (wipe_some e).1
        · obtain ⟨o, e, _⟩ := T.obj _ _ st7 b hb
          exact (pin' b hb o e).2
      cases b with
      | false =>
        simp only [Bool.false_eq_true, if_false] at q9 ⊢
        exact fin I9 q9
      | true =>
        simp only [if_true] at q9 ⊢
        refine thnF (pk.run _ s9 σ8 H9 _ I9 q9) fun z s10 ⟨yk, H10, I10, r10, q10⟩ => ?_
        refine thnF (pe.run _ s10 σ8 H10 _ I10 q10) fun z2 s11 ⟨yv, H11, I11, r11, nx⟩ => ?_
        exact laydown_ok (X := X.blk s3 H3 scope ce fp) hu I11 r10 r11 nx fun s12 H12 I12 nx => fin I12 nx
  exact codeAny_compStart_dict loop (T.self X.A 0 _ _ _ st4 loop)
/-- as a value -/
theorem pe_dcx {kx vx tg iter : Expr} {ifs : List Expr} {scope : Scope} {own : List (Str × Nat)} {pos : Pos} {wi : TI} {g : TG} {tt : TT} {tk tv : TE} (hc : X.calm = true) (hu : X.A.units + 64 < cLine) (hN : X.N.Nodup) (hi : PI X tg iter wi) (ok : BlkOk X.N X.env.scope scope own)
    (hg : ∀ (s : Shared) (H : Hp) (C : Addr) (cl : List (Str × Addr)) (fp : List Addr), PG (X.blk s H scope (compEnvC scope cl C X.env) fp) tg g) (ht : ∀ (s : Shared) (H : Hp) (C : Addr) (cl : List (Str × Addr)) (fp : List Addr), PTs (X.blk s H scope (compEnvC scope cl C X.env) fp) ifs tt)
    (hk : ∀ (s : Shared) (H : Hp) (C : Addr) (cl : List (Str × Addr)) (fp : List Addr), PE (X.blk s H scope (compEnvC scope cl C X.env) fp) kx tk)
    (he : ∀ (s : Shared) (H : Hp) (C : Addr) (cl : List (Str × Addr)) (fp : List Addr), PE (X.blk s H scope (compEnvC scope cl C X.env) fp) vx tv) (hs : ∀ x, foldedSetIterable iter X.env x = pure x := by intro _; rfl) :
    PE X (.DictComp kx vx [⟨tg, iter, ifs, 0⟩] scope pos) (tDcX (gx X) wi g tt tk tv (own.map (·.2))) := by
  refine ⟨fun pins s σ H Q I h => ?_⟩
  rw [arm_eval_DictComp]
  refine dcx_core hc hu hN I hi ok hg ht hk he hs h fun D C s' m H' I' q hn f => ⟨m, hn, fun h'' sb => ?_⟩
  obtain ⟨f0, f1, f2, f3, f4, f5⟩ := f
  exact ⟨.ref D, H', I'.turned (t' := s'.toks) (fun b o hb e => (sb.2 b hb).trans e) f0 f1 f3 f4 f5, rfl, q⟩
/-! ### {k: v for target in iter if test} -/
def wDcR (g : WG) (t : WT) (wk we : WE) (vs : List Nat) (K : DK) : List D → List D → List D → En → Prop
  | [], ks, ws, e => K (.dct ks ws) e
  | d :: ds, ks, ws, e => g d (e.wipe vs) fun e2 => t e2 fun b e3 => if b = true then wk e3 fun y e4 => we e4 fun z e5 => kok ks y = true ∧ ks.length ≤ sizeLine ∧ wDcR g t wk we vs K ds (dput ks ws y z).1 (dput ks ws y z).2 (e5.back e vs) else wDcR g t wk we vs K ds ks ws (e3.back e vs)
def wDc (wi : WA) (g : WG) (t : WT) (wk we : WE) (vs : List Nat) : WE := fun e K => wi e fun ds e1 => wDcR g t wk we vs K ds [] [] e1
theorem up_dc {g : Gx} {wi : WA} {wg : WG} {wt : WT} {wk we : WE} : ∀ σ H Q, upN g (wDc wi wg wt wk we vs) σ H Q → tDcX g (upI g wi) (upGc g vs wg) (upT g wt) (up g wk) (up g we) vs σ H Q := fun σ H0 Q ⟨e0, K, r0, k0, q⟩ =>
  ⟨e0, _, r0, k0, fun ds e1 J H1 k1 a1 r1 go => fun D hD low => by
    have gr : Grow H1 (upd H1 D (dictO D #[])) := .new hD fun z => z
    let Inv' : Nat → Hp → Prop := fun i H => ∃ ks ws es kvs vvs e', ER g σ H e' ∧ Adv σ e1 H1 σ e' H ∧ ¬ Own σ e' D ∧ H D = some (dictO D es) ∧ (KsOk ks ∧ Entz g.w ks kvs vvs es.toList ∧ Reps g H ks kvs ∧ Reps g H ws vvs) ∧ wDcR wg wt wk we vs K (ds.drop i) ks ws e'
    refine ⟨fun i m H => m = ds.length - i ∧ i ≤ ds.length ∧ Inv' i H, ⟨ds.length, by simp, Nat.zero_le _, [], [], #[], [], [], e1, r1.grow gr, .grow gr, not_own r1 hD, upd_same, ⟨ks_nil, ⟨rfl, rfl, rfl⟩, rfl, rfl⟩, k1⟩, ?_⟩
    rintro i m H ⟨rfl, hi, ks, ws, es, kvs, vvs, e', r', a', no', hx, ⟨kk, en, rk, rv⟩, k'⟩
    by_cases hl : i < ds.length
    · have hd : ds[i]? = some ds[i] := List.getElem?_eq_getElem hl
      rw [List.drop_eq_getElem_cons hl] at k'
      obtain ⟨g1, g2⟩ := (go H a'.stab).1 i _ hd
      refine .inr ⟨g1, Inv' (i + 1), fun H' n => ⟨ds.length - (i + 1), by omega, rfl, hl, n⟩, fun x H2 y => ?_⟩
      obtain ⟨gr2, rp⟩ := g2 x H2 y
      have fin : ∀ (σ4 : L2.St) (e4 : En) (H4 : Hp), Adv (wipe σ vs) (e'.wipe vs) H2 σ4 e4 H4 → ER g σ4 H4 e4 → wipe σ4 vs = wipe σ vs → ER g σ H4 (e4.back e' vs) ∧ Adv σ e1 H1 σ (e4.back e' vs) H4 ∧ ¬ Own σ (e4.back e' vs) D ∧ H4 D = some (dictO D es) ∧ Reps g H4 ks kvs ∧ Reps g H4 ws vvs := fun σ4 e4 H4 A r4 hw => by
        have A2 : Adv (wipe σ vs) (e'.wipe vs) H σ4 e4 H4 := (Adv.grow gr2).trans A
        obtain ⟨b1, b2, b3⟩ := r'.back A2 r4 hw
        refine ⟨b1, a'.trans b2, fun q => (b3 D q).elim no' fun z => ?_, A2.keep D _ hx (fun q => no' (own_wipe q)) (fun z => z), rk.mono A2.stab ks kvs, rv.mono A2.stab ws vvs⟩
        rw [hx] at z
        cases z
      refine ⟨ds[i], e'.wipe vs, _, rp, (r'.grow gr2).wipe, k', fun e2 σ2 H3 k2 a2 r2 hw => by
        have hw2 := hw.trans wipe_twice
        refine ⟨hw2, e2, _, r2, k2, fun b e3 H4 k3 a3 r3 => ?_⟩
        cases b with
        | false =>
          obtain ⟨b1, b2, b3, b4, b5, b6⟩ := fin σ2 e3 H4 (a2.trans a3) r3 hw2
          exact iteF ⟨ks, ws, es, kvs, vvs, _, b1, b2, b3, b4, ⟨kk, en, b5, b6⟩, k3⟩
        | true =>
          refine iteT ⟨e3, _, r3, k3, fun yd e4 y H5 k5 a5 r5 ry => ⟨e4, _, r5, k5, fun zd e5 z H6 ⟨hk, hz, k6⟩ a6 r6 rz => ?_⟩⟩
          obtain ⟨b1, b2, b3, b4, b5, b6⟩ := fin σ2 e5 H6 (((a2.trans a3).trans a5).trans a6) r6 hw2
          refine ⟨es, kvs, vvs, ks, ws, yd, zd, b4, kk, en, b5, b6, hk, hz, ry.mono a6.stab yd y, rz, fun es' ⟨kvs', vvs', en', rk', rv'⟩ => ?_⟩
          obtain ⟨c1, c2⟩ := b1.other b4 (fun z => z) (fun z => z) (u' := dictO D es') (fun _ z => nomatch z) b3
          exact ⟨_, _, es', kvs', vvs', _, c1, b2.other hD c2, b3, upd_same, ⟨dput_ok kk hk, en', rk'.mono c2 _ _, rv'.mono c2 _ _⟩, k6⟩⟩
    · have e2 : i = ds.length := by omega
      subst e2
      rw [List.drop_length] at k'
      exact .inl ⟨(go H a'.stab).2, q (.dct ks ws) e' D H k' (a1.trans a') r' ⟨es, kvs, vvs, hx, ⟨low, kk⟩, en, rk, rv⟩ (a1.there D hD) no'⟩⟩
theorem dn_dc {kx vx tg iter : Expr} {ifs : List Expr} {scope : Scope} {own : List (Str × Nat)} {pos : Pos} {k : Nat} {wi : WA} {wg : WG} {wt : WT} {wk we : WE} (hr : Room k X.A) (hN : X.N.Nodup) (hi : DI X tg iter wi) (ok : BlkOk X.N X.env.scope scope own)
    (hg : ∀ (s : Shared) (H : Hp) (C : Addr) (cl : List (Str × Addr)) (fp : List Addr), CG (X.blk s H scope (compEnvC scope cl C X.env) fp) (own.map (·.2)) tg wg)
    (ht : ∀ (s : Shared) (H : Hp) (C : Addr) (cl : List (Str × Addr)) (fp : List Addr), PTs (X.blk s H scope (compEnvC scope cl C X.env) fp) ifs (upT (gx X) wt))
    (hk : ∀ (s : Shared) (H : Hp) (C : Addr) (cl : List (Str × Addr)) (fp : List Addr), DE (X.blk s H scope (compEnvC scope cl C X.env) fp) kx wk)
    (he : ∀ (s : Shared) (H : Hp) (C : Addr) (cl : List (Str × Addr)) (fp : List Addr), DE (X.blk s H scope (compEnvC scope cl C X.env) fp) vx we) (hc : X.calm = true := by rfl) (hs : ∀ x, foldedSetIterable iter X.env x = pure x := by intro _; rfl) :
    DN X (.DictComp kx vx [⟨tg, iter, ifs, 0⟩] scope pos) (wDc wi wg wt wk we (own.map (·.2))) := pe_imp (pe_dcx hc (room64 hr) hN hi ok hg ht hk he hs) up_dc
end
end DL
/-! DM, part a: {k: v, ..} with numbers and texts as keys. -/
namespace DL
open PySem PySem.Spec L2
def wPairs : List (D × WE) → En → (List D → En → Prop) → Prop
  | [], e, K => K [] e
  | (_, w) :: r, e, K => w e fun d e1 => wPairs r e1 fun ds e2 => K (d :: ds) e2
section
variable {X : Cx}
def trsD (g : Gx) (kws : List (D × WE)) : List (TE × TE) := kws.map fun p => (tC p.1.cv, up g p.2)
theorem up_pairs {g : Gx} {σ : L2.St} : ∀ {kws : List (D × WE)} {H : Hp} {e : En} {K : List D → En → Prop} {Q : List (V × V) → Hp → Prop}, ER g σ H e → wPairs kws e K →
    (∀ ds e' vs H', K ds e' → Adv σ e H σ e' H' → ER g σ H' e' → Reps g H' ds vs → ds.length = kws.length → Q (List.zip ((kws.map (·.1)).map D.cv) vs) H') → tPairs (trsD g kws) σ H Q
  | [], H, e, K, Q, r, k, q => q [] e [] H k (.refl ..) r rfl rfl
  | (kd, w) :: kws, H, e, K, Q, r, k, q => ⟨e, _, r, k, fun d e1 v H1 k1 a1 r1 p1 => up_pairs (kws := kws) r1 k1 fun ds e2 vs H2 k2 a2 r2 p2 hl =>
      q (d :: ds) e2 (v :: vs) H2 k2 (a1.trans a2) r2 ⟨v, vs, rfl, p1.mono a2.stab d v, p2⟩ (by rw [List.length_cons, List.length_cons, hl])⟩
theorem carriesD {P : Program} {w : World} : ∀ {ks : List D} {xs : List V} {ws : List (Value × Value)}, ks.all D.fk = true → xs.length = ks.length → VV (List.zip (ks.map D.cv) xs) ws → ∃ rs, Carries (mixKind P w) ws rs ∧ rs.map (·.1) = ks.map D.mk ∧ Vals xs (rs.map (·.2))
  | [], xs, _, _, hl, r => by
    cases xs with
    | nil => cases r; exact ⟨[], True.intro, rfl, .nil⟩
    | cons _ _ => simp at hl
  | k :: ks, [], _, _, hl, _ => by simp at hl
  | k :: ks, x :: xs, _, hf, hl, r => by
    rw [List.all_cons, Bool.and_eq_true] at hf
    rw [List.map_cons, List.zip_cons_cons] at r
    cases r with
    | @cons a b as bs h t =>
      obtain ⟨rs, c, q1, q2⟩ := carriesD (P := P) (w := w) hf.2 (by simpa using hl) t
      obtain ⟨b1, b2⟩ := b
      have hk : keyIs k.mk b1 = true := by
        cases k with
        | int i => obtain ⟨t, e⟩ := h.1; rw [show b1 = _ from e]; exact keyIs_int i t
        | str i => obtain ⟨t, e⟩ := h.1; rw [show b1 = _ from e]; exact keyIs_str i t
        | _ => simp [D.fk] at hf
      exact ⟨(k.mk, b2) :: rs, ⟨hk, rfl, c⟩, by rw [List.map_cons, List.map_cons, q1], .cons h.2 q2⟩
/-- {k: v, ..} -/
def tDispX (g : Gx) (kws : List (D × WE)) : TE := fun σ H Q => ∀ p, H p = none → (p == sysModules) = false → tPairs (trsD g kws) σ (upd H p (dictO p #[])) fun ps H2 => H2 p = some (dictO p #[]) ∧ ∃ xs, xs.length = kws.length ∧ ps = List.zip ((kws.map (·.1)).map D.cv) xs ∧
  ∀ es' kvs, Entz g.w (kws.map (·.1)) kvs xs es'.toList → Reps g H2 (kws.map (·.1)) kvs → Q (.ref p) (upd H2 p (dictO p es'))
theorem pe_dispX {pos : Pos} {keys : List (Option Expr)} {values : List Expr} {kws : List (D × WE)} (h : PPs X pos keys values (trsD (gx X) kws)) (hf : (kws.map (·.1)).all D.fk = true) (nd : (kws.map (·.1)).Nodup) (hall : keys.all (·.isSome) = true) (hl : keys.length = values.length) (h0 : keys ≠ []) (h15 : keys.length ≤ 15) :
    PE X (.Dict keys values pos) (tDispX (gx X) kws) := by
  refine ⟨fun pins s σ H Q I q => ?_⟩
  have hn := I.hok.fresh (Nat.le_refl s.heap.objs.size)
  have I1 := I.laid (a := s.heap.objs.size) (o := dictO s.heap.objs.size #[]) (h' := s.heap.push { cls := .type "dict", data := .dict #[] }) (t' := s.toks) (fun _ _ q => Heap.get?_push_of_some _ q) (Nat.le_refl _) dictO_new
  refine wpAny_Dict_walk (knd := mixKind X.prog X.w) hall hl h0 h15 (thn (h.run pins _ σ _ _ I1 (q _ hn (big_low I))) fun ws s2 ⟨ps, H2, I2, rel, e, xs, hx, ep, q2⟩ => ?_)
  subst ep
  obtain ⟨rs, c, k1, k2⟩ := carriesD (P := X.prog) (w := X.w) hf (by rw [hx, List.length_map]) rel
  obtain ⟨ep0, o0, g1, g2, g3⟩ := dd_raw I2 (.inl e)
  refine ⟨rs, c, ⟨o0, #[], ep0, g1, g2, g3, (fun x z => by simp at z), .nil, List.nodup_nil⟩, fun h' dd' sb => ?_⟩
  have hnd : (rs.map (·.1)).Nodup := by rw [k1]; exact map_inj_nodup (fun _ _ => mk_inj) hf nd
  rw [merged_nil_of_nodup rs hnd] at dd'
  obtain ⟨o, es', ep', ho, hc, hd, kk, pp, _⟩ := dd'
  obtain ⟨q3, q4⟩ := ent_of (g := gx X) (H := H2) pp (fun e he => kk e (by simpa using he)) k1 k2 hf
  have J : Inv X pins σ (upd H2 s.heap.objs.size (dictO s.heap.objs.size es')) { s2 with heap := h', toks := s2.toks + ws.length } :=
    d_write I2 (by rw [e]; exact True.intro) sb ⟨o, ho⟩ ⟨⟨ep', o, ho, hc, hd⟩, ⟨o, ho⟩, fun h1 h2 ⟨e1, z⟩ k => ⟨e1, z.at k⟩⟩
  exact ⟨.ref s.heap.objs.size, _, J, rfl, q2 es' _ q3 q4⟩
def wDisp (kws : List (D × WE)) : WE := fun e K => wPairs kws e fun ds e1 => K (.dct (kws.map (·.1)) ds) e1
theorem dn_disp {pos : Pos} {keys : List (Option Expr)} {values : List Expr} {kws : List (D × WE)} (h : PPs X pos keys values (trsD (gx X) kws)) (hf : (kws.map (·.1)).all D.fk = true := by rfl) (nd : (kws.map (·.1)).Nodup := by decide) (hall : keys.all (·.isSome) = true := by rfl) (hl : keys.length = values.length := by rfl) (h0 : keys ≠ [] := by intro z; cases z)
    (h15 : keys.length ≤ 15 := by decide) : DN X (.Dict keys values pos) (wDisp kws) := pe_imp (pe_dispX h hf nd hall hl h0 h15) fun σ H Q ⟨e, K, r, k, q⟩ => fun p hp low => by
  have gr : Grow H (upd H p (dictO p #[])) := .new hp fun z => z
  have no := not_own r hp
  refine up_pairs (r.grow gr) k fun ds e' vs H2 k2 a2 r2 p2 hlen => ?_
  have e2 : H2 p = some (dictO p #[]) := a2.keep p _ upd_same no (fun z => z)
  have no2 : ¬ Own σ e' p := fun z => (a2.owns p z).elim no fun z => by
    rw [upd_same] at z; cases z
  refine ⟨e2, vs, by rw [p2.length, hlen], rfl, fun es' kvs en rk => ?_⟩
  obtain ⟨c1, c2⟩ := r2.other e2 (fun z => z) (fun z => z) (u' := dictO p es') (fun _ z => nomatch z) no2
  exact q _ e' p _ k2 (((Adv.grow gr).trans a2).other hp c2) c1 ⟨es', kvs, vs, upd_same, ⟨low, ⟨nd, .inl hf⟩⟩, en, rk.mono c2 _ _, p2.mono c2 _ _⟩ hp no2
theorem pk_nil {pos : Pos} : PPs X pos [] [] (trsD (gx X) []) := pps_nil
theorem pk_str {pos p2 : Pos} {x : Str} {j} {v : Expr} {ks : List (Option Expr)} {vs : List Expr} {w : WE} {kws : List (D × WE)} (hv : DE X v w) (hr : PPs X pos ks vs (trsD (gx X) kws)) : PPs X pos (some (.Constant (.str x) j p2) :: ks) (v :: vs) (trsD (gx X) ((.str x, w) :: kws)) := pps_cons pe_str hv hr
end
end DL
/-! DM, part b: with more room. -/
namespace DL
open PySem PySem.Spec L2
section
variable {P : Program} {w : World} {K : PySem.W.Frag} {mg : Str → Option Value} {base : Heap} {x : Str} {C : Addr} {j k : Nat} {dd : List D} {sp : FS}
theorem DefAt.up (D : DefAt P w K mg base x j dd sp) (h : j ≤ k) : DefAt P w K mg base x k dd sp :=
  let ⟨f, fd, ps, dvs, us, a, b, c, d, e, F⟩ := D.ex
  ⟨f, fd, ps, dvs, us, a, b, c, d, e, F.mono h⟩
theorem MetAt.up (D : MetAt P w K mg base C x j dd sp) (h : j ≤ k) : MetAt P w K mg base C x k dd sp :=
  let ⟨f, fd, ps, dvs, us, a, b, c, d, F⟩ := D.ex
  ⟨D.cls, f, fd, ps, dvs, us, a, b, c, d, F.mono h⟩
theorem MkAt.up (D : MkAt P w K mg base x C j dd sp) (h : j ≤ k) : MkAt P w K mg base x C k dd sp :=
  let ⟨f, fd, ps, dvs, us, a, b, c, d, e, F⟩ := D.ex
  ⟨f, fd, ps, dvs, us, a, b, c, d, e, F.mono h⟩
end
/-- the block of a comprehension, looked at by computing -/
def blkB (N : List Str) (sc scope : Scope) (own : List (Str × Nat)) : Bool :=
  scope.names.all (fun y => decide (scope.names.lookup y.1 = some y.2)) && own.all (fun p => decide (N[p.2]? = some p.1)) &&
  scope.names.all (fun y => !decide (y.2 = .free) || (decide (sc.names.lookup y.1 = some .cell) || decide (sc.names.lookup y.1 = some .free))) &&
  scope.names.all (fun y => !(decide (y.2 = .local) || decide (y.2 = .cell)) || (decide (y.1 ∈ own.map (·.1)) || decide (y.1 ∉ N)))
theorem blk_of {N : List Str} {sc scope : Scope} {own : List (Str × Nat)} (hk : scope.kind = .function) (h : blkB N sc scope own = true) : BlkOk N sc scope own := by
  unfold blkB at h
  simp only [Bool.and_eq_true, List.all_eq_true, Bool.or_eq_true, Bool.not_eq_true', decide_eq_true_eq, decide_eq_false_iff_not] at h
  obtain ⟨⟨⟨h1, h2⟩, h3⟩, h4⟩ := h
  refine ⟨hk, h1, h2, fun y hy e => (h3 y hy).resolve_left fun z => z e, fun y hy e => (h4 y hy).resolve_left fun z => ?_⟩
  simp only [Bool.or_eq_false_iff, decide_eq_false_iff_not] at z
  exact e.elim z.1 z.2
theorem ipadd_ok {g : Gx} : Op2 g (fun x y H Q => ipI (fun i j => i + j) x y H Q) (iop (fun _ _ => True) fun i j => i + j) := fun H x y dx dy z Q rx ry h q => by
  cases dx with
  | int i =>
    cases dy with
    | int j =>
      simp only [iop] at h
      split at h
      · cases h
        rw [show x = _ from rx, show y = _ from ry]
        exact ⟨i, j, rfl, rfl, q _ H (.refl H) rfl⟩
      · cases h
    | _ => cases h
  | _ => cases h
section
variable {X : Cx}
/-- name = [..] on one line -/
theorem ds_setLc {i : Nat} {y : Str} {py : Pos} {elt tg iter : Expr} {ifs : List Expr} {scope : Scope} {own : List (Str × Nat)} {pos spos : Pos} {wi : WA} {wg : WG} {wt : WT} {we : WE} (hN : X.N.Nodup) (hi : DI X tg iter wi) (ok : BlkOk X.N X.env.scope scope own)
    (hg : ∀ (s : Shared) (H : Hp) (C : Addr) (cl : List (Str × Addr)) (fp : List Addr), CG (X.blk s H scope (compEnvC scope cl C X.env) fp) (own.map (·.2)) tg wg)
    (ht : ∀ (s : Shared) (H : Hp) (C : Addr) (cl : List (Str × Addr)) (fp : List Addr), PTs (X.blk s H scope (compEnvC scope cl C X.env) fp) ifs (upT (gx X) wt))
    (he : ∀ (s : Shared) (H : Hp) (C : Addr) (cl : List (Str × Addr)) (fp : List Addr), DE (X.blk s H scope (compEnvC scope cl C X.env) fp) elt we) (hy : X.N[i]? = some y := by rfl) (hyl : X.env.scope.names.lookup y = some .local := by rfl)
    (hk : X.env.scope.kind = .function := by rfl) (hl : (py.line == pos.line) = true := by rfl) (hn : (scope.names.any fun (n, k) => n == y && (k == .local || k == .cell)) = false := by rfl) (hc : X.calm = true := by rfl) (hs : ∀ x, foldedSetIterable iter X.env x = pure x := by intro _; rfl) :
    DS X (.Assign [.Name y py] (.ListComp elt [⟨tg, iter, ifs, 0⟩] scope pos) spos) (wSetN i (wLc wi wg wt we (own.map (·.2)))) :=
  ps_imp (ps_setLc hc hN hy hyl (sw_true hk hyl hl hn) hi ok hg ht he hs) fun D σ H h => up_lc σ H _ (up_setN D σ H h)
end
end DL
/-! DM, part c: a def's own dict is shown to another def that only looks at it. -/
namespace DL
open PySem PySem.Spec L2
section
variable {X : Cx} {pins : List (Addr × Obj)} {σ : L2.St} {H H1 H3 : Hp} {s s3 : Shared} {a : Addr} {u : HO} {o : Obj}
theorem Inv.thaw (I : Inv X pins σ H s) (ha : H a = some u) (hp : Plain u) (J : Inv X pins σ H3 s3) (h3 : H3 a = some (.frz o u)) : Inv X pins σ (upd H3 a u) s3 where
  ok := J.ok
  os := J.os
  bare := J.bare
  base := ⟨J.base.keep, J.base.slot, fun b ob e n hx => by
      have := J.base.free b ob e n hx
      rw [upd_ne (fun q => by rw [q, h3] at this; cases this)]
      exact this, J.base.there, fun b xs e => by
      have := J.base.tups b xs e
      rw [upd_ne (fun q => by rw [q, h3] at this; cases this)]
      exact this, fun b ob v e => by
      have := J.base.frzs b ob v e
      rw [upd_ne (fun q => by
        have z := I.base.frzs b ob v e
        rw [q, ha] at z
        cases z
        exact hp)]
      exact this, fun b ps e => by
      obtain ⟨m, h⟩ := J.base.tbls b ps e
      exact ⟨m, by rw [upd_ne (fun q => by rw [q, h3] at h; cases h)]; exact h⟩⟩
  loc := J.loc
  cell := J.cell
  free := by
    have := J.free
    rw [upd_ne (fun q => by rw [q, h3] at this; cases this)]
    exact this
  freeC := fun x c e => by
    have := J.freeC x c e
    rw [upd_ne (fun q => by rw [q, h3] at this; cases this)]
    exact this
  pin := fun p hp => by
    obtain ⟨z1, z2, z3⟩ := J.pin p hp
    exact ⟨z1, by rw [upd_ne (fun q => by rw [q, h3] at z2; cases z2)]; exact z2, z3⟩
  hok := fun b v e => by
    have no : ∀ c y, H3 c = some (.own y) → c ≠ a := fun c y q z => by rw [z, h3] at q; cases q
    have nt : ∀ c xs, H3 c = some (.tup xs) → c ≠ a := fun c xs q z => by rw [z, h3] at q; cases q
    by_cases hb : b = a
    · subst hb
      rw [upd_same] at e
      cases e
      have z : ObjOk X.prog X.w H3 s3.heap b (.frz o u) := J.hok b _ h3
      exact z.2.stay (fun _ _ _ q => q) (fun c q => by rw [upd_ne (no c _ q)]; exact q) fun c xs q => by rw [upd_ne (nt c xs q)]; exact q
    · rw [upd_ne hb] at e
      exact (J.hok b v e).stay (fun _ _ _ q => q) (fun c q => by rw [upd_ne (no c _ q)]; exact q) fun c xs q => by rw [upd_ne (nt c xs q)]; exact q
  len := J.len
end
theorem flat_mono {g : Gx} {H H' : Hp} {d : D} {v : V} (h : flat d = true) (r : Rep g H d v) : Rep g H' d v := by
  cases d <;> first | exact r | cases h
def SlV (σ : L2.St) : List Nat → List V → Prop
  | [], vs => vs = []
  | i :: is, vs => ∃ v r, vs = v :: r ∧ σ[i]? = some (some v) ∧ SlV σ is r
def tSl (is : List Nat) : TA := fun σ H Q => ∃ vs, SlV σ is vs ∧ Q vs H
/-- f(names), one of the names being the def's own dict -/
def wCallB (i : Nat) (sp : FS) (dd : List D) (is : List Nat) : WE := fun e K => ∃ ks vs, e.sl[i]? = some (.ow (.dct ks vs)) ∧ ∃ ds, (is.map fun j => (e.put i (.fz (.dct ks vs))).sl[j]?) = ds.map (fun d => some (.fz d)) ∧
  sp (ds ++ dd) e.cnt (fun d c => flat d = true ∧ K d { e with cnt := c }) fun _ _ => False
theorem sl_reps {g : Gx} {σ : L2.St} {H : Hp} {e : En} (r : ER g σ H e) : ∀ {is : List Nat} {ds : List D}, (is.map fun j => e.sl[j]?) = ds.map (fun d => some (.fz d)) → ∃ vs, SlV σ is vs ∧ Reps g H ds vs
  | [], [], _ => ⟨[], rfl, rfl⟩
  | [], _ :: _, h => by simp at h
  | _ :: _, [], h => by simp at h
  | i :: is, d :: ds, h => by
    rw [List.map_cons, List.map_cons] at h
    injection h with h1 h2
    obtain ⟨v, e1, e2⟩ := r.fz i d h1
    obtain ⟨vs, e3, e4⟩ := sl_reps r h2
    exact ⟨v :: vs, ⟨v, vs, rfl, e1, e3⟩, ⟨v, vs, rfl, e2, e4⟩⟩
section
variable {X : Cx} {e : Expr} {es : List Expr} {is : List Nat} {x y : Str} {p py pos : Pos} {k i j : Nat} {dd : List D} {sp : FS}
theorem pn_nil : PA X [] (tSl []) := pa_imp pa_nil fun σ H Q ⟨vs, h, q⟩ => by rw [show vs = [] from h] at q; exact q
theorem pn_cons (h : PA X es (tSl is)) (hN : X.N[j]? = some y := by rfl) (hv : Vis X.env.scope y := by first | exact Or.inl rfl | exact Or.inr (Or.inl rfl) | exact Or.inr (Or.inr rfl)) (hd : (y == ("__debug__" : Str)) = false := by decide) (hcd : (y == ("__classdict__" : Str)) = false := by decide)
    (hs : starEach (.Name y py :: es) X.env = (false, eval (.Name y py) X.env) :: starEach es X.env := by rfl) : PA X (.Name y py :: es) (tSl (j :: is)) :=
  pa_imp (pa_cons (pe_var (pos := py) hN hv hd hcd) h hs) fun σ H Q ⟨vs, ⟨v, r, e1, e2, e3⟩, q⟩ => ⟨v, e2, r, e3, by rw [e1] at q; exact q⟩
theorem de_callB (i : Nat) (D : DefAt X.prog X.w X.K X.mg X.base x k dd sp) (hr : Room k X.A) (ha : PA X (e :: es) (tSl is)) (hg : Gl X x := by rfl) (hdb : (x == ("__debug__" : Str)) = false := by decide) (he : starEach (e :: es) X.env = (false, eval e X.env) :: starEach es X.env := by rfl)
    (hpl : (backTo pos (starEach es X.env)).any (·.1) = false := by rfl) : DE X (.Call (.Name x p) (e :: es) [] pos) (wCallB i sp dd is) := ⟨fun pins s σ H Q I ⟨e0, K, r, ⟨ks, ws, hi, ds, hds, hsp⟩, q⟩ => by
  obtain ⟨f, fd, ps, dvs, us, hm, hk, hb, hv, hd, F⟩ := D.ex
  obtain ⟨a, h1, c⟩ := r.ow i _ hi
  obtain ⟨ess, kvs, vvs, hH, z1, z2, z3, z4⟩ := c
  obtain ⟨o, ho, J⟩ := Inv.freeze I hH trivial
  have ne : ∀ b v, H b = some v → (∀ φ, v ≠ .ext φ) → b ≠ a := fun b v h n z => by
    rw [z, hH] at h
    cases h
    exact n _ rfl
  have st1 : Stab H (upd H a (.frz o (dictO a ess))) := ⟨fun b v h i => by
      rw [upd_ne (ne b v h fun φ z => by rw [z] at i; exact i)]; exact h, fun b kv h => ⟨kv, by rw [upd_ne (ne b _ h fun φ z => nomatch z)]; exact h⟩⟩
  have fz : Frzn H (upd H a (.frz o (dictO a ess))) a := ⟨st1, fun b v h n _ => by rw [upd_ne n]; exact h, fun b kv h => by
      by_cases w : b = a
      · rw [w, upd_same] at h; cases h
      · rw [upd_ne w] at h; exact h, fun b h => by
      by_cases w : b = a
      · rw [w, upd_same] at h; cases h
      · rw [upd_ne w] at h; exact h⟩
  have rp : Rep (gx X) (upd H a (.frz o (dictO a ess))) (.dct ks ws) (.ref a) := ⟨a, ess, kvs, vvs, rfl, ⟨o, upd_same⟩, z1, z2, z3.mono st1 _ _, z4.mono st1 _ _⟩
  obtain ⟨r1, a1⟩ := r.frzn_own hi h1 fz rp
  obtain ⟨vs, sv, rs⟩ := sl_reps r1 hds
  refine thn ((pe_call (E := E0) F hr hg hm hk hb hv passE0 ha hdb he hpl).run pins s σ (upd H a (.frz o (dictO a ess))) (fun v H3 => ∃ d c, (flat d = true ∧ K d { e0 with cnt := c }) ∧ Out (upd H a (.frz o (dictO a ess))) H3 ∧ Pens (gx X) H3 c ∧ Rep (gx X) H3 d v) J
    ⟨vs, sv, ds ++ dd, e0.cnt, _, _, rs.append (hd _), r1.pens, hsp, fun d c v H' k' o' p' r' => ⟨d, c, k', o', p', r'⟩, fun _ _ _ _ _ z => z.elim⟩) fun u s1 h2 => ?_
  obtain ⟨v, H3, I3, rv, d, c, ⟨fl, kk⟩, out, pe, rd⟩ := h2
  have h3 : H3 a = some (.frz o (dictO a ess)) := out.keep a _ upd_same fun z => z
  have I4 := Inv.thaw I hH trivial I3 h3
  have keep : ∀ b v, H b = some v → b ≠ a → ¬ Lo v → upd H3 a (dictO a ess) b = some v := fun b v h n l => by
    rw [upd_ne n]
    exact out.keep b v (by rw [upd_ne n]; exact h) l
  have st : Stab H (upd H3 a (dictO a ess)) := ⟨fun b v h i => by
      have n := ne b v h fun φ z => by rw [z] at i; exact i
      rw [upd_ne n]
      exact out.stab.imm b v (by rw [upd_ne n]; exact h) i, fun b kv h => by
      have n := ne b _ h fun φ z => nomatch z
      obtain ⟨kv', h'⟩ := out.stab.pens b kv (by rw [upd_ne n]; exact h)
      exact ⟨kv', by rw [upd_ne n]; exact h'⟩⟩
  have nw : ∀ b, upd H3 a (dictO a ess) b = none → H b = none := fun b h => by
    by_cases w : b = a
    · rw [w, upd_same] at h; cases h
    · rw [upd_ne w] at h
      have := out.there b h
      rwa [upd_ne w] at this
  refine ⟨v, upd H3 a (dictO a ess), I4, rv, q d { e0 with cnt := c } v _ kk ⟨fun b v h n l => keep b v h (fun z => n ⟨i, _, hi, by rw [z]; exact h1⟩) l, st, nw, fun b h => .inl h⟩ ⟨fun j dj h => ?_, fun j dj h => ?_, r.apart, fun b kv h => ?_, r.len⟩ (flat_mono fl rd)⟩
  · obtain ⟨v, e1, e2⟩ := r.fz j dj h
    exact ⟨v, e1, e2.mono st dj v⟩
  · obtain ⟨b, e1, e2⟩ := r.ow j dj h
    by_cases w : b = a
    · subst w
      have : j = i := r.apart j i dj _ b h hi e1 h1
      subst this
      rw [hi] at h
      cases h
      exact ⟨b, e1, ess, kvs, vvs, upd_same, z1, z2, z3.mono st _ _, z4.mono st _ _⟩
    · obtain ⟨o', eo, _, nl⟩ := e2.there
      exact ⟨b, e1, e2.keep st fun o' z => keep b o' z w fun l => by
        rw [eo] at z
        cases z
        exact nl l⟩
  · have w : b ≠ a := fun z => by rw [z, upd_same] at h; cases h
    rw [upd_ne w] at h
    obtain ⟨l, ns, at_, dg, cc, f, e1, ⟨ol, e2⟩, e3⟩ := pe b kv h
    exact ⟨l, ns, at_, dg, cc, f, e1, ⟨ol, by
      rw [upd_ne (fun z => by rw [z, h3] at e2; cases e2)]
      exact e2⟩, e3⟩⟩
/-! ### name == e, the name being looked at only -/
theorem dp_ofL {g : Gx} {H : Hp} {d : D} {v : V} {q : PyData} (r : RepL g H d v) (h : d.py = some q) : Dp g.K H v q := by
  rcases r with r | ⟨a, rfl, c⟩
  · exact dp_of d v q r h
  · cases d with
    | lst ds =>
      obtain ⟨xs, e, rs⟩ := c
      rw [D.py] at h
      cases z : D.pys ds with
      | none => rw [z] at h; cases h
      | some ps => rw [z] at h; cases h; exact .lst (.inl (.inl e)) (dps_of ds xs ps rs z)
    | _ => first | exact c.elim | (simp [D.py] at h)
theorem eqoL_ok {g : Gx} : Op2L g (rEqD g.K) D.eqo := fun H x y dx dy z Q rx ry h q => by
  unfold D.eqo at h
  cases hk : eqc dx dy with
  | none => rw [hk] at h; cases h
  | some k =>
    rw [hk] at h
    cases h
    obtain ⟨a, b, h1, h2, s1, s2, rfl⟩ := eqc_cases hk
    exact ⟨a, b, dp_ofL rx h1, dp_ofL ry h2, s1, s2, q _ H (.refl H) (.inl rfl)⟩
theorem neoL_ok {g : Gx} : Op2L g (rNeD g.K) D.neo := fun H x y dx dy z Q rx ry h q => by
  unfold D.neo at h
  cases hk : eqc dx dy with
  | none => rw [hk] at h; cases h
  | some k =>
    rw [hk] at h
    cases h
    obtain ⟨a, b, h1, h2, s1, s2, rfl⟩ := eqc_cases hk
    exact ⟨a, b, dp_ofL rx h1, dp_ofL ry h2, s1, s2, q _ H (.refl H) (.inl rfl)⟩
variable {b : Expr} {wb : WE}
theorem dt_cmpO {op : CmpOp} {r : R2} {f : D → D → Option D} (ho : OpR X (compareOp op) r) (o : Op2L (gx X) r f) (i : Nat) (hb : DE X b wb) (hN : X.N[i]? = some y) (hv : Vis X.env.scope y) (hd : (y == ("__debug__" : Str)) = false) (hcd : (y == ("__classdict__" : Str)) = false) (hm : behindInMarks op b = false) :
    DT X (.Compare (.Name y p) [op] [b] pos) (wTst (w2O i f wb)) := pt_imp (pt_cmpR ho (pe_var hN hv hd hcd) hb hm) fun σ H Q ⟨e, K, r, k, q⟩ => up_2o o σ H _ ⟨e, _, r, ⟨k.1, k.2⟩, fun d e1 x H1 ⟨b, hb, k1⟩ a1 r1 p1 => ⟨b, by
      rcases p1 with p1 | ⟨_, _, _, c, _⟩
      · rw [hb] at p1; exact p1
      · rw [hb] at c; exact c.elim, q b e1 H1 k1 a1 r1⟩⟩
theorem dt_eqO (hr : Room k X.A) (i : Nat) (hb : DE X b wb) (hN : X.N[i]? = some y := by rfl) (hv : Vis X.env.scope y := by first | exact Or.inl rfl | exact Or.inr (Or.inl rfl) | exact Or.inr (Or.inr rfl)) (hd : (y == ("__debug__" : Str)) = false := by decide) (hcd : (y == ("__classdict__" : Str)) = false := by decide)
    (hm : behindInMarks .Eq b = false := by first | exact nomark _ | rfl) : DT X (.Compare (.Name y p) [.Eq] [b] pos) (wTst (w2O i D.eqo wb)) := dt_cmpO (op_eqD (room64 hr)) eqoL_ok i hb hN hv hd hcd hm
theorem dt_neO (hr : Room k X.A) (i : Nat) (hb : DE X b wb) (hN : X.N[i]? = some y := by rfl) (hv : Vis X.env.scope y := by first | exact Or.inl rfl | exact Or.inr (Or.inl rfl) | exact Or.inr (Or.inr rfl)) (hd : (y == ("__debug__" : Str)) = false := by decide) (hcd : (y == ("__classdict__" : Str)) = false := by decide)
    (hm : behindInMarks .NotEq b = false := by first | exact nomark _ | rfl) : DT X (.Compare (.Name y p) [.NotEq] [b] pos) (wTst (w2O i D.neo wb)) := dt_cmpO (op_neD (room64 hr)) neoL_ok i hb hN hv hd hcd hm
end
end DL
/-! DM, part d: x is not True, a or b of any values. -/
namespace DL
open PySem PySem.Spec L2
section
variable {X : Cx} {a b : Expr} {rest : List Expr} {pos : Pos} {wa wb : WE}
theorem op_notB : OpR X (compareOp .IsNot) (fun x y H Q => ∃ b, y = .bl b ∧ Q (.bl (!decide (x = .bl b))) H) := by
  intro pins s σ H x y v u Q I rx ry h
  obtain ⟨b, rfl, q⟩ := h
  cases (show u = Value.bool b from ry)
  cases v with
  | bool c =>
    have ex : x = .bl c := by
      cases x <;> first
        | (obtain ⟨t, e⟩ := rx; cases e; done)
        | (cases rx; rfl)
        | (cases rx; done)
    subst ex
    by_cases e : c = b
    · subst e
      exact wpAny_isNot_self rfl ⟨.bl false, H, I, rfl, by simpa using q⟩
    · exact wpAny_isNot_other rfl (fun z => e (Value.bool.inj z)) ⟨.bl true, H, I, rfl, by simpa [e] using q⟩
  | builtin n =>
    cases x <;> first
      | (obtain ⟨t, e⟩ := rx; cases e; done)
      | (cases rx; done)
  | _ =>
    rw [decide_eq_false (fun e => by rw [e] at rx; cases (show _ = Value.bool b from rx))] at q
    exact wpAny_pure ⟨.bl true, H, I, rfl, q⟩
def D.nsw : D → D → Option D
  | x, .non => some (.bl (!x.isNon))
  | x, .bl b => some (.bl (!x.isBl b))
  | _, _ => none
theorem nsw_ok {g : Gx} : Op2 g (fun x y H Q => (y = .non ∧ Q (.bl (!decide (x = .non))) H) ∨ ∃ b, y = .bl b ∧ Q (.bl (!decide (x = .bl b))) H) D.nsw := fun H x y dx dy z Q rx ry h q => by
  cases dy with
  | non =>
    cases h
    refine .inl ⟨ry, ?_⟩
    rw [rep_non rx]
    exact q _ H (.refl H) rfl
  | bl b =>
    cases h
    refine .inr ⟨b, ry, ?_⟩
    rw [rep_bl rx]
    exact q _ H (.refl H) rfl
  | _ => cases h
theorem de_isnot2 (ha : DE X a wa) (hb : DE X b wb) (hm : behindInMarks .IsNot b = false := by first | exact nomark _ | rfl) : DE X (.Compare a [.IsNot] [b] pos) (w2 D.nsw wa wb) := de_cmp (op_notN.or op_notB) nsw_ok ha hb hm
theorem dt_isnot2 (ha : DE X a wa) (hb : DE X b wb) (hm : behindInMarks .IsNot b = false := by first | exact nomark _ | rfl) : DT X (.Compare a [.IsNot] [b] pos) (wTst (w2 D.nsw wa wb)) := dt_cmp (op_notN.or op_notB) nsw_ok ha hb hm
/-- a or b: a where it is true in a test -/
def wOrT (wa wb : WE) : WE := fun e K => wa e fun d e1 => ∃ b, d.tru = some b ∧ if b = true then K d e1 else wb e1 K
def wAndT (wa wb : WE) : WE := fun e K => wa e fun d e1 => ∃ b, d.tru = some b ∧ if b = true then wb e1 K else K d e1
theorem de_orT (h : DE X a wa) (hr : DE X (.BoolOp .Or (b :: rest) pos) wb) : DE X (.BoolOp .Or (a :: b :: rest) pos) (wOrT wa wb) := pe_imp (pe_orT h hr) fun σ H Q ⟨e, K, r, k, q⟩ =>
  ⟨e, _, r, k, fun d e1 x H1 ⟨c, hc, k1⟩ a1 r1 p1 => ⟨c, tru_of (g := gx X) p1 hc, by
    cases c with
    | true => exact iteT (q d e1 x H1 k1 a1 r1 p1)
    | false => exact iteF ⟨e1, K, r1, k1, fun c2 e2 v H2 k2 a2 r2 p2 => q c2 e2 v H2 k2 (a1.trans a2) r2 p2⟩⟩⟩
theorem de_andT (h : DE X a wa) (hr : DE X (.BoolOp .And (b :: rest) pos) wb) : DE X (.BoolOp .And (a :: b :: rest) pos) (wAndT wa wb) := pe_imp (pe_andT h hr) fun σ H Q ⟨e, K, r, k, q⟩ =>
  ⟨e, _, r, k, fun d e1 x H1 ⟨c, hc, k1⟩ a1 r1 p1 => ⟨c, tru_of (g := gx X) p1 hc, by
    cases c with
    | true => exact iteT ⟨e1, K, r1, k1, fun c2 e2 v H2 k2 a2 r2 p2 => q c2 e2 v H2 k2 (a1.trans a2) r2 p2⟩
    | false => exact iteF (q d e1 x H1 k1 a1 r1 p1)⟩⟩
end
end DL
/-! DM, part e: the law's pen; defs, methods, classes as they are called, from what the head tells. -/
namespace DL
open PySem PySem.Spec L2
/-! ### _law_pen -/
def wFoldB : WS := (wSet 1 (w2 (iop (fun _ j => 0 < j) fun i j => i % j) (w1 D.int1 (w2 D.add (w2 (iop CMul fun i j => i * j) (wN 1) (wC (.int 149))) (wN 2))) (wC (.int 1000000453))))
def W__law_pen (fold0 : Int) : WS := (wSeq (wSet 1 (wC (.int fold0)))
  (wSeq (wFor (wIt (wN 0)) (wgN 2) wFoldB)
  (wRet (wPen 0 1))))
theorem fold_loop {F : Fn} {s0 : S} {c : Nat} : ∀ (ns : List Int) (f : Int) (s2 : S), 0 ≤ f → f < 2147483171 → (∀ f s2, 0 ≤ f → f < 2147483171 → F.nx ⟨[s0, .fz (.int f), s2], c, none⟩) → wForR (wgN 2) wFoldB F (ns.map .int) ⟨[s0, .fz (.int f), s2], c, none⟩
  | [], f, s2, h1, h2, h => by simpa [wForR] using h f s2 h1 h2
  | n :: ns, f, s2, h1, h2, h => by
    have ih := fold_loop (F := F) (s0 := s0) (c := c) ns ((f * 149 + n) % 1000000453) (.fz (.int n)) (Int.emod_nonneg _ (by decide)) (by have := Int.emod_lt_of_pos (f * 149 + n) (b := 1000000453) (by decide); omega) h
    rw [List.map_cons, wForR]
    generalize wForR (wgN 2) wFoldB F (ns.map .int) = R at ih
    simp only [wFoldB, wgN, wSet, w2, w1, wN, wC]
    simp [En.asg]
    refine ⟨.int (f * 149), ?_, .int (f * 149 + n), rfl, .int (f * 149 + n), rfl, .int ((f * 149 + n) % 1000000453), ?_, ih⟩
    · show (if CMul f 149 then some (D.int (f * 149)) else none) = _
      rw [if_pos (.inl ⟨by omega, by omega⟩)]
    · show (if (0 : Int) < 1000000453 then some (D.int ((f * 149 + n) % 1000000453)) else none) = _
      rw [if_pos (by decide)]
theorem q_pen (fold0 : Int) (h0 : 0 ≤ fold0) (h1 : fold0 < 1000) (ds : List D) (c : Nat) (K KE : D → Nat → Prop) (h : spPen ds c K KE) : W__law_pen fold0 (en0 ["script", "fold", "cell"] ds c) { nx := fun e => K .non e.cnt, rt := K } := by
  obtain ⟨ns, rfl, h⟩ := h
  simp only [W__law_pen, wSeq, wSet, wC, wFor, wIt, wN, wRet, en0]
  simp [En.asg]
  refine ⟨_, rfl, ?_⟩
  refine fold_loop ns fold0 .un h0 (by omega) fun f s2 f0 f1 => ?_
  exact ⟨ns, f, rfl, rfl, f0, f1, h⟩
/-! ### from the head -/
def spNo : FS := fun _ _ _ _ => False
section
variable {P : Program} {w : World} {K : PySem.W.Frag} {mg : Str → Option Value} {base : Heap} {x m y qual : Str} {params : Arguments} {body : List Stmt} {scope : Scope} {kws : List (Str × V)} {f C : Addr} {fd : FuncData} {k : Nat} {ps : List Str} {sp : FS}
theorem dfn_no : DFn P w K mg base 0 f fd ps spNo := ⟨fun _ _ _ _ ⟨_, _, _, _, _, _, h, _⟩ => h.elim, fun _ _ _ _ _ _ _ _ _ _ _ _ _ ⟨_, _, _, _, _, _, h, _⟩ => h.elim⟩
theorem defat (F : FunD K y qual params body scope [] kws f fd) (hm : mg x = some (.ref f)) (b : Binds K fd ps []) (D : DFn P w K mg base k f fd ps sp) : DefAt P w K mg base x k [] sp := ⟨f, fd, ps, [], [], hm, F.kp, b, .nil, fun _ => rfl, D⟩
theorem metat (c : Cls K C) (M : Meth K C m f) (b : Binds K fd ps []) (D : DFn P w K mg base k f fd ps sp) : MetAt P w K mg base C m k [] sp := ⟨c, f, fd, ps, [], [], M, b, .nil, fun _ => rfl, D⟩
theorem mkat (hm : mg x = some (.ref C)) (M : Mk K C f) (b : Binds K fd ps []) (D : DFi P w K mg base C k f fd ps sp) : MkAt P w K mg base x C k [] sp := ⟨f, fd, ps, [], [], hm, M, b, .nil, fun _ => rfl, D⟩
end
/-! ### the head's facts, and classes that isinstance asks for -/
def isiB (K : PySem.W.Frag) (x : Str) : Bool := PySem.W.plainGet K (He.ga K x) "__class__" && (PySem.W.hasDictIn K (He.ga K x) && (decide (PySem.W.findIn K (.ref (He.ga K x)) "__class__" = some (some (.builtin "object.__class__"))) &&
  (decide (PySem.W.specialIn K (.builtin "object.__class__") "__get__" = some (some (.builtin "getset_descriptor.__get__"))) && (decide (PySem.W.takesIn K (.builtin "object.__class__") = some true) && (decide (PySem.W.mroIn K (He.ga K x) (.type "object") = some true) &&
  (tyNames.all fun n => PySem.W.kitOne K (.type n) (.ref (He.ga K x)) == some false))))))
theorem isi_ok {K : PySem.W.Frag} {x : Str} (h : isiB K x = true) : ClI K (He.ga K x) ∧ (tyNames.all fun n => PySem.W.kitOne K (.type n) (.ref (He.ga K x)) == some false) = true := by
  unfold isiB at h
  simp only [Bool.and_eq_true, decide_eq_true_eq] at h
  obtain ⟨h1, h2, h3, h4, h5, h6, h7⟩ := h
  exact ⟨⟨h1, h2, h3, h4, h5, h6⟩, h7⟩
structure SaysX (fa : List He.Fa) (fn : List He.DefD) (xs : List Str) (K : PySem.W.Frag) : Prop where
  a : He.SaysD fa fn K
  b : xs.all (isiB K) = true
theorem SaysX.isi {fa : List He.Fa} {fn : List He.DefD} {xs : List Str} {K : PySem.W.Frag} (c : SaysX fa fn xs K) {x : Str} (h : x ∈ xs) : isiB K x = true := List.all_eq_true.mp c.b x h
def obX (n : Nat) (fa : List He.Fa) (fn : List He.DefD) (xs : List Str) (g : Addr → Option Obj) : He.AlD × Bool := (He.obsDG n fa fn g, xs.all (isiB (He.frG g (He.asD g n))))
def hookX (n : Nat) (fa : List He.Fa) (fn : List He.DefD) (xs : List Str) : PySem.W.Hook := { α := He.AlD × Bool, obs := fun s => obX n fa fn xs s.heap.get?, val := fun _ => (He.valD fn, true), says := fun _ h => ∃ K : PySem.W.Frag, K.In h ∧ SaysX fa fn xs K, of := fun _ _ e => ⟨_, He.frG_in, ⟨congrArg Prod.fst e, congrArg Prod.snd e⟩⟩, keeps := fun _ _ _ ⟨K, hK, c⟩ k => ⟨K, PySem.W.Frag.In.keeps hK k, c⟩ }
theorem obX_eq {n : Nat} {fa : List He.Fa} {fn : List He.DefD} {xs : List Str} {g : Addr → Option Obj} {s : Shared} (h : ∀ a, g a = s.heap.get? a) : obX n fa fn xs g = (hookX n fa fn xs).obs s := by
  have e : g = s.heap.get? := funext h
  rw [e] <;> rfl
theorem SaysX.mem {fa : List He.Fa} {fn : List He.DefD} {xs : List Str} {K : PySem.W.Frag} (c : SaysX fa fn xs K) {f : He.Fa} (h : f ∈ fa) : f.ok K = true := by
  obtain ⟨i, hi⟩ := List.mem_iff_getElem?.mp h
  exact c.a.fact i hi
/-- a state that the head leaves -/
structure Lft (fa : List He.Fa) (fn : List He.DefD) (xs nbs : List Str) (h : Heap) (mg : Str → Option Value) (K : PySem.W.Frag) : Prop where
  X : K.In h
  G : h.Ns mainGlobals mg
  c : SaysX (fa ++ nbs.map He.Fa.free) fn xs K
section
variable {fa : List He.Fa} {fn : List He.DefD} {xs nbs : List Str} {h : Heap} {mg : Str → Option Value} {K : PySem.W.Frag}
theorem Lft.fact (L : Lft fa fn xs nbs h mg K) (i : Nat) {f : He.Fa} (e : fa[i]? = some f) : f.ok K = true := L.c.mem (List.mem_append_left _ (List.mem_of_getElem? e))
theorem Lft.nb (L : Lft fa fn xs nbs h mg K) : ∀ x ∈ nbs, mg x = none := fun x hx => He.free_ok L.X L.G (L.c.mem (List.mem_append_right _ (List.mem_map.mpr ⟨x, hx, rfl⟩)))
theorem Lft.glo (L : Lft fa fn xs nbs h mg K) {x : Str} (i : Nat) (e : fa[i]? = some (.glo x) := by rfl) : mg x = some (.ref (He.ga K x)) := He.glo_ok L.X L.G (L.fact i e)
theorem Lft.cls (L : Lft fa fn xs nbs h mg K) {x : Str} (i : Nat) (e : fa[i]? = some (.cls x) := by rfl) : Cls K (He.ga K x) := He.cls_ok (L.fact i e)
theorem Lft.clf (L : Lft fa fn xs nbs h mg K) {x y : Str} (i j : Nat) (e : fa[i]? = some (.cls x) := by rfl) (e2 : fa[j]? = some (.noat x y) := by rfl) : ClF K y (He.ga K x) := ⟨He.cls_ok (L.fact i e), He.noat_ok (L.fact j e2)⟩
theorem Lft.meth (L : Lft fa fn xs nbs h mg K) {x m : Str} (i : Nat) (e : fa[i]? = some (.meth x m) := by rfl) : Meth K (He.ga K x) m (He.ma K (He.ga K x) m) := He.meth_ok (L.fact i e)
theorem Lft.mkr (L : Lft fa fn xs nbs h mg K) {x : Str} (i : Nat) (e : fa[i]? = some (.mkr x) := by rfl) : Mk K (He.ga K x) (He.ma K (He.ga K x) "__init__") := He.mkr_ok (L.fact i e)
theorem Lft.str (L : Lft fa fn xs nbs h mg K) {x z : Str} (i : Nat) (e : fa[i]? = some (.str x z) := by rfl) : ∃ u, mg x = some u ∧ RelV (flatV (.str z)) u := by
  obtain ⟨t, ht⟩ := He.str_ok L.X L.G (L.fact i e)
  exact ⟨_, ht, t, rfl⟩
end
/-- the script as the law's call hands it over -/
theorem scr_call {P : Program} {w : World} {K : PySem.W.Frag} {H : Hp} {a : Addr} {ns : List Int} {sp : FS} {b : Bool} (hO : Only H) (hS : SqL K H a (ns.map V.int)) (h : sp [.scr ns] 0 (fun d _ => d = .bl b) fun _ _ => False) : spOf ⟨P, w, K⟩ sp [.ref a] H (fun v _ => v = .bl b) fun _ _ _ => False := by
  refine ⟨[.scr ns], 0, _, _, ⟨.ref a, [], rfl, ⟨a, rfl, ?_⟩, rfl⟩, fun c kvs e => ?_, h, fun d c v H' k _ _ r => ?_, fun _ _ _ _ _ z => z.elim⟩
  · rcases hS with (e | ⟨o, e⟩) | e
    · rcases hO a with z | ⟨o, xs, z⟩
      · rw [e] at z; cases z
      · rw [e] at z; cases z
    · exact .inl ⟨o, e⟩
    · exact .inr e
  · rcases hO c with z | ⟨o, xs, z⟩
    · rw [e] at z; cases z
    · rw [e] at z; cases z
  · subst k
    exact r
/-- no error is let out: the promise in any context -/
theorem fn_cx {P : Program} {w : World} {K : PySem.W.Frag} {mg : Str → Option Value} {base : Heap} {k : Nat} {f : Addr} {fd : FuncData} {ps : List Str} {sp : Sp} {C : CXT} (F : FnOk P w K mg base (CX P w) k f fd ps sp) : FnOk P w K mg base C k f fd ps (fun vs H Q _ => sp vs H Q fun _ _ _ => False) :=
  ⟨fun vs H Q E h => F.len _ _ _ _ h, fun A outer s H args us vs Q E hr he hb hv hs => codeAny_mono (F.run A outer s H args us vs Q _ hr he hb hv hs) fun r s' hq => by
    cases r with
    | error e =>
      obtain ⟨_, _, _, _, _, _, _, _, _, _, _, _, z⟩ := hq
      exact z.elim
    | ok fl => cases fl <;> exact hq⟩
end DL
/-! DM, part f: sep.join(xs), x.split(sep), a == b by the class's own __eq__. -/
namespace DL
open PySem PySem.Spec L2
def strsD : List D → Option (List Str)
  | [] => some []
  | .str x :: ds => (strsD ds).map (x :: ·)
  | _ :: _ => none
theorem strsD_reps {g : Gx} {H : Hp} : ∀ {ds : List D} {ys : List Str} {xs : List V}, strsD ds = some ys → Reps g H ds xs → xs = ys.map V.str
  | [], ys, xs, h, r => by cases h; exact r
  | d :: ds, ys, xs, h, ⟨v, vs, e, r, rs⟩ => by
    cases d with
    | str x =>
      obtain ⟨zs, h', rfl⟩ := Option.map_eq_some_iff.mp h
      rw [e, strsD_reps h' rs, show v = _ from r]; rfl
    | _ => cases h
def joinOk (a : Str) (ys : List Str) : Bool := decide ((ys.map (·.length)).sum + ys.length * a.length ≤ 16777216)
def joinD (a : Str) : D → Option D
  | .lst ds => (strsD ds).bind fun ys => if joinOk a ys = true then some (.str (Txt.join a ys)) else none
  | .tup ds => (strsD ds).bind fun ys => if joinOk a ys = true then some (.str (Txt.join a ys)) else none
  | _ => none
/-- a.join(e) -/
def wJoin (wo we : WE) : WE := fun e K => wo e fun d e1 => ∃ t, d = .str t ∧ we e1 fun y e2 => ∃ z, joinD t y = some z ∧ K z e2
/-- a.split(b), a new list -/
def wSplit (wo we : WE) : WE := fun e K => wo e fun d e1 => ∃ t, d = .str t ∧ we e1 fun y e2 => ∃ b, y = .str b ∧ (b.length == 0) = false ∧ t.length + 2 ≤ sizeLine ∧ K (.lst ((Txt.split t b).map .str)) e2
theorem strs_rep {g : Gx} {H : Hp} : ∀ ys : List Str, Reps g H (ys.map D.str) (ys.map V.str)
  | [] => rfl
  | y :: ys => ⟨_, _, rfl, rfl, strs_rep ys⟩
section
variable {X : Cx} {o e a b : Expr} {apos pos : Pos} {wo we wa wb : WE}
theorem de_join (ho : DE X o wo) (he : DE X e we) (hs : starEach [e] X.env = [(false, eval e X.env)] := by rfl) (hbase : attributeBase o "join" X.env (eval o X.env) = eval o X.env := by rfl) (hline : (apos.endLine == pos.line) = true := by rfl) :
    DE X (.Call (.Attribute o "join" apos) [e] [] pos) (wJoin wo we) := pe_imp (pe_join ho he hs hbase hline) fun σ H Q ⟨e, K, r, k, q⟩ => ⟨e, _, r, k, fun d e1 x H1 ⟨t, hd, k1⟩ a1 i1 r1 => by
  subst hd
  refine ⟨⟨t, r1⟩, e1, _, i1, k1, fun dy e2 y H2 ⟨z, hz, k2⟩ a2 i2 r2 => ?_⟩
  have fin : ∀ (ds : List D) (p : Addr) (xs : List V), Reps (gx X) H2 ds xs → (SqL X.K H2 p xs ∨ SqT X.K H2 p xs) → y = .ref p → ((strsD ds).bind fun ys => if joinOk t ys = true then some (D.str (Txt.join t ys)) else none) = some z → (∃ a p, ∃ ys : List Str, x = .str a ∧ [y] = [.ref p] ∧ (SqL X.K H2 p (ys.map V.str) ∨ SqT X.K H2 p (ys.map V.str)) ∧
      (ys.map (·.length)).sum + ys.length * a.length ≤ 16777216 ∧ Q (.str (Txt.join a ys)) H2) := fun ds p xs rs hq ey h => by
    obtain ⟨ys, h1, h2⟩ := Option.bind_eq_some_iff.mp h
    split at h2
    · rename_i ok
      cases h2
      rw [strsD_reps h1 rs] at hq
      exact ⟨t, p, ys, r1, by rw [ey], hq, of_decide_eq_true ok, q _ e2 _ H2 k2 (a1.trans a2) i2 rfl⟩
    · cases h2
  cases dy with
  | lst ds => obtain ⟨p, xs, ey, hx, rs⟩ := r2; exact fin ds p xs rs (.inl hx.sq) ey hz
  | tup ds => obtain ⟨p, xs, ey, hx, rs⟩ := r2; exact fin ds p xs rs (.inr hx) ey hz
  | _ => cases hz⟩
theorem dn_split (ho : DE X o wo) (he : DE X e we) (hs : starEach [e] X.env = [(false, eval e X.env)] := by rfl) (hbase : attributeBase o "split" X.env (eval o X.env) = eval o X.env := by rfl) (hline : (apos.endLine == pos.line) = true := by rfl) :
    DN X (.Call (.Attribute o "split" apos) [e] [] pos) (wSplit wo we) := pe_imp (pe_splitAny ho he hs hbase hline) fun σ H Q ⟨e, K, r, k, q⟩ => ⟨e, _, r, k, fun d e1 x H1 ⟨t, hd, k1⟩ a1 i1 r1 => by
  subst hd
  refine ⟨⟨t, r1⟩, e1, _, i1, k1, fun dy e2 y H2 ⟨u, hu, hl, hz, k2⟩ a2 i2 r2 => ?_⟩
  subst hu
  refine .inl ⟨t, u, r1, by rw [show y = _ from r2], hl, hz, fun p hp => ?_⟩
  have gr : Grow H2 (upd H2 p (.lst ((Txt.split t u).map V.str))) := .new hp fun z => z
  exact q _ e2 p _ k2 ((a1.trans a2).trans (.grow gr)) (i2.grow gr) ⟨_, upd_same, strs_rep _⟩ ((a1.trans a2).there p hp) (not_own i2 hp)⟩
/-! ### == by __eq__ -/
def rEqI (P : Program) (w : World) (K : PySem.W.Frag) (C : Addr) (sp : FS) : R2 := fun x y H Q => (∃ ns ds, Rep ⟨P, w, K⟩ H (.obj C ns ds) x) ∧ (∃ ns ds, Rep ⟨P, w, K⟩ H (.obj C ns ds) y) ∧ spOf ⟨P, w, K⟩ sp [x, y] H (fun v H' => (∃ b, v = .bl b) ∧ Q v H') fun _ _ _ => False
theorem op_eqI {C : Addr} {sp : FS} {k j : Nat} (M : MetAt X.prog X.w X.K X.mg X.base C "__eq__" j [] sp) (hr : Room k X.A) (hj : j ≤ k) (hnf : PySem.W.notFirst X.K C (.ref C) = true) : OpR X (compareOp .Eq) (rEqI X.prog X.w X.K C sp) := by
  intro pins s σ H x y v u Q I rx ry ⟨⟨ns, ds, r1⟩, ⟨ns', ds', r2⟩, h⟩
  obtain ⟨f, fd, ps, dvs, us, hm, hb, hv, hd, F⟩ := M.ex
  have hdv : dvs = [] := List.eq_nil_of_length_eq_zero (by simpa using (hd H).length)
  subst hdv
  obtain ⟨a, dx, mA, vs, rfl, O, no, fl, rs⟩ := frzO I r1
  obtain ⟨b, dy, mB, vs', rfl, O', no', fl', rs'⟩ := frzO I r2
  obtain rfl : v = Value.ref a := rx
  obtain rfl : u = Value.ref b := ry
  obtain ⟨od, J, _⟩ := O.look
  obtain ⟨od', J', _⟩ := O'.look
  obtain ⟨m, hF⟩ := I.fr
  have hu : X.A.units < cLine := by
    have := room64 (hr.mono hj)
    omega
  refine PySem.W.cmp_K (op := .Eq) (tb := .ref C) hu hF I.ok.mod.kin J J'.type hnf hm.at_ hm.fn ?_
  refine wpAny_mono (run_fn (us := [.ref a, .ref b]) (vs := [.ref a, .ref b]) F (hr.mono hj) hb hv passE0 I (.cons rfl (.cons rfl .nil)) (by simpa using h)) (fun r s' hq => ?_) fun _ _ x => x
  obtain ⟨z, H', I', rz, hzq⟩ := hq
  have hz : ∃ b, z = V.bl b := hzq.1.elim (fun e => ⟨_, e⟩) fun e => ⟨_, e⟩
  have q : Q z H' := hzq.2
  clear hzq
  obtain ⟨c, hc⟩ := hz
  rw [hc] at rz q
  have er : r = Value.bool c := rz
  rw [er]
  exact ⟨.bl c, H', I', rfl, q⟩
/-- a == b, instances of the class, its __eq__ told by sp -/
def wEqI (C : Addr) (sp : FS) (wa wb : WE) : WE := fun e K => wa e fun x e1 => wb e1 fun y e2 => (∃ ns ds, x = .obj C ns ds) ∧ (∃ ns ds, y = .obj C ns ds) ∧ sp [x, y] e2.cnt (fun z c => (∃ b, z = .bl b) ∧ K z { e2 with cnt := c }) fun _ _ => False
theorem up_eqI {g : Gx} {C : Addr} {sp : FS} : ∀ σ H Q, up g (wEqI C sp wa wb) σ H Q → tOp (rEqI g.P g.w g.K C sp) (up g wa) (up g wb) σ H Q := fun σ H Q ⟨e, K, r, k, q⟩ =>
  ⟨e, _, r, k, fun d e1 x H1 k1 a1 i1 r1 => ⟨e1, _, i1, k1, fun dy e2 y H2 ⟨⟨ns, ds, h1⟩, ⟨ns', ds', h2⟩, hs⟩ a2 i2 r2 => by
    subst h1
    subst h2
    have rx := r1.mono a2.stab _ x
    refine ⟨⟨ns, ds, rx⟩, ⟨ns', ds', r2⟩, [.obj C ns ds, .obj C ns' ds'], e2.cnt, _, _, ⟨x, [y], rfl, rx, ⟨y, [], rfl, r2, rfl⟩⟩, i2.pens, hs, fun z c v H' ⟨⟨b, hb⟩, hk⟩ o p' r' => ⟨⟨b, ?_⟩, ?_⟩, fun _ _ _ _ _ z => z.elim⟩
    · rw [hb] at r'; exact r'
    · exact q z _ v H' hk ((a1.trans a2).trans (o.adv (g := g) c)) (i2.out o p') r'⟩⟩
variable {C : Addr} {sp : FS} {k j : Nat}
theorem de_eqI (M : MetAt X.prog X.w X.K X.mg X.base C "__eq__" j [] sp) (hr : Room k X.A) (hj : j ≤ k) (hnf : PySem.W.notFirst X.K C (.ref C) = true) (ha : DE X a wa) (hb : DE X b wb) (hm : behindInMarks .Eq b = false := by first | exact nomark _ | rfl) : DE X (.Compare a [.Eq] [b] pos) (wEqI C sp wa wb) :=
  pe_imp (pe_cmpR (op_eqI M hr hj hnf) ha hb hm) up_eqI
theorem dt_eqI (M : MetAt X.prog X.w X.K X.mg X.base C "__eq__" j [] sp) (hr : Room k X.A) (hj : j ≤ k) (hnf : PySem.W.notFirst X.K C (.ref C) = true) (ha : DE X a wa) (hb : DE X b wb) (hm : behindInMarks .Eq b = false := by first | exact nomark _ | rfl) : DT X (.Compare a [.Eq] [b] pos) (wTst (wEqI C sp wa wb)) :=
  pt_imp (pt_cmpR (op_eqI M hr hj hnf) ha hb hm) fun σ H Q ⟨e, K, r, k, q⟩ => up_eqI σ H _ ⟨e, _, r, k, fun d e1 x H1 ⟨b, hb, k1⟩ a1 r1 p1 => ⟨b, by rw [hb] at p1; exact p1, q b e1 H1 k1 a1 r1⟩⟩
end
end DL
/-! DM, part g: errors: raise, what a def lets out, try .. except C as e. -/
namespace DL
open PySem PySem.Spec L2
open PyProof.Rows (envOfC)

abbrev WSX := En → Fn → (D → En → Prop) → Prop
abbrev WEX := En → (D → En → Prop) → (D → En → Prop) → Prop
/-- the errors that XR allows are taken by W -/
def XO (g : Gx) (W : L2.WX) (σ : L2.St) (e : En) (H : Hp) (XR : D → En → Prop) : Prop := ∀ d e' cls dd σ' H', XR d e' → Adv σ e H σ' e' H' → ER g σ' H' e' → ErrAt g H' d cls dd → W cls dd σ' H'
theorem XO.adv {g : Gx} {W : L2.WX} {σ σ1 : L2.St} {e e1 : En} {H H1 : Hp} {XR : D → En → Prop} (x : XO g W σ e H XR) (a : Adv σ e H σ1 e1 H1) : XO g W σ1 e1 H1 XR := fun d e' cls dd σ' H' h a' r q => x d e' cls dd σ' H' h (a.trans a') r q
def upX (g : Gx) (W : L2.WX) (w : WSX) : TS := fun D σ H => ∃ e F XR, XO g W σ e H XR ∧ ER g σ H e ∧ w e F XR ∧ (∀ e' σ' H', F.nx e' → Adv σ e H σ' e' H' → ER g σ' H' e' → D.nx σ' H') ∧ (∀ e' σ' H', F.bk e' → Adv σ e H σ' e' H' → ER g σ' H' e' → D.bk σ' H') ∧
  (∀ e' σ' H', F.ct e' → Adv σ e H σ' e' H' → ER g σ' H' e' → D.ct σ' H') ∧ ∀ d c v H', F.rt d c → Lv σ e H H' → Pens g H' c → Rep g H' d v → D.rt v H'
def upEX (g : Gx) (W : L2.WX) (w : WEX) : TE := fun σ H Q => ∃ e K XR, XO g W σ e H XR ∧ ER g σ H e ∧ w e K XR ∧ ∀ d e' v H', K d e' → Adv σ e H σ e' H' → ER g σ H' e' → Rep g H' d v → Q v H'
def DX (X : Cx) (st : Stmt) (w : WSX) : Prop := ∀ W : L2.WX, Takes X W → PS X st (upX (gx X) W w)
def DXs (X : Cx) (sts : List Stmt) (w : WSX) : Prop := ∀ W : L2.WX, Takes X W → PSs X sts (upX (gx X) W w)
def DEX (X : Cx) (e : Expr) (w : WEX) : Prop := ∀ W : L2.WX, Takes X W → PE X e (upEX (gx X) W w)

section
variable {X : Cx} {st : Stmt} {rest body body2 : List Stmt} {t : WS} {tx ux : WSX} {e a b c : Expr} {es : List Expr} {w : WE} {wx : WEX} {wt : WT} {ws : WA} {pos pos' p : Pos} {x : Str}
def wOf (t : WS) : WSX := fun e F _ => t e F
theorem dx_of (h : DS X st t) : DX X st (wOf t) := fun W tk => ps_imp h fun D σ H ⟨e, F, XR, _, r, k, q⟩ => ⟨e, F, r, k, q⟩
theorem dxs_of (h : DSs X rest t) : DXs X rest (wOf t) := fun W tk => pss_imp h fun D σ H ⟨e, F, XR, _, r, k, q⟩ => ⟨e, F, r, k, q⟩
def wEOf (w : WE) : WEX := fun e K _ => w e K
theorem dex_of (h : DE X e w) : DEX X e (wEOf w) := fun W tk => pe_imp h fun σ H Q ⟨e, K, XR, _, r, k, q⟩ => ⟨e, K, r, k, q⟩
def wSeqX (t u : WSX) : WSX := fun e F XR => t e { F with nx := fun e' => u e' F XR } XR
theorem dxs_nil : DXs X [] (wOf wNx) := dxs_of ds_nil
theorem dxs_cons (h1 : DX X st tx) (h2 : DXs X rest ux) : DXs X (st :: rest) (wSeqX tx ux) := fun W tk => pss_imp (pss_cons (h1 W tk) (h2 W tk)) fun D σ H ⟨e, F, XR, xo, r, k, n, b, c, l⟩ =>
  ⟨e, _, XR, xo, r, k, fun e' σ' H' k' a' r' => ⟨e', F, XR, xo.adv a', r', k', fun e2 σ2 H2 k2 a2 r2 => n e2 σ2 H2 k2 (a'.trans a2) r2, fun e2 σ2 H2 k2 a2 r2 => b e2 σ2 H2 k2 (a'.trans a2) r2, fun e2 σ2 H2 k2 a2 r2 => c e2 σ2 H2 k2 (a'.trans a2) r2,
    fun d m v H2 k2 a2 p2 r2 => l d m v H2 k2 (a'.lvt a2) p2 r2⟩, b, c, l⟩
theorem dxs_one (h1 : DX X st tx) : DXs X [st] tx := fun W tk => pss_one (h1 W tk)
def wIfX (c : WT) (t u : WSX) : WSX := fun e F XR => c e fun b e1 => if b = true then t e1 F XR else u e1 F XR
theorem dx_if (hc : DT X c wt) (ha : DXs X body tx) (hb : DXs X body2 ux) : DX X (.If c body body2 pos) (wIfX wt tx ux) := fun W tk => ps_imp (ps_if hc (ha W tk) (hb W tk)) fun D σ H ⟨e, F, XR, xo, r, k, n, b, c, l⟩ =>
  ⟨e, _, r, k, fun z e1 H1 k1 a1 r1 => by
    have go : ∀ (q : WSX), q e1 F XR → upX (gx X) W q D σ H1 := fun q k2 => ⟨e1, F, XR, xo.adv a1, r1, k2, fun e2 σ2 H2 k2 a2 r2 => n e2 σ2 H2 k2 (a1.trans a2) r2, fun e2 σ2 H2 k2 a2 r2 => b e2 σ2 H2 k2 (a1.trans a2) r2, fun e2 σ2 H2 k2 a2 r2 => c e2 σ2 H2 k2 (a1.trans a2) r2,
      fun d m v H2 k2 a2 p2 r2 => l d m v H2 k2 (a1.lvt a2) p2 r2⟩
    cases z with
    | true => exact iteT (go tx k1)
    | false => exact iteF (go ux k1)⟩
/-! ### a call whose error goes on -/
def wCallX (sp : FS) (ws : WA) : WEX := fun e K XR => ws e fun ds e1 => sp ds e1.cnt (fun d c => K d { e1 with cnt := c }) fun d c => XR d { e1 with cnt := c }
theorem dex_call {k : Nat} {sp : FS} (D : DefAt X.prog X.w X.K X.mg X.base x k [] sp) (hr : Room k X.A) (ha : DA X (e :: es) ws) (hg : Gl X x := by rfl) (hdb : (x == ("__debug__" : Str)) = false := by decide) (he : starEach (e :: es) X.env = (false, eval e X.env) :: starEach es X.env := by rfl)
    (hpl : (backTo pos (starEach es X.env)).any (·.1) = false := by rfl) : DEX X (.Call (.Name x p) (e :: es) [] pos) (wCallX sp ws) := fun W tk => by
  obtain ⟨f, fd, ps, dvs, us, hm, hk, hb, hv, hd, F⟩ := D.ex
  have hdv : dvs = [] := List.eq_nil_of_length_eq_zero (by simpa using (hd fun _ => none).length)
  subst hdv
  cases hv
  refine pe_imp (pe_callS F hr hg hm hk hb (passAt tk) ha hdb he hpl) fun σ H Q ⟨e, K, XR, xo, r, k, q⟩ => ?_
  refine ⟨e, _, r, k, fun ds e1 vs H1 k1 a1 r1 p1 => ⟨ds, e1.cnt, _, _, p1, r1.pens, k1, fun d c v H' k' o p' r' => q d _ v H' k' (a1.trans (o.adv (g := gx X) c)) (r1.out o p') r', fun d c cls dd H' z o p' er => xo d _ cls dd σ H' z (a1.trans (o.adv (g := gx X) c)) (r1.out o p') er⟩⟩
def wDropX (w : WEX) : WSX := fun e F XR => w e (fun _ e1 => F.nx e1) XR
theorem dx_expr (he : DEX X e wx) (hs : swapsWith e none pos.line X.env = pure false := by rfl) : DX X (.Expr e pos) (wDropX wx) := fun W tk => ps_imp (ps_expr (he W tk) hs) fun D σ H ⟨e, F, XR, xo, r, k, n, _⟩ =>
  ⟨e, _, XR, xo, r, k, fun _ e1 _ H1 k1 a1 r1 _ => n e1 σ H1 k1 a1 r1⟩
def wRetX (w : WEX) : WSX := fun e F XR => w e (fun d e1 => F.rt d e1.cnt) XR
theorem dx_ret (he : DEX X e wx) : DX X (.Return (some e) pos) (wRetX wx) := fun W tk => ps_imp (ps_ret (he W tk)) fun D σ H ⟨e, F, XR, xo, r, k, _, _, _, l⟩ =>
  ⟨e, _, XR, xo, r, k, fun d e1 v H1 k1 a1 r1 p1 => l d e1.cnt v H1 k1 a1.lv r1.pens p1⟩
def wSetX (i : Nat) (w : WEX) : WSX := fun e F XR => w e (fun d e1 => F.nx (e1.asg i (.fz d))) XR
theorem dx_set {i : Nat} {x : Str} {pos' : Pos} (hN : X.N.Nodup) (he : DEX X e wx) (hi : X.N[i]? = some x := by rfl) (hx : Loc X.env.scope x := by first | exact Or.inl rfl | exact Or.inr rfl) (hs : swapsWith e (some (.Name x pos')) pos.line X.env = pure false := by rfl)
    (hf : X.fn x = true ∨ X.env.scope.names.lookup x = some .local := by first | exact .inl rfl | exact .inr rfl | assumption) : DX X (.Assign [.Name x pos'] e pos) (wSetX i wx) := fun W tk => ps_imp (ps_set hN hi hx (he W tk) hs hf) fun D σ H ⟨e, F, XR, xo, r, k, n, _⟩ =>
  ⟨e, _, XR, xo, r, k, fun d e1 v H1 k1 a1 r1 p1 => n _ _ H1 k1 (a1.trans .put) (r1.put p1)⟩
end

/-! ### raise C(..) -/
/-- C.__init__ that only stores its arguments under the names ns -/
def spIni (C : Addr) (ns : List Str) : Sp := fun vs H Q _ => ∃ (a : Addr) (ys : List V), vs = .ref a :: ys ∧ ys.length = ns.length ∧ H a = some (exo a C none) ∧
  ∀ H' dx, H dx = none → dx ≠ a → H' a = some (exo a C (some dx)) → H' dx = some (exd dx ((ns.zip ys).reverse)) → (∀ b, b ≠ a → b ≠ dx → H' b = H b) → Q .non H'
/-- a class of errors with such an __init__, as those that raise it see it -/
structure ErrC (P : Program) (w : World) (K : PySem.W.Frag) (mg : Str → Option Value) (base : Heap) (x : Str) (C : Addr) (ns : List Str) (k : Nat) : Prop where
  nd : ns.Nodup
  few : ns.length ≤ 900
  gl : mg x = some (.ref C)
  oex : OexC K C
  ex : ∃ (f : Addr) (fd : FuncData) (ps : List Str), PySem.W.findIn K (.ref C) "__init__" = some (some (.ref f)) ∧ PySem.W.typeIn K (.ref f) = some (.type "function") ∧ Binds K fd ps [] ∧ FnOk P w K mg base (CX P w) k f fd ps (spIni C ns)
theorem Reps.reverse {g : Gx} {H : Hp} : ∀ {ds : List D} {xs : List V}, Reps g H ds xs → Reps g H ds.reverse xs.reverse
  | [], _, h => by rw [show _ = _ from h]; rfl
  | d :: ds, _, ⟨v, vs, e, r, rs⟩ => by
    rw [e, List.reverse_cons, List.reverse_cons]
    exact rs.reverse.append (.one r)
section
variable {X : Cx} {e : Expr} {es : List Expr} {ws : WA} {x : Str} {p pos pos' : Pos} {C : Addr} {ns : List Str} {k : Nat}
def wRaise (C : Addr) (ns : List Str) (ws : WA) : WSX := fun e F XR => ws e fun ds e1 => ds.length = ns.length ∧ XR (.err C ns.reverse ds.reverse) e1
theorem dx_raise (T : ErrC X.prog X.w X.K X.mg X.base x C ns k) (hr : Room (k + 1) X.A) (hc : X.calm = true) (ha : DA X (e :: es) ws) (hg : Gl X x := by rfl)
    (hdb : (x == ("__debug__" : Str)) = false := by decide) (he : starEach (e :: es) X.env = (false, eval e X.env) :: starEach es X.env := by rfl) (hpl : (backTo pos (starEach es X.env)).any (·.1) = false := by rfl) :
    DX X (.Raise (some (.Call (.Name x p) (e :: es) [] pos)) none pos') (wRaise C ns ws) := fun W tk => by
  obtain ⟨f, fd, ps, iC, tI, hb, F⟩ := T.ex
  have hx : Passes (CX X.prog X.w) X (fun _ _ _ => False) := fun _ _ _ _ _ _ _ h => by
    obtain ⟨_, _, _, _, _, _, _, _, _, _, _, _, z⟩ := h
    exact z.elim
  refine ps_imp (ps_raise hc tk (pmk_oex T.oex iC tI F hr hb .nil hx hg T.gl ha hdb he hpl)) fun D σ H ⟨e, F, XR, xo, r, k, _⟩ => ?_
  refine ⟨e, _, r, k, fun ds e1 vs H1 ⟨hl, k1⟩ a1 r1 p1 => ⟨by rw [p1.length, hl]; have := T.few; omega, fun a hn => ⟨a, vs, by rw [List.append_nil], by rw [p1.length, hl], upd_same, fun H' dx hdx ne q1 q2 q3 => ⟨rfl, dx, _, q1, q2, ?_, ?_⟩⟩⟩⟩
  · rw [upd_ne ne] at hdx; exact hdx
  · have hdx' : H1 dx = none := by rw [upd_ne ne] at hdx; exact hdx
    have eH : upd (del H' a) dx (.xd ((ns.zip vs).reverse)) = upd H1 dx (.xd ((ns.zip vs).reverse)) := by
      funext b
      by_cases h1 : b = dx
      · rw [h1, upd_same, upd_same]
      · rw [upd_ne h1, upd_ne h1]
        by_cases h2 : b = a
        · rw [h2, del_same, hn]
        · rw [del_ne h2, q3 b h2 h1, upd_ne h2]
    rw [eH]
    have gr : Grow H1 (upd H1 dx (.xd ((ns.zip vs).reverse))) := .new hdx' fun z => z
    refine xo _ e1 _ _ σ _ k1 (a1.trans (.grow gr)) (r1.grow gr) ⟨rfl, .inr ⟨dx, _, rfl, upd_same, ?_, ?_, ?_⟩⟩
    · exact List.pairwise_reverse.mpr (T.nd.imp fun h => Ne.symm h)
    · rw [List.map_reverse, List.map_fst_zip (by rw [p1.length, hl]; exact Nat.le_refl _)]
    · rw [List.map_reverse, List.map_snd_zip (by rw [p1.length, hl]; exact Nat.le_refl _)]
      exact (p1.mono gr.stab ds vs).reverse
end

/-! ### a def that may let an error out, by its body -/
section
variable {P : Program} {w : World} {K : PySem.W.Frag} {mg : Str → Option Value} {base : Heap} {x qual : Str} {params : Arguments} {body : List Stmt} {scope : Scope} {dvs : List V} {kws : List (Str × V)} {f : Addr} {fd : FuncData}
abbrev cX (P : Program) (w : World) (K : PySem.W.Frag) (mg : Str → Option Value) (base : Heap) (N : List Str) (qual : Str) (scope : Scope) (f : Addr) (cdv : Value) (A : Around) (outer : List Env) (s : Shared) (H : Hp) (E : XK) : Cx :=
  cxOf (CX P w) P w K mg base N qual scope f cdv A outer s H E
theorem dfnX_ok {N ps : List Str} {k : Nat} {sp : FS} {W : WSX} (F : FunD K x qual params body scope dvs kws f fd) (S : FnScope N ps scope) (len : ∀ ds c K KE, sp ds c K KE → ds.length = ps.length)
    (hb : ∀ (cdv : Value) (A : Around) (outer : List Env) (s : Shared) (H : Hp) (E : XK), Room k (A.deeper (envOfC qual scope s.heap.objs.size f cdv)) → DXs (cX P w K mg base N qual scope f cdv A outer s H E) body W)
    (q : ∀ ds c K KE, sp ds c K KE → W (en0 N ds c) { nx := fun e => K .non e.cnt, rt := K } fun d e => KE d e.cnt) :
    DFn P w K mg base (k + 1) f fd ps sp := by
  refine F.ok S (spOf_len len) (fun cdv A outer s H vs Q E hr hsp => ?_)
  obtain ⟨ds, c, Kd, KE, r, p, hs, h1, h2⟩ := hsp
  refine ⟨_, hb cdv A outer s H E hr _ (takes_of rfl rfl rfl rfl), ?_⟩
  obtain ⟨er, no⟩ := er_start (N := N) r p
  have out : ∀ {H'}, Lv (L2.start N vs) (en0 N ds c) H H' → Out H H' := fun l => ⟨fun a o h n => l.keep a o h (no a) n, l.stab, l.there⟩
  exact ⟨en0 N ds c, _, _, fun d e' cls dd σ' H' z a' r' q' => h2 d _ cls dd H' z (out a'.lv) r'.pens q', er, q ds c Kd KE hs, fun e' σ' H' k' a' r' => h1 .non _ .non H' k' (out a'.lv) r'.pens rfl, fun _ _ _ z => z.elim, fun _ _ _ z => z.elim, fun d c' v H' k' l p' r' => h1 d c' v H' k' (out l) p' r'⟩
end
end DL
/-! DM, part h: try: .. except C as e: xs.append((e.f, ..)). -/
namespace DL
open PySem PySem.Spec L2
open PyProof.Rows (envOfC)
section
variable {g : Gx} {σ : L2.St} {H : Hp} {e : En} {i : Nat} {v : Option V}
/-- a slot that is no more looked at -/
theorem ER.unk (r : ER g σ H e) : ER g (σ.set i v) H (e.asg i .un) ∧ Adv σ e H (σ.set i v) (e.asg i .un) H := by
  have sub : ∀ (j : Nat) (y : S), (e.asg i .un).sl[j]? = some y → y ≠ .un → i ≠ j ∧ e.sl[j]? = some y ∧ (σ.set i v)[j]? = σ[j]? := fun j y h n => by
    rw [asg_get] at h
    by_cases q : i = j
    · rw [if_pos q] at h
      split at h
      · cases h; exact (n rfl).elim
      · cases h
    · rw [if_neg q] at h
      exact ⟨q, h, by rw [set_get, if_neg q]⟩
  refine ⟨⟨fun j d h => ?_, fun j d h => ?_, fun j k dj dk b h1 h2 h3 h4 => ?_, r.pens, ⟨by show (e.sl.set i _).length = _; rw [List.length_set, List.length_set]; exact r.len.1, r.len.2.set⟩⟩, ⟨fun a o h _ _ => h, .refl H, fun _ h => h, fun b ⟨j, dj, h1, h2⟩ => ?_⟩⟩
  · obtain ⟨_, h', e'⟩ := sub j _ h (by intro z; cases z)
    rw [e']; exact r.fz j d h'
  · obtain ⟨_, h', e'⟩ := sub j _ h (by intro z; cases z)
    rw [e']; exact r.ow j d h'
  · obtain ⟨_, q1, e1⟩ := sub j _ h1 (by intro z; cases z)
    obtain ⟨_, q2, e2⟩ := sub k _ h2 (by intro z; cases z)
    rw [e1] at h3
    rw [e2] at h4
    exact r.apart j k dj dk b q1 q2 h3 h4
  · obtain ⟨_, q1, e1⟩ := sub j _ h1 (by intro z; cases z)
    rw [e1] at h2
    exact .inl ⟨j, dj, q1, h2⟩
end
/-- what stands in an except suite: a text, a field of the error -/
inductive HI where
  | k (x : Str) | f (n : Str)
def HI.val (fs : List (Str × V)) : HI → Option V
  | .k x => some (.str x)
  | .f n => fs.lookup n
def HI.get (ns : List Str) (ds : List D) : HI → Option D
  | .k x => some (.str x)
  | .f n => (ns.zip ds).lookup n
def HI.gets (ns : List Str) (ds : List D) : List HI → Option (List D)
  | [] => some []
  | h :: hs => match HI.get ns ds h, HI.gets ns ds hs with
    | some d, some r => some (d :: r)
    | _, _ => none
theorem err_look {g : Gx} {H : Hp} {n : Str} {d : D} : ∀ {fs : List (Str × V)} {ds : List D}, Reps g H ds (fs.map (·.2)) → ((fs.map (·.1)).zip ds).lookup n = some d → ∃ v, fs.lookup n = some v ∧ Rep g H d v
  | [], ds, r, h => by simp at h
  | (m, u) :: fs, [], r, h => by simp at h
  | (m, u) :: fs, d' :: ds, ⟨v, vs, e, r, rs⟩, h => by
    rw [List.map_cons, List.cons.injEq] at e
    obtain ⟨e1, e2⟩ := e
    rw [List.map_cons, List.zip_cons_cons, List.lookup_cons] at h
    rw [List.lookup_cons]
    cases q : (n == m) with
    | true =>
      rw [q] at h
      cases h
      exact ⟨u, rfl, by rw [show u = v from e1]; exact r⟩
    | false =>
      rw [q] at h
      exact err_look (by rw [← e2] at rs; exact rs) h
theorem err_looks {g : Gx} {H : Hp} {fs : List (Str × V)} {ds : List D} (r : Reps g H ds (fs.map (·.2))) : ∀ {its : List HI} {rs : List D}, HI.gets (fs.map (·.1)) ds its = some rs → ∃ vs, its.map (HI.val fs) = vs.map some ∧ Reps g H rs vs
  | [], rs, h => by cases h; exact ⟨[], rfl, rfl⟩
  | it :: its, rs, h => by
    unfold HI.gets at h
    split at h
    · rename_i d r' h1 h2
      cases h
      obtain ⟨vs, e1, e2⟩ := err_looks r h2
      cases it with
      | k x =>
        cases h1
        exact ⟨.str x :: vs, by rw [List.map_cons, e1]; rfl, _, _, rfl, rfl, e2⟩
      | f n =>
        obtain ⟨v, q1, q2⟩ := err_look r h1
        exact ⟨v :: vs, by rw [List.map_cons, e1, List.map_cons]; show fs.lookup n :: _ = _; rw [q1], _, _, rfl, q2, e2⟩
    · cases h
def tHA (a C : Addr) (cls : Value) (d : Option Addr) (i : Nat) (its : List HI) : TA := fun σ H Q => σ[i]? = some (some (.ref a)) ∧ cls = .ref C ∧ ∃ (dd : Addr) (fs : List (Str × V)) (vs : List V), d = some dd ∧ H dd = some (.xd fs) ∧ its.map (HI.val fs) = vs.map some ∧ Q vs H
section
variable {X : Cx} {a C : Addr} {oe : Obj} {cls : Value} {d : Option Addr} {pn : List (Addr × Obj)} {i : Nat} {es : List Expr} {its : List HI} {pos p : Pos} {n x : Str} {j : Nat}
abbrev HA (X : Cx) (C : Addr) (i : Nat) (es : List Expr) (its : List HI) : Prop := ∀ (a : Addr) (oe : Obj) (cls : Value) (d : Option Addr) (pn : List (Addr × Obj)), Zc cls d oe → (∃ vs, oe.data = .fields vs) → PA (X.suite a ((a, oe) :: pn)) es (tHA a C cls d i its)
theorem ha_nil : HA X C i [] [] := fun a oe cls d pn _ _ => pa_imp pa_nil fun σ H Q ⟨_, _, dd, fs, vs, _, _, h, q⟩ => by
  cases vs with
  | nil => exact q
  | cons _ _ => cases h
theorem ha_k (h : HA X C i es its) (hs : starEach (.Constant (.str x) j pos :: es) X.env = (false, eval (.Constant (.str x) j pos) X.env) :: starEach es X.env := by rfl) : HA X C i (.Constant (.str x) j pos :: es) (.k x :: its) := fun a oe cls d pn hz hf =>
  pa_imp (pa_cons pe_str (h a oe cls d pn hz hf) hs) fun σ H Q ⟨h1, h2, dd, fs, vs, h3, h4, h5, q⟩ => by
    cases vs with
    | nil => cases h5
    | cons v vs =>
      rw [List.map_cons, List.map_cons, List.cons.injEq] at h5
      obtain ⟨e1, e2⟩ := h5
      cases (Option.some.inj e1)
      exact ⟨h1, h2, dd, fs, vs, h3, h4, e2, q⟩
theorem ha_f {y : Str} (T : XfC X.K C) (hno : PySem.W.findIn X.K (.ref C) n = some none) (h : HA X C i es its) (hN : X.N[i]? = some y := by rfl) (hv : Vis X.env.scope y := by first | exact Or.inl rfl | exact Or.inr (Or.inl rfl) | exact Or.inr (Or.inr rfl))
    (hd : (y == ("__debug__" : Str)) = false := by decide) (hcd : (y == ("__classdict__" : Str)) = false := by decide) (hb : attributeBase (.Name y p) n X.env (eval (.Name y p) X.env) = eval (.Name y p) X.env := by rfl)
    (hs : starEach (.Attribute (.Name y p) n pos :: es) X.env = (false, eval (.Attribute (.Name y p) n pos) X.env) :: starEach es X.env := by rfl) : HA X C i (.Attribute (.Name y p) n pos :: es) (.f n :: its) := fun a oe cls d pn hz hf =>
  pa_imp (pa_cons (pe_xf T hno hz hf (pe_var hN hv hd hcd) hb) (h a oe cls d pn hz hf) hs) fun σ H Q ⟨h1, h2, dd, fs, vs, h3, h4, h5, q⟩ => by
    cases vs with
    | nil => cases h5
    | cons v vs =>
      rw [List.map_cons, List.map_cons, List.cons.injEq] at h5
      obtain ⟨e1, e2⟩ := h5
      exact ⟨.ref a, h1, rfl, h2, dd, fs, v, h3, h4, e1, h1, h2, dd, fs, vs, h3, h4, e2, q⟩
end
section
variable {X : Cx} {C : Addr} {i j : Nat} {es : List Expr} {its : List HI} {body : List Stmt} {w : WSX} {x y n : Str} {np p tp apos cpos ep pos pos' : Pos} {tc : Nat}
def wTryA (C : Addr) (i j : Nat) (its : List HI) (w : WSX) : WSX := fun e F _ => w e F fun d e' => ∃ ns ds vs l, d = .err C ns ds ∧ HI.gets ns ds its = some vs ∧ vs.length ≤ 1000 ∧ owned e'.sl[j]? = some (.lst l) ∧ l.length < sizeLine ∧ i ≠ j ∧ i < e'.sl.length ∧ ns ≠ [] ∧
  F.nx (((e'.asg i .un).put j (.ow (.lst (l ++ [.tup vs])))).asg i .un)
theorem dx_try_app (hs : X.stack = X.env :: X.outer) (hf : X.env.frame = some X.env.locals) (hN : X.N.Nodup) (hi : X.N[i]? = some n) (hln : X.env.kindOf n = some .local) (hc : Names X x (.ref C)) (hex : PySem.W.exmOne X.K (.ref C) (.ref C) = some true)
    (hb : ∀ (pn : List (Addr × Obj)) (xe : Value → Shared → Prop), DXs (X.tr pn xe) body w) (hsu : HA X C i es its)
    (hNj : X.N[j]? = some y) (hv : Vis X.env.scope y := by first | exact Or.inl rfl | exact Or.inr (Or.inl rfl) | exact Or.inr (Or.inr rfl)) (hd : (y == ("__debug__" : Str)) = false := by decide)
    (hcd : (y == ("__classdict__" : Str)) = false := by decide) (hbase : attributeBase (.Name y p) "append" X.env (eval (.Name y p) X.env) = eval (.Name y p) X.env := by rfl) (hline : (apos.endLine == cpos.line) = true := by rfl)
    (hfew : ((backTo cpos (starEach [.Tuple es tc tp] X.env)).all (fun x => !x.1) && (backToKw cpos (keywordEach [] X.env)).all (fun x => x.1.isSome) && decide (([.Tuple es tc tp] : List Expr).length + ([] : List Keyword).length + (if ([] : List Keyword).isEmpty then 0 else 1) < 30)) = true := by rfl)
    (hst : starEach [.Tuple es tc tp] X.env = [(false, eval (.Tuple es tc tp) X.env)] := by rfl) (hsw : swapsWith (.Call (.Attribute (.Name y p) "append" apos) [.Tuple es tc tp] [] cpos) none ep.line X.env = pure false := by rfl) :
    DX X (.Try body [.ExceptHandler (some (.Name x np)) (some n) [.Expr (.Call (.Attribute (.Name y p) "append" apos) [.Tuple es tc tp] [] cpos) ep] pos'] [] [] pos) (wTryA C i j its w) := fun W tk => by
  refine ps_imp (ps_try_as (Wout := fun _ _ _ _ => False) (tb := fun W' => upX (gx X) W' w) (ts := fun a cls d => tDrop (tMG tyL rAppend (tVar j) (tCons (tTup (tHA a C cls d i its)) tNil))) hs hf hN hi hln hc (tk.imp fun _ _ _ _ z => z.elim) (fun W' pn xe tk' _ => hb pn xe W' tk') fun a oe cls d pn hz hff => ?_) fun D σ H ⟨e, F, XR, xo, r, k, rest⟩ => ?_
  · refine pss_one (ps_expr (pe_mg (X := X.suite a ((a, oe) :: pn)) PySem.F.plainAttrs_list PySem.F.slot_list_append PySem.F.type_list_append tyL_is mt_append (pe_var hNj hv hd hcd) (pa_cons (pe_tup (hsu a oe cls d pn hz hff)) pa_nil hst) hbase hline hfew hst rfl) hsw)
  · refine ⟨e, F, _, fun d e' cls dd σ' H' ⟨ns, ds, vs, l, hd, hg, hz, ho, hl, hij, hil, hne, hnx⟩ a' r' ea => ?_, r, k, rest⟩
    subst hd
    obtain ⟨ec, ea⟩ := ea
    subst ec
    refine ⟨true, hex, fun _ a ha => ?_, fun z => by cases z⟩
    obtain ⟨r1, a1⟩ := r'.unk (i := i) (v := some (.ref a))
    have hi' : i < σ'.length := by rw [← r'.len.1]; exact hil
    have hown : (e'.asg i .un).sl[j]? = some (.ow (.lst l)) := by
      rw [asg_get, if_neg hij]; exact owned_some ho
    obtain ⟨lc, hlc, xs, hx, rs⟩ := r1.ow j _ hown
    rcases ea with ⟨e1, e2, _⟩ | ⟨dx, fs, e1, e2, _, e3, e4⟩
    · exact (hne e1).elim
    · subst e3
      obtain ⟨us, q1, q2⟩ := err_looks e4 hg
      refine ⟨.ref lc, hlc, ⟨lc, xs, rfl, .inl hx⟩, ?_, rfl, dx, fs, us, e1, e2, q1, ?_, fun p hp => ?_⟩
      · rw [List.getElem?_set_self hi']
      · rw [q2.length]; exact Nat.le_trans hz (by rw [sizeLine_eq]; omega)
      · have gr : Grow H' (upd H' p (.tup us)) := .new hp fun z => z
        have r2 := r1.grow gr
        show rAppend (V.ref lc) [V.ref p] (upd H' p (HO.tup us)) (fun _ H1 => D.nx ((σ'.set i (some (.ref a))).set i none) H1)
        refine lm_app (X := X) _ lc xs [.ref p] l [.tup vs] (l ++ [.tup vs]) .non _ (gr.keep _ _ hx) (rs.mono gr.stab _ _) (.one ⟨p, us, rfl, .of upd_same, q2.mono gr.stab _ _⟩) (by show (if l.length < sizeLine then some (DL.D.non, l ++ [DL.D.tup vs]) else none) = _; exact if_pos hl) fun v xs' rv rs' => ?_
        obtain ⟨J, A⟩ := r2.write hown hlc (u' := .lst xs') (d' := .lst (l ++ [.tup vs])) (fun _ z => nomatch z) fun st => ⟨xs', upd_same, rs'.mono st _ xs'⟩
        obtain ⟨J2, A2⟩ := J.unk (i := i) (v := none)
        exact rest.1 _ _ _ hnx ((((a'.trans a1).trans (.grow gr)).trans A).trans A2) J2
end
/-! ### no error is let out -/
section
variable {X : Cx} {st : Stmt} {w : WSX}
theorem ds_ofX (h : DX X st w) : DS X st (fun e F => w e F fun _ _ => False) := by
  refine ps_imp (h (fun _ _ _ _ => False) fun u s' ⟨_, _, _, _, _, _, _, _, _, _, _, _, _, _, _, _, z⟩ => z.elim) fun D σ H ⟨e, F, r, k, q⟩ => ⟨e, F, _, fun _ _ _ _ _ _ z => z.elim, r, k, q⟩
def wTry (C : Addr) (i j : Nat) (its : List HI) (w : WSX) : WS := fun e F => wTryA C i j its w e F fun _ _ => False
end
end DL
/-! DM, part i: classes of errors, from what the head tells. -/
namespace DL
open PySem PySem.Spec L2
open PyProof.Rows (envOfC)
def oeB (K : PySem.W.Frag) (C : Addr) : Bool := match K.lookup C with
  | some ⟨.type "type", _, .cls cd, sl⟩ => (match cd.mro, sl.toList with
    | .ref C' :: bm, [_, _, _, _, some (.builtin n), _] => C' == C && n == "ValueError.__new__" && !cd.hasDel && cd.hasDict && PySem.HandSPX.refsVE bm
    | _, _ => false)
  | _ => false
theorem oeB_ok {K : PySem.W.Frag} {C : Addr} (h : oeB K C = true) : ∃ nm q N bs bm sn sub ab col dd k0 k1 k2 k3 k5, K.lookup C = some (excClassObj nm q C N bs bm true sn sub ab col dd k0 k1 k2 k3 k5 "ValueError.__new__") ∧ PySem.HandSPX.refsVE bm = true := by
  unfold oeB at h
  split at h
  · rename_i dd cd sl ho
    split at h
    · rename_i C' bm k0 k1 k2 k3 n k5 hm hs
      simp only [Bool.and_eq_true, beq_iff_eq, Bool.not_eq_true'] at h
      obtain ⟨⟨⟨⟨rfl, rfl⟩, hdel⟩, hdi⟩, hr⟩ := h
      obtain ⟨nm, bs, mro, ns, qn, hd, sn, sub, ab, col, del⟩ := cd
      dsimp only at hm hdel hdi
      subst hm hdel hdi
      have hsl : sl = #[k0, k1, k2, k3, some (.builtin "ValueError.__new__"), k5] := by
        obtain ⟨l⟩ := sl
        simp only at hs
        rw [hs]
      subst hsl
      exact ⟨_, _, _, _, bm, _, _, _, _, dd, _, _, _, _, _, ho, hr⟩
    · cases h
  · cases h
def erB (K : PySem.W.Frag) (q : Str × List Str) : Bool := oeB K (He.ga K q.1) && (decide (PySem.W.findIn K (.ref (He.ga K q.1)) "__setattr__" = some (some (.builtin "object.__setattr__"))) &&
  (decide (PySem.W.subIn K (.ref (He.ga K q.1)) (.type "BaseException") = some true) && (decide (PySem.W.typeIn K (.ref (He.ga K q.1)) = some (.type "type")) && (PySem.W.keepIn K (.ref (He.ga K q.1)) &&
  (decide (PySem.W.findIn K (.ref (He.ga K q.1)) "__init__" = some (some (.ref (He.ma K (He.ga K q.1) "__init__")))) && (decide (PySem.W.typeIn K (.ref (He.ma K (He.ga K q.1) "__init__")) = some (.type "function")) &&
  (xfB K (He.ga K q.1) && (decide (PySem.W.exmOne K (.ref (He.ga K q.1)) (.ref (He.ga K q.1)) = some true) && q.2.all fun n => decide (PySem.W.findIn K (.ref (He.ga K q.1)) n = some none)))))))))
structure ErF (K : PySem.W.Frag) (x : Str) (ns : List Str) : Prop where
  oex : OexC K (He.ga K x)
  ini : PySem.W.findIn K (.ref (He.ga K x)) "__init__" = some (some (.ref (He.ma K (He.ga K x) "__init__")))
  tin : PySem.W.typeIn K (.ref (He.ma K (He.ga K x) "__init__")) = some (.type "function")
  xf : XfC K (He.ga K x)
  exm : PySem.W.exmOne K (.ref (He.ga K x)) (.ref (He.ga K x)) = some true
  no : ∀ n ∈ ns, PySem.W.findIn K (.ref (He.ga K x)) n = some none
theorem erB_ok {K : PySem.W.Frag} {x : Str} {ns : List Str} (h : erB K (x, ns) = true) : ErF K x ns := by
  unfold erB at h
  simp only [Bool.and_eq_true, decide_eq_true_eq] at h
  obtain ⟨h1, h2, h3, h4, h5, h6, h7, h8, h9, h10⟩ := h
  exact ⟨⟨oeB_ok h1, h2, h3, h4, h5⟩, h6, h7, xfB_ok h8, h9, fun n hn => of_decide_eq_true (List.all_eq_true.mp h10 n hn)⟩
structure SaysY (fa : List He.Fa) (fn : List He.DefD) (xs : List Str) (ers : List (Str × List Str)) (K : PySem.W.Frag) : Prop extends SaysX fa fn xs K where
  e : ers.all (erB K) = true
def obY (n : Nat) (fa : List He.Fa) (fn : List He.DefD) (xs : List Str) (ers : List (Str × List Str)) (g : Addr → Option Obj) : He.AlD × Bool × Bool := (He.obsDG n fa fn g, xs.all (isiB (He.frG g (He.asD g n))), ers.all (erB (He.frG g (He.asD g n))))
def hookY (n : Nat) (fa : List He.Fa) (fn : List He.DefD) (xs : List Str) (ers : List (Str × List Str)) : PySem.W.Hook := { α := He.AlD × Bool × Bool, obs := fun s => obY n fa fn xs ers s.heap.get?, val := fun _ => (He.valD fn, true, true), says := fun _ h => ∃ K : PySem.W.Frag, K.In h ∧ SaysY fa fn xs ers K, of := fun _ _ e => ⟨_, He.frG_in, ⟨⟨congrArg Prod.fst e, congrArg (·.2.1) e⟩, congrArg (·.2.2) e⟩⟩, keeps := fun _ _ _ ⟨K, hK, c⟩ k => ⟨K, PySem.W.Frag.In.keeps hK k, c⟩ }
theorem obY_eq {n : Nat} {fa : List He.Fa} {fn : List He.DefD} {xs : List Str} {ers : List (Str × List Str)} {g : Addr → Option Obj} {s : Shared} (h : ∀ a, g a = s.heap.get? a) : obY n fa fn xs ers g = (hookY n fa fn xs ers).obs s := by
  have e : g = s.heap.get? := funext h
  rw [e] <;> rfl
structure LftY (fa : List He.Fa) (fn : List He.DefD) (xs : List Str) (ers : List (Str × List Str)) (nbs : List Str) (h : Heap) (mg : Str → Option Value) (K : PySem.W.Frag) : Prop extends Lft fa fn xs nbs h mg K where
  e : ers.all (erB K) = true
theorem LftY.err {fa : List He.Fa} {fn : List He.DefD} {xs nbs : List Str} {ers : List (Str × List Str)} {h : Heap} {mg : Str → Option Value} {K : PySem.W.Frag} (L : LftY fa fn xs ers nbs h mg K) {x : Str} {ns : List Str} (i : Nat) (e : ers[i]? = some (x, ns) := by rfl) : ErF K x ns :=
  erB_ok (List.all_eq_true.mp L.e _ (List.mem_of_getElem? e))
section
variable {P : Program} {w : World} {K : PySem.W.Frag} {mg : Str → Option Value} {base : Heap} {x y qual : Str} {params : Arguments} {body : List Stmt} {scope : Scope} {kws : List (Str × V)} {fd : FuncData} {k : Nat} {ps N : List Str} {ns : List Str} {t : TS}
/-- from its __init__'s body -/
theorem errat (F : ErF K x ns) (nd : ns.Nodup) (few : ns.length ≤ 900) (gl : mg x = some (.ref (He.ga K x))) (D : FunD K y qual params body scope [] kws (He.ma K (He.ga K x) "__init__") fd) (b : Binds K fd ps []) (S : FnScope N ps scope) (len : ps.length = ns.length + 1)
    (hb : ∀ (cdv : Value) (A : Around) (outer : List Env) (s : Shared) (H : Hp) (E : XK), Room k (A.deeper (envOfC qual scope s.heap.objs.size (He.ma K (He.ga K x) "__init__") cdv)) → PSs (cX P w K mg base N qual scope (He.ma K (He.ga K x) "__init__") cdv A outer s H E) body t)
    (q : ∀ vs H Q E, spIni (He.ga K x) ns vs H Q E → t { nx := fun _ H' => Q .non H', rt := Q } (L2.start N vs) H) : ErrC P w K mg base x (He.ga K x) ns (k + 1) :=
  ⟨nd, few, gl, F.oex, ⟨_, fd, ps, F.ini, F.tin, b, D.ok S (fun vs H Q E ⟨a, ys, h1, h2, _⟩ => by rw [h1, List.length_cons, h2, len]) fun cdv A outer s H vs Q E hr h => ⟨t, hb cdv A outer s H E hr, q vs H Q E h⟩⟩⟩
theorem erini1 {n1 a0 a1 : Str} {C : Addr} (T : OexC K C) (h1 : PySem.W.findIn K (.ref C) n1 = some none) (vs : List V) (H : Hp) (Q : VK) (E : XK) (h : spIni C [n1] vs H Q E) :
    (tOst K n1 (tVar 0) (tVar 1)) { nx := fun _ H' => Q .non H', rt := Q } (L2.start [a0, a1] vs) H := by
  obtain ⟨a, ys, rfl, hl, ha, h⟩ := h
  match ys, hl with
  | [y], _ =>
    refine ⟨y, rfl, .ref a, rfl, a, C, rfl, T, h1, .inl ⟨ha, fun dx hdx hne => ?_⟩⟩
    refine h _ dx hdx hne upd_same (by rw [upd_ne hne, upd_same]; rfl) fun b hb hd => ?_
    rw [upd_ne hb, upd_ne hd]
theorem erini2 {n1 n2 a0 a1 a2 : Str} {C : Addr} (T : OexC K C) (h1 : PySem.W.findIn K (.ref C) n1 = some none) (h2 : PySem.W.findIn K (.ref C) n2 = some none) (vs : List V) (H : Hp) (Q : VK) (E : XK) (h : spIni C [n1, n2] vs H Q E) :
    (tSeq (tOst K n1 (tVar 0) (tVar 1)) (tOst K n2 (tVar 0) (tVar 2))) { nx := fun _ H' => Q .non H', rt := Q } (L2.start [a0, a1, a2] vs) H := by
  obtain ⟨a, ys, rfl, hl, ha, h⟩ := h
  match ys, hl with
  | [y, z], _ =>
    refine ⟨y, rfl, .ref a, rfl, a, C, rfl, T, h1, .inl ⟨ha, fun dx hdx hne => ?_⟩⟩
    refine ⟨z, rfl, .ref a, rfl, a, C, rfl, T, h2, .inr ⟨dx, _, upd_same, by rw [upd_ne hne, upd_same], by simp, ?_⟩⟩
    refine h _ dx hdx hne (by rw [upd_ne (Ne.symm hne), upd_same]) upd_same fun b hb hd => ?_
    rw [upd_ne hd, upd_ne hb, upd_ne hd]
theorem erini3 {n1 n2 n3 a0 a1 a2 a3 : Str} {C : Addr} (T : OexC K C) (h1 : PySem.W.findIn K (.ref C) n1 = some none) (h2 : PySem.W.findIn K (.ref C) n2 = some none) (h3 : PySem.W.findIn K (.ref C) n3 = some none) (vs : List V) (H : Hp) (Q : VK) (E : XK) (h : spIni C [n1, n2, n3] vs H Q E) :
    (tSeq (tOst K n1 (tVar 0) (tVar 1)) (tSeq (tOst K n2 (tVar 0) (tVar 2)) (tOst K n3 (tVar 0) (tVar 3)))) { nx := fun _ H' => Q .non H', rt := Q } (L2.start [a0, a1, a2, a3] vs) H := by
  obtain ⟨a, ys, rfl, hl, ha, h⟩ := h
  match ys, hl with
  | [y, z, u], _ =>
    refine ⟨y, rfl, .ref a, rfl, a, C, rfl, T, h1, .inl ⟨ha, fun dx hdx hne => ?_⟩⟩
    refine ⟨z, rfl, .ref a, rfl, a, C, rfl, T, h2, .inr ⟨dx, _, upd_same, by rw [upd_ne hne, upd_same], by simp, ?_⟩⟩
    refine ⟨u, rfl, .ref a, rfl, a, C, rfl, T, h3, .inr ⟨dx, _, by rw [upd_ne (Ne.symm hne), upd_same], upd_same, by simp, ?_⟩⟩
    refine h _ dx hdx hne (by rw [upd_ne (Ne.symm hne), upd_ne (Ne.symm hne), upd_same]) upd_same fun b hb hd => ?_
    rw [upd_ne hd, upd_ne hd, upd_ne hb, upd_ne hd]
end
end DL
/-! DM, part j: tuple * 0, * 1; > of tuples of texts. -/
namespace DL
open PySem PySem.Spec L2 PyProof.Rows
open PySem.AutoSeq1 (wpAny_loadPart')
theorem tuple_mul1 (l : Addr) (items : Array Value) (n : Nat) (dd : Option Addr) (sl : Array (Option Value)) (u : Tok) :
    Meets (Builtin.«tuple.__mul__» ⟨[.ref l, .int 1 u], []⟩) (fun _ R s => s.heap.get? l = some { cls := .type "tuple", dict := dd, data := .seq items n, slots := sl } ∧ R (.ok (.ret (Value.ref l))) s) :=
  .of_wp fun prog w A R s h => by
    obtain ⟨hp, g, d, tk, os⟩ := s
    obtain ⟨hl, h⟩ := h
    have f1 := AutoSeq1.idx_int
    have c1 : (items.isEmpty || (1 : Int) == 1) = true := by simp
    wp_walk using wpAny_loadPart' hl
    exact ⟨_, rfl, h⟩
theorem tuple_mul0 (l : Addr) (items : Array Value) (n : Nat) (dd : Option Addr) (sl : Array (Option Value)) (u : Tok) (hi : items.isEmpty = false) :
    Meets (Builtin.«tuple.__mul__» ⟨[.ref l, .int 0 u], []⟩) (fun _ R s => s.heap.get? l = some { cls := .type "tuple", dict := dd, data := .seq items n, slots := sl } ∧ R (.ok (.ret (Value.ref s.heap.objs.size))) { s with heap := s.heap.push { cls := Value.type "tuple", data := Data.seq #[] } }) :=
  .of_wp fun prog w A R s h => by
    obtain ⟨hp, g, d, tk, os⟩ := s
    obtain ⟨hl, h⟩ := h
    have f1 := AutoSeq1.idx_int
    wp_walk using wpAny_loadPart' hl
    exact ⟨_, rfl, h⟩
def rRepT1 (K : PySem.W.Frag) : R2 := fun x y H Q => ∃ l xs, x = .ref l ∧ y = .int 1 ∧ SqT K H l xs ∧ Q (.ref l) H
def rRepT0 (K : PySem.W.Frag) : R2 := fun x y H Q => ∃ l xs, x = .ref l ∧ y = .int 0 ∧ SqT K H l xs ∧ xs ≠ [] ∧ ∀ p, H p = none → Q (.ref p) (upd H p (.tup []))
section
variable {X : Cx}
theorem op_repT1 : OpR X (binaryOp .Mult) (rRepT1 X.K) := by
  intro pins s σ H x y v u Q I rx ry h
  obtain ⟨l, xs, rfl, rfl, hT, q⟩ := h
  cases rx
  obtain ⟨t, rfl⟩ := ry
  obtain ⟨its, r, ⟨⟨cls, dd, data, sl⟩, ho, hc, n, hd⟩, hs⟩ := I.tuple hT
  simp only at hc hd
  subst hc hd
  exact wpAny_binaryOp_repeat_ref (T := "tuple") (U := "int") (by decide) ⟨_, ho, rfl⟩ (fun s' => typeIs_int s' 1 t) noFill_tuple_mul F.fills_int_mul F.slot_int_rmul repeat_tuple F.slot_int_index.lookup
    (call_meets F.slot_int_rmul (typeIs_int s 1 t) F.entry_int_rmul (F.args_int_rmul_2 _ _) (int_rmul_tuple 1 t l its.toArray n dd sl)
      ⟨ho, rfl, ⟨_, ho, rfl⟩, call_meets F.slot_tuple_mul ⟨_, ho, rfl⟩ F.entry_tuple_mul (F.args_tuple_mul_2 _ _) (tuple_mul1 l its.toArray n dd sl t) ⟨ho, ⟨.ref l, H, I, rfl, q⟩⟩⟩)
theorem op_repT0 : OpR X (binaryOp .Mult) (rRepT0 X.K) := by
  intro pins s σ H x y v u Q I rx ry h
  obtain ⟨l, xs, rfl, rfl, hT, hne, q⟩ := h
  cases rx
  obtain ⟨t, rfl⟩ := ry
  obtain ⟨its, r, ⟨⟨cls, dd, data, sl⟩, ho, hc, n, hd⟩, hs⟩ := I.tuple hT
  simp only at hc hd
  subst hc hd
  have hi : its.toArray.isEmpty = false := by
    cases its with
    | nil => cases r; exact (hne rfl).elim
    | cons a b => rfl
  refine wpAny_binaryOp_repeat_ref (T := "tuple") (U := "int") (by decide) ⟨_, ho, rfl⟩ (fun s' => typeIs_int s' 0 t) noFill_tuple_mul F.fills_int_mul F.slot_int_rmul repeat_tuple F.slot_int_index.lookup
    (call_meets F.slot_int_rmul (typeIs_int s 0 t) F.entry_int_rmul (F.args_int_rmul_2 _ _) (int_rmul_tuple 0 t l its.toArray n dd sl)
      ⟨ho, rfl, ⟨_, ho, rfl⟩, call_meets F.slot_tuple_mul ⟨_, ho, rfl⟩ F.entry_tuple_mul (F.args_tuple_mul_2 _ _) (tuple_mul0 l its.toArray n dd sl t hi) ⟨ho, ?_⟩⟩)
  refine ⟨.ref s.heap.objs.size, _, I.laid (t' := s.toks) (o := .tup []) (fun b ob q => Heap.get?_push_of_some _ q) (Nat.le_refl _) ?_, rfl, q _ (I.hok.fresh (Nat.le_refl _))⟩
  exact ⟨by rw [sizeLine_eq]; decide, _, .nil, IsTup.new _ _⟩
/-- t * k of a tuple that is not empty -/
def D.mulT : D → D → Option D
  | .tup ds, .int k => if ds ≠ [] ∧ 0 ≤ k ∧ k ≤ 1000 ∧ ds.length ≤ 1000 then some (.tup (List.replicate k.toNat ds).flatten) else none
  | _, _ => none
def rMulT (K : PySem.W.Frag) : R2 := fun x y H Q => rRepT K x y H Q ∨ rRepT1 K x y H Q ∨ rRepT0 K x y H Q
theorem reps_rep {g : Gx} {H : Hp} {ds : List D} {xs : List V} (r : Reps g H ds xs) : ∀ k, Reps g H (List.replicate k ds).flatten (List.replicate k xs).flatten
  | 0 => rfl
  | k + 1 => by
    rw [List.replicate_succ, List.replicate_succ, List.flatten_cons, List.flatten_cons]
    exact r.append (reps_rep r k)
theorem mulT_ok {g : Gx} : Op2 g (rMulT g.K) D.mulT := fun H x y dx dy z Q rx ry h q => by
  cases dx with
  | tup ds =>
    cases dy with
    | int k =>
      simp only [D.mulT] at h
      split at h
      · rename_i hc
        obtain ⟨h1, h2, h3, h4⟩ := hc
        cases h
        obtain ⟨p, xs, rfl, hx, rxs⟩ := id rx
        rw [show y = .int k from ry]
        have hne : xs ≠ [] := fun e => h1 (List.eq_nil_of_length_eq_zero (by rw [← rxs.length, e]; rfl))
        by_cases k0 : k = 0
        · subst k0
          refine .inr (.inr ⟨p, xs, rfl, rfl, hx, hne, fun p2 hp => ?_⟩)
          obtain ⟨gr, rp⟩ := laid_tup (g := g) (ds := []) (xs := []) hp rfl
          exact q _ _ gr rp
        · by_cases k1 : k = 1
          · subst k1
            refine .inr (.inl ⟨p, xs, rfl, rfl, hx, q _ H (.refl H) ?_⟩)
            have e : (List.replicate (1 : Int).toNat ds).flatten = ds := by simp
            rw [e]
            exact rx
          · refine .inl ⟨p, k, xs, rfl, rfl, hx, hne, by omega, h3, by rw [rxs.length]; exact h4, fun p2 hp => ?_⟩
            obtain ⟨gr, rp⟩ := laid_tup (g := g) hp (reps_rep rxs k.toNat)
            exact q _ _ gr rp
      · cases h
    | _ => cases h
  | _ => cases h
theorem op_mulT : OpR X (binaryOp .Mult) (rMulT X.K) := OpR.or (r := rRepT X.K) op_repT (OpR.or (r := rRepT1 X.K) op_repT1 op_repT0)
variable {a b : Expr} {pos : Pos} {wa wb : WE}
theorem de_mulT (ha : DE X a wa) (hb : DE X b wb) : DE X (.BinOp a .Mult b pos) (w2 D.mulT wa wb) := de_op op_mulT mulT_ok ha hb

/-! ### > of tuples of texts -/
/-- x < y of texts -/
def ltS (x y : Str) : Bool := decide (x.cps.toList < y.cps.toList)
/-- y > x of rows of texts -/
def ltSs : List Str → List Str → Bool
  | _, [] => false
  | [], _ :: _ => true
  | x :: xs, y :: ys => if x = y then ltSs xs ys else ltS x y
theorem lexAt_shift {e r : Nat → Bool} {z : Bool} : ∀ (k i : Nat), Ob.lexAt e r z (i + 1) k = Ob.lexAt (fun j => e (j + 1)) (fun j => r (j + 1)) z i k
  | 0, _ => rfl
  | k + 1, i => by rw [Ob.lexAt_succ, Ob.lexAt_succ, lexAt_shift k (i + 1)]
theorem lexAt_gt : ∀ (ys xs : List Str), Ob.lexAt (fun j => decide (ys.getD j Str.empty = xs.getD j Str.empty)) (fun j => ltS (xs.getD j Str.empty) (ys.getD j Str.empty)) (decide (ys.length > xs.length)) 0 (min ys.length xs.length) = ltSs xs ys
  | [], xs => by cases xs <;> simp [Ob.lexAt, ltSs]
  | y :: ys, [] => by simp [Ob.lexAt, ltSs]
  | y :: ys, x :: xs => by
    have ih := lexAt_gt ys xs
    have em : min (y :: ys).length (x :: xs).length = min ys.length xs.length + 1 := by simp only [List.length_cons]; omega
    rw [em, Ob.lexAt_succ, lexAt_shift]
    have ez : decide ((y :: ys).length > (x :: xs).length) = decide (ys.length > xs.length) := by simp
    rw [ez, ltSs]
    by_cases h : x = y
    · rw [if_pos h, if_pos (by simp [h])]
      exact ih
    · rw [if_neg h, if_neg (by simpa using fun e => h e.symm)]
      rfl
def rGtT (K : PySem.W.Frag) : R2 := fun x y H Q => ∃ (a b : Addr) (ns ms : List Str), x = .ref a ∧ y = .ref b ∧ SqT K H a (ns.map V.str) ∧ SqT K H b (ms.map V.str) ∧ Q (.bl (ltSs ms ns)) H
theorem strs_at {its : List Value} : ∀ {ns : List Str}, Vals (ns.map V.str) its → ∀ j (h1 : j < its.toArray.size), ∃ t, its.toArray[j] = .str (ns.getD j Str.empty) t := by
  intro ns r j h1
  induction ns generalizing its j with
  | nil => cases r; simp at h1
  | cons n ns ih =>
    cases r with
    | @cons _ u0 _ ur ra rw' =>
      obtain ⟨t, rfl⟩ := ra
      cases j with
      | zero => exact ⟨t, rfl⟩
      | succ j =>
        obtain ⟨t2, e2⟩ := ih rw' j (by simpa using h1)
        exact ⟨t2, by simpa using e2⟩
theorem op_gtT (hu : X.A.units < cLine) : OpR X (compareOp .Gt) (rGtT X.K) := by
  intro pins s σ H x y v u Q I rx ry h
  obtain ⟨a, b, ns, ms, rfl, rfl, ha, hb, q⟩ := h
  cases rx
  cases ry
  obtain ⟨its, r1, p1, _⟩ := I.tuple ha
  obtain ⟨its2, r2, p2, _⟩ := I.tuple hb
  have e1 : its.toArray.size = ns.length := by rw [List.size_toArray, ← r1.length, List.length_map]
  have e2 : its2.toArray.size = ms.length := by rw [List.size_toArray, ← r2.length, List.length_map]
  have R := Ob.RcOp.tuples_gt (A := X.A) (s := s) (e := fun j => decide (ns.getD j Str.empty = ms.getD j Str.empty)) (r := fun j => ltS (ms.getD j Str.empty) (ns.getD j Str.empty)) p1 p2 hu (fun j h1 h2 => by
    obtain ⟨t, et⟩ := strs_at r1 j h1
    obtain ⟨t', et'⟩ := strs_at r2 j h2
    rw [et, et']
    have z : (ns.getD j Str.empty == ms.getD j Str.empty) = decide (ns.getD j Str.empty = ms.getD j Str.empty) := by
      by_cases q : ns.getD j Str.empty = ms.getD j Str.empty
      · rw [decide_eq_true q]; exact beq_iff_eq.mpr q
      · rw [decide_eq_false q]; exact beq_eq_false_iff_ne.mpr q
    rw [← z]
    exact SeqAt.EqAt.str_str _ _ _ _) (fun j h1 h2 _ => by
    obtain ⟨t, et⟩ := strs_at r1 j h1
    obtain ⟨t', et'⟩ := strs_at r2 j h2
    rw [et, et']
    intro prog w E Q h
    exact PySem.P.gt_str (by simpa [ltS] using h))
  rw [e1, e2, lexAt_gt] at R
  have z : wpAny (model X.prog X.w) X.A (compareOp .Gt (.ref a) (.ref b)) (EP X pins σ Q) X.xe s := R X.prog X.w X.xe (EP X pins σ Q) ⟨.bl _, H, I, rfl, q⟩
  exact z
def D.gtT : D → D → Option D
  | .tup ds, .tup es => match strsD ds, strsD es with
    | some ns, some ms => some (.bl (ltSs ms ns))
    | _, _ => none
  | _, _ => none
theorem gtT_ok {g : Gx} : Op2 g (rGtT g.K) D.gtT := fun H x y dx dy z Q rx ry h q => by
  cases dx with
  | tup ds =>
    cases dy with
    | tup es =>
      simp only [D.gtT] at h
      split at h
      · rename_i ns ms h1 h2
        cases h
        obtain ⟨p, xs, rfl, hx, rxs⟩ := rx
        obtain ⟨p2, ys, rfl, hy, rys⟩ := ry
        rw [strsD_reps h1 rxs] at hx
        rw [strsD_reps h2 rys] at hy
        exact ⟨p, p2, ns, ms, rfl, rfl, hx, hy, q _ H (.refl H) rfl⟩
      · cases h
    | _ => cases h
  | _ => cases h
theorem de_gtT {k : Nat} (hr : Room k X.A) (ha : DE X a wa) (hb : DE X b wb) : DE X (.Compare a [.Gt] [b] pos) (w2 D.gtT wa wb) := de_cmp (op_gtT (by have := room64 hr; omega)) gtT_ok ha hb
theorem dt_gtT {k : Nat} (hr : Room k X.A) (ha : DE X a wa) (hb : DE X b wb) : DT X (.Compare a [.Gt] [b] pos) (wTst (w2 D.gtT wa wb)) := dt_cmp (op_gtT (by have := room64 hr; omega)) gtT_ok ha hb
end
end DL
/-! DN, part a: what the laws' own helpers compute: pick, shuffled. -/
namespace DL
open PySem PySem.Spec L2
def seqOf : D → Option (List D)
  | .lst ds => some ds
  | .tup ds => some ds
  | _ => none
theorem seqOf_lenD {a : D} {xs : List D} (h : seqOf a = some xs) : a.lenD = some (.int xs.length) := by
  cases a <;> first | (cases h; rfl) | cases h
theorem seqOf_list {a : D} {xs : List D} (h : seqOf a = some xs) : a.list1 = some (.lst xs) := by
  cases a <;> first | (cases h; rfl) | cases h
theorem atI_nat {xs : List D} {i : Int} (h0 : 0 ≤ i) (h1 : i < xs.length) : ∃ x ∈ xs, L2.atI xs i = some x := by
  obtain ⟨n, rfl⟩ := Int.eq_ofNat_of_zero_le h0
  have hn : n < xs.length := by omega
  refine ⟨xs[n], List.getElem_mem hn, ?_⟩
  unfold L2.atI L2.ixN
  rw [if_pos h0]
  simp [hn]
theorem seqOf_ix {a : D} {xs : List D} {i : Int} (h : seqOf a = some xs) (h0 : 0 ≤ i) (h1 : i < xs.length) : ∃ x ∈ xs, a.ix (.int i) = some x := by
  obtain ⟨x, hx, e⟩ := atI_nat h0 h1
  cases a <;> first | (cases h; exact ⟨x, hx, e⟩) | cases h
theorem lmPop_nat {left : List D} {n : Nat} (hn : n < left.length) (hb : left.length < 2 ^ 62) : lmPop left [.int (n : Int)] = some (left[n], left.eraseIdx n) := by
  have e : seqIndex? (n : Int) left.length = some n := by
    unfold seqIndex?
    have h1 : ¬ ((n : Int) < 0) := by omega
    rw [if_neg h1]
    simp [hn]
  have c : -(2 ^ 63) ≤ (n : Int) ∧ (n : Int) < 2 ^ 63 := ⟨by omega, by omega⟩
  have e2 : left[n]? = some left[n] := List.getElem?_eq_getElem hn
  unfold lmPop
  simp only [if_pos c, e, Option.bind_some, e2, Option.map_some]
theorem lmApp_ok {ds : List D} {x : D} (h : ds.length < sizeLine) : lmApp ds [x] = some (.non, ds ++ [x]) := by
  show (if ds.length < sizeLine then some (D.non, ds ++ [x]) else none) = _
  rw [if_pos h]
theorem small {n : Nat} (h : n < 2 ^ 20) : n < sizeLine := by rw [sizeLine_eq]; omega
/-- some[draw(len(some))] -/
def spPick : FS := fun ds c K _ => ∃ a xs, ds = [.pen, a] ∧ seqOf a = some xs ∧ 0 < xs.length ∧ xs.length < 2 ^ 30 ∧ c < 2 ^ 50 ∧ ∀ x ∈ xs, K x (c + 1)
def W_pick : WS := (wRet (w2O 1 D.ix (wCall spDraw [] (wCons (wN 0) (wCons (w1 D.lenD (wL 1)) wNil)))))
theorem q_pick (ds : List D) (c : Nat) (K KE : D → Nat → Prop) (h : spPick ds c K KE) : W_pick (en0 ["pen", "some"] ds c) { nx := fun e => K .non e.cnt, rt := K } := by
  obtain ⟨a, xs, rfl, h1, h2, h3, h4, h5⟩ := h
  unfold W_pick wRet w2O wCall wCons wN w1 wL wNil
  simp [en0, datOf, seqOf_lenD h1]
  refine ⟨_, rfl, by omega, by omega, h4, fun r r0 r1 => ?_⟩
  obtain ⟨x, hx, e⟩ := seqOf_ix h1 r0 r1
  exact ⟨x, e, h5 x hx⟩
/-- the items in any order -/
def spShuffled : FS := fun ds c K _ => ∃ a xs, ds = [.pen, a] ∧ seqOf a = some xs ∧ xs.length < 2 ^ 20 ∧ c + xs.length < 2 ^ 50 ∧ ∀ ys, ys.Perm xs → K (.lst ys) (c + xs.length)
def wShufBody : WS := (wDrop (wLM 3 lmApp (wCons (wLM 2 lmPop (wCons (wCall spDraw [] (wCons (wN 0) (wCons (w1 D.lenD (wL 2)) wNil))) wNil)) wNil)))
def W_shuffled : WS := (wSeq (wPar [2, 3] (sOw (w1 D.list1 (wL 1)) (sOw (wLst wNil) sNil)))
  (wSeq (wFor (wRng1 (wCons (w1 D.lenD (wL 1)) wNil)) (wgN 4) wShufBody)
  (wRet (wN 3))))
theorem shuf_loop {F : Fn} {a : D} : ∀ (ds left found : List D) (s4 : S) (c : Nat), ds.length = left.length → left.length < 2 ^ 20 → found.length + left.length < 2 ^ 20 → c + left.length < 2 ^ 50 →
    (∀ ys s4, ys.Perm left → F.nx ⟨[.fz .pen, .fz a, .ow (.lst []), .ow (.lst (found ++ ys)), s4], c + left.length, none⟩) →
    wForR (wgN 4) wShufBody F ds ⟨[.fz .pen, .fz a, .ow (.lst left), .ow (.lst found), s4], c, none⟩
  | [], left, found, s4, c, hl, _, _, _, h => by
    have e : left = [] := List.eq_nil_of_length_eq_zero hl.symm
    subst e
    have := h [] s4 (.refl _)
    simpa [wForR] using this
  | d :: ds, left, found, s4, c, hl, h1, h2, h3, h => by
    rw [wForR]
    have ih := shuf_loop (F := F) (a := a) ds
    generalize wForR (wgN 4) wShufBody F ds = R at ih
    unfold wgN wShufBody wDrop wLM wCons wCall wN w1 wL wNil
    simp [En.asg, owned, datOf, D.lenD]
    refine ⟨_, rfl, by rw [← hl]; simp, by omega, by omega, fun r r0 r1 => ?_⟩
    obtain ⟨n, rfl⟩ := Int.eq_ofNat_of_zero_le r0
    have hn : n < left.length := by omega
    have hlen := List.length_eraseIdx_of_lt hn
    rw [List.length_cons] at hl
    refine ⟨_, _, lmPop_nat hn (by omega), _, rfl, _, _, lmApp_ok (small (by omega)), ?_⟩
    refine ih (left.eraseIdx n) (found ++ [left[n]]) (.fz d) (c + 1) (by omega) (by omega) (by rw [List.length_append, hlen, List.length_singleton]; omega) (by omega) fun ys s4 pm => ?_
    have pm2 : (left[n] :: ys).Perm left := (pm.cons _).trans (erase_perm left n left[n] (List.getElem?_eq_getElem hn))
    have := h (left[n] :: ys) s4 pm2
    rw [hlen, List.append_assoc]
    have e : c + 1 + (left.length - 1) = c + left.length := by omega
    rw [e]
    exact this
theorem q_shuffled (ds : List D) (c : Nat) (K KE : D → Nat → Prop) (h : spShuffled ds c K KE) : W_shuffled (en0 ["pen", "some", "left", "found", "lap"] ds c) { nx := fun e => K .non e.cnt, rt := K } := by
  obtain ⟨a, xs, rfl, h1, h2, h3, h4⟩ := h
  unfold W_shuffled wSeq wPar sOw sNil w1 wL wLst wNil wFor wRng1 wCons wRet wN
  simp [en0, datOf, seqOf_lenD h1, seqOf_list h1, asgs, En.asg]
  refine ⟨by omega, shuf_loop _ xs [] .un c (by simp [rangeD]) h2 (by simpa using h2) h3 fun ys s4 pm => ?_⟩
  simpa [En.put] using h4 ys pm
end DL
/-! DN, part b: some, mixed, names. -/
namespace DL
open PySem PySem.Spec L2
/-- some items, at most so many -/
def spSome : FS := fun ds c K _ => ∃ a xs, ∃ most : Int, ds = [.pen, a, .int most] ∧ seqOf a = some xs ∧ 0 ≤ most ∧ xs.length < 2 ^ 20 ∧ c + xs.length + 1 < 2 ^ 50 ∧ ∀ ys, (∀ y ∈ ys, y ∈ xs) → (ys.length : Int) ≤ most → ys.length ≤ xs.length → (xs.Nodup → ys.Nodup) → K (.lst ys) (c + xs.length + 1)
def W_some : WS := (wRet (wSl (wCall spShuffled [] (wCons (wN 0) (wCons (wN 1) wNil))) wON (wOS (wCall spDraw [] (wCons (wN 0) (wCons (w2 D.add (wB (m2 min) (wCons (wN 2) (wCons (w1 D.lenD (wL 1)) wNil))) (wC (.int 1))) wNil))))))
theorem cut_to {ys : List D} {n : Nat} : cutD ys none (some (n : Int)) = ys.take n := by
  unfold cutD
  have e0 : HT.sIx ys.length 0 none = 0 := rfl
  have e1 : HT.sIx ys.length ys.length (some (n : Int)) = min n ys.length := by
    unfold HT.sIx
    simp
    omega
  rw [e0, e1, List.drop_zero, Nat.sub_zero]
  refine List.ext_getElem? fun i => ?_
  simp only [List.getElem?_take]
  by_cases h : i < n
  · by_cases h2 : i < ys.length
    · rw [if_pos (by omega), if_pos h]
    · rw [if_neg (by omega), if_pos h, List.getElem?_eq_none (by omega)]
  · rw [if_neg (by omega), if_neg h]
theorem q_some (ds : List D) (c : Nat) (K KE : D → Nat → Prop) (h : spSome ds c K KE) : W_some (en0 ["pen", "some", "most"] ds c) { nx := fun e => K .non e.cnt, rt := K } := by
  obtain ⟨a, xs, most, rfl, h1, h2, h3, h4, h5⟩ := h
  unfold W_some wRet wSl wCall wCons wN w1 wL wNil wON wOS w2 wB wC
  simp [en0, datOf, seqOf_lenD h1]
  refine ⟨a, xs, rfl, h1, h3, by omega, fun ys pm => ?_⟩
  refine ⟨_, rfl, _, rfl, _, rfl, ?_⟩
  refine ⟨by omega, by omega, by omega, fun r r0 r1 => ⟨r, rfl, ?_⟩⟩
  obtain ⟨n, rfl⟩ := Int.eq_ofNat_of_zero_le r0
  refine ⟨.lst (ys.take n), congrArg (fun l => some (D.lst l)) cut_to, h5 _ (fun y hy => pm.mem_iff.mp (List.mem_of_mem_take hy)) ?_ ?_ fun nd => ?_⟩
  · rw [List.length_take]; omega
  · rw [List.length_take, pm.length_eq]; omega
  · exact (pm.nodup_iff.mpr nd).sublist (List.take_sublist n ys)
/-- all items and some once more, in any order -/
def spMixed : FS := fun ds c K _ => ∃ a xs, ds = [.pen, a] ∧ seqOf a = some xs ∧ xs.length + 3 < 2 ^ 20 ∧ c + 2 * xs.length + 4 < 2 ^ 50 ∧ ∀ ys c', (∀ y, y ∈ ys ↔ y ∈ xs) → ys.length ≤ xs.length + 3 → c ≤ c' → c' ≤ c + 2 * xs.length + 4 → K (.lst ys) c'
def W_mixed : WS := (wRet (wCall spShuffled [] (wCons (wN 0) (wCons (w2 D.add (w1 D.list1 (wL 1)) (wCall spSome [] (wCons (wN 0) (wCons (wN 1) (wCons (wC (.int 3)) wNil))))) wNil))))
theorem q_mixed (ds : List D) (c : Nat) (K KE : D → Nat → Prop) (h : spMixed ds c K KE) : W_mixed (en0 ["pen", "some"] ds c) { nx := fun e => K .non e.cnt, rt := K } := by
  obtain ⟨a, xs, rfl, h1, h3, h4, h5⟩ := h
  unfold W_mixed wRet wCall wCons wN w1 wL wNil w2 wC
  simp [en0, datOf, seqOf_list h1]
  refine ⟨a, xs, 3, rfl, h1, by omega, by omega, by omega, fun ys m1 m2 m3 _ => ?_⟩
  have m2' : ys.length ≤ 3 := by omega
  refine ⟨.lst (xs ++ ys), ?_, .lst (xs ++ ys), xs ++ ys, rfl, rfl, by rw [List.length_append]; omega, by rw [List.length_append]; omega, fun zs pm => h5 zs _ (fun y => ?_) ?_ (by omega) ?_⟩
  · show (if xs.length + ys.length ≤ sizeLine then some (D.lst (xs ++ ys)) else none) = _
    rw [if_pos (by have := small (n := xs.length + ys.length) (by omega); omega)]
  · rw [pm.mem_iff, List.mem_append]
    exact ⟨fun z => z.elim id (m1 y), .inl⟩
  · rw [pm.length_eq, List.length_append]; omega
  · rw [List.length_append]; omega
end DL
/-! DN, part c: drawn names. -/
namespace DL
open PySem PySem.Spec L2
def isLow (c : Nat) : Bool := decide (97 ≤ c ∧ c ≤ 122)
def strOf (l : List Nat) : Str := ⟨l.toArray⟩
/-- a drawn name of this number: small letters, the number somewhere behind the first of them -/
def NameAt (i : Nat) (w : Str) : Prop := ∃ u v : List Nat, w = strOf (u ++ (Str.ofString (toString (i : Int))).cps.toList ++ v) ∧ u ≠ [] ∧ u.all isLow = true ∧ v.all isLow = true ∧ u.length + v.length ≤ 8
def spName : FS := fun ds c K _ => ∃ i : Nat, ds = [.pen, .int i] ∧ i < 100 ∧ c + 10 < 2 ^ 50 ∧ ∀ w c', NameAt i w → c ≤ c' → c' ≤ c + 10 → K (.str w) c'
def wNameBody : WS := (wSet 2 (w2 D.add (wN 2) (w2 D.ix (wC (.str "abcdefghijklmnopqrstuvwxyz")) (wCall spDraw [] (wCons (wN 0) (wCons (wC (.int 26)) wNil))))))
def W_name : WS := (wSeq (wSet 2 (wC (.str "")))
  (wSeq (wFor (wRng1 (wCons (w2 D.add (wC (.int 1)) (wCall spDraw [] (wCons (wN 0) (wCons (wC (.int 8)) wNil)))) wNil)) (wgN 3) wNameBody)
  (wSeq (wSet 4 (w2 D.add (wC (.int 1)) (wCall spDraw [] (wCons (wN 0) (wCons (w1 D.lenD (wL 2)) wNil)))))
  (wRet (w2 D.add (w2 D.add (wSl (wN 2) wON (wOS (wN 4))) (w1 D.str1 (wL 1))) (wSl (wN 2) (wOS (wN 4)) wON))))))
theorem strOf_len (l : List Nat) : (strOf l).length = l.length := by simp [strOf, Str.length]
theorem strOf_app (l m : List Nat) : strOf l ++ strOf m = strOf (l ++ m) := Str.ext' (by rw [Str.cps_append]; simp [strOf])
theorem abc_ix {r : Int} (h0 : 0 ≤ r) (h1 : r < 26) : ∃ c, isLow c = true ∧ D.ix (.str "abcdefghijklmnopqrstuvwxyz") (.int r) = some (.str (strOf [c])) := by
  obtain ⟨n, rfl⟩ := Int.eq_ofNat_of_zero_le h0
  have hn : n < 26 := by omega
  have key : ∀ m : Nat, m < 26 → (L2.atI (Str.ofString "abcdefghijklmnopqrstuvwxyz").cps.toList (m : Int)) = some (97 + m) := by decide +kernel
  refine ⟨97 + n, by unfold isLow; simp; omega, ?_⟩
  show (if (Str.ofString "abcdefghijklmnopqrstuvwxyz").length ≤ sizeLine then (L2.atI (Str.ofString "abcdefghijklmnopqrstuvwxyz").cps.toList (n : Int)).map fun c => D.str ⟨#[c]⟩ else none) = _
  rw [if_pos (by decide +kernel), key n hn]
  rfl
theorem add_str {l m : List Nat} (h : l.length + m.length < 2 ^ 20) : D.add (.str (strOf l)) (.str (strOf m)) = some (.str (strOf (l ++ m))) := by
  show (if (strOf l).length + (strOf m).length ≤ sizeLine then some (D.str (strOf l ++ strOf m)) else none) = _
  rw [if_pos (by rw [strOf_len, strOf_len]; have := small h; omega), strOf_app]
theorem sl_to {l : List Nat} {n : Nat} (hl : l.length < 2 ^ 20) (hn : n ≤ l.length) : D.sl (.str (strOf l)) none (some (n : Int)) = some (.str (strOf (l.take n))) := by
  show (if (strOf l).length ≤ sizeLine then some (D.str (cutS (strOf l) none (some (n : Int)))) else none) = _
  rw [strOf_len, if_pos (by have := small hl; omega)]
  unfold cutS
  rw [HT.sIx_none, HT.sIx_nat, strOf_len, Nat.min_eq_left hn]
  simp [strOf]
theorem sl_from {l : List Nat} {n : Nat} (hl : l.length < 2 ^ 20) (hn : n ≤ l.length) : D.sl (.str (strOf l)) (some (n : Int)) none = some (.str (strOf (l.drop n))) := by
  show (if (strOf l).length ≤ sizeLine then some (D.str (cutS (strOf l) (some (n : Int)) none)) else none) = _
  rw [strOf_len, if_pos (by have := small hl; omega)]
  unfold cutS
  rw [HT.sIx_none, HT.sIx_nat, strOf_len, Nat.min_eq_left hn]
  simp [strOf]
  rw [List.take_of_length_le (by simp)]
theorem num_len : ∀ i : Nat, i < 100 → (Str.ofString (toString (i : Int))).cps.toList.length ≤ 2 := by decide +kernel
theorem num_log : ∀ i : Nat, i < 100 → (i : Int).natAbs.log2 < 1920 := by decide +kernel
theorem str_int {i : Nat} (h : i < 100) : D.str1 (.int (i : Int)) = some (.str (strOf (Str.ofString (toString (i : Int))).cps.toList)) := by
  show (if (i : Int).natAbs.log2 < 1920 then some (D.str (Str.ofString (toString (i : Int)))) else none) = _
  rw [if_pos (num_log i h)]
  rfl
theorem name_loop {F : Fn} {i s4 : S} : ∀ (ds : List D) (l : List Nat) (s3 : S) (c : Nat), l.length + ds.length < 2 ^ 10 → c + ds.length < 2 ^ 50 →
    (∀ m s3, m.all isLow = true → m.length = ds.length → F.nx ⟨[.fz .pen, i, .fz (.str (strOf (l ++ m))), s3, s4], c + ds.length, none⟩) →
    wForR (wgN 3) wNameBody F ds ⟨[.fz .pen, i, .fz (.str (strOf l)), s3, s4], c, none⟩
  | [], l, s3, c, _, _, h => by simpa [wForR] using h [] s3 rfl rfl
  | d :: ds, l, s3, c, hl, hc, h => by
    rw [List.length_cons] at hl hc
    rw [wForR]
    have ih := name_loop (F := F) (i := i) (s4 := s4) ds
    generalize wForR (wgN 3) wNameBody F ds = R at ih
    unfold wgN wNameBody wSet wCall wCons wN wNil w2 wC
    simp [En.asg]
    refine ⟨26, rfl, by omega, by omega, by omega, fun r r0 r1 => ?_⟩
    obtain ⟨ch, hch, e⟩ := abc_ix r0 r1
    refine ⟨_, e, _, add_str (by simp; omega), ?_⟩
    refine ih (l ++ [ch]) (.fz d) (c + 1) (by simp; omega) (by omega) fun m s3 hm hml => ?_
    have := h (ch :: m) s3 (by rw [List.all_cons, hch, hm]; rfl) (by simp [hml])
    rw [List.append_assoc]
    have e : c + 1 + ds.length = c + (d :: ds).length := by rw [List.length_cons]; omega
    rw [e]
    exact this
theorem q_name (ds : List D) (c : Nat) (K KE : D → Nat → Prop) (h : spName ds c K KE) : W_name (en0 ["pen", "index", "word", "spot", "place"] ds c) { nx := fun e => K .non e.cnt, rt := K } := by
  obtain ⟨i, rfl, h1, h2, h3⟩ := h
  unfold W_name wSeq wSet wFor wRng1 wCall wCons wN w1 w2 wL wC wNil wRet wSl wON wOS
  simp [en0, datOf, En.asg]
  refine ⟨8, rfl, by omega, by omega, by omega, fun r r0 r1 => ?_⟩
  have e0 : Str.ofString "" = strOf [] := by decide +kernel
  rw [e0]
  refine ⟨.int (1 + r), rfl, 1 + r, rfl, by omega, by omega, ?_⟩
  refine name_loop _ [] .un (c + 1) (by simp [rangeD]; omega) (by simp [rangeD]; omega) fun m s3 hm hml => ?_
  have hml : m.length = (1 + r).toNat := by simpa [rangeD] using hml
  have hlen : D.lenD (.str (strOf ([] ++ m))) = some (.int m.length) := by
    show (if (strOf ([] ++ m)).length ≤ sizeLine then some (D.int ((strOf ([] ++ m)).length : Nat)) else none) = _
    rw [strOf_len, List.nil_append, if_pos (by have := small (n := m.length) (by omega); omega)]
  simp only [List.nil_append] at hlen ⊢
  simp [rangeD]
  refine ⟨_, hlen, m.length, rfl, by omega, by omega, by omega, fun p p0 p1 => ?_⟩
  refine ⟨.int (1 + p), rfl, ?_⟩
  obtain ⟨n, rfl⟩ := Int.eq_ofNat_of_zero_le p0
  have hn : n + 1 ≤ m.length := by omega
  have hm8 : m.length ≤ 8 := by omega
  have e1 : (1 + (n : Int)) = ((n + 1 : Nat) : Int) := by omega
  rw [e1]
  have hd := num_len i h1
  refine ⟨_, rfl, _, sl_to (by omega) hn, _, str_int h1, _, add_str (by rw [List.length_take]; omega), _, rfl, _, sl_from (by omega) hn, _, add_str (by rw [List.length_append, List.length_take, List.length_drop]; omega), ?_⟩
  refine h3 _ _ ⟨m.take (n + 1), m.drop (n + 1), rfl, ?_, ?_, ?_, ?_⟩ (by omega) (by omega)
  · intro z
    have := congrArg List.length z
    rw [List.length_take, List.length_nil] at this
    omega
  · rw [List.all_eq_true] at hm ⊢
    exact fun x hx => hm x (List.mem_of_mem_take hx)
  · rw [List.all_eq_true] at hm ⊢
    exact fun x hx => hm x (List.mem_of_mem_drop hx)
  · rw [List.length_take, List.length_drop]; omega
end DL
/-! DN, part d: lists of drawn names. -/
namespace DL
open PySem PySem.Spec L2
def spNames : FS := fun ds c K _ => ∃ many : Nat, ds = [.pen, .int many] ∧ many ≤ 100 ∧ c + 11 * many + 10 < 2 ^ 50 ∧ ∀ (ws w0 : List Str) (c' : Nat), w0.length = many → (∀ i w, w0[i]? = some w → NameAt i w) → ws.Perm w0 → c ≤ c' → c' ≤ c + 11 * many → K (.lst (ws.map .str)) c'
def wNamesElt : WE := (wCall spName [] (wCons (wN 0) (wCons (wN 2) wNil)))
def W_names : WS := (wRet (wCall spShuffled [] (wCons (wN 0) (wCons (wLc (wRng1 (wCons (wN 1) wNil)) (wgN 2) wYes wNamesElt [2]) wNil))))
theorem names_loop {K : DK} {s1 : S} : ∀ (js : List Nat) (acc : List D) (s2 : S) (c : Nat), (∀ j ∈ js, j < 100) → acc.length + js.length < 2 ^ 20 → c + 10 * js.length + 10 < 2 ^ 50 →
    (∀ (ws : List Str) (c' : Nat) (s2 : S), ws.length = js.length → (∀ (i j : Nat) w, js[i]? = some j → ws[i]? = some w → NameAt j w) → c ≤ c' → c' ≤ c + 10 * js.length → K (.lst (acc ++ ws.map .str)) ⟨[.fz .pen, s1, s2], c', none⟩) →
    wLcR (wgN 2) wYes wNamesElt [2] K (js.map fun (j : Nat) => D.int (j : Int)) acc ⟨[.fz .pen, s1, s2], c, none⟩
  | [], acc, s2, c, _, _, _, h => by
    have := h [] c s2 rfl (fun i j w z => by simp at z) (Nat.le_refl _) (Nat.le_refl _)
    simpa [wLcR] using this
  | j :: js, acc, s2, c, hj, hl, hc, h => by
    rw [List.length_cons] at hl hc
    rw [List.map_cons, wLcR]
    have ih := names_loop (K := K) (s1 := s1) js
    generalize js.map (fun (j : Nat) => D.int (j : Int)) = ds at ih
    generalize hR : (fun acc e => wLcR (wgN 2) wYes wNamesElt [2] K ds acc e) = R
    have hR' : ∀ acc e, wLcR (wgN 2) wYes wNamesElt [2] K ds acc e = R acc e := fun acc e => by rw [← hR]
    simp only [hR'] at ih ⊢
    unfold wgN wYes wNamesElt wCall wCons wN wNil
    simp [En.wipe, En.asg, En.back]
    refine ⟨j, rfl, hj j List.mem_cons_self, by omega, fun w c' hw h1 h2 => ⟨by have := small (n := acc.length) (by omega); omega, ?_⟩⟩
    refine ih (acc ++ [.str w]) s2 c' (fun x hx => hj x (List.mem_cons_of_mem _ hx)) (by rw [List.length_append, List.length_singleton]; omega) (by omega) fun ws c2 s3 hwl hws k1 k2 => ?_
    have := h (w :: ws) c2 s3 (by rw [List.length_cons, List.length_cons, hwl]) (fun i jj w' z1 z2 => ?_) (by omega) (by rw [List.length_cons]; omega)
    · rw [List.append_assoc]; exact this
    · cases i with
      | zero => cases z1; cases z2; exact hw
      | succ i => exact hws i jj w' (by simpa using z1) (by simpa using z2)
theorem q_names (ds : List D) (c : Nat) (K KE : D → Nat → Prop) (h : spNames ds c K KE) : W_names (en0 ["pen", "many", "index"] ds c) { nx := fun e => K .non e.cnt, rt := K } := by
  obtain ⟨many, rfl, h1, h2, h3⟩ := h
  unfold W_names wRet wCall wCons wN wNil wLc wRng1
  simp [en0]
  refine ⟨by omega, ?_⟩
  have e : rangeD 0 many = (List.range many).map fun (j : Nat) => D.int (j : Int) := by
    unfold rangeD
    exact List.map_congr_left fun j _ => by rw [Int.zero_add]
  rw [e]
  refine names_loop (List.range many) [] .un c (fun j hj => by have := List.mem_range.mp hj; omega) (by simp; omega) (by simp; omega) fun w0 c' s2 hl hw k1 k2 => ?_
  rw [List.length_range] at hl k2
  refine ⟨_, _, rfl, rfl, by simp; omega, by simp; omega, fun ys pm => ?_⟩
  obtain ⟨ws, pw, rfl⟩ := perm_map (f := D.str) pm (L := w0) (by simp)
  refine h3 ws w0 _ hl (fun i w z => ?_) pw (by simp; omega) (by simp; omega)
  have hi : i < many := by rw [← hl]; exact (List.getElem?_eq_some_iff.mp z).1
  exact hw i i w (by simp [hi]) z
end DL
/-! DN, part e: comprehensions that only compute. -/
namespace DL
open PySem PySem.Spec L2
theorem back_same {e : En} {i : Nat} {x : S} (hi : i < e.sl.length) : ((e.wipe [i]).asg i x).back e [i] = e := by
  obtain ⟨sl, cnt, me⟩ := e
  simp only [En.wipe, En.asg, En.back, En.put]
  have h : sl[i]? = some sl[i] := List.getElem?_eq_getElem hi
  rw [h, Option.getD_some, List.set_set, List.set_set]
  have : sl.set i sl[i] = sl := by
    refine List.ext_getElem? fun j => ?_
    rw [List.getElem?_set]
    by_cases q : i = j
    · subst q; rw [if_pos rfl, if_pos hi, h]
    · rw [if_neg q]
  rw [this]
/-- the block's state at the item d -/
abbrev En.at_ (e : En) (i : Nat) (d : D) : En := (e.wipe [i]).asg i (.fz d)
/-- [f d for d in ds if p d], nothing else changed -/
theorem lc_pure {wt : WT} {we : WE} {K : DK} {i : Nat} {e : En} (f : D → D) (p : D → Bool) (hi : i < e.sl.length) : ∀ (ds acc : List D), (∀ d ∈ ds, ∀ K' : Bool → En → Prop, K' (p d) (e.at_ i d) → wt (e.at_ i d) K') →
    (∀ d ∈ ds, p d = true → ∀ K' : DK, K' (f d) (e.at_ i d) → we (e.at_ i d) K') → acc.length + ds.length ≤ sizeLine → K (.lst (acc ++ (ds.filter p).map f)) e → wLcR (wgN i) wt we [i] K ds acc e
  | [], acc, _, _, _, h => by rw [wLcR]; simpa using h
  | d :: ds, acc, ht, he, hz, h => by
    rw [List.length_cons] at hz
    rw [wLcR]
    show wt (e.at_ i d) _
    refine ht d List.mem_cons_self _ ?_
    by_cases q : p d = true
    · rw [if_pos q]
      refine he d List.mem_cons_self q _ ⟨by omega, ?_⟩
      rw [back_same hi]
      refine lc_pure f p hi ds (acc ++ [f d]) (fun x hx => ht x (List.mem_cons_of_mem _ hx)) (fun x hx => he x (List.mem_cons_of_mem _ hx)) (by rw [List.length_append, List.length_singleton]; omega) ?_
      rw [List.filter_cons_of_pos q, List.map_cons] at h
      rw [List.append_assoc]
      exact h
    · rw [if_neg q, back_same hi]
      refine lc_pure f p hi ds acc (fun x hx => ht x (List.mem_cons_of_mem _ hx)) (fun x hx => he x (List.mem_cons_of_mem _ hx)) (by omega) ?_
      rw [List.filter_cons_of_neg q] at h
      exact h
/-- without a test -/
theorem lc_map {we : WE} {K : DK} {i : Nat} {e : En} (f : D → D) (hi : i < e.sl.length) (ds : List D) (he : ∀ d ∈ ds, ∀ K' : DK, K' (f d) (e.at_ i d) → we (e.at_ i d) K') (hz : ds.length ≤ sizeLine) (h : K (.lst (ds.map f)) e) : wLcR (wgN i) wYes we [i] K ds [] e :=
  lc_pure f (fun _ => true) hi ds [] (fun d _ K' k => k) (fun d hd _ => he d hd) (by simpa using hz) (by rw [List.filter_eq_self.mpr (fun _ _ => rfl)]; exact h)
/-- a loop whose body only goes on: an invariant by the items that are left -/
theorem for_nx {g : WG} {wb : WS} {F : Fn} (I : List D → En → Prop) : ∀ (ds : List D) (e : En), I ds e → (∀ d ds e (R : En → Prop), I (d :: ds) e → (∀ e', I ds e' → R e') → g d e fun e1 => wb e1 { F with nx := R, ct := R, bk := F.nx }) → (∀ e, I [] e → F.nx e) → wForR g wb F ds e
  | [], e, h, _, k => by rw [wForR]; exact k e h
  | d :: ds, e, h, st, k => by
    rw [wForR]
    exact st d ds e _ h fun e' h' => for_nx I ds e' h' st k
end DL
/-! DN, part f: the library's small defs: ascending, is_name, is_row, need_rows. -/
namespace DL
open PySem PySem.Spec L2
def spAscending : FS := fun ds c K _ => ∃ a xs, ds = [a] ∧ seqOf a = some xs ∧ SetIn xs ∧ SrtOk (ddup xs) ∧ K (.tup (srt (ddup xs))) c
def W_ascending : WS := (wRet (w1 D.tup1 (w1 D.sortSet (wL 0))))
theorem seqOf_sortSet {a : D} {xs : List D} (h : seqOf a = some xs) (h1 : SetIn xs) (h2 : SrtOk (ddup xs)) : a.sortSet = some (.lst (srt (ddup xs))) := by
  cases a <;> first | (cases h; simp only [D.sortSet]; rw [if_pos ⟨h1, h2⟩]) | cases h
theorem q_ascending (ds : List D) (c : Nat) (K KE : D → Nat → Prop) (h : spAscending ds c K KE) : W_ascending (en0 ["names"] ds c) { nx := fun e => K .non e.cnt, rt := K } := by
  obtain ⟨a, xs, rfl, h1, h2, h3, h4⟩ := h
  unfold W_ascending wRet w1 wL
  simp [en0, datOf, seqOf_sortSet h1 h2 h3, D.tup1]
  exact h4
/-- the signs of a name -/
def isSign (c : Nat) : Bool := isLow c || decide (48 ≤ c ∧ c ≤ 57)
def nameL (l : List Nat) : Bool := decide (1 ≤ l.length) && decide (l.length ≤ 12) && (match l with | a :: _ => isLow a | [] => false) && l.all isSign
/-- of a name that is one -/
def spIsName : FS := fun ds c K _ => ∃ l, ds = [.str (strOf l)] ∧ nameL l = true ∧ K (.bl true) c
def W_is_name : WS := (wSeq (wIfS (wOr (wNot (wTru (w1 (D.isI (tabB ["str"])) (wL 0)))) (wOr (wNot (wTst (wCh cLe cLe (wC (.int 1)) (w1 D.lenD (wL 0)) (wC (.int 12))))) (wTst (w2 D.nin (w2O 0 D.ix (wC (.int 0))) (wC (.str "abcdefghijklmnopqrstuvwxyz")))))) (wRet (wC (.bl false))) wNx)
  (wRet (w1 D.all1 (wLc (wIt (wN 0)) (wgN 1) wYes (wOrV (w2 D.inn (wN 1) (wC (.str "abcdefghijklmnopqrstuvwxyz"))) (w2 D.inn (wN 1) (wC (.str "0123456789")))) [1]))))
theorem low_mem (c : Nat) : decide (c ∈ (Str.ofString "abcdefghijklmnopqrstuvwxyz").cps.toList) = isLow c := by
  have e : (Str.ofString "abcdefghijklmnopqrstuvwxyz").cps.toList = (List.range 26).map (97 + ·) := by decide +kernel
  rw [e]
  unfold isLow
  refine decide_eq_decide.mpr ⟨fun h => ?_, fun h => ?_⟩
  · obtain ⟨n, hn, rfl⟩ := List.mem_map.mp h
    have := List.mem_range.mp hn
    omega
  · exact List.mem_map.mpr ⟨c - 97, List.mem_range.mpr (by omega), by omega⟩
theorem fig_mem (c : Nat) : decide (c ∈ (Str.ofString "0123456789").cps.toList) = decide (48 ≤ c ∧ c ≤ 57) := by
  have e : (Str.ofString "0123456789").cps.toList = (List.range 10).map (48 + ·) := by decide +kernel
  rw [e]
  refine decide_eq_decide.mpr ⟨fun h => ?_, fun h => ?_⟩
  · obtain ⟨n, hn, rfl⟩ := List.mem_map.mp h
    have := List.mem_range.mp hn
    omega
  · exact List.mem_map.mpr ⟨c - 48, List.mem_range.mpr (by omega), by omega⟩
theorem inn_low (c : Nat) : D.inn (.str (strOf [c])) (.str "abcdefghijklmnopqrstuvwxyz") = some (.bl (isLow c)) := by
  show some (D.bl (decide (c ∈ (Str.ofString "abcdefghijklmnopqrstuvwxyz").cps.toList))) = _
  rw [low_mem]
theorem nin_low (c : Nat) : D.nin (.str (strOf [c])) (.str "abcdefghijklmnopqrstuvwxyz") = some (.bl (!isLow c)) := by
  show some (D.bl (!decide (c ∈ (Str.ofString "abcdefghijklmnopqrstuvwxyz").cps.toList))) = _
  rw [low_mem]
theorem inn_fig (c : Nat) : D.inn (.str (strOf [c])) (.str "0123456789") = some (.bl (decide (48 ≤ c ∧ c ≤ 57))) := by
  show some (D.bl (decide (c ∈ (Str.ofString "0123456789").cps.toList))) = _
  rw [fig_mem]
theorem items_str (l : List Nat) : D.items (.str (strOf l)) = some (l.map fun c => D.str (strOf [c])) := by
  show some ((strOf l).cps.toList.map fun c => D.str ⟨#[c]⟩) = _
  simp [strOf]
theorem lenD_str {l : List Nat} (h : l.length < 2 ^ 20) : D.lenD (.str (strOf l)) = some (.int l.length) := by
  show (if (strOf l).length ≤ sizeLine then some (D.int ((strOf l).length : Nat)) else none) = _
  rw [strOf_len, if_pos (by have := small h; omega)]
theorem isI_str (x : Str) : D.isI (tabB ["str"]) (.str x) = some (.bl true) := rfl
theorem bools_map (f : α → Bool) (l : List α) : bools (l.map fun x => D.bl (f x)) = some (l.map f) := by
  induction l with
  | nil => rfl
  | cons a l ih =>
    rw [List.map_cons, List.map_cons]
    unfold bools
    rw [ih]; rfl
theorem q_is_name (ds : List D) (c : Nat) (K KE : D → Nat → Prop) (h : spIsName ds c K KE) : W_is_name (en0 ["value", "sign"] ds c) { nx := fun e => K .non e.cnt, rt := K } := by
  obtain ⟨l, rfl, h1, h2⟩ := h
  unfold W_is_name wSeq wIfS wOr wNot wTru wTst wCh w1 w2 wL w2O wC wRet wNx wLc wIt wN
  simp [en0, datOf]
  unfold nameL at h1
  simp only [Bool.and_eq_true, decide_eq_true_eq] at h1
  obtain ⟨⟨⟨g1, g2⟩, g3⟩, g4⟩ := h1
  cases l with
  | nil => simp at g1
  | cons a l =>
    have e1 : cLe (.int 1) (.int ((a :: l).length : Nat)) = some (.bl true) := by
      show some (D.bl (decide ((1 : Int) ≤ ((a :: l).length : Nat)))) = _
      rw [decide_eq_true (by omega)]
    have e2 : cLe (.int ((a :: l).length : Nat)) (.int 12) = some (.bl true) := by
      show some (D.bl (decide ((((a :: l).length : Nat) : Int) ≤ 12))) = _
      rw [decide_eq_true (by omega)]
    have e3 : D.ix (.str (strOf (a :: l))) (.int 0) = some (.str (strOf [a])) := by
      show (if (strOf (a :: l)).length ≤ sizeLine then (L2.atI (strOf (a :: l)).cps.toList 0).map fun c => D.str ⟨#[c]⟩ else none) = _
      rw [strOf_len, if_pos (by have := small (n := (a :: l).length) (by omega); omega)]
      unfold L2.atI L2.ixN
      simp [strOf]
    have g3 : isLow a = true := g3
    refine ⟨_, isI_str _, .inr ⟨rfl, _, lenD_str (by omega), _, e1, .inr ⟨rfl, _, e2, .inr ⟨rfl, _, e3, _, nin_low a, .inl ⟨by rw [g3]; rfl, _, items_str _, ?_⟩⟩⟩⟩⟩
    refine lc_map (f := fun d => .bl true) (by simp) _ (fun d hd K' k => ?_) (by have := small (n := (a :: l).length) (by omega); simp at this ⊢; omega) ?_
    · obtain ⟨x, hx, rfl⟩ := List.mem_map.mp hd
      have hs : isSign x = true := List.all_eq_true.mp g4 x hx
      unfold wOrV
      simp [En.wipe, En.asg, inn_low, inn_fig] at k ⊢
      unfold isSign at hs
      cases q : isLow x with
      | true => first | exact .inr ⟨rfl, k⟩ | exact .inr k | simpa [q] using k
      | false =>
        rw [q, Bool.false_or] at hs
        have hs2 := hs
        simp at hs2
        first | exact .inl ⟨rfl, by simpa [hs2] using k⟩ | simpa [q, hs2] using k
    · rw [List.map_map]
      have e := bools_map (fun _ => true) (a :: l)
      refine ⟨.bl true, ?_, h2⟩
      show D.all1 (.lst ((a :: l).map fun _ => D.bl true)) = _
      unfold D.all1
      simp only [e]
      simp
/-! ### rows -/
abbrev Row3 := List Nat × List Nat × List Nat
def rowD (r : Row3) : D := .tup [.str (strOf r.1), .str (strOf r.2.1), .str (strOf r.2.2)]
def RowOk (r : Row3) : Prop := nameL r.1 = true ∧ nameL r.2.1 = true ∧ nameL r.2.2 = true
/-- of a row that is one -/
def spIsRow : FS := fun ds c K _ => ∃ r, ds = [rowD r] ∧ RowOk r ∧ K (.bl true) c
def W_is_row : WS := (wRet (wAndV (w1 (D.isI (tabB ["tuple"])) (wL 0)) (wAndV (w2 D.eqo (w1 D.lenD (wL 0)) (wC (.int 3))) (w1 D.all1 (wLc (wIt (wN 0)) (wgN 1) wYes (wCall spIsName [] (wCons (wN 1) wNil)) [1])))))
theorem q_is_row (ds : List D) (c : Nat) (K KE : D → Nat → Prop) (h : spIsRow ds c K KE) : W_is_row (en0 ["value", "part"] ds c) { nx := fun e => K .non e.cnt, rt := K } := by
  obtain ⟨r, rfl, ⟨h1, h2, h3⟩, h4⟩ := h
  have e1 : D.isI (tabB ["tuple"]) (rowD r) = some (.bl true) := rfl
  have e2 : D.lenD (rowD r) = some (.int 3) := rfl
  have e3 : D.eqo (.int 3) (.int 3) = some (.bl true) := by decide +kernel
  have e4 : D.items (rowD r) = some [.str (strOf r.1), .str (strOf r.2.1), .str (strOf r.2.2)] := rfl
  simp only [W_is_row, wRet, wAndV, w1, w2, wL, wC, wLc, wIt, wN, en0, datOf]
  simp [datOf, e1, e2, e3, e4]
  refine lc_map (f := fun d => .bl true) (by simp) _ (fun d hd K' k => ?_) (by have := small (n := 3) (by omega); simp at this ⊢; omega) ?_
  · have hd2 : ∃ l, d = .str (strOf l) ∧ nameL l = true := by
      rcases List.mem_cons.mp hd with rfl | hd
      · exact ⟨_, rfl, h1⟩
      rcases List.mem_cons.mp hd with rfl | hd
      · exact ⟨_, rfl, h2⟩
      rcases List.mem_cons.mp hd with rfl | hd
      · exact ⟨_, rfl, h3⟩
      · cases hd
    obtain ⟨l, rfl, hl⟩ := hd2
    simp [En.wipe, En.asg, wCall, wCons, wNil, wN] at k ⊢
    exact ⟨l, rfl, hl, k⟩
  · exact ⟨.bl true, rfl, h4⟩
theorem seqOf_items {a : D} {xs : List D} (h : seqOf a = some xs) : a.items = some xs := by
  cases a <;> first | (cases h; rfl) | cases h
def spNeedRows : FS := fun ds c K _ => ∃ a, ∃ rs : List Row3, ds = [a] ∧ seqOf a = some (rs.map rowD) ∧ (∀ r ∈ rs, RowOk r) ∧ K .non c
def W_need_rows : WS := (wFor (wIt (wN 0)) (wgN 1) (wIfS (wNot (wTru (wCall spIsRow [] (wCons (wN 1) wNil)))) wNo wNx))
theorem q_need_rows (ds : List D) (c : Nat) (K KE : D → Nat → Prop) (h : spNeedRows ds c K KE) : W_need_rows (en0 ["rows", "row"] ds c) { nx := fun e => K .non e.cnt, rt := K } := by
  obtain ⟨a, rs, rfl, h1, h2, h3⟩ := h
  simp only [W_need_rows, wFor, wIt, wN, en0]
  simp [seqOf_items h1]
  refine for_nx (fun ds e => ∃ s1, e = ⟨[.fz a, s1], c, none⟩ ∧ ∀ d ∈ ds, ∃ r, d = rowD r ∧ RowOk r) _ _ ⟨.un, rfl, fun d hd => ?_⟩ (fun d ds e R ⟨s1, e1, hd⟩ k => ?_) fun e ⟨s1, e1, _⟩ => ?_
  · obtain ⟨r, hr, rfl⟩ := List.mem_map.mp hd
    exact ⟨r, rfl, h2 r hr⟩
  · subst e1
    obtain ⟨r, rfl, hr⟩ := hd _ List.mem_cons_self
    simp [wgN, wIfS, wNot, wTru, wCall, wCons, wNil, wN, En.asg, wNx]
    refine ⟨r, rfl, hr, .inr ⟨rfl, ?_⟩⟩
    exact k _ ⟨_, rfl, fun d hd' => hd d (List.mem_cons_of_mem _ hd')⟩
  · subst e1
    exact h3
end DL
/-! DN, part g: dicts as lists of pairs. -/
namespace DL
open PySem PySem.Spec L2
section
variable {α β : Type} [DecidableEq α]
/-- the pairs behind al[k] = v -/
def upsert (al : List (α × β)) (k : α) (v : β) : List (α × β) := match al with
  | [] => [(k, v)]
  | (a, b) :: r => if a = k then (a, v) :: r else (a, b) :: upsert r k v
def alGet (al : List (α × β)) (k : α) : Option β := (al.find? fun p => decide (p.1 = k)).map (·.2)
theorem upsert_keys (al : List (α × β)) (k : α) (v : β) : (upsert al k v).map (·.1) = if k ∈ al.map (·.1) then al.map (·.1) else al.map (·.1) ++ [k] := by
  induction al with
  | nil => rfl
  | cons p r ih =>
    obtain ⟨a, b⟩ := p
    unfold upsert
    by_cases h : a = k
    · subst h; simp
    · rw [if_neg h, List.map_cons, ih, List.map_cons]
      have h' : ¬ k = a := fun e => h e.symm
      by_cases q : k ∈ r.map (·.1)
      · rw [if_pos q, if_pos (List.mem_cons_of_mem _ q)]
      · rw [if_neg q, if_neg (by simp only [List.mem_cons, not_or]; exact ⟨h', q⟩)]; rfl
theorem alGet_upsert (al : List (α × β)) (k j : α) (v : β) : alGet (upsert al k v) j = if j = k then some v else alGet al j := by
  unfold alGet
  induction al with
  | nil =>
    unfold upsert
    by_cases h : j = k
    · subst h; simp
    · have h' : ¬ k = j := fun e => h e.symm
      simp [h, h']
  | cons p r ih =>
    obtain ⟨a, b⟩ := p
    unfold upsert
    by_cases h : a = k
    · subst h
      rw [if_pos rfl]
      by_cases q : a = j
      · subst q; simp
      · have q' : ¬ j = a := fun e => q e.symm
        simp [q, q']
    · rw [if_neg h]
      by_cases q : a = j
      · subst q
        simp [h]
      · simp only [List.find?_cons, decide_eq_false q]
        exact ih
variable {kf : α → D} {vf : β → D}
def alK (kf : α → D) (al : List (α × β)) : List D := al.map fun p => kf p.1
def alV (vf : β → D) (al : List (α × β)) : List D := al.map fun p => vf p.2
theorem dix_cons {x k : D} {ks : List D} : dix (x :: ks) k = if x = k then some 0 else (dix ks k).map (· + 1) := by
  unfold dix
  rw [List.findIdx?_cons]
  by_cases h : x = k
  · simp [h]
  · simp [h]
theorem dget_al (inj : ∀ a b, kf a = kf b → a = b) (al : List (α × β)) (k : α) : dget (alK kf al) (alV vf al) (kf k) = (alGet al k).map vf := by
  unfold dget alGet
  induction al with
  | nil => rfl
  | cons p r ih =>
    obtain ⟨a, b⟩ := p
    show (dix (kf a :: alK kf r) (kf k)).bind (fun i => (vf b :: alV vf r)[i]?) = _
    rw [dix_cons]
    by_cases h : a = k
    · subst h
      simp
    · rw [if_neg fun e => h (inj _ _ e)]
      simp only [List.find?_cons, decide_eq_false h]
      rw [← ih, Option.bind_map]
      congr 1
theorem dput_al (inj : ∀ a b, kf a = kf b → a = b) (al : List (α × β)) (k : α) (v : β) : dput (alK kf al) (alV vf al) (kf k) (vf v) = (alK kf (upsert al k v), alV vf (upsert al k v)) := by
  induction al with
  | nil => rfl
  | cons p r ih =>
    obtain ⟨a, b⟩ := p
    unfold upsert
    show dput (kf a :: alK kf r) (vf b :: alV vf r) (kf k) (vf v) = _
    unfold dput at ih ⊢
    rw [dix_cons]
    by_cases h : a = k
    · subst h
      rw [if_pos rfl, if_pos rfl]
      rfl
    · rw [if_neg fun e => h (inj _ _ e), if_neg h]
      cases q : dix (alK kf r) (kf k) with
      | none =>
        rw [q] at ih
        simp only [Option.map_none]
        have e1 := congrArg Prod.fst ih
        have e2 := congrArg Prod.snd ih
        simp only at e1 e2
        exact Prod.ext (congrArg (kf a :: ·) e1) (congrArg (vf b :: ·) e2)
      | some i =>
        rw [q] at ih
        simp only [Option.map_some]
        have e1 := congrArg Prod.fst ih
        have e2 := congrArg Prod.snd ih
        simp only at e1 e2
        exact Prod.ext (congrArg (kf a :: ·) e1) (congrArg (vf b :: ·) e2)
end
end DL
/-! DN, part h: sorted(set(xs)) of coded things. -/
namespace DL
open PySem PySem.Spec L2
section
variable {α : Type} {f : α → D}
theorem srt_perm_self (ds : List D) : (srt ds).Perm ds := List.mergeSort_perm ds dle
theorem canon_ex (inj : ∀ a b, f a = f b → a = b) (xs : List α) : ∃ us : List α, srt (ddup (xs.map f)) = us.map f ∧ us.Nodup ∧ ∀ u, u ∈ us ↔ u ∈ xs := by
  have pick : ∀ l : List D, (∀ d ∈ l, ∃ a, f a = d) → ∃ us : List α, l = us.map f := by
    intro l
    induction l with
    | nil => exact fun _ => ⟨[], rfl⟩
    | cons d l ih =>
      intro h
      obtain ⟨us, rfl⟩ := ih fun x hx => h x (List.mem_cons_of_mem _ hx)
      obtain ⟨a, rfl⟩ := h d List.mem_cons_self
      exact ⟨a :: us, rfl⟩
  have mem : ∀ d, d ∈ srt (ddup (xs.map f)) ↔ d ∈ xs.map f := fun d => (srt_perm_self _).mem_iff.trans mem_ddup
  obtain ⟨us, e⟩ := pick (srt (ddup (xs.map f))) fun d hd => by
    obtain ⟨a, _, h⟩ := List.mem_map.mp ((mem d).mp hd)
    exact ⟨a, h⟩
  refine ⟨us, e, ?_, fun u => ?_⟩
  · have nd : (us.map f).Nodup := by rw [← e]; exact (srt_perm_self _).nodup_iff.mpr (nodup_ddup _)
    exact List.Pairwise.of_map f (fun _ _ hne e => hne (congrArg f e)) nd
  · have h1 := mem (f u)
    rw [e] at h1
    constructor
    · intro h
      obtain ⟨a, ha, e2⟩ := List.mem_map.mp (h1.mp (List.mem_map.mpr ⟨u, h, rfl⟩))
      exact inj _ _ e2 ▸ ha
    · intro h
      obtain ⟨a, ha, e2⟩ := List.mem_map.mp (h1.mpr (List.mem_map.mpr ⟨u, h, rfl⟩))
      exact inj _ _ e2 ▸ ha
/-- those with the same members come out the same -/
theorem canon_eq {ds es : List D} (h : ∀ d, d ∈ ds ↔ d ∈ es) (gd : D.gds (ddup ds) 60 = true) (al : ∀ d ∈ ddup ds, ∀ e ∈ ddup ds, PySem.W.alike d.enc e.enc = true) : srt (ddup ds) = srt (ddup es) :=
  srt_perm ((List.perm_ext_iff_of_nodup (nodup_ddup ds) (nodup_ddup es)).mpr fun d => by rw [mem_ddup, mem_ddup]; exact h d) gd al
theorem srt_srt {ds : List D} (gd : D.gds ds 60 = true) (al : ∀ d ∈ ds, ∀ e ∈ ds, PySem.W.alike d.enc e.enc = true) : srt (srt ds) = srt ds := (srt_perm (srt_perm_self ds).symm gd al).symm
end
end DL
/-! DN, part i: rows and texts can be sorted, a set can be made of them. -/
namespace DL
open PySem PySem.Spec L2
abbrev Txt := List Nat
def txtD (l : Txt) : D := .str (strOf l)
theorem strOf_inj {l m : Txt} (h : strOf l = strOf m) : l = m := by
  have := congrArg (fun s : Str => s.cps.toList) h
  simpa [strOf] using this
theorem txtD_inj (a b : Txt) (h : txtD a = txtD b) : a = b := by
  unfold txtD at h
  injection h with h
  exact strOf_inj h
theorem rowD_inj (a b : Row3) (h : rowD a = rowD b) : a = b := by
  obtain ⟨a1, a2, a3⟩ := a
  obtain ⟨b1, b2, b3⟩ := b
  unfold rowD at h
  injection h with h
  injection h with h1 h
  injection h with h2 h
  injection h with h3 h
  rw [txtD_inj a1 b1 h1, txtD_inj a2 b2 h2, txtD_inj a3 b3 h3]
theorem gds_of {l : List D} {n : Nat} (h : ∀ d ∈ l, d.gd n = true) : D.gds l n = true := by
  induction l with
  | nil => rfl
  | cons d l ih =>
    rw [D.gds, Bool.and_eq_true]
    exact ⟨h d List.mem_cons_self, ih fun e z => h e (List.mem_cons_of_mem _ z)⟩
abbrev TxtOk (l : Txt) : Prop := PyData.strOk (strOf l) = true
theorem txt_srt {ds : List D} (h : ∀ d ∈ ds, ∃ l, d = txtD l ∧ TxtOk l) (hl : ds.length ≤ sizeLine) : SrtOk ds where
  gd := gds_of fun d hd => by
    obtain ⟨l, rfl, ok⟩ := h d hd
    simp only [txtD, D.gd]
    exact ok
  al := fun d hd e he => by
    obtain ⟨l, rfl, _⟩ := h d hd
    obtain ⟨m, rfl, _⟩ := h e he
    rfl
  kind := .inr fun d hd => by
    obtain ⟨l, rfl, _⟩ := h d hd
    exact ⟨(fun z => nomatch z), (fun r z => nomatch z)⟩
  sz := hl
theorem row_srt {ds : List D} (h : ∀ d ∈ ds, ∃ r, d = rowD r ∧ TxtOk r.1 ∧ TxtOk r.2.1 ∧ TxtOk r.2.2) (hl : ds.length ≤ sizeLine) : SrtOk ds where
  gd := gds_of fun d hd => by
    obtain ⟨l, rfl, o1, o2, o3⟩ := h d hd
    simp [rowD, D.gd, D.gds]
    exact ⟨o1, o2, o3⟩
  al := fun d hd e he => by
    obtain ⟨l, rfl, _⟩ := h d hd
    obtain ⟨m, rfl, _⟩ := h e he
    rfl
  kind := .inl fun d hd => by
    obtain ⟨l, rfl, _⟩ := h d hd
    exact ⟨_, _, rfl⟩
  sz := hl
theorem txt_set {xs : List Txt} (hl : xs.length + 1 < scanBound) : SetIn (xs.map txtD) := .inr ⟨by
  rw [List.all_eq_true]
  intro d hd
  obtain ⟨l, _, rfl⟩ := List.mem_map.mp hd
  rfl, by rw [List.length_map]; exact hl⟩
theorem row_set {xs : List Row3} (hl : xs.length < 307) : SetIn (xs.map rowD) := .inl ⟨by
  rw [List.all_eq_true]
  intro d hd
  obtain ⟨l, _, rfl⟩ := List.mem_map.mp hd
  rfl, by rw [List.length_map]; exact hl⟩
theorem signs_ok {l : Txt} (h : l.all isSign = true) : TxtOk l := by
  show (strOf l).cps.all (fun c => decide (c < 0x110000)) = true
  rw [← Array.all_toList]
  show (l.toArray.toList).all _ = true
  rw [List.toList_toArray, List.all_eq_true]
  intro c hc
  have := List.all_eq_true.mp h c hc
  unfold isSign isLow at this
  simp only [Bool.or_eq_true, decide_eq_true_eq] at this
  exact decide_eq_true (by omega)
theorem name_ok {l : Txt} (h : nameL l = true) : TxtOk l := by
  unfold nameL at h
  simp only [Bool.and_eq_true] at h
  exact signs_ok h.2
end DL
/-! DN, part j: as_tuples. -/
namespace DL
open PySem PySem.Spec L2
def asT : Nat → D → Option D
  | _, .non => some .non
  | _, .bl b => some (.bl b)
  | _, .int i => some (.int i)
  | _, .str x => some (.str x)
  | n + 1, .tup ds => if ds.length ≤ sizeLine then (ds.mapM (asT n)).map .tup else none
  | n + 1, .lst ds => if ds.length ≤ sizeLine then (ds.mapM (asT n)).map .tup else none
  | _, _ => none
def spAsT (n : Nat) : FS := fun ds c K _ => ∃ d z, ds = [d] ∧ asT n d = some z ∧ K z c
def W_as_tuples (sp : FS) : WS := (wSeq (wIfS (wTru (w1 (D.isI (tabB ["tuple", "list"])) (wL 0))) (wRet (w1 D.tup1 (wLc (wIt (wN 0)) (wgN 1) wYes (wCall sp [] (wCons (wN 1) wNil)) [1]))) wNx)
  (wRet (wN 0)))
theorem q_as_flat (sp : FS) (d : D) (c : Nat) (K : D → Nat → Prop) (hd : flat d = true) (hf : ∀ a, d ≠ .fn a) (h : K d c) : W_as_tuples sp (en0 ["value", "part"] [d] c) { nx := fun e => K .non e.cnt, rt := K } := by
  have e1 : ∃ z, D.isI (tabB ["tuple", "list"]) d = some z ∧ z.tru = some false := by
    cases d <;> first | exact ⟨_, rfl, rfl⟩ | exact absurd rfl (hf _) | cases hd
  obtain ⟨z, e1, e2⟩ := e1
  simp only [W_as_tuples, wSeq, wIfS, wTru, w1, wL, wRet, wNx, wN, en0]
  simp [datOf, e1, e2]
  exact h
theorem q_as_seq (n : Nat) (d : D) (xs zs : List D) (c : Nat) (K : D → Nat → Prop) (hd : seqOf d = some xs) (hl : xs.length ≤ sizeLine) (hz : xs.mapM (asT n) = some zs) (h : K (.tup zs) c) : W_as_tuples (spAsT n) (en0 ["value", "part"] [d] c) { nx := fun e => K .non e.cnt, rt := K } := by
  have e1 : D.isI (tabB ["tuple", "list"]) d = some (.bl true) := by
    cases d <;> first | rfl | cases hd
  have e2 := seqOf_items hd
  simp only [W_as_tuples, wSeq, wIfS, wTru, w1, wL, wRet, wNx, wN, wLc, wIt, en0]
  simp [datOf, e1, e2, D.tru]
  have pick : ∀ {xs zs : List D}, xs.mapM (asT n) = some zs → (∀ x ∈ xs, ∃ z, asT n x = some z) ∧ xs.map (fun x => (asT n x).getD .non) = zs := by
    intro xs
    induction xs with
    | nil => intro zs hz; simp at hz; subst hz; exact ⟨fun _ z => (nomatch z), rfl⟩
    | cons x xs ih =>
      intro zs hz
      rw [List.mapM_cons] at hz
      obtain ⟨z, h1, hz⟩ := Option.bind_eq_some_iff.mp hz
      obtain ⟨r, h2, hz⟩ := Option.bind_eq_some_iff.mp hz
      cases hz
      obtain ⟨i1, i2⟩ := ih h2
      refine ⟨fun y hy => ?_, by rw [List.map_cons, h1, i2]; rfl⟩
      rcases List.mem_cons.mp hy with rfl | hy
      · exact ⟨z, h1⟩
      · exact i1 y hy
  obtain ⟨p1, p2⟩ := pick hz
  refine lc_map (f := fun x => (asT n x).getD .non) (by simp) xs (fun x hx K' k => ?_) hl ?_
  · obtain ⟨z, hz⟩ := p1 x hx
    rw [hz, Option.getD_some] at k
    simp [En.wipe, En.asg, wCall, wCons, wNil, wN] at k ⊢
    exact ⟨x, z, rfl, hz, k⟩
  · rw [p2]
    exact ⟨_, rfl, h⟩
theorem q_as_tuples (n : Nat) (sp : FS) (hs : ∀ m, n = m + 1 → sp = spAsT m) (ds : List D) (c : Nat) (K KE : D → Nat → Prop) (h : spAsT n ds c K KE) : W_as_tuples sp (en0 ["value", "part"] ds c) { nx := fun e => K .non e.cnt, rt := K } := by
  obtain ⟨d, z, rfl, hz, h⟩ := h
  cases d with
  | tup xs =>
    cases n with
    | zero => cases hz
    | succ m =>
      obtain rfl := hs m rfl
      rw [asT] at hz
      split at hz
      · rename_i hl
        obtain ⟨zs, h1, rfl⟩ := Option.map_eq_some_iff.mp hz
        exact q_as_seq m _ xs zs c K rfl hl h1 h
      · cases hz
  | lst xs =>
    cases n with
    | zero => cases hz
    | succ m =>
      obtain rfl := hs m rfl
      rw [asT] at hz
      split at hz
      · rename_i hl
        obtain ⟨zs, h1, rfl⟩ := Option.map_eq_some_iff.mp hz
        exact q_as_seq m _ xs zs c K rfl hl h1 h
      · cases hz
  | non => cases n <;> cases hz <;> exact q_as_flat sp _ c K rfl (fun _ z => nomatch z) h
  | bl b => cases n <;> cases hz <;> exact q_as_flat sp _ c K rfl (fun _ z => nomatch z) h
  | int i => cases n <;> cases hz <;> exact q_as_flat sp _ c K rfl (fun _ z => nomatch z) h
  | str x => cases n <;> cases hz <;> exact q_as_flat sp _ c K rfl (fun _ z => nomatch z) h
  | _ => cases n <;> cases hz
end DL
/-! DN, part k: same, the law's own same. -/
namespace DL
open PySem PySem.Spec L2
/-- plain data, nested at most so deep -/
def pl : Nat → D → Bool
  | _, .non => true
  | _, .bl _ => true
  | _, .int _ => true
  | _, .str x => PyData.strOk x
  | n + 1, .tup ds => decide (ds.length < 2 ^ 20) && ds.all (pl n)
  | _, _ => false
def isTup : D → Bool
  | .tup _ => true
  | _ => false
section
variable {n : Nat} {d : D}
theorem pl_cases (h : pl n d = true) : d = .non ∨ (∃ b, d = .bl b) ∨ (∃ i, d = .int i) ∨ (∃ x, d = .str x ∧ PyData.strOk x = true) ∨ ∃ m ds, n = m + 1 ∧ d = .tup ds ∧ ds.length < 2 ^ 20 ∧ ∀ x ∈ ds, pl m x = true := by
  cases d with
  | non => exact .inl rfl
  | bl b => exact .inr (.inl ⟨b, rfl⟩)
  | int i => exact .inr (.inr (.inl ⟨i, rfl⟩))
  | str x => exact .inr (.inr (.inr (.inl ⟨x, rfl, by simpa [pl] using h⟩)))
  | tup ds =>
    cases n with
    | zero => simp [pl] at h
    | succ m =>
      simp only [pl, Bool.and_eq_true, decide_eq_true_eq, List.all_eq_true] at h
      exact .inr (.inr (.inr (.inr ⟨m, ds, rfl, rfl, h.1, h.2⟩)))
  | _ => cases n <;> simp [pl] at h
end
theorem it_non : D.isI (tabB ["tuple"]) .non = some (.bl false) := rfl
theorem it_bl (b : Bool) : D.isI (tabB ["tuple"]) (.bl b) = some (.bl false) := rfl
theorem it_int (i : Int) : D.isI (tabB ["tuple"]) (.int i) = some (.bl false) := rfl
theorem it_str (x : Str) : D.isI (tabB ["tuple"]) (.str x) = some (.bl false) := rfl
theorem it_tup (ds : List D) : D.isI (tabB ["tuple"]) (.tup ds) = some (.bl true) := rfl
theorem ib_non : D.isI (tabB ["bool"]) .non = some (.bl false) := rfl
theorem ib_bl (b : Bool) : D.isI (tabB ["bool"]) (.bl b) = some (.bl true) := rfl
theorem ib_int (i : Int) : D.isI (tabB ["bool"]) (.int i) = some (.bl false) := rfl
theorem ib_str (x : Str) : D.isI (tabB ["bool"]) (.str x) = some (.bl false) := rfl
theorem ib_tup (ds : List D) : D.isI (tabB ["bool"]) (.tup ds) = some (.bl false) := rfl
theorem ii_non : D.isI (tabB ["int"]) .non = some (.bl false) := rfl
theorem ii_bl (b : Bool) : D.isI (tabB ["int"]) (.bl b) = some (.bl true) := rfl
theorem ii_int (i : Int) : D.isI (tabB ["int"]) (.int i) = some (.bl true) := rfl
theorem ii_str (x : Str) : D.isI (tabB ["int"]) (.str x) = some (.bl false) := rfl
theorem ii_tup (ds : List D) : D.isI (tabB ["int"]) (.tup ds) = some (.bl false) := rfl
theorem is_non : D.isI (tabB ["str"]) .non = some (.bl false) := rfl
theorem is_bl (b : Bool) : D.isI (tabB ["str"]) (.bl b) = some (.bl false) := rfl
theorem is_int (i : Int) : D.isI (tabB ["str"]) (.int i) = some (.bl false) := rfl
theorem is_str (x : Str) : D.isI (tabB ["str"]) (.str x) = some (.bl true) := rfl
theorem is_tup (ds : List D) : D.isI (tabB ["str"]) (.tup ds) = some (.bl false) := rfl
theorem eqo_int (i j : Int) : D.eqo (.int i) (.int j) = some (.bl (decide (i = j))) := by
  unfold D.eqo
  rw [eqc_gd (x := .int i) (y := .int j) rfl rfl]
  simp
theorem neo_int (i j : Int) : D.neo (.int i) (.int j) = some (.bl (!decide (i = j))) := by
  unfold D.neo
  rw [eqc_gd (x := .int i) (y := .int j) rfl rfl]
  simp
theorem eqo_str {x y : Str} (hx : PyData.strOk x = true) (hy : PyData.strOk y = true) : D.eqo (.str x) (.str y) = some (.bl (decide (x = y))) := by
  unfold D.eqo
  rw [eqc_gd (x := .str x) (y := .str y) (by simpa [D.gd] using hx) (by simpa [D.gd] using hy)]
  simp
theorem eqo_bl (a b : Bool) : D.eqo (.bl a) (.bl b) = some (.bl (decide (a = b))) := by cases a <;> cases b <;> decide +kernel
theorem wYes_eq (e : En) (K : Bool → En → Prop) : wYes e K = K true e := rfl
theorem bools_bl (b : Bool) (ds : List D) : bools (.bl b :: ds) = (bools ds).map (b :: ·) := rfl
theorem zip_loop {we : WE} {K : DK} {s0 s1 : S} {c : Nat} {f : D → D → D} : ∀ (ds es acc : List D), (∀ d ∈ ds, ∀ x ∈ es, ∀ K' : DK, K' (f d x) ⟨[s0, s1, .fz d, .fz x], c, none⟩ → we ⟨[s0, s1, .fz d, .fz x], c, none⟩ K') → acc.length + ds.length ≤ sizeLine →
    K (.lst (acc ++ List.zipWith f ds es)) ⟨[s0, s1, .un, .un], c, none⟩ → wLcR (wgT 2 (wgCons (wgN 2) (wgCons (wgN 3) wgNil))) wYes we [2, 3] K (zipD ds es) acc ⟨[s0, s1, .un, .un], c, none⟩
  | [], _, acc, _, _, h => by simpa [zipD, wLcR] using h
  | _ :: _, [], acc, _, _, h => by simpa [zipD, wLcR] using h
  | d :: ds, x :: es, acc, he, hz, h => by
    rw [List.length_cons] at hz
    have ih := zip_loop (we := we) (K := K) (s0 := s0) (s1 := s1) (c := c) (f := f) ds es (acc ++ [f d x]) (fun a ha b hb => he a (List.mem_cons_of_mem _ ha) b (List.mem_cons_of_mem _ hb)) (by simp; omega) (by simpa using h)
    have e : zipD (d :: ds) (x :: es) = .tup [d, x] :: zipD ds es := rfl
    rw [e, wLcR]
    generalize zipD ds es = R at ih
    refine ⟨[d, x], rfl, rfl, d, [x], rfl, x, [], rfl, rfl, ?_⟩
    show wYes _ _
    rw [wYes_eq, if_pos rfl]
    simp only [En.wipe, En.asg, List.set]
    refine he d List.mem_cons_self x List.mem_cons_self _ ⟨by omega, ?_⟩
    simpa [En.back, En.put] using ih
theorem zip_all : ∀ {ds es : List D}, ds.length = es.length → D.all1 (.lst (List.zipWith (fun d x => D.bl (decide (d = x))) ds es)) = some (.bl (decide (ds = es)))
  | [], [], _ => by unfold D.all1; simp [bools]
  | d :: ds, e :: es, h => by
    have ih := zip_all (ds := ds) (es := es) (by simpa using h)
    simp only [D.all1] at ih ⊢
    obtain ⟨bs, h1, h2⟩ := Option.map_eq_some_iff.mp ih
    rw [List.zipWith_cons_cons, bools_bl, h1]
    injection h2 with h2
    simp only [Option.map_some, List.all_cons, id] at h2 ⊢
    rw [h2]
    by_cases q : d = e
    · subst q; simp
    · simp [q]
def spSame (n : Nat) : FS := fun ds c K _ => ∃ d e, ds = [d, e] ∧ pl n d = true ∧ pl n e = true ∧ K (.bl (decide (d = e))) c
def W_same (sp : FS) : WS := (wSeq (wIfS (wOr (wTru (w1 (D.isI (tabB ["tuple"])) (wL 0))) (wTru (w1 (D.isI (tabB ["tuple"])) (wL 1)))) (wSeq (wIfS (wOr (wNot (wTru (w1 (D.isI (tabB ["tuple"])) (wL 0)))) (wOr (wNot (wTru (w1 (D.isI (tabB ["tuple"])) (wL 1)))) (wTst (w2 D.neo (w1 D.lenD (wL 0)) (w1 D.lenD (wL 1)))))) (wRet (wC (.bl false))) wNx)
  (wRet (w1 D.all1 (wLc (wZip (wCons (wN 0) (wCons (wN 1) wNil))) (wgT 2 (wgCons (wgN 2) (wgCons (wgN 3) wgNil))) wYes (wCall sp [] (wCons (wN 2) (wCons (wN 3) wNil))) [2, 3])))) wNx)
  (wSeq (wIfS (wOr (wTru (w1 (D.isI (tabB ["bool"])) (wL 0))) (wTru (w1 (D.isI (tabB ["bool"])) (wL 1)))) (wRet (wAndV (w1 (D.isI (tabB ["bool"])) (wL 0)) (wAndV (w1 (D.isI (tabB ["bool"])) (wL 1)) (w2 D.eqo (wN 0) (wN 1))))) wNx)
  (wSeq (wIfS (wOr (wTru (w1 (D.isI (tabB ["int"])) (wL 0))) (wTru (w1 (D.isI (tabB ["int"])) (wL 1)))) (wRet (wAndV (w1 (D.isI (tabB ["int"])) (wL 0)) (wAndV (w1 (D.isI (tabB ["int"])) (wL 1)) (w2 D.eqo (wN 0) (wN 1))))) wNx)
  (wSeq (wIfS (wOr (wTst (w2 D.isv (wN 0) (wC .non))) (wTst (w2 D.isv (wN 1) (wC .non)))) (wRet (wAndV (w2 D.isv (wN 0) (wC .non)) (w2 D.isv (wN 1) (wC .non)))) wNx)
  (wRet (wAndV (w1 (D.isI (tabB ["str"])) (wL 0)) (wAndV (w1 (D.isI (tabB ["str"])) (wL 1)) (w2 D.eqo (wN 0) (wN 1)))))))))
theorem lenD_tup (ds : List D) : D.lenD (.tup ds) = some (.int ds.length) := rfl
theorem q_same (n : Nat) (sp : FS) (hs : ∀ m, n = m + 1 → sp = spSame m) (ds : List D) (c : Nat) (K KE : D → Nat → Prop) (h : spSame n ds c K KE) : W_same sp (en0 ["one", "other", "part", "mate"] ds c) { nx := fun e => K .non e.cnt, rt := K } := by
  obtain ⟨d, e, rfl, hd, he, h⟩ := h
  simp only [W_same, wSeq, wIfS, wOr, wNot, wTru, wTst, w1, w2, wL, wRet, wNx, wN, wLc, wC, wAndV, wZip, wCons, wNil, en0]
  rcases pl_cases hd with rfl | ⟨b, rfl⟩ | ⟨i, rfl⟩ | ⟨x, rfl, hx⟩ | ⟨m, xs, hm, rfl, hl, hx⟩ <;> rcases pl_cases he with rfl | ⟨b', rfl⟩ | ⟨i', rfl⟩ | ⟨x', rfl, hx'⟩ | ⟨m', xs', hm', rfl, hl', hx'⟩
  case inr.inr.inr.inr.inr.inr.inr.inr =>
    obtain rfl := hs m hm
    obtain rfl : m = m' := by omega
    subst hm
    simp only [List.map, List.length_cons, List.length_nil, List.replicate, List.cons_append, List.nil_append]
    simp [datOf, it_tup, D.tru, lenD_tup]
    by_cases q : xs.length = xs'.length
    · have q2 : D.neo (.int xs.length) (.int xs'.length) = some (.bl false) := by rw [neo_int]; simp [q]
      refine ⟨_, q2, .inl ⟨rfl, _, _, ⟨rfl, rfl⟩, _, rfl, ?_⟩⟩
      refine zip_loop (f := fun d x => .bl (decide (d = x))) xs xs' [] (fun a ha b hb K' k => ?_) (Nat.le_of_lt (small (by simpa using hl))) ?_
      · simp [wCall, wCons, wNil, wN]
        exact ⟨a, b, rfl, hx a ha, hx' b hb, k⟩
      · rw [List.nil_append]
        exact ⟨_, zip_all q, by simpa using h⟩
    · have q2 : D.neo (.int xs.length) (.int xs'.length) = some (.bl true) := by rw [neo_int]; simp; omega
      refine ⟨_, q2, .inr ⟨rfl, ?_⟩⟩
      have ne : xs ≠ xs' := fun z => q (by rw [z])
      simpa [ne] using h
  all_goals simp [datOf, it_non, it_bl, it_int, it_str, it_tup, ib_non, ib_bl, ib_int, ib_str, ib_tup, ii_non, ii_bl, ii_int, ii_str, ii_tup, is_non, is_bl, is_int, is_str, is_tup, D.tru, D.isv, D.isNon, eqo_int, eqo_bl]
  all_goals first | simpa using h | (rw [eqo_str hx hx']; simpa using h)
def spLSame (n : Nat) : FS := fun ds c K _ => ∃ d e, ds = [d, e] ∧ pl n d = true ∧ pl n e = true ∧ K (.bl (decide (d = e))) c
def W__law_same (sp : FS) : WS := (wSeq (wIfS (wTru (w1 (D.isI (tabB ["tuple"])) (wL 1))) (wRet (wAndV (w1 (D.isI (tabB ["tuple"])) (wL 0)) (wAndV (w2 D.eqo (w1 D.lenD (wL 0)) (w1 D.lenD (wL 1))) (w1 D.all1 (wLc (wZip (wCons (wN 0) (wCons (wN 1) wNil))) (wgT 2 (wgCons (wgN 2) (wgCons (wgN 3) wgNil))) wYes (wCall sp [] (wCons (wN 2) (wCons (wN 3) wNil))) [2, 3]))))) wNx)
  (wSeq (wIfS (wTst (w2 D.isv (wN 1) (wC .non))) (wRet (w2 D.isv (wN 0) (wC .non))) wNx)
  (wSeq (wIfS (wTst (w2 D.isv (wN 1) (wC (.bl true)))) (wRet (w2 D.isv (wN 0) (wC (.bl true)))) wNx)
  (wSeq (wIfS (wTst (w2 D.isv (wN 1) (wC (.bl false)))) (wRet (w2 D.isv (wN 0) (wC (.bl false)))) wNx)
  (wSeq (wIfS (wTru (w1 (D.isI (tabB ["int"])) (wL 1))) (wRet (wAndV (w1 (D.isI (tabB ["int"])) (wL 0)) (wAndV (wNotV (w1 (D.isI (tabB ["bool"])) (wL 0))) (w2 D.eqo (wN 0) (wN 1))))) wNx)
  (wRet (wAndV (w1 (D.isI (tabB ["str"])) (wL 0)) (w2 D.eqo (wN 0) (wN 1)))))))))
theorem q_lsame (n : Nat) (sp : FS) (hs : ∀ m, n = m + 1 → sp = spLSame m) (ds : List D) (c : Nat) (K KE : D → Nat → Prop) (h : spLSame n ds c K KE) : W__law_same sp (en0 ["told", "due", "one", "two"] ds c) { nx := fun e => K .non e.cnt, rt := K } := by
  obtain ⟨d, e, rfl, hd, he, h⟩ := h
  simp only [W__law_same, wSeq, wIfS, wOr, wNot, wTru, wTst, w1, w2, wL, wRet, wNx, wN, wLc, wC, wAndV, wNotV, wZip, wCons, wNil, en0]
  rcases pl_cases hd with rfl | ⟨b, rfl⟩ | ⟨i, rfl⟩ | ⟨x, rfl, hx⟩ | ⟨m, xs, hm, rfl, hl, hx⟩ <;> rcases pl_cases he with rfl | ⟨b', rfl⟩ | ⟨i', rfl⟩ | ⟨x', rfl, hx'⟩ | ⟨m', xs', hm', rfl, hl', hx'⟩
  case inr.inr.inr.inr.inr.inr.inr.inr =>
    obtain rfl := hs m hm
    obtain rfl : m = m' := by omega
    subst hm
    simp only [List.map, List.length_cons, List.length_nil, List.replicate, List.cons_append, List.nil_append]
    simp [datOf, it_tup, D.tru, lenD_tup]
    by_cases q : xs.length = xs'.length
    · have q2 : D.eqo (.int xs.length) (.int xs'.length) = some (.bl true) := by rw [eqo_int]; simp [q]
      refine ⟨_, q2, .inr ⟨rfl, _, _, ⟨rfl, rfl⟩, _, rfl, ?_⟩⟩
      refine zip_loop (f := fun d x => .bl (decide (d = x))) xs xs' [] (fun a ha b hb K' k => ?_) (Nat.le_of_lt (small (by simpa using hl))) ?_
      · simp [wCall, wCons, wNil, wN]
        exact ⟨a, b, rfl, hx a ha, hx' b hb, k⟩
      · rw [List.nil_append]
        exact ⟨_, zip_all q, by simpa using h⟩
    · have q2 : D.eqo (.int xs.length) (.int xs'.length) = some (.bl false) := by rw [eqo_int]; simp; omega
      have ne : xs ≠ xs' := fun z => q (by rw [z])
      exact ⟨_, q2, .inl ⟨rfl, by simpa [ne] using h⟩⟩
  all_goals simp [datOf, it_non, it_bl, it_int, it_str, it_tup, ib_non, ib_bl, ib_int, ib_str, ib_tup, ii_non, ii_bl, ii_int, ii_str, ii_tup, is_non, is_bl, is_int, is_str, is_tup, D.tru, D.isv, D.isNon, D.isBl, eqo_int, eqo_bl]
  all_goals first | simpa using h | (rw [eqo_str hx hx']; simpa using h) | (cases b' <;> simpa using h) | (cases b <;> cases b' <;> simpa using h)
end DL
/-! DN, part l: sorted lists of texts, of rows. -/
namespace DL
open PySem PySem.Spec L2
def unT : D → Txt
  | .str x => x.cps.toList
  | _ => []
theorem unT_txtD (l : Txt) : unT (txtD l) = l := by simp [unT, txtD, strOf]
def unR : D → Row3
  | .tup [a, b, c] => (unT a, unT b, unT c)
  | _ => ([], [], [])
theorem unR_rowD (r : Row3) : unR (rowD r) = r := by
  obtain ⟨a, b, c⟩ := r
  show (unT (txtD a), unT (txtD b), unT (txtD c)) = _
  rw [unT_txtD, unT_txtD, unT_txtD]
section
variable {α : Type} {f : α → D} {un : D → α}
theorem dec_map (hu : ∀ a, un (f a) = a) {l : List D} (h : ∀ d ∈ l, ∃ a, d = f a) : (l.map un).map f = l := by
  rw [List.map_map]
  refine (List.map_congr_left fun d hd => ?_).trans (List.map_id l)
  obtain ⟨a, rfl⟩ := h d hd
  show f (un (f a)) = f a
  rw [hu]
/-- sorted, sorted without doubles -/
def srtF (f : α → D) (un : D → α) (l : List α) : List α := (srt (l.map f)).map un
def canF (f : α → D) (un : D → α) (l : List α) : List α := (srt (ddup (l.map f))).map un
theorem srtF_map (hu : ∀ a, un (f a) = a) (l : List α) : (srtF f un l).map f = srt (l.map f) := dec_map hu fun d hd => by
  obtain ⟨a, _, h⟩ := List.mem_map.mp ((srt_perm_self _).mem_iff.mp hd)
  exact ⟨a, h.symm⟩
theorem canF_map (hu : ∀ a, un (f a) = a) (l : List α) : (canF f un l).map f = srt (ddup (l.map f)) := dec_map hu fun d hd => by
  obtain ⟨a, _, h⟩ := List.mem_map.mp (mem_ddup.mp ((srt_perm_self _).mem_iff.mp hd))
  exact ⟨a, h.symm⟩
theorem srtF_perm (hu : ∀ a, un (f a) = a) (l : List α) : (srtF f un l).Perm l := by
  have h := (srt_perm_self (l.map f)).map un
  rw [List.map_map] at h
  have e : l.map (un ∘ f) = l := (List.map_congr_left fun a _ => hu a).trans (List.map_id l)
  rw [e] at h
  exact h
theorem canF_mem (hu : ∀ a, un (f a) = a) {l : List α} {a : α} : a ∈ canF f un l ↔ a ∈ l := by
  have inj : ∀ {a b}, f a = f b → a = b := fun {a b} h => by rw [← hu a, h, hu]
  have h : f a ∈ (canF f un l).map f ↔ f a ∈ l.map f := by rw [canF_map hu, (srt_perm_self _).mem_iff, mem_ddup]
  constructor
  · intro z
    obtain ⟨b, hb, e⟩ := List.mem_map.mp (h.mp (List.mem_map.mpr ⟨a, z, rfl⟩))
    exact inj e ▸ hb
  · intro z
    obtain ⟨b, hb, e⟩ := List.mem_map.mp (h.mpr (List.mem_map.mpr ⟨a, z, rfl⟩))
    exact inj e ▸ hb
theorem canF_nodup (hu : ∀ a, un (f a) = a) (l : List α) : (canF f un l).Nodup := by
  have nd : ((canF f un l).map f).Nodup := by rw [canF_map hu]; exact (srt_perm_self _).nodup_iff.mpr (nodup_ddup _)
  exact List.Pairwise.of_map f (fun _ _ hne e => hne (congrArg f e)) nd
theorem canF_len (l : List α) : (canF f un l).length ≤ l.length := by
  unfold canF
  rw [List.length_map, (srt_perm_self _).length_eq]
  have := ddup_len (l.map f)
  rwa [List.length_map] at this
def Srtd (f : α → D) (l : List α) : Prop := (l.map f).Pairwise fun a b => dle a b = true
theorem canF_srtd (hu : ∀ a, un (f a) = a) (l : List α) : Srtd f (canF f un l) := by
  unfold Srtd
  rw [canF_map hu]
  exact PySem.W.sort_pairwise dle_total _
theorem Srtd.filter {l : List α} (h : Srtd f l) (p : α → Bool) : Srtd f (l.filter p) := List.Pairwise.sublist ((List.filter_sublist (p := p)).map f) h
theorem Srtd.srt {l : List α} (h : Srtd f l) : srt (l.map f) = l.map f := (PySem.W.sort_unique dle_total h fun _ => rfl).symm
theorem Srtd.srtF (hu : ∀ a, un (f a) = a) {l : List α} (h : Srtd f l) : srtF f un l = l := by
  unfold DL.srtF
  rw [h.srt, List.map_map]
  exact (List.map_congr_left fun a _ => hu a).trans (List.map_id l)
end
abbrev srtT : List Txt → List Txt := srtF txtD unT
abbrev canT : List Txt → List Txt := canF txtD unT
abbrev canR : List Row3 → List Row3 := canF rowD unR
theorem txts_srt {l : List Txt} (h : ∀ x ∈ l, TxtOk x) (hl : l.length < 2 ^ 20) : SrtOk (l.map txtD) := txt_srt (fun d hd => by
  obtain ⟨x, hx, rfl⟩ := List.mem_map.mp hd
  exact ⟨x, rfl, h x hx⟩) (by rw [List.length_map]; exact Nat.le_of_lt (small hl))
theorem txts_dsrt {l : List Txt} (h : ∀ x ∈ l, TxtOk x) (hl : l.length < 2 ^ 20) : SrtOk (ddup (l.map txtD)) := txt_srt (fun d hd => by
  obtain ⟨x, hx, rfl⟩ := List.mem_map.mp (mem_ddup.mp hd)
  exact ⟨x, rfl, h x hx⟩) (by have := ddup_len (l.map txtD); rw [List.length_map] at this; have := small hl; omega)
theorem rows_dsrt {l : List Row3} (h : ∀ x ∈ l, RowOk x) (hl : l.length < 2 ^ 20) : SrtOk (ddup (l.map rowD)) := row_srt (fun d hd => by
  obtain ⟨x, hx, rfl⟩ := List.mem_map.mp (mem_ddup.mp hd)
  exact ⟨x, rfl, name_ok (h x hx).1, name_ok (h x hx).2.1, name_ok (h x hx).2.2⟩) (by have := ddup_len (l.map rowD); rw [List.length_map] at this; have := small hl; omega)
theorem sort1_T {l : List Txt} (h : ∀ x ∈ l, TxtOk x) (hl : l.length < 2 ^ 20) : D.sort1 (.lst (l.map txtD)) = some (.lst ((srtT l).map txtD)) := by
  rw [srtF_map unT_txtD]
  simp only [D.sort1]
  rw [if_pos (txts_srt h hl)]
theorem sort1_Tt {l : List Txt} (h : ∀ x ∈ l, TxtOk x) (hl : l.length < 2 ^ 20) : D.sort1 (.tup (l.map txtD)) = some (.lst ((srtT l).map txtD)) := by
  rw [srtF_map unT_txtD]
  simp only [D.sort1]
  rw [if_pos (txts_srt h hl)]
theorem sortSet_T {l : List Txt} (h : ∀ x ∈ l, TxtOk x) (hl : l.length + 1 < 4096) : D.sortSet (.lst (l.map txtD)) = some (.lst ((canT l).map txtD)) := by
  rw [canF_map unT_txtD]
  simp only [D.sortSet]
  rw [if_pos ⟨txt_set hl, txts_dsrt h (by omega)⟩]
theorem sortSet_R {a : D} {l : List Row3} (ha : seqOf a = some (l.map rowD)) (h : ∀ x ∈ l, RowOk x) (hl : l.length < 307) : D.sortSet a = some (.lst ((canR l).map rowD)) := by
  rw [canF_map unR_rowD]
  exact seqOf_sortSet ha (row_set hl) (rows_dsrt h (by omega))
theorem canT_eq {l m : List Txt} (h : ∀ x, x ∈ l ↔ x ∈ m) (ok : ∀ x ∈ l, TxtOk x) (hl : l.length < 2 ^ 20) : canT l = canT m := by
  have s := txts_dsrt ok hl
  unfold canT canF
  rw [canon_eq (ds := l.map txtD) (es := m.map txtD) (fun d => ?_) s.gd s.al]
  constructor <;> (intro z; obtain ⟨a, ha, rfl⟩ := List.mem_map.mp z)
  · exact List.mem_map.mpr ⟨a, (h a).mp ha, rfl⟩
  · exact List.mem_map.mpr ⟨a, (h a).mpr ha, rfl⟩
theorem canR_eq {l m : List Row3} (h : ∀ x, x ∈ l ↔ x ∈ m) (ok : ∀ x ∈ l, RowOk x) (hl : l.length < 2 ^ 20) : canR l = canR m := by
  have s := rows_dsrt ok hl
  unfold canR canF
  rw [canon_eq (ds := l.map rowD) (es := m.map rowD) (fun d => ?_) s.gd s.al]
  constructor <;> (intro z; obtain ⟨a, ha, rfl⟩ := List.mem_map.mp z)
  · exact List.mem_map.mpr ⟨a, (h a).mp ha, rfl⟩
  · exact List.mem_map.mpr ⟨a, (h a).mpr ha, rfl⟩
theorem srtT_eq {l m : List Txt} (p : l.Perm m) (ok : ∀ x ∈ l, TxtOk x) (hl : l.length < 2 ^ 20) : srtT l = srtT m := by
  have s := txts_srt ok hl
  unfold srtT srtF
  rw [srt_perm (p.map txtD) s.gd s.al]
theorem canR_canR {l : List Row3} (h : ∀ x ∈ l, RowOk x) (hl : l.length < 2 ^ 20) : canR (canR l) = canR l :=
  (canR_eq (l := l) (m := canR l) (fun x => (canF_mem unR_rowD).symm) h hl).symm
theorem canT_canT {l : List Txt} (h : ∀ x ∈ l, TxtOk x) (hl : l.length < 2 ^ 20) : canT (canT l) = canT l :=
  (canT_eq (l := l) (m := canT l) (fun x => (canF_mem unT_txtD).symm) h hl).symm
/-! ### the answers by gate and call -/
abbrev Ans := List ((Txt × Txt) × List Txt)
def addAns (al : Ans) (r : Row3) : Ans := upsert al (r.1, r.2.1) ((alGet al (r.1, r.2.1)).getD [] ++ [r.2.2])
def ansOf (rs : List Row3) : Ans := rs.foldl addAns []
abbrev Kns := List (Txt × List Txt)
def addKn (kn : Kns) (p : Txt × Txt) : Kns := upsert kn p.1 ((alGet kn p.1).getD [] ++ [p.2])
def knOf (al : Ans) : Kns := (al.map (·.1)).foldl addKn []
def knS (al : Ans) : Kns := (knOf al).map fun p => (p.1, srtT p.2)
/-- the calls known at a gate, in the order of the answers -/
def callsRaw (al : Ans) (g : Txt) : List Txt := ((al.map (·.1)).filter fun p => decide (p.1 = g)).map (·.2)
def ansAt (al : Ans) (g c : Txt) : List Txt := (alGet al (g, c)).getD []
theorem kn_fold (g : Txt) : ∀ (ps : List (Txt × Txt)) (kn : Kns), (alGet (ps.foldl addKn kn) g).getD [] = (alGet kn g).getD [] ++ (ps.filter fun p => decide (p.1 = g)).map (·.2)
  | [], kn => by simp
  | p :: ps, kn => by
    rw [List.foldl_cons, kn_fold g ps]
    unfold addKn
    rw [alGet_upsert]
    by_cases q : p.1 = g
    · subst q; simp
    · have q' : ¬ g = p.1 := fun e => q e.symm
      simp [q, q']
theorem alGet_map {α β γ : Type} [DecidableEq α] (f : β → γ) (al : List (α × β)) (k : α) : alGet (al.map fun p => (p.1, f p.2)) k = (alGet al k).map f := by
  unfold alGet
  induction al with
  | nil => rfl
  | cons p r ih =>
    rw [List.map_cons, List.find?_cons, List.find?_cons]
    by_cases h : p.1 = k
    · simp [h]
    · simp only [decide_eq_false h]
      exact ih
theorem srtT_nil : srtT [] = [] := List.Perm.eq_nil (srtF_perm unT_txtD [])
theorem knS_get (al : Ans) (g : Txt) : (alGet (knS al) g).getD [] = srtT (callsRaw al g) := by
  unfold knS
  rw [alGet_map]
  have h := kn_fold g (al.map (·.1)) []
  have e : (alGet ([] : Kns) g).getD [] = [] := rfl
  rw [e, List.nil_append] at h
  show _ = srtT (callsRaw al g)
  unfold callsRaw
  rw [← h]
  unfold knOf
  cases alGet (List.foldl addKn [] (al.map (·.1))) g with
  | none => exact srtT_nil.symm
  | some l => rfl
theorem ans_fold (g c : Txt) : ∀ (rs : List Row3) (al : Ans), ansAt (rs.foldl addAns al) g c = ansAt al g c ++ (rs.filter fun r => decide (r.1 = g ∧ r.2.1 = c)).map (·.2.2)
  | [], al => by simp
  | r :: rs, al => by
    rw [List.foldl_cons, ans_fold g c rs]
    unfold addAns ansAt
    rw [alGet_upsert]
    by_cases q : (g, c) = (r.1, r.2.1)
    · rw [if_pos q]
      have q1 : r.1 = g := (congrArg Prod.fst q).symm
      have q2 : r.2.1 = c := (congrArg Prod.snd q).symm
      rw [List.filter_cons_of_pos (by simp [q1, q2]), q1, q2]
      simp
    · rw [if_neg q, List.filter_cons_of_neg (by simp; intro z1 z2; exact q (by rw [z1, z2]))]
theorem ans_keys : ∀ (rs : List Row3) (al : Ans) (p : Txt × Txt), p ∈ (rs.foldl addAns al).map (·.1) ↔ p ∈ al.map (·.1) ∨ ∃ r ∈ rs, (r.1, r.2.1) = p
  | [], al, p => by simp
  | r :: rs, al, p => by
    rw [List.foldl_cons, ans_keys rs]
    unfold addAns
    rw [upsert_keys]
    constructor
    · rintro (h | ⟨r', h1, h2⟩)
      · split at h
        · exact .inl h
        · rcases List.mem_append.mp h with h | h
          · exact .inl h
          · rw [List.mem_singleton] at h
            exact .inr ⟨r, List.mem_cons_self, h.symm⟩
      · exact .inr ⟨r', List.mem_cons_of_mem _ h1, h2⟩
    · rintro (h | ⟨r', h1, h2⟩)
      · left
        split
        · exact h
        · exact List.mem_append_left _ h
      · rcases List.mem_cons.mp h1 with rfl | h1
        · left
          split
          · rename_i q; rw [← h2]; exact q
          · rw [← h2]; exact List.mem_append_right _ (by simp)
        · exact .inr ⟨r', h1, h2⟩
theorem ansAt_eq (rs : List Row3) (g c : Txt) : ansAt (ansOf rs) g c = (rs.filter fun r => decide (r.1 = g ∧ r.2.1 = c)).map (·.2.2) := (ans_fold g c rs []).trans (by simp [ansAt, alGet])
theorem callsRaw_mem {rs : List Row3} {g c : Txt} : c ∈ callsRaw (ansOf rs) g ↔ ∃ r ∈ rs, r.1 = g ∧ r.2.1 = c := by
  unfold callsRaw
  constructor
  · intro h
    obtain ⟨p, hp, rfl⟩ := List.mem_map.mp h
    obtain ⟨h1, h2⟩ := List.mem_filter.mp hp
    rcases (ans_keys rs [] p).mp h1 with h1 | ⟨r, hr, rfl⟩
    · simp at h1
    · exact ⟨r, hr, of_decide_eq_true h2, rfl⟩
  · rintro ⟨r, hr, rfl, rfl⟩
    exact List.mem_map.mpr ⟨(r.1, r.2.1), List.mem_filter.mpr ⟨(ans_keys rs [] _).mpr (.inr ⟨r, hr, rfl⟩), by simp⟩, rfl⟩
theorem ansAt_mem {rs : List Row3} {g c x : Txt} : x ∈ ansAt (ansOf rs) g c ↔ (g, c, x) ∈ rs := by
  rw [ansAt_eq]
  constructor
  · intro h
    obtain ⟨r, hr, rfl⟩ := List.mem_map.mp h
    obtain ⟨h1, h2⟩ := List.mem_filter.mp hr
    obtain ⟨e1, e2⟩ := of_decide_eq_true h2
    rw [← e1, ← e2]
    exact h1
  · intro h
    exact List.mem_map.mpr ⟨_, List.mem_filter.mpr ⟨h, by simp⟩, rfl⟩
theorem ansAt_get {rs : List Row3} {g c : Txt} (h : c ∈ callsRaw (ansOf rs) g) : alGet (ansOf rs) (g, c) = some (ansAt (ansOf rs) g c) := by
  obtain ⟨r, hr, rfl, rfl⟩ := callsRaw_mem.mp h
  have h1 : r.2.2 ∈ ansAt (ansOf rs) r.1 r.2.1 := ansAt_mem.mpr hr
  unfold ansAt at h1 ⊢
  cases q : alGet (ansOf rs) (r.1, r.2.1) with
  | none => rw [q] at h1; simp at h1
  | some l => rfl
/-- the gates -/
def gatesOf (rs : List Row3) : List Txt := canT (rs.map (·.1) ++ rs.map (·.2.2))
theorem gates_mem {rs : List Row3} {g : Txt} : g ∈ gatesOf rs ↔ ∃ r ∈ rs, r.1 = g ∨ r.2.2 = g := by
  unfold gatesOf
  rw [canF_mem unT_txtD, List.mem_append, List.mem_map, List.mem_map]
  constructor
  · rintro (⟨r, h1, h2⟩ | ⟨r, h1, h2⟩)
    · exact ⟨r, h1, .inl h2⟩
    · exact ⟨r, h1, .inr h2⟩
  · rintro ⟨r, h1, h2 | h2⟩
    · exact .inl ⟨r, h1, h2⟩
    · exact .inr ⟨r, h1, h2⟩
end DL
/-! DN, part m: which gates come to an end, in rounds; which last. -/
namespace DL
open PySem PySem.Spec L2
abbrev Fnd := List (Txt × Nat)
section
variable (al : Ans) (gs : List Txt)
def endsBy (fk : List Txt) (g : Txt) : Bool := (srtT (callsRaw al g)).all fun c => (ansAt al g c).any fun x => decide (x ∈ fk)
def fresh (fk : List Txt) : List Txt := gs.filter fun g => !decide (g ∈ fk) && endsBy al fk g
def rnd : Nat → Fnd
  | 0 => []
  | n + 1 => rnd n ++ (fresh al gs ((rnd n).map (·.1))).map fun g => (g, n)
def rk (n : Nat) : List Txt := (rnd al gs n).map (·.1)
def stays (left : List Txt) (g : Txt) : Bool := (srtT (callsRaw al g)).any fun c => (ansAt al g c).all fun x => decide (x ∈ left)
def lft : Nat → List Txt
  | 0 => gs
  | n + 1 => (lft n).filter (stays al (lft n))
def lcalls (fk : List Txt) (g : Txt) : List Txt := (srtT (callsRaw al g)).filter fun c => !((ansAt al g c).any fun x => decide (x ∈ fk))
end
section
variable {al : Ans} {gs : List Txt}
theorem rk_succ (n : Nat) : rk al gs (n + 1) = rk al gs n ++ fresh al gs (rk al gs n) := by
  unfold rk
  rw [rnd, List.map_append, List.map_map]
  congr 1
  exact List.map_id _
theorem fresh_mem {fk : List Txt} {g : Txt} : g ∈ fresh al gs fk ↔ g ∈ gs ∧ g ∉ fk ∧ endsBy al fk g = true := by
  unfold fresh
  rw [List.mem_filter, Bool.and_eq_true, Bool.not_eq_true', decide_eq_false_iff_not]
theorem rk_sub : ∀ (n : Nat) (g : Txt), g ∈ rk al gs n → g ∈ gs
  | 0, _, h => by simp [rk, rnd] at h
  | n + 1, g, h => by
    rw [rk_succ] at h
    rcases List.mem_append.mp h with h | h
    · exact rk_sub n g h
    · exact (fresh_mem.mp h).1
theorem rk_nodup (nd : gs.Nodup) : ∀ n : Nat, (rk al gs n).Nodup
  | 0 => List.nodup_nil
  | n + 1 => by
    rw [rk_succ]
    exact List.nodup_append.mpr ⟨rk_nodup nd n, nd.filter _, fun a ha b hb e => (fresh_mem.mp hb).2.1 (e ▸ ha)⟩
theorem sub_len {l m : List Txt} (nl : l.Nodup) (nm : m.Nodup) (h : ∀ x ∈ l, x ∈ m) : l.length ≤ m.length ∧ (l.length = m.length → ∀ x ∈ m, x ∈ l) := by
  have p : l.Perm (m.filter fun x => decide (x ∈ l)) := (List.perm_ext_iff_of_nodup nl (nm.filter _)).mpr fun x => by
    rw [List.mem_filter, decide_eq_true_eq]
    exact ⟨fun z => ⟨h x z, z⟩, fun z => z.2⟩
  have hl := p.length_eq
  refine ⟨by rw [hl]; exact List.length_filter_le _ _, fun e x hx => ?_⟩
  rw [e] at hl
  have := List.length_filter_eq_length_iff.mp hl.symm x hx
  exact of_decide_eq_true this
theorem rk_len (nd : gs.Nodup) (n : Nat) : (rk al gs n).length ≤ gs.length := (sub_len (rk_nodup nd n) nd (rk_sub n)).1
theorem rnd_stay {n : Nat} (h : fresh al gs (rk al gs n) = []) : ∀ m : Nat, rnd al gs (n + m) = rnd al gs n
  | 0 => rfl
  | m + 1 => by
    rw [Nat.add_succ, rnd, rnd_stay h m]
    show rnd al gs n ++ (fresh al gs (rk al gs n)).map _ = _
    rw [h]; simp
theorem rk_grow : ∀ n : Nat, fresh al gs (rk al gs n) = [] ∨ n + 1 ≤ (rk al gs (n + 1)).length
  | 0 => by
    rw [rk_succ]
    cases h : fresh al gs (rk al gs 0) with
    | nil => exact .inl rfl
    | cons a l => right; rw [List.length_append, List.length_cons]; omega
  | n + 1 => by
    rcases rk_grow n with h | h
    · left
      have := rnd_stay h 1
      unfold rk at h ⊢
      rw [this]; exact h
    · rw [rk_succ (n + 1)]
      cases q : fresh al gs (rk al gs (n + 1)) with
      | nil => exact .inl rfl
      | cons a l => right; rw [List.length_append, List.length_cons]; omega
theorem fixed (nd : gs.Nodup) : fresh al gs (rk al gs gs.length) = [] := by
  rcases rk_grow (al := al) (gs := gs) gs.length with h | h
  · exact h
  · have := rk_len (al := al) nd (gs.length + 1)
    omega
/-- before the last round something is found -/
theorem rk_lt (nd : gs.Nodup) {n : Nat} (h : fresh al gs (rk al gs n) ≠ []) : n < gs.length := by
  rcases rk_grow (al := al) (gs := gs) n with h' | h'
  · exact absurd h' h
  · have := rk_len (al := al) nd (n + 1)
    omega
theorem rnd_end (nd : gs.Nodup) {n : Nat} (h : fresh al gs (rk al gs n) = []) (hn : n ≤ gs.length) : rnd al gs n = rnd al gs gs.length := by
  have := rnd_stay h (gs.length - n)
  rw [← this]
  congr 1
  omega
theorem lft_eq (clo : ∀ g c x, c ∈ callsRaw al g → x ∈ ansAt al g c → x ∈ gs) : ∀ n : Nat, lft al gs n = gs.filter fun g => !decide (g ∈ rk al gs n)
  | 0 => by
    rw [lft]
    refine (List.filter_eq_self.mpr fun g _ => ?_).symm
    simp [rk, rnd]
  | n + 1 => by
    rw [lft, lft_eq clo n, List.filter_filter]
    refine List.filter_congr fun g hg => ?_
    rw [rk_succ]
    by_cases q : g ∈ rk al gs n
    · simp [q]
    · have e : stays al (gs.filter fun g => !decide (g ∈ rk al gs n)) g = !endsBy al (rk al gs n) g := by
        unfold stays endsBy
        rw [List.not_all_eq_any_not]
        rw [Bool.eq_iff_iff, List.any_eq_true, List.any_eq_true]
        refine exists_congr fun c => and_congr_right fun hc => ?_
        have hc := (srtF_perm unT_txtD _).mem_iff.mp hc
        rw [List.not_any_eq_all_not, List.all_eq_true, List.all_eq_true]
        refine forall_congr' fun x => forall_congr' fun hx => ?_
        simp [clo g c x hc hx]
      rw [e]
      simp [q, fresh_mem, hg]
/-- those that last -/
def lastsOf (al : Ans) (gs : List Txt) : List Txt := gs.filter fun g => !decide (g ∈ rk al gs gs.length)
theorem lcalls_ne (nd : gs.Nodup) {g : Txt} (h : g ∈ lastsOf al gs) : lcalls al (rk al gs gs.length) g ≠ [] := by
  obtain ⟨h1, h2⟩ := List.mem_filter.mp h
  intro e
  have hf := fixed (al := al) nd
  have : g ∈ fresh al gs (rk al gs gs.length) := fresh_mem.mpr ⟨h1, by simpa using h2, by
    unfold endsBy
    rw [List.all_eq_true]
    intro c hc
    have := List.filter_eq_nil_iff.mp e c hc
    simpa using this⟩
  rw [hf] at this
  simp at this
theorem lcalls_eq (clo : ∀ g c x, c ∈ callsRaw al g → x ∈ ansAt al g c → x ∈ gs) (g : Txt) : ((srtT (callsRaw al g)).filter fun c => (ansAt al g c).all fun x => decide (x ∈ lastsOf al gs)) = lcalls al (rk al gs gs.length) g := by
  refine List.filter_congr fun c hc => ?_
  rw [List.not_any_eq_all_not]
  have hc := (srtF_perm unT_txtD _).mem_iff.mp hc
  rw [Bool.eq_iff_iff, List.all_eq_true, List.all_eq_true]
  refine forall_congr' fun x => forall_congr' fun hx => ?_
  unfold lastsOf
  simp [clo g c x hc hx]
theorem lasts_nodup (nd : gs.Nodup) : (lastsOf al gs).Nodup := nd.filter _
/-- ends and lasting ones are all -/
theorem all_gates (nd : gs.Nodup) : (rk al gs gs.length ++ lastsOf al gs).Perm gs := by
  refine (List.perm_ext_iff_of_nodup (List.nodup_append.mpr ⟨rk_nodup nd _, lasts_nodup nd, fun a ha b hb e => ?_⟩) nd).mpr fun g => ?_
  · subst e
    simpa [ha] using (List.mem_filter.mp hb).2
  · rw [List.mem_append]
    constructor
    · rintro (h | h)
      · exact rk_sub _ g h
      · exact (List.mem_filter.mp h).1
    · intro h
      by_cases q : g ∈ rk al gs gs.length
      · exact .inl q
      · exact .inr (List.mem_filter.mpr ⟨h, by simp [q]⟩)
end
end DL
/-! DN, part n: the server: made, asked. -/
namespace DL
open PySem PySem.Spec L2
def pairD (p : Txt × Txt) : D := .tup [txtD p.1, txtD p.2]
theorem pairD_inj (a b : Txt × Txt) (h : pairD a = pairD b) : a = b := by
  obtain ⟨a1, a2⟩ := a
  obtain ⟨b1, b2⟩ := b
  unfold pairD at h
  injection h with h
  injection h with h1 h
  injection h with h2 h
  rw [txtD_inj a1 b1 h1, txtD_inj a2 b2 h2]
def tupT (l : List Txt) : D := .tup (l.map txtD)
def lstT (l : List Txt) : D := .lst (l.map txtD)
theorem kok_pair {β : Type} (al : List ((Txt × Txt) × β)) (p : Txt × Txt) : kok (alK pairD al) (pairD p) = true := by
  have h : (alK pairD al).all D.tk = true := by
    rw [List.all_eq_true]
    intro d hd
    obtain ⟨q, _, rfl⟩ := List.mem_map.mp hd
    rfl
  unfold kok
  rw [h]
  rfl
theorem kok_txts (l : List Txt) (p : Txt) : kok (l.map txtD) (txtD p) = true := by
  have h : (l.map txtD).all D.fk = true := by
    rw [List.all_eq_true]
    intro d hd
    obtain ⟨q, _, rfl⟩ := List.mem_map.mp hd
    rfl
  unfold kok
  rw [h]
  rfl
theorem alK_map {β : Type} (kf : Txt → D) (al : List (Txt × β)) : alK kf al = (al.map (·.1)).map kf := by unfold alK; rw [List.map_map]; rfl
theorem kok_txt {β : Type} (al : List (Txt × β)) (p : Txt) : kok (alK txtD al) (txtD p) = true := by rw [alK_map]; exact kok_txts _ p
theorem get1_pair {β : Type} (vf : β → D) (al : List ((Txt × Txt) × β)) (p : Txt × Txt) (d : D) : D.get1 (.dct (alK pairD al) (alV vf al)) [pairD p, d] = some (((alGet al p).map vf).getD d) := by
  simp only [D.get1]
  rw [if_pos (kok_pair al p), dget_al pairD_inj]
theorem get1_txt {β : Type} (vf : β → D) (al : List (Txt × β)) (p : Txt) (d : D) : D.get1 (.dct (alK txtD al) (alV vf al)) [txtD p, d] = some (((alGet al p).map vf).getD d) := by
  simp only [D.get1]
  rw [if_pos (kok_txt al p), dget_al txtD_inj]
theorem ix_pair {β : Type} (vf : β → D) (al : List ((Txt × Txt) × β)) (p : Txt × Txt) : D.ix (.dct (alK pairD al) (alV vf al)) (pairD p) = (alGet al p).map vf := by
  simp only [D.ix]
  rw [if_pos (kok_pair al p), dget_al pairD_inj]
theorem ix_txt {β : Type} (vf : β → D) (al : List (Txt × β)) (p : Txt) : D.ix (.dct (alK txtD al) (alV vf al)) (txtD p) = (alGet al p).map vf := by
  simp only [D.ix]
  rw [if_pos (kok_txt al p), dget_al txtD_inj]
theorem getD_tupT (o : Option (List Txt)) : (o.map tupT).getD (.tup []) = tupT (o.getD []) := by cases o <;> rfl
theorem getD_lstT (o : Option (List Txt)) : (o.map lstT).getD (.lst []) = lstT (o.getD []) := by cases o <;> rfl
theorem add_tup {l m : List Txt} (h : l.length + m.length < 2 ^ 20) : D.add (tupT l) (tupT m) = some (tupT (l ++ m)) := by
  show (if (l.map txtD).length + (m.map txtD).length ≤ sizeLine then some (D.tup (l.map txtD ++ m.map txtD)) else none) = _
  rw [List.length_map, List.length_map, if_pos (Nat.le_of_lt (small h)), ← List.map_append]; rfl
theorem add_lst {l m : List Txt} (h : l.length + m.length < 2 ^ 20) : D.add (lstT l) (lstT m) = some (lstT (l ++ m)) := by
  show (if (l.map txtD).length + (m.map txtD).length ≤ sizeLine then some (D.lst (l.map txtD ++ m.map txtD)) else none) = _
  rw [List.length_map, List.length_map, if_pos (Nat.le_of_lt (small h)), ← List.map_append]; rfl
theorem upsert_len {α β : Type} [DecidableEq α] (al : List (α × β)) (k : α) (v : β) : (upsert al k v).length ≤ al.length + 1 := by
  have := congrArg List.length (upsert_keys al k v)
  rw [List.length_map] at this
  rw [this]
  split <;> simp
theorem ans_len : ∀ (rs : List Row3) (al : Ans), (rs.foldl addAns al).length ≤ al.length + rs.length
  | [], al => Nat.le_refl _
  | r :: rs, al => by
    rw [List.foldl_cons, List.length_cons]
    have h1 := ans_len rs (addAns al r)
    have h2 : (addAns al r).length ≤ al.length + 1 := upsert_len ..
    omega
theorem ansOf_len (rs : List Row3) : (ansOf rs).length ≤ rs.length := by simpa [ansOf] using ans_len rs []
theorem kn_len : ∀ (ps : List (Txt × Txt)) (kn : Kns), (ps.foldl addKn kn).length ≤ kn.length + ps.length
  | [], al => Nat.le_refl _
  | r :: rs, al => by
    rw [List.foldl_cons, List.length_cons]
    have h1 := kn_len rs (addKn al r)
    have h2 : (addKn al r).length ≤ al.length + 1 := upsert_len ..
    omega
theorem upsert_nd {α β : Type} [DecidableEq α] {al : List (α × β)} (k : α) (v : β) (h : (al.map (·.1)).Nodup) : ((upsert al k v).map (·.1)).Nodup := by
  rw [upsert_keys]
  split
  · exact h
  · rename_i q
    exact List.nodup_append.mpr ⟨h, by simp, fun a ha b hb e => by
      rw [List.mem_singleton] at hb
      exact q (hb ▸ e ▸ ha)⟩
theorem kn_nd : ∀ (ps : List (Txt × Txt)) (kn : Kns), (kn.map (·.1)).Nodup → ((ps.foldl addKn kn).map (·.1)).Nodup
  | [], _, h => h
  | _ :: ps, _, h => kn_nd ps _ (upsert_nd _ _ h)
theorem ansAt_len (rs : List Row3) (g c : Txt) : (ansAt (ansOf rs) g c).length ≤ rs.length := by
  rw [ansAt_eq, List.length_map]
  exact List.length_filter_le _ _
theorem callsRaw_len (al : Ans) (g : Txt) : (callsRaw al g).length ≤ al.length := by
  unfold callsRaw
  rw [List.length_map]
  refine Nat.le_trans (List.length_filter_le _ _) ?_
  rw [List.length_map]; exact Nat.le_refl _
/-- a dict comprehension over texts that are all different -/
theorem wgN_eq (i : Nat) (d : D) (e : En) (K : En → Prop) : wgN i d e K = K (e.asg i (.fz d)) := rfl
theorem dc_map {α : Type} {wk we : WE} {K : DK} {i : Nat} {e : En} (kf vf : α → D) (hi : i < e.sl.length) : ∀ (ps acc : List α), (∀ p ∈ ps, ∀ K' : DK, K' (kf p) (e.at_ i (kf p)) → wk (e.at_ i (kf p)) K') → (∀ p ∈ ps, ∀ K' : DK, K' (vf p) (e.at_ i (kf p)) → we (e.at_ i (kf p)) K') →
    (∀ (l : List α) p, kok (l.map kf) (kf p) = true) → ((acc ++ ps).map kf).Nodup → acc.length + ps.length ≤ sizeLine → K (.dct ((acc ++ ps).map kf) ((acc ++ ps).map vf)) e → wDcR (wgN i) wYes wk we [i] K (ps.map kf) (acc.map kf) (acc.map vf) e
  | [], acc, _, _, _, _, _, h => by rw [List.map_nil, wDcR]; simpa using h
  | p :: ps, acc, h1, h2, h3, nd, hz, h => by
    rw [List.length_cons] at hz
    rw [List.map_cons, wDcR]
    rw [wgN_eq]
    show wYes (e.at_ i (kf p)) (fun b e3 => _)
    rw [wYes_eq, if_pos rfl]
    refine h1 p List.mem_cons_self _ (h2 p List.mem_cons_self _ ⟨h3 acc p, by rw [List.length_map]; omega, ?_⟩)
    rw [back_same hi]
    have hn : kf p ∉ acc.map kf := by
      rw [List.map_append, List.map_cons] at nd
      intro z
      exact (List.nodup_append.mp nd).2.2 _ z _ List.mem_cons_self rfl
    have e1 : dput (acc.map kf) (acc.map vf) (kf p) (vf p) = ((acc ++ [p]).map kf, (acc ++ [p]).map vf) := by
      unfold dput
      have : dix (acc.map kf) (kf p) = none := by
        unfold dix
        rw [List.findIdx?_eq_none_iff]
        intro x hx
        exact decide_eq_false fun e => hn (e ▸ hx)
      rw [this]
      simp
    rw [e1]
    exact dc_map kf vf hi ps (acc ++ [p]) (fun x hx => h1 x (List.mem_cons_of_mem _ hx)) (fun x hx => h2 x (List.mem_cons_of_mem _ hx)) h3 (by simpa using nd) (by rw [List.length_append, List.length_singleton]; omega) (by simpa using h)
/-! ### the object -/
def ansD (vf : List Txt → D) (al : Ans) : D := .dct (alK pairD al) (alV vf al)
def knD (kn : Kns) : D := .dct (alK txtD kn) (alV tupT kn)
def serverD (C : Addr) (rs : List Row3) : D := .obj C ["rows", "_answers", "_known"] [.tup (rs.map rowD), ansD tupT (ansOf rs), knD (knS (ansOf rs))]
theorem nm1 : ("rows" : Str) ≠ "_answers" := by decide +kernel
theorem nm2 : ("rows" : Str) ≠ "_known" := by decide +kernel
theorem nm3 : ("_answers" : Str) ≠ "_known" := by decide +kernel
theorem fld_rows1 (C : Addr) (a : D) : D.fld C "rows" (.obj C ["rows"] [a]) = some a := by simp [D.fld, flk]
theorem fld_rows (C : Addr) (a b c : D) : D.fld C "rows" (.obj C ["rows", "_answers", "_known"] [a, b, c]) = some a := by simp [D.fld, flk]
theorem fld_ans (C : Addr) (a b c : D) : D.fld C "_answers" (.obj C ["rows", "_answers", "_known"] [a, b, c]) = some b := by simp [D.fld, flk, nm1]
theorem fld_kn (C : Addr) (a b c : D) : D.fld C "_known" (.obj C ["rows", "_answers", "_known"] [a, b, c]) = some c := by simp [D.fld, flk, nm2, nm3]
theorem put1 (a : D) : putNs "rows" [] = (["rows"] : List Str) ∧ putN "rows" a [] [] = [a] := ⟨by decide +kernel, rfl⟩
theorem put2 (a b : D) : putNs "_answers" ["rows"] = (["rows", "_answers"] : List Str) ∧ putN "_answers" b ["rows"] [a] = [a, b] := ⟨by decide +kernel, by simp [putN, nm1]⟩
theorem put3 (a b c : D) : putNs "_known" ["rows", "_answers"] = (["rows", "_answers", "_known"] : List Str) ∧ putN "_known" c ["rows", "_answers"] [a, b] = [a, b, c] := ⟨by decide +kernel, by simp [putN, nm2, nm3]⟩
def spAnswers (C : Addr) : FS := fun ds c K _ => ∃ rs g x, ds = [serverD C rs, txtD g, txtD x] ∧ K (tupT (ansAt (ansOf rs) g x)) c
def W_Server_answers (cServer : Addr) : WS := (wSeq (wIfS (wOr (wNot (wTru (w1 (D.isI (tabB ["str"])) (wL 1)))) (wNot (wTru (w1 (D.isI (tabB ["str"])) (wL 2))))) (wRet (wTup wNil)) wNx)
  (wRet (wM D.get1 (w1 (D.fld cServer "_answers") (wL 0)) (wCons (wTup (wCons (wN 1) (wCons (wN 2) wNil))) (wCons (wTup wNil) wNil)))))
theorem isI_txt (l : Txt) : D.isI (tabB ["str"]) (txtD l) = some (.bl true) := rfl
theorem lt2 : 2 ≤ sizeLine := by decide +kernel
theorem q_answers (C : Addr) (ds : List D) (c : Nat) (K KE : D → Nat → Prop) (h : spAnswers C ds c K KE) : W_Server_answers C (en0 ["self", "gate", "call"] ds c) { nx := fun e => K .non e.cnt, rt := K } := by
  obtain ⟨rs, g, x, rfl, h⟩ := h
  simp only [W_Server_answers, wSeq, wIfS, wOr, wNot, wTru, w1, wL, wRet, wNx, wN, wM, wCons, wNil, wTup, en0]
  simp [datOf, isI_txt, D.tru, serverD, fld_ans]
  refine ⟨⟨_, _, rfl⟩, lt2, ?_⟩
  refine ⟨_, get1_pair tupT (ansOf rs) (g, x) (.tup []), ?_⟩
  rw [getD_tupT]
  exact h
def spKnown (C : Addr) : FS := fun ds c K _ => ∃ rs g, ds = [serverD C rs, txtD g] ∧ K (tupT (srtT (callsRaw (ansOf rs) g))) c
def W_Server_known (cServer : Addr) : WS := (wRet (wM D.get1 (w1 (D.fld cServer "_known") (wL 0)) (wCons (wN 1) (wCons (wTup wNil) wNil))))
theorem q_known (C : Addr) (ds : List D) (c : Nat) (K KE : D → Nat → Prop) (h : spKnown C ds c K KE) : W_Server_known C (en0 ["self", "gate"] ds c) { nx := fun e => K .non e.cnt, rt := K } := by
  obtain ⟨rs, g, rfl, h⟩ := h
  simp only [W_Server_known, w1, wL, wRet, wN, wM, wCons, wNil, wTup, en0]
  simp [datOf, D.tru, serverD, fld_kn]
  refine ⟨⟨_, _, rfl⟩, _, get1_txt tupT (knS (ansOf rs)) g (.tup []), ?_⟩
  rw [getD_tupT, knS_get]
  exact h
def spGates (C : Addr) : FS := fun ds c K _ => ∃ rs, ds = [serverD C rs] ∧ (∀ r ∈ rs, RowOk r) ∧ rs.length < 307 ∧ K (tupT (gatesOf rs)) c
def W_Server_gates (cServer : Addr) : WS := (wRet (wCall spAscending [] (wCons (w2 D.add (wLc (wIt (w1 (D.fld cServer "rows") (wL 0))) (wgN 1) wYes (w2O 1 D.ix (wC (.int 0))) [1]) (wLc (wIt (w1 (D.fld cServer "rows") (wL 0))) (wgN 1) wYes (w2O 1 D.ix (wC (.int 2))) [1])) wNil)))
theorem row_ix0 (r : Row3) : D.ix (rowD r) (.int 0) = some (txtD r.1) := rfl
theorem row_ix1 (r : Row3) : D.ix (rowD r) (.int 1) = some (txtD r.2.1) := rfl
theorem row_ix2 (r : Row3) : D.ix (rowD r) (.int 2) = some (txtD r.2.2) := rfl
theorem lc_rows {K : DK} {i : Nat} {e : En} (j : Int) (f : Row3 → Txt) (hf : ∀ r, D.ix (rowD r) (.int j) = some (txtD (f r))) (hi : i < e.sl.length) (rs : List Row3) (hz : rs.length < 2 ^ 20) (h : K (lstT (rs.map f)) e) : wLcR (wgN i) wYes (w2O i D.ix (wC (.int j))) [i] K (rs.map rowD) [] e := by
  refine lc_map (f := fun d => txtD (f (unR d))) hi _ (fun d hd K' k => ?_) (by rw [List.length_map]; exact Nat.le_of_lt (small hz)) ?_
  · obtain ⟨r, hr, rfl⟩ := List.mem_map.mp hd
    rw [unR_rowD] at k
    have e1 : (e.at_ i (rowD r)).sl[i]? = some (.fz (rowD r)) := by
      simp only [En.wipe, En.asg]
      rw [List.getElem?_set_self (by simpa using hi)]
    simp only [w2O, wC, e1, datOf]
    exact ⟨rfl, _, rfl, _, hf r, k⟩
  · rw [List.map_map]
    have : rs.map ((fun d => txtD (f (unR d))) ∘ rowD) = (rs.map f).map txtD := by
      rw [List.map_map]
      exact List.map_congr_left fun r _ => by simp [unR_rowD]
    rw [this]
    exact h
theorem q_gates (C : Addr) (ds : List D) (c : Nat) (K KE : D → Nat → Prop) (h : spGates C ds c K KE) : W_Server_gates C (en0 ["self", "row"] ds c) { nx := fun e => K .non e.cnt, rt := K } := by
  obtain ⟨rs, rfl, ok, hl, h⟩ := h
  have e1 : D.items (.tup (rs.map rowD)) = some (rs.map rowD) := rfl
  simp only [W_Server_gates, w1, w2, wL, wRet, wN, wCall, wCons, wNil, wLc, wIt, en0]
  simp [datOf, serverD, fld_rows, e1]
  refine lc_rows 0 (·.1) row_ix0 (by simp) rs (by omega) ?_
  refine ⟨_, rfl, _, fld_rows .., _, e1, ?_⟩
  refine lc_rows 2 (·.2.2) row_ix2 (by simp) rs (by omega) ?_
  refine ⟨_, add_lst (by simp; omega), ?_⟩
  have hok : ∀ x ∈ rs.map (·.1) ++ rs.map (·.2.2), TxtOk x := fun x hx => by
    rcases List.mem_append.mp hx with hx | hx <;> obtain ⟨r, hr, rfl⟩ := List.mem_map.mp hx
    · exact name_ok (ok r hr).1
    · exact name_ok (ok r hr).2.2
  have hlen : (rs.map (·.1) ++ rs.map (·.2.2)).length + 1 < 4096 := by simp; omega
  refine ⟨_, _, rfl, rfl, txt_set hlen, txts_dsrt hok (by omega), ?_⟩
  rw [← canF_map unT_txtD]
  exact h
end DL
/-! DN, part o: a server is made. -/
namespace DL
open PySem PySem.Spec L2
def spServer (C : Addr) : FS := fun ds c K _ => ∃ a xs, ds = [a] ∧ seqOf a = some (xs.map rowD) ∧ (∀ r ∈ xs, RowOk r) ∧ xs.length < 307 ∧ K (serverD C (canR xs)) c
def wIniB1 : WS := (wAsg (w2 D.add (wMO 2 D.get1 (wCons (wTup (wCons (wN 3) (wCons (wN 4) wNil))) (wCons (wTup wNil) wNil))) (wTup (wCons (wN 5) wNil))) (wgD 2 (wTup (wCons (wN 3) (wCons (wN 4) wNil)))))
def wIniB2 : WS := (wAsg (w2 D.add (wMO 6 D.get1 (wCons (wN 3) (wCons (wTup wNil) wNil))) (wTup (wCons (wN 4) wNil))) (wgD 6 (wN 3)))
def wIniG1 : WG := (wgT 3 (wgCons (wgN 3) (wgCons (wgN 4) (wgCons (wgN 5) wgNil))))
def wIniG2 : WG := (wgT 2 (wgCons (wgN 3) (wgCons (wgN 4) wgNil)))
def wIniE : WE := (w1 D.tup1 (w1 D.sort1 (w2O 6 D.ix (wN 3))))
def W_Server___init__ (cServer : Addr) : WS := (wSeq (wDrop (wCall spNeedRows [] (wCons (wN 1) wNil)))
  (wSeq (wFldS cServer 0 "rows" (w1 D.tup1 (w1 D.sortSet (wL 1))))
  (wSeq (wSetN 2 wDct0)
  (wSeq (wFor (wIt (w1 (D.fld cServer "rows") (wL 0))) wIniG1 wIniB1)
  (wSeq (wFldS cServer 0 "_answers" (wN 2))
  (wSeq (wSetN 6 wDct0)
  (wSeq (wFor (wIt (wN 2)) wIniG2 wIniB2)
  (wFldS cServer 0 "_known" (wDc (wIt (wN 6)) (wgN 3) wYes (wN 3) wIniE [3])))))))))
theorem ansOf_add (done : List Row3) (r : Row3) : ansOf (done ++ [r]) = addAns (ansOf done) r := by unfold ansOf; rw [List.foldl_append]; rfl
theorem put_ans {vf : List Txt → D} (done : List Row3) (r : Row3) : (.dct (dput (alK pairD (ansOf done)) (alV vf (ansOf done)) (pairD (r.1, r.2.1)) (vf (ansAt (ansOf done) r.1 r.2.1 ++ [r.2.2]))).1 (dput (alK pairD (ansOf done)) (alV vf (ansOf done)) (pairD (r.1, r.2.1)) (vf (ansAt (ansOf done) r.1 r.2.1 ++ [r.2.2]))).2 : D) = ansD vf (ansOf (done ++ [r])) := by
  rw [ansOf_add, dput_al pairD_inj]
  rfl
theorem ini1 {F : Fn} {s0 s1 s6 : S} {c : Nat} {x : Option Addr} : ∀ (rest done : List Row3) (s3 s4 s5 : S), done.length + rest.length < 1000 →
    (∀ s3 s4 s5, F.nx ⟨[s0, s1, .ow (ansD tupT (ansOf (done ++ rest))), s3, s4, s5, s6], c, x⟩) →
    wForR wIniG1 wIniB1 F (rest.map rowD) ⟨[s0, s1, .ow (ansD tupT (ansOf done)), s3, s4, s5, s6], c, x⟩
  | [], done, s3, s4, s5, _, h => by simpa [wForR] using h s3 s4 s5
  | r :: rest, done, s3, s4, s5, h2, h => by
    rw [List.length_cons] at h2
    have ih := ini1 (F := F) (s0 := s0) (s1 := s1) (s6 := s6) (c := c) (x := x) rest (done ++ [r])
    rw [List.map_cons, wForR]
    generalize wForR wIniG1 wIniB1 F (rest.map rowD) = R at ih
    have e1 := get1_pair tupT (ansOf done) (r.1, r.2.1) (.tup [])
    rw [getD_tupT] at e1
    have e2 := add_tup (l := ansAt (ansOf done) r.1 r.2.1) (m := [r.2.2]) (by have := ansAt_len done r.1 r.2.1; simp; omega)
    have e3 := put_ans (vf := tupT) done r
    have e4 := ansOf_len done
    have e5 := small (n := (ansOf done).length) (by omega)
    simp only [wIniG1, wIniB1, rowD, wAsg, w2, wMO, wCons, wNil, wTup, wN, wgD, wgT, wgCons, wgNil, wgN]
    refine ⟨_, rfl, rfl, _, _, rfl, _, _, rfl, _, _, rfl, rfl, ?_⟩
    simp [En.asg, datOf, owned, En.put, lt2]
    have lt1 : 1 ≤ sizeLine := Nat.le_trans (by decide) lt2
    refine ⟨⟨_, _, rfl⟩, _, e1, lt1, _, e2, _, _, rfl, kok_pair _ (r.1, r.2.1), by show (alK pairD (ansOf done)).length ≤ _; unfold alK; rw [List.length_map]; omega, ?_⟩
    have := ih (.fz (txtD r.1)) (.fz (txtD r.2.1)) (.fz (txtD r.2.2)) (by simp; omega) (by simpa using h)
    rw [← e3] at this
    exact this
abbrev knP (ps : List (Txt × Txt)) : Kns := ps.foldl addKn []
theorem knP_get (ps : List (Txt × Txt)) (g : Txt) : ((alGet (knP ps) g).getD []).length ≤ ps.length := by
  rw [kn_fold]
  have e : (alGet ([] : Kns) g).getD [] = [] := rfl
  rw [e, List.nil_append, List.length_map]
  exact List.length_filter_le _ _
theorem knP_len (ps : List (Txt × Txt)) : (knP ps).length ≤ ps.length := by simpa using kn_len ps []
theorem knP_add (done : List (Txt × Txt)) (r : Txt × Txt) : knP (done ++ [r]) = addKn (knP done) r := by unfold knP; rw [List.foldl_append]; rfl
theorem put_kn (done : List (Txt × Txt)) (r : Txt × Txt) : (.dct (dput (alK txtD (knP done)) (alV tupT (knP done)) (txtD r.1) (tupT ((alGet (knP done) r.1).getD [] ++ [r.2]))).1 (dput (alK txtD (knP done)) (alV tupT (knP done)) (txtD r.1) (tupT ((alGet (knP done) r.1).getD [] ++ [r.2]))).2 : D) = knD (knP (done ++ [r])) := by
  rw [knP_add, dput_al txtD_inj]
  rfl
theorem ini2 {F : Fn} {s0 s1 s2 s5 : S} {c : Nat} {x : Option Addr} : ∀ (rest done : List (Txt × Txt)) (s3 s4 : S), done.length + rest.length < 1000 →
    (∀ s3 s4, F.nx ⟨[s0, s1, s2, s3, s4, s5, .ow (knD (knP (done ++ rest)))], c, x⟩) →
    wForR wIniG2 wIniB2 F (rest.map pairD) ⟨[s0, s1, s2, s3, s4, s5, .ow (knD (knP done))], c, x⟩
  | [], done, s3, s4, _, h => by simpa [wForR] using h s3 s4
  | r :: rest, done, s3, s4, h2, h => by
    rw [List.length_cons] at h2
    have ih := ini2 (F := F) (s0 := s0) (s1 := s1) (s2 := s2) (s5 := s5) (c := c) (x := x) rest (done ++ [r])
    rw [List.map_cons, wForR]
    generalize wForR wIniG2 wIniB2 F (rest.map pairD) = R at ih
    have e1 := get1_txt tupT (knP done) r.1 (.tup [])
    rw [getD_tupT] at e1
    have e2 := add_tup (l := (alGet (knP done) r.1).getD []) (m := [r.2]) (by have := knP_get done r.1; simp; omega)
    have e3 := put_kn done r
    have e4 := knP_len done
    have e5 := small (n := (knP done).length) (by omega)
    simp only [wIniG2, wIniB2, pairD, wAsg, w2, wMO, wCons, wNil, wTup, wN, wgD, wgT, wgCons, wgNil, wgN]
    refine ⟨_, rfl, rfl, _, _, rfl, _, _, rfl, rfl, ?_⟩
    simp [En.asg, datOf, owned, En.put, lt2]
    have lt1 : 1 ≤ sizeLine := Nat.le_trans (by decide) lt2
    refine ⟨⟨_, _, rfl⟩, _, e1, lt1, _, e2, _, _, rfl, kok_txt _ r.1, by show (alK txtD (knP done)).length ≤ _; unfold alK; rw [List.length_map]; omega, ?_⟩
    have := ih (.fz (txtD r.1)) (.fz (txtD r.2)) (by simp; omega) (by simpa using h)
    rw [← e3] at this
    exact this
theorem alGet_of_mem {α β : Type} [DecidableEq α] : ∀ {al : List (α × β)}, (al.map (·.1)).Nodup → ∀ {p : α × β}, p ∈ al → alGet al p.1 = some p.2
  | q :: al, nd, p, h => by
    rw [List.map_cons, List.nodup_cons] at nd
    unfold alGet
    rw [List.find?_cons]
    rcases List.mem_cons.mp h with rfl | h
    · simp
    · have : ¬ q.1 = p.1 := fun e => nd.1 (e ▸ List.mem_map.mpr ⟨p, h, rfl⟩)
      simp only [decide_eq_false this]
      exact alGet_of_mem nd.2 h
theorem nodup_map {α β : Type} {f : α → β} (inj : ∀ a b, f a = f b → a = b) {l : List α} : (l.map f).Nodup ↔ l.Nodup := by
  constructor
  · exact fun h => List.Pairwise.of_map f (fun _ _ hne e => hne (congrArg f e)) h
  · exact fun h => h.map f fun a b hne e => hne (inj a b e)
theorem q_server (C : Addr) (x : Addr) (ds : List D) (c : Nat) (K KE : D → Nat → Prop) (h : spServer C ds c K KE) : W_Server___init__ C (en0I ["self", "rows", "told", "gate", "call", "other", "known"] x C ds c) { nx := fun e => e.me = some x ∧ ∃ d, datOf e.sl[0]? = some d ∧ K d e.cnt, rt := fun _ _ => False } := by
  obtain ⟨a, xs, rfl, h1, h2, h3, h⟩ := h
  have e1 := sortSet_R h1 h2 h3
  have hc : (canR xs).length ≤ xs.length := canF_len _
  have ha := ansOf_len (canR xs)
  simp only [W_Server___init__, wSeq, wFldS, w1, wL, wDrop, wCall, wCons, wNil, wN, wSetN, wDct0, wFor, wIt, en0I, en0]
  simp [datOf, owned, En.put, En.asg]
  refine ⟨a, xs, rfl, h1, h2, _, e1, _, rfl, _, _, ⟨rfl, rfl⟩, by decide, ?_⟩
  rw [(put1 (.tup ((canR xs).map rowD))).1, (put1 _).2]
  refine ⟨_, fld_rows1 .., _, rfl, ?_⟩
  refine ini1 (canR xs) [] .un .un .un (by simp; omega) fun s3 s4 s5 => ?_
  simp only [List.nil_append]
  simp [owned, En.put, En.asg, datOf]
  refine ⟨_, _, ⟨rfl, rfl⟩, by simp, ?_⟩
  rw [(put2 (.tup ((canR xs).map rowD)) (ansD tupT (ansOf (canR xs)))).1, (put2 _ (ansD tupT (ansOf (canR xs)))).2]
  have e2 : (ansD tupT (ansOf (canR xs))).items = some (((ansOf (canR xs)).map (·.1)).map pairD) := by
    show some ((ansOf (canR xs)).map fun p => pairD p.1) = _
    rw [List.map_map]; rfl
  refine ⟨_, e2, ?_⟩
  refine ini2 ((ansOf (canR xs)).map (·.1)) [] s3 s4 (by simp; omega) fun s3 s4 => ?_
  simp only [List.nil_append]
  show wDc _ _ _ _ _ _ ⟨[_, _, _, _, _, _, .ow (knD (knOf (ansOf (canR xs))))], _, _⟩ _
  generalize hkn : knOf (ansOf (canR xs)) = kn
  have nd : (kn.map (·.1)).Nodup := by rw [← hkn]; exact kn_nd _ _ List.nodup_nil
  simp only [wDc, wIt, wN]
  refine ⟨_, rfl, ?_⟩
  simp only [En.put, List.set]
  have hp : ∀ p ∈ kn, alGet kn p.1 = some p.2 := fun p hp => alGet_of_mem nd hp
  have hv : ∀ p ∈ kn, (∀ y ∈ p.2, TxtOk y) ∧ p.2.length < 2 ^ 20 := fun p hp' => by
    have e3 := kn_fold p.1 ((ansOf (canR xs)).map (·.1)) []
    have e4 : (alGet ([] : Kns) p.1).getD [] = [] := rfl
    rw [e4, List.nil_append] at e3
    have e5 : (alGet kn p.1).getD [] = callsRaw (ansOf (canR xs)) p.1 := by rw [← hkn]; exact e3
    rw [hp p hp', Option.getD_some] at e5
    rw [e5]
    refine ⟨fun y hy => ?_, by have := callsRaw_len (ansOf (canR xs)) p.1; omega⟩
    obtain ⟨r, hr, _, rfl⟩ := callsRaw_mem.mp hy
    exact name_ok (h2 r ((canF_mem unR_rowD).mp hr)).2.1
  have hl : kn.length < 1000 := by
    have := knP_len ((ansOf (canR xs)).map (·.1))
    rw [← hkn]
    rw [List.length_map] at this
    exact Nat.lt_of_le_of_lt this (by omega)
  refine dc_map (α := Txt × List Txt) (fun p => txtD p.1) (fun p => tupT (srtT p.2)) (by simp) kn [] (fun p hp' K' k => ?_) (fun p hp' K' k => ?_) (fun l p => kok_txt l p.1) ?_ (by have := small (n := kn.length) (by omega); simp; omega) ?_
  · simp [En.wipe, En.asg, wN] at k ⊢
    exact k
  · have e6 := ix_txt tupT kn p.1
    rw [hp p hp'] at e6
    simp only [wIniE, w1, w2O, wN]
    simp [En.wipe, En.asg, datOf] at k ⊢
    exact ⟨_, e6, _, sort1_Tt (hv p hp').1 (hv p hp').2, _, rfl, k⟩
  · rw [List.nil_append]
    have e7 : kn.map (fun p => txtD p.1) = (kn.map (·.1)).map txtD := by rw [List.map_map]; rfl
    rw [e7]
    exact (nodup_map txtD_inj).mpr nd
  · simp only [List.nil_append]
    refine ⟨_, _, rfl, by simp, trivial, _, rfl, ?_⟩
    rw [(put3 (.tup ((canR xs).map rowD)) (ansD tupT (ansOf (canR xs))) (.non)).1, (put3 (.tup ((canR xs).map rowD)) (ansD tupT (ansOf (canR xs))) _).2]
    have e8 : (D.dct (kn.map fun p => txtD p.1) (kn.map fun p => tupT (srtT p.2)) : D) = knD (knS (ansOf (canR xs))) := by
      unfold knS knD alK alV
      rw [hkn, List.map_map, List.map_map]
      rfl
    rw [e8]
    exact h
end DL
/-! DN, part p: which gates end: ends_by, ends_of. -/
namespace DL
open PySem PySem.Spec L2
theorem lc_txtF {wt : WT} {we : WE} {K : DK} {i : Nat} {e : En} (f : Txt → D) (p : Txt → Bool) (hi : i < e.sl.length) (l : List Txt) (ht : ∀ x ∈ l, ∀ K' : Bool → En → Prop, K' (p x) (e.at_ i (txtD x)) → wt (e.at_ i (txtD x)) K') (he : ∀ x ∈ l, p x = true → ∀ K' : DK, K' (f x) (e.at_ i (txtD x)) → we (e.at_ i (txtD x)) K') (hz : l.length < 2 ^ 20)
    (h : K (.lst ((l.filter p).map f)) e) : wLcR (wgN i) wt we [i] K (l.map txtD) [] e := by
  refine lc_pure (f := fun d => f (unT d)) (p := fun d => p (unT d)) hi _ [] (fun d hd K' k => ?_) (fun d hd hp K' k => ?_) (by have := small hz; simp; omega) ?_
  · obtain ⟨x, hx, rfl⟩ := List.mem_map.mp hd
    rw [unT_txtD] at k
    exact ht x hx K' k
  · obtain ⟨x, hx, rfl⟩ := List.mem_map.mp hd
    rw [unT_txtD] at k hp
    exact he x hx hp K' k
  · rw [List.filter_map, List.map_map, List.nil_append]
    have e1 : (l.filter ((fun d => p (unT d)) ∘ txtD)) = l.filter p := List.filter_congr fun x _ => by simp [unT_txtD]
    rw [e1]
    have e2 : (l.filter p).map ((fun d => f (unT d)) ∘ txtD) = (l.filter p).map f := List.map_congr_left fun x _ => by simp [unT_txtD]
    rw [e2]
    exact h
theorem lc_txt {we : WE} {K : DK} {i : Nat} {e : En} (f : Txt → D) (hi : i < e.sl.length) (l : List Txt) (he : ∀ x ∈ l, ∀ K' : DK, K' (f x) (e.at_ i (txtD x)) → we (e.at_ i (txtD x)) K') (hz : l.length < 2 ^ 20) (h : K (.lst (l.map f)) e) : wLcR (wgN i) wYes we [i] K (l.map txtD) [] e :=
  lc_txtF f (fun _ => true) hi l (fun x _ K' k => k) (fun x hx _ => he x hx) hz (by rw [List.filter_eq_self.mpr (fun _ _ => rfl)]; exact h)
def numD (n : Nat) : D := .int n
def fdD (fd : Fnd) : D := .dct (alK txtD fd) (alV numD fd)
theorem alGet_some {α β : Type} [DecidableEq α] (al : List (α × β)) (k : α) : (alGet al k).isSome = decide (k ∈ al.map (·.1)) := by
  unfold alGet
  rw [Bool.eq_iff_iff, Option.isSome_map, List.find?_isSome, decide_eq_true_eq, List.mem_map]
  constructor
  · rintro ⟨p, h1, h2⟩
    exact ⟨p, h1, of_decide_eq_true h2⟩
  · rintro ⟨p, h1, h2⟩
    exact ⟨p, h1, decide_eq_true h2⟩
theorem has_fd (fd : Fnd) (x : Txt) : (txtD x).has (fdD fd) = some (decide (x ∈ fd.map (·.1))) := by
  show (if kok (alK txtD fd) (txtD x) = true then some (dget (alK txtD fd) (alV numD fd) (txtD x)).isSome else none) = _
  rw [if_pos (kok_txt fd x), dget_al txtD_inj, Option.isSome_map, alGet_some]
  exact congrArg some (decide_eq_decide.mpr Iff.rfl)
theorem inn_fd (fd : Fnd) (x : Txt) : D.inn (txtD x) (fdD fd) = some (.bl (decide (x ∈ fd.map (·.1)))) := by unfold D.inn; rw [has_fd]; rfl
theorem nin_fd (fd : Fnd) (x : Txt) : D.nin (txtD x) (fdD fd) = some (.bl (!decide (x ∈ fd.map (·.1)))) := by unfold D.nin; rw [has_fd]; rfl
theorem all1_map {α : Type} (f : α → Bool) (l : List α) : D.all1 (.lst (l.map fun x => D.bl (f x))) = some (.bl (l.all f)) := by
  unfold D.all1
  simp only [bools_map]
  rw [Option.map_some, List.all_map]
  rfl
theorem any1_map {α : Type} (f : α → Bool) (l : List α) : D.any1 (.lst (l.map fun x => D.bl (f x))) = some (.bl (l.any f)) := by
  unfold D.any1
  simp only [bools_map]
  rw [Option.map_some, List.any_map]
  rfl
theorem nkn : ("known" : Str) ∉ (["rows", "_answers", "_known"] : List Str) := by decide +kernel
theorem nan : ("answers" : Str) ∉ (["rows", "_answers", "_known"] : List Str) := by decide +kernel
theorem nga : ("gates" : Str) ∉ (["rows", "_answers", "_known"] : List Str) := by decide +kernel
/-- rows as a server has them -/
structure Srv (rs : List Row3) : Prop where
  ok : ∀ r ∈ rs, RowOk r
  sz : rs.length < 307
theorem Srv.calls {rs : List Row3} (s : Srv rs) (g : Txt) : (srtT (callsRaw (ansOf rs) g)).length < 2 ^ 20 := by
  rw [(srtF_perm unT_txtD _).length_eq]
  have := callsRaw_len (ansOf rs) g
  have := ansOf_len rs
  have := s.sz
  omega
theorem Srv.ans {rs : List Row3} (s : Srv rs) (g c : Txt) : (ansAt (ansOf rs) g c).length < 2 ^ 20 := by
  have := ansAt_len rs g c
  have := s.sz
  omega
theorem Srv.gok {rs : List Row3} (s : Srv rs) : ∀ g ∈ gatesOf rs, TxtOk g := fun g h => by
  obtain ⟨r, hr, rfl | rfl⟩ := gates_mem.mp h
  · exact name_ok (s.ok r hr).1
  · exact name_ok (s.ok r hr).2.2
theorem Srv.glen {rs : List Row3} (s : Srv rs) : (gatesOf rs).length < 614 := by
  have h := canF_len (f := txtD) (un := unT) (rs.map (·.1) ++ rs.map (·.2.2))
  have := s.sz
  exact Nat.lt_of_le_of_lt h (by rw [List.length_append, List.length_map, List.length_map]; omega)
theorem Srv.gnd (rs : List Row3) : (gatesOf rs).Nodup := canF_nodup unT_txtD _
theorem Srv.clo {rs : List Row3} (g c x : Txt) (hc : c ∈ callsRaw (ansOf rs) g) (hx : x ∈ ansAt (ansOf rs) g c) : x ∈ gatesOf rs := gates_mem.mpr ⟨_, ansAt_mem.mp hx, .inr rfl⟩
def spEndsBy (C : Addr) : FS := fun ds c K _ => ∃ rs g fd, ds = [serverD C rs, txtD g, fdD fd] ∧ Srv rs ∧ K (.bl (endsBy (ansOf rs) (fd.map (·.1)) g)) c
def W_ends_by (cServer : Addr) : WS := (wRet (w1 D.all1 (wLc (wIt (wMeth cServer "known" (spKnown cServer) [] (wN 0) (wCons (wN 1) wNil))) (wgN 3) wYes (w1 D.any1 (wLc (wIt (wMeth cServer "answers" (spAnswers cServer) [] (wN 0) (wCons (wN 1) (wCons (wN 3) wNil)))) (wgN 4) wYes (w2 D.inn (wN 4) (wL 2)) [4])) [3])))
theorem q_ends_by (C : Addr) (ds : List D) (c : Nat) (K KE : D → Nat → Prop) (h : spEndsBy C ds c K KE) : W_ends_by C (en0 ["server", "gate", "found", "call", "later"] ds c) { nx := fun e => K .non e.cnt, rt := K } := by
  obtain ⟨rs, g, fd, rfl, s, h⟩ := h
  simp only [W_ends_by, wRet, w1, wLc, wIt, wMeth, wN, wCons, wNil, en0]
  simp [datOf]
  refine ⟨⟨_, ⟨_, rfl⟩, nkn⟩, rs, g, rfl, _, rfl, ?_⟩
  refine lc_txt (fun y => .bl ((ansAt (ansOf rs) g y).any fun x => decide (x ∈ fd.map Prod.fst))) (by simp) _ (fun y hy K' k => ?_) (s.calls g) ⟨_, all1_map _ _, h⟩
  simp only [w1, wLc, wIt, wMeth, wN, wCons, wNil]
  simp [En.wipe, En.asg] at k ⊢
  refine ⟨⟨_, ⟨_, rfl⟩, nan⟩, rs, g, y, rfl, _, rfl, ?_⟩
  refine lc_txt (fun x => .bl (decide (x ∈ fd.map Prod.fst))) (by simp) _ (fun x hx K' k => ?_) (s.ans g y) ⟨_, any1_map _ _, by simpa using k⟩
  simp [En.wipe, En.asg, w2, wN, wL, datOf] at k ⊢
  refine ⟨_, inn_fd fd x, ?_⟩
  simpa using k
end DL
/-! DN, part q: ends_of. -/
namespace DL
open PySem PySem.Spec L2
theorem gd_lstT {l : List Txt} (h : ∀ x ∈ l, TxtOk x) : (lstT l).gd 64 = true := by
  unfold lstT
  simp only [D.gd]
  exact gds_of fun d hd => by
    obtain ⟨x, hx, rfl⟩ := List.mem_map.mp hd
    simp only [txtD, D.gd]
    exact h x hx
theorem lstT_inj {l m : List Txt} : lstT l = lstT m ↔ l = m := by
  constructor
  · intro h
    unfold lstT at h
    injection h with h
    have := congrArg (List.map unT) h
    rw [List.map_map, List.map_map] at this
    simpa [Function.comp_def, unT_txtD] using this
  · rintro rfl; rfl
theorem neo_lstT {l m : List Txt} (hl : ∀ x ∈ l, TxtOk x) (hm : ∀ x ∈ m, TxtOk x) : D.neo (lstT l) (lstT m) = some (.bl (!decide (l = m))) := by
  unfold D.neo
  rw [eqc_gd (gd_lstT hl) (gd_lstT hm)]
  simp [lstT_inj]
theorem eqo_lstT {l m : List Txt} (hl : ∀ x ∈ l, TxtOk x) (hm : ∀ x ∈ m, TxtOk x) : D.eqo (lstT l) (lstT m) = some (.bl (decide (l = m))) := by
  unfold D.eqo
  rw [eqc_gd (gd_lstT hl) (gd_lstT hm)]
  simp [lstT_inj]
theorem upsert_new {α β : Type} [DecidableEq α] {k : α} {v : β} : ∀ {al : List (α × β)}, k ∉ al.map (·.1) → upsert al k v = al ++ [(k, v)]
  | [], _ => rfl
  | (a, b) :: r, h => by
    rw [List.map_cons, List.mem_cons, not_or] at h
    unfold upsert
    rw [if_neg fun e => h.1 e.symm, upsert_new h.2]; rfl
def wEndFor : WS := (wAsg (wN 2) (wgD 1 (wN 5)))
theorem end_for {F : Fn} {s0 s3 s4 : S} {n c : Nat} : ∀ (l : List Txt) (fd : Fnd) (s5 : S), (fd.map (·.1) ++ l).Nodup → fd.length + l.length < 2 ^ 20 → (∀ s5, F.nx ⟨[s0, .ow (fdD (fd ++ l.map fun g => (g, n))), .fz (numD n), s3, s4, s5], c, none⟩) →
    wForR (wgN 5) wEndFor F (l.map txtD) ⟨[s0, .ow (fdD fd), .fz (numD n), s3, s4, s5], c, none⟩
  | [], fd, s5, _, _, h => by simpa [wForR] using h s5
  | g :: l, fd, s5, nd, hl, h => by
    have ih := end_for (F := F) (s0 := s0) (s3 := s3) (s4 := s4) (n := n) (c := c) l (fd ++ [(g, n)]) (.fz (txtD g)) (by simpa using nd) (by rw [List.length_cons] at hl; simp; omega) (fun s5 => by simpa using h s5)
    have hn : g ∉ fd.map (·.1) := fun z => (List.nodup_append.mp nd).2.2 _ z _ List.mem_cons_self rfl
    rw [List.map_cons, wForR]
    generalize wForR (wgN 5) wEndFor F (l.map txtD) = R at ih
    simp only [wEndFor, wAsg, wgN, wgD, wN]
    simp [En.asg, owned, En.put]
    refine ⟨_, _, rfl, kok_txt fd g, by show (alK txtD fd).length ≤ _; unfold alK; rw [List.length_map]; have := small hl; omega, ?_⟩
    have e1 := dput_al (kf := txtD) (vf := numD) txtD_inj fd g n
    rw [upsert_new hn] at e1
    rw [e1]
    exact ih
def wEndsBody (cServer : Addr) : WS := (wSeq (wSetN 4 (wLc (wIt (wMeth cServer "gates" (spGates cServer) [] (wN 0) wNil)) (wgN 5) (wAnd (wTst (w2 D.nin (wN 5) (wL 1))) (wTru (wCallB 1 (spEndsBy cServer) [] [0, 5, 1]))) (wN 5) [5]))
  (wSeq (wSet 3 (w2 D.neo (wN 4) (wLst wNil)))
  (wSeq (wFor (wIt (wN 4)) (wgN 5) wEndFor)
  (wAug 2 (iop (fun _ _ => True) (fun i j => i + j)) (wC (.int 1))))))
theorem rk_def (al : Ans) (gs : List Txt) (n : Nat) : (rnd al gs n).map (·.1) = rk al gs n := rfl
theorem ends_body {C : Addr} {rs : List Row3} (s : Srv rs) {F : Fn} {n c : Nat} {s4 s5 : S} (h : ∀ s4 s5, F.nx ⟨[.fz (serverD C rs), .ow (fdD (rnd (ansOf rs) (gatesOf rs) (n + 1))), .fz (numD (n + 1)), .fz (.bl (!decide (fresh (ansOf rs) (gatesOf rs) (rk (ansOf rs) (gatesOf rs) n) = []))), s4, s5], c, none⟩) :
    wEndsBody C ⟨[.fz (serverD C rs), .ow (fdD (rnd (ansOf rs) (gatesOf rs) n)), .fz (numD n), .fz (.bl true), s4, s5], c, none⟩ F := by
  have gl := s.glen
  simp only [wEndsBody, wSeq, wSetN, wLc, wIt, wMeth, wN, wNil]
  simp
  refine ⟨⟨_, ⟨_, rfl⟩, nga⟩, rs, rfl, s.ok, s.sz, _, rfl, ?_⟩
  refine lc_txtF txtD (fun g => !decide (g ∈ rk (ansOf rs) (gatesOf rs) n) && endsBy (ansOf rs) (rk (ansOf rs) (gatesOf rs) n) g) (by simp) (gatesOf rs) (fun g hg K' k => ?_) (fun g hg _ K' k => ?_) (by omega) ?_
  · simp only [En.wipe, En.asg, wAnd, wTst, w2, wN, wL]
    simp only [En.wipe, En.asg] at k
    simp [datOf]
    refine ⟨_, nin_fd _ g, ?_⟩
    simp only [rk_def]
    simp at k
    by_cases q : g ∈ rk (ansOf rs) (gatesOf rs) n
    · exact .inl ⟨by simp [q], by simpa [q] using k⟩
    · refine .inr ⟨by simp [q], ?_⟩
      refine ⟨_, _, rfl, [serverD C rs, txtD g, fdD (rnd (ansOf rs) (gatesOf rs) n)], rfl, rs, g, _, rfl, s, rfl, _, rfl, ?_⟩
      rw [rk_def]
      simpa [q] using k
  · simp only [wN]
    simp [En.wipe, En.asg] at k ⊢
    exact k
  · have fok : ∀ g ∈ fresh (ansOf rs) (gatesOf rs) (rk (ansOf rs) (gatesOf rs) n), TxtOk g := fun g hg => s.gok g (fresh_mem.mp hg).1
    have e1 := neo_lstT (m := []) fok (fun _ z => nomatch z)
    have e2 := rk_nodup (al := ansOf rs) (Srv.gnd rs) (n + 1)
    have e3 := rk_len (al := ansOf rs) (Srv.gnd rs) (n + 1)
    rw [rk_succ] at e2 e3
    rw [List.length_append] at e3
    refine ⟨Nat.zero_le _, _, e1, ?_⟩
    simp only [wFor, wIt, wN, En.asg, En.put]
    simp
    refine ⟨_, rfl, ?_⟩
    refine end_for (fresh (ansOf rs) (gatesOf rs) (rk (ansOf rs) (gatesOf rs) n)) _ s5 e2 ?_ fun s5 => ?_
    · have : (rk (ansOf rs) (gatesOf rs) n).length = (rnd (ansOf rs) (gatesOf rs) n).length := List.length_map ..
      omega
    · simp only [wAug, wC]
      refine ⟨numD n, rfl, numD (n + 1), ?_, ?_⟩
      · simp only [iop, numD]
        rw [if_pos trivial]
        rfl
      · simp [En.asg]
        exact h _ s5
theorem ends_loop {C : Addr} {rs : List Row3} (s : Srv rs) {F : Fn} {c : Nat} (h : ∀ s2 s3 s4 s5, F.nx ⟨[.fz (serverD C rs), .ow (fdD (rnd (ansOf rs) (gatesOf rs) (gatesOf rs).length)), s2, s3, s4, s5], c, none⟩) : ∀ (m n : Nat) (s4 s5 : S), (gatesOf rs).length ≤ n + m → n ≤ (gatesOf rs).length →
    wWhN (wTru (wN 3)) (wEndsBody C) F (m + 2) ⟨[.fz (serverD C rs), .ow (fdD (rnd (ansOf rs) (gatesOf rs) n)), .fz (numD n), .fz (.bl true), s4, s5], c, none⟩
  | m, n, s4, s5, h1, h2 => by
    rw [wWhN]
    simp only [wTru, wN]
    refine ⟨true, rfl, ?_⟩
    rw [if_pos rfl]
    refine ends_body s fun s4 s5 => ?_
    by_cases q : fresh (ansOf rs) (gatesOf rs) (rk (ansOf rs) (gatesOf rs) n) = []
    · have e1 := rnd_end (al := ansOf rs) (Srv.gnd rs) q h2
      have e2 := rnd_stay q 1
      dsimp only
      rw [wWhN]
      simp only [wTru, wN]
      refine ⟨false, by simp [q, D.tru], ?_⟩
      rw [if_neg (by simp)]
      rw [e2, e1]
      exact h _ _ s4 s5
    · have e1 := rk_lt (al := ansOf rs) (Srv.gnd rs) q
      cases m with
      | zero => omega
      | succ m =>
        have ih := ends_loop s h m (n + 1) s4 s5 (by omega) (by omega)
        simp [q]
        exact ih
def spEndsOf (C : Addr) : FS := fun ds c K _ => ∃ rs, ds = [serverD C rs] ∧ Srv rs ∧ K (fdD (rnd (ansOf rs) (gatesOf rs) (gatesOf rs).length)) c
def W_ends_of (cServer : Addr) : WS := (wSeq (wPar [1, 2, 3] (sOw wDct0 (sFz (wC (.int 0)) (sFz (wC (.bl true)) sNil))))
  (wSeq (wWhile (wTru (wN 3)) (wEndsBody cServer))
  (wRet (wN 1))))
theorem q_ends_of (C : Addr) (ds : List D) (c : Nat) (K KE : D → Nat → Prop) (h : spEndsOf C ds c K KE) : W_ends_of C (en0 ["server", "found", "number", "fresh", "some", "gate"] ds c) { nx := fun e => K .non e.cnt, rt := K } := by
  obtain ⟨rs, rfl, s, h⟩ := h
  simp only [W_ends_of, wSeq, wPar, sOw, sFz, sNil, wDct0, wC, wWhile, wRet, en0]
  simp [asgs, En.asg]
  refine ⟨(gatesOf rs).length + 2, ends_loop s (fun s2 s3 s4 s5 => ?_) (gatesOf rs).length 0 .un .un (by omega) (by omega)⟩
  simp only [wN]
  exact h
end DL
/-! DN, part r: lasting, ending. -/
namespace DL
open PySem PySem.Spec L2
theorem orb {b : Bool} {A B : Prop} (h : if b = true then B else A) : (D.bl b = .bl false ∧ A) ∨ (D.bl b = .bl true ∧ B) := by
  cases b
  · exact .inl ⟨rfl, by simpa using h⟩
  · exact .inr ⟨rfl, by simpa using h⟩
theorem ort {b : Bool} {A B : Prop} (h : if b = true then B else A) : ((D.bl b).tru = some false ∧ A) ∨ ((D.bl b).tru = some true ∧ B) := by
  cases b
  · exact .inl ⟨rfl, by simpa using h⟩
  · exact .inr ⟨rfl, by simpa using h⟩
theorem pl_str (n : Nat) (x : Str) : pl n (.str x) = PyData.strOk x := by cases n <;> rfl
theorem pl_int (n : Nat) (i : Int) : pl n (.int i) = true := by cases n <;> rfl
theorem pl_tup (n : Nat) (ds : List D) : pl (n + 1) (.tup ds) = (decide (ds.length < 2 ^ 20) && ds.all (pl n)) := rfl
theorem mapM_some {α β : Type} {f : α → Option β} {g : α → β} : ∀ {l : List α}, (∀ x ∈ l, f x = some (g x)) → l.mapM f = some (l.map g)
  | [], _ => rfl
  | a :: l, h => by
    rw [List.mapM_cons, h a List.mem_cons_self, mapM_some (g := g) fun x hx => h x (List.mem_cons_of_mem _ hx)]
    rfl
theorem asT_pl : ∀ (n : Nat) (d : D), pl n d = true → asT n d = some d
  | n, .non, _ => by cases n <;> rfl
  | n, .bl b, _ => by cases n <;> rfl
  | n, .int i, _ => by cases n <;> rfl
  | n, .str x, _ => by cases n <;> rfl
  | 0, .tup ds, h => by simp [pl] at h
  | n + 1, .tup ds, h => by
    rw [pl_tup, Bool.and_eq_true, decide_eq_true_eq, List.all_eq_true] at h
    rw [asT, if_pos (Nat.le_of_lt (small h.1)), mapM_some (g := id) fun x hx => asT_pl n x (h.2 x hx), List.map_id]
    rfl
  | n, .lst _, h | n, .dct _ _, h | n, .set _, h | n, .obj _ _ _, h | n, .err _ _ _, h | n, .fn _, h | n, .pen, h | n, .scr _, h => by cases n <;> simp [pl] at h
theorem asT_lst {n : Nat} {ds : List D} (h : ∀ d ∈ ds, pl n d = true) (hl : ds.length < 2 ^ 20) : asT (n + 1) (.lst ds) = some (.tup ds) := by
  rw [asT, if_pos (Nat.le_of_lt (small hl)), mapM_some (g := id) fun x hx => asT_pl n x (h x hx), List.map_id]
  rfl
/-- an object of one attribute, rows -/
def rowsD (C : Addr) (z : D) : D := .obj C ["rows"] [z]
def spMkRows (C : Addr) : FS := fun ds c K _ => ∃ d z, ds = [d] ∧ asT 3 d = some z ∧ K (rowsD C z) c
def W_Lasting___init__ (cLasting : Addr) : WS := (wFldS cLasting 0 "rows" (wCall (spAsT 3) [] (wCons (wN 1) wNil)))
theorem q_mkrows (C : Addr) (x : Addr) (ds : List D) (c : Nat) (K KE : D → Nat → Prop) (h : spMkRows C ds c K KE) : W_Lasting___init__ C (en0I ["self", "rows"] x C ds c) { nx := fun e => e.me = some x ∧ ∃ d, datOf e.sl[0]? = some d ∧ K d e.cnt, rt := fun _ _ => False } := by
  obtain ⟨d, z, rfl, hz, h⟩ := h
  simp only [W_Lasting___init__, wFldS, wCall, wCons, wN, wNil, en0I, en0]
  simp [owned, En.put, datOf]
  refine ⟨d, z, rfl, hz, _, _, ⟨rfl, rfl⟩, by simp, ?_⟩
  rw [(put1 z).1, (put1 z).2]
  exact h
def spLCalls (C : Addr) : FS := fun ds c K _ => ∃ rs g fd, ds = [serverD C rs, txtD g, fdD fd] ∧ Srv rs ∧ K (lstT (lcalls (ansOf rs) (fd.map (·.1)) g)) c
def wLCBody (cServer : Addr) : WS := (wIfS (wNot (wTru (w1 D.any1 (wLc (wIt (wMeth cServer "answers" (spAnswers cServer) [] (wN 0) (wCons (wN 1) (wCons (wN 4) wNil)))) (wgN 5) wYes (w2 D.inn (wN 5) (wL 2)) [5])))) (wDrop (wLM 3 lmApp (wCons (wN 4) wNil))) wNx)
def W_lasting_calls (cServer : Addr) : WS := (wSeq (wSetN 3 (wLst wNil))
  (wSeq (wFor (wIt (wMeth cServer "known" (spKnown cServer) [] (wN 0) (wCons (wN 1) wNil))) (wgN 4) (wLCBody cServer))
  (wRet (wN 3))))
theorem lcalls_loop {C : Addr} {rs : List Row3} (s : Srv rs) {F : Fn} {g : Txt} {fd : Fnd} {c : Nat} : ∀ (l acc : List Txt) (s4 s5 : S), acc.length + l.length < 2 ^ 20 →
    (∀ s4 s5, F.nx ⟨[.fz (serverD C rs), .fz (txtD g), .fz (fdD fd), .ow (lstT (acc ++ l.filter fun y => !((ansAt (ansOf rs) g y).any fun x => decide (x ∈ fd.map Prod.fst)))), s4, s5], c, none⟩) →
    wForR (wgN 4) (wLCBody C) F (l.map txtD) ⟨[.fz (serverD C rs), .fz (txtD g), .fz (fdD fd), .ow (lstT acc), s4, s5], c, none⟩
  | [], acc, s4, s5, _, h => by simpa [wForR] using h s4 s5
  | y :: l, acc, s4, s5, hl, h => by
    rw [List.length_cons] at hl
    have ih := lcalls_loop (C := C) s (F := F) (g := g) (fd := fd) (c := c) l
    rw [List.map_cons, wForR]
    generalize wForR (wgN 4) (wLCBody C) F (l.map txtD) = R at ih
    simp only [wLCBody, wgN, wIfS, wNot, wTru, w1, wLc, wIt, wMeth, wN, wCons, wNil]
    simp [En.asg]
    refine ⟨⟨_, ⟨_, rfl⟩, nan⟩, rs, g, y, rfl, _, rfl, ?_⟩
    refine lc_txt (fun x => .bl (decide (x ∈ fd.map Prod.fst))) (by simp) _ (fun x hx K' k => ?_) (s.ans g y) ⟨_, any1_map _ _, ort ?_⟩
    · simp [En.wipe, En.asg, w2, wN, wL, datOf] at k ⊢
      refine ⟨_, inn_fd fd x, ?_⟩
      simpa using k
    · cases q : (ansAt (ansOf rs) g y).any fun x => decide (x ∈ fd.map Prod.fst) with
      | true =>
        rw [if_pos rfl]
        simp only [wNx]
        refine ih acc _ _ (by omega) fun s4 s5 => ?_
        have := h s4 s5
        rwa [List.filter_cons_of_neg (by rw [q]; simp)] at this
      | false =>
        rw [if_neg (by simp)]
        simp [wDrop, wLM, wCons, wN, wNil, owned]
        refine ⟨⟨_, rfl⟩, _, rfl, _, _, lmApp_ok (by rw [List.length_map]; exact small (by omega)), ?_⟩
        simp [En.put]
        have := ih (acc ++ [y]) (.fz (txtD y)) s5 (by simp; omega) fun s4 s5 => by
          have := h s4 s5
          rw [List.filter_cons_of_pos (by rw [q]; rfl)] at this
          simpa using this
        simpa [lstT] using this
theorem q_lasting_calls (C : Addr) (ds : List D) (c : Nat) (K KE : D → Nat → Prop) (h : spLCalls C ds c K KE) : W_lasting_calls C (en0 ["server", "gate", "ends", "calls", "call", "later"] ds c) { nx := fun e => K .non e.cnt, rt := K } := by
  obtain ⟨rs, g, fd, rfl, s, h⟩ := h
  simp only [W_lasting_calls, wSeq, wSetN, wLst, wNil, wFor, wIt, wMeth, wN, wCons, wRet, en0]
  simp [En.asg]
  refine ⟨⟨_, ⟨_, rfl⟩, nkn⟩, rs, g, rfl, _, rfl, ?_⟩
  refine lcalls_loop s _ [] .un .un (by simpa using s.calls g) fun s4 s5 => ?_
  simp [En.put]
  exact h
def spLGates (C : Addr) : FS := fun ds c K _ => ∃ rs, ds = [serverD C rs] ∧ Srv rs ∧ K (tupT (lastsOf (ansOf rs) (gatesOf rs))) c
def W_lasting_gates (cServer : Addr) : WS := (wSeq (wSet 1 (wCall (spEndsOf cServer) [] (wCons (wN 0) wNil)))
  (wRet (w1 D.tup1 (wLc (wIt (wMeth cServer "gates" (spGates cServer) [] (wN 0) wNil)) (wgN 2) (wTst (w2 D.nin (wN 2) (wL 1))) (wN 2) [2]))))
theorem q_lasting_gates (C : Addr) (ds : List D) (c : Nat) (K KE : D → Nat → Prop) (h : spLGates C ds c K KE) : W_lasting_gates C (en0 ["server", "ends", "gate"] ds c) { nx := fun e => K .non e.cnt, rt := K } := by
  obtain ⟨rs, rfl, s, h⟩ := h
  have gl := s.glen
  simp only [W_lasting_gates, wSeq, wSet, wCall, wNil, wIt, wMeth, wN, wCons, wRet, w1, wLc, en0]
  simp [En.asg]
  refine ⟨rs, rfl, s, ⟨_, ⟨_, rfl⟩, nga⟩, rs, rfl, s.ok, s.sz, _, rfl, ?_⟩
  refine lc_txtF txtD (fun g => !decide (g ∈ rk (ansOf rs) (gatesOf rs) (gatesOf rs).length)) (by simp) (gatesOf rs) (fun g hg K' k => ?_) (fun g hg _ K' k => ?_) (by omega) ⟨_, rfl, h⟩
  · simp only [En.wipe, En.asg, wTst, w2, wN, wL] at k ⊢
    simp [datOf] at k ⊢
    refine ⟨_, nin_fd _ g, orb ?_⟩
    simp only [rk_def]
    by_cases q : g ∈ rk (ansOf rs) (gatesOf rs) (gatesOf rs).length <;> simpa [q] using k
  · simp only [wN]
    simp [En.wipe, En.asg] at k ⊢
    exact k
end DL
/-! DN, part s: lasting, lasting_holds, ending, ending_holds. -/
namespace DL
open PySem PySem.Spec L2
def prsD (ps : List (Txt × Txt)) : D := .tup (ps.map pairD)
def entD (p : Txt × Nat) : D := .tup [txtD p.1, numD p.2]
def entsD (ps : List (Txt × Nat)) : D := .tup (ps.map entD)
def endsK (rs : List Row3) : List Txt := rk (ansOf rs) (gatesOf rs) (gatesOf rs).length
def lastG (rs : List Row3) : List Txt := lastsOf (ansOf rs) (gatesOf rs)
def lastC (rs : List Row3) (g : Txt) : List Txt := lcalls (ansOf rs) (endsK rs) g
def lastP (rs : List Row3) : List (Txt × Txt) := (lastG rs).map fun g => (g, (lastC rs g).headD [])
def endsF (rs : List Row3) : Fnd := rnd (ansOf rs) (gatesOf rs) (gatesOf rs).length
def endP (rs : List Row3) : List (Txt × Nat) := (srtT (endsK rs)).map fun g => (g, (alGet (endsF rs) g).getD 0)
theorem pl_pairs {ps : List (Txt × Txt)} (h : ∀ p ∈ ps, TxtOk p.1 ∧ TxtOk p.2) (hl : ps.length < 2 ^ 20) : pl 3 (prsD ps) = true := by
  unfold prsD
  rw [pl_tup, Bool.and_eq_true, decide_eq_true_eq, List.all_eq_true]
  refine ⟨by rw [List.length_map]; exact hl, fun d hd => ?_⟩
  obtain ⟨p, hp, rfl⟩ := List.mem_map.mp hd
  unfold pairD txtD
  rw [pl_tup, List.all_cons, List.all_cons, pl_str, pl_str, (h p hp).1, (h p hp).2]
  rfl
theorem pl_ents {ps : List (Txt × Nat)} (h : ∀ p ∈ ps, TxtOk p.1) (hl : ps.length < 2 ^ 20) : pl 3 (entsD ps) = true := by
  unfold entsD
  rw [pl_tup, Bool.and_eq_true, decide_eq_true_eq, List.all_eq_true]
  refine ⟨by rw [List.length_map]; exact hl, fun d hd => ?_⟩
  obtain ⟨p, hp, rfl⟩ := List.mem_map.mp hd
  unfold entD txtD numD
  rw [pl_tup, List.all_cons, List.all_cons, pl_str, pl_int, h p hp]
  rfl
theorem lcalls_mem {al : Ans} {fk : List Txt} {g c : Txt} (h : c ∈ lcalls al fk g) : c ∈ callsRaw al g := (srtF_perm unT_txtD _).mem_iff.mp (List.mem_filter.mp h).1
theorem Srv.cok {rs : List Row3} (s : Srv rs) {g c : Txt} (h : c ∈ callsRaw (ansOf rs) g) : TxtOk c := by
  obtain ⟨r, hr, _, rfl⟩ := callsRaw_mem.mp h
  exact name_ok (s.ok r hr).2.1
theorem Srv.lasts {rs : List Row3} (s : Srv rs) : ∀ g ∈ lastG rs, TxtOk g := fun g h => s.gok g (List.mem_filter.mp h).1
theorem Srv.llen {rs : List Row3} (s : Srv rs) : (lastG rs).length < 614 := Nat.lt_of_le_of_lt (List.length_filter_le _ _) s.glen
theorem Srv.lne {rs : List Row3} {g : Txt} (h : g ∈ lastG rs) : lastC rs g ≠ [] := lcalls_ne (Srv.gnd rs) h
theorem headD_mem {α : Type} {l : List α} {a : α} (h : l ≠ []) : l.headD a ∈ l := by cases l with
  | nil => exact absurd rfl h
  | cons b l => exact List.mem_cons_self
theorem Srv.lpok {rs : List Row3} (s : Srv rs) : ∀ p ∈ lastP rs, TxtOk p.1 ∧ TxtOk p.2 := fun p hp => by
  obtain ⟨g, hg, rfl⟩ := List.mem_map.mp hp
  exact ⟨s.lasts g hg, s.cok (lcalls_mem (headD_mem (Srv.lne hg)))⟩
def spLasting (CS CL : Addr) : FS := fun ds c K _ => ∃ rs, ds = [serverD CS rs] ∧ Srv rs ∧ K (rowsD CL (prsD (lastP rs))) c
def W_lasting (CS cLasting : Addr) : WS := (wSeq (wSet 1 (wCall (spEndsOf CS) [] (wCons (wN 0) wNil)))
  (wRet (wCall (spMkRows cLasting) [] (wCons (w1 D.tup1 (wLc (wIt (wCall (spLGates CS) [] (wCons (wN 0) wNil))) (wgN 2) wYes (wTup (wCons (wN 2) (wCons (w2 D.ix (wCall (spLCalls CS) [] (wCons (wN 0) (wCons (wN 2) (wCons (wN 1) wNil)))) (wC (.int 0))) wNil))) [2])) wNil))))
theorem ix0_lst {l : List Txt} (h : l ≠ []) : D.ix (lstT l) (.int 0) = some (txtD (l.headD [])) := by
  cases l with
  | nil => exact absurd rfl h
  | cons a l =>
    show L2.atI (txtD a :: l.map txtD) 0 = _
    simp [L2.atI, L2.ixN]
theorem q_lasting (CS CL : Addr) (ds : List D) (c : Nat) (K KE : D → Nat → Prop) (h : spLasting CS CL ds c K KE) : W_lasting CS CL (en0 ["server", "ends", "gate"] ds c) { nx := fun e => K .non e.cnt, rt := K } := by
  obtain ⟨rs, rfl, s, h⟩ := h
  have ll := s.llen
  simp only [W_lasting, wSeq, wSet, wCall, wNil, wIt, wN, wCons, wRet, w1, wLc, en0]
  simp [En.asg]
  refine ⟨rs, rfl, s, rs, rfl, s, _, rfl, ?_⟩
  refine lc_txt (fun g => pairD (g, (lastC rs g).headD [])) (by simp) _ (fun g hg K' k => ?_) (by show (lastG rs).length < _; omega) ?_
  · simp only [wTup, wCons, wN, wNil, w2, wC, wCall]
    simp [En.wipe, En.asg, -List.headD_eq_head?_getD] at k ⊢
    refine ⟨rs, g, endsF rs, rfl, s, _, ix0_lst (Srv.lne hg), lt2, k⟩
  · have e1 : (lastsOf (ansOf rs) (gatesOf rs)).map (fun g => pairD (g, (lastC rs g).headD [])) = (lastP rs).map pairD := by
      unfold lastP lastG
      rw [List.map_map]; rfl
    rw [e1]
    exact ⟨_, rfl, _, _, rfl, asT_pl 3 _ (pl_pairs (ps := lastP rs) s.lpok (by unfold lastP; rw [List.length_map]; omega)), h⟩
def spEnding (CS CE : Addr) : FS := fun ds c K _ => ∃ rs, ds = [serverD CS rs] ∧ Srv rs ∧ K (rowsD CE (entsD (endP rs))) c
def W_ending (CS cEnding : Addr) : WS := (wSeq (wSet 1 (wCall (spEndsOf CS) [] (wCons (wN 0) wNil)))
  (wRet (wCall (spMkRows cEnding) [] (wCons (w1 D.tup1 (wLc (wIt (w1 D.sort1 (w1 D.list1 (wL 1)))) (wgN 2) wYes (wTup (wCons (wN 2) (wCons (w2O 1 D.ix (wN 2)) wNil))) [2])) wNil))))
theorem Srv.ends {rs : List Row3} (s : Srv rs) : ∀ g ∈ endsK rs, TxtOk g := fun g h => s.gok g (rk_sub _ g h)
theorem Srv.elen {rs : List Row3} (s : Srv rs) : (endsK rs).length < 614 := Nat.lt_of_le_of_lt (rk_len (Srv.gnd rs) _) s.glen
theorem Srv.endnd {rs : List Row3} (s : Srv rs) : (endsK rs).Nodup := rk_nodup (Srv.gnd rs) _
theorem Srv.epok {rs : List Row3} (s : Srv rs) : ∀ p ∈ endP rs, TxtOk p.1 := fun p hp => by
  obtain ⟨g, hg, rfl⟩ := List.mem_map.mp hp
  exact s.ends g ((srtF_perm unT_txtD _).mem_iff.mp hg)
theorem Srv.eplen {rs : List Row3} (s : Srv rs) : (endP rs).length < 614 := by
  unfold endP
  rw [List.length_map, (srtF_perm unT_txtD _).length_eq]
  exact s.elen
theorem ends_get {rs : List Row3} {g : Txt} (h : g ∈ endsK rs) : (alGet (endsF rs) g).map numD = some (numD ((alGet (endsF rs) g).getD 0)) := by
  have := alGet_some (endsF rs) g
  cases q : alGet (endsF rs) g with
  | none =>
    rw [q] at this
    have h' : g ∈ (endsF rs).map (·.1) := h
    simp [h'] at this
  | some n => rfl
theorem list1_fd {fd : Fnd} (h : fd.length < 2 ^ 20) : D.list1 (fdD fd) = some (lstT (fd.map (·.1))) := by
  show (if (alK txtD fd).length ≤ sizeLine then some (D.lst (alK txtD fd)) else none) = _
  have e : alK txtD fd = (fd.map (·.1)).map txtD := alK_map txtD fd
  rw [if_pos (by rw [e, List.length_map, List.length_map]; exact Nat.le_of_lt (small h)), e]
  rfl
theorem Srv.flen {rs : List Row3} (s : Srv rs) : (endsF rs).length < 614 := by
  have := s.elen
  unfold endsK rk at this
  rwa [List.length_map] at this
theorem q_ending (CS CE : Addr) (ds : List D) (c : Nat) (K KE : D → Nat → Prop) (h : spEnding CS CE ds c K KE) : W_ending CS CE (en0 ["server", "ends", "gate"] ds c) { nx := fun e => K .non e.cnt, rt := K } := by
  obtain ⟨rs, rfl, s, h⟩ := h
  have ll := s.elen
  have fl := s.flen
  have e0 := sort1_T (l := endsK rs) s.ends (by omega)
  simp only [W_ending, wSeq, wSet, wCall, wNil, wIt, wN, wCons, wRet, w1, wLc, wL, en0]
  simp [En.asg]
  refine ⟨rs, rfl, s, _, rfl, _, list1_fd (fd := endsF rs) (by omega), _, e0, _, rfl, ?_⟩
  refine lc_txt (fun g => entD (g, (alGet (endsF rs) g).getD 0)) (by simp) _ (fun g hg K' k => ?_) (by rw [(srtF_perm unT_txtD _).length_eq]; omega) ?_
  · have hg := (srtF_perm unT_txtD _).mem_iff.mp hg
    have e1 := ix_txt numD (endsF rs) g
    rw [ends_get hg] at e1
    simp only [wTup, wCons, wN, wNil, w2O]
    simp [En.wipe, En.asg, datOf] at k ⊢
    exact ⟨_, e1, lt2, k⟩
  · have e1 : (srtT (endsK rs)).map (fun g => entD (g, (alGet (endsF rs) g).getD 0)) = (endP rs).map entD := by
      unfold endP
      rw [List.map_map]; rfl
    rw [e1]
    exact ⟨_, rfl, _, _, rfl, asT_pl 3 _ (pl_ents (ps := endP rs) s.epok (by have := s.eplen; omega)), h⟩
/-! ### the judges -/
def isObj : D → Bool
  | .non => false
  | .int _ => false
  | .tup _ => false
  | _ => true
theorem isC_not {C : Addr} {d : D} (h : isObj d = false) : D.isI (tabC C) d = some (.bl false) := by
  cases d <;> first | rfl | cases h
theorem isC_obj (C : Addr) (z : D) : D.isI (tabC C) (rowsD C z) = some (.bl true) := by simp [D.isI, D.ty, tabC, rowsD]
theorem fld_rows' (C : Addr) (z : D) : D.fld C "rows" (rowsD C z) = some z := fld_rows1 C z
inductive EH (C : Addr) (rs : List Row3) : D → Bool → Prop
  | no {d : D} (h : isObj d = false) : EH C rs d false
  | rows {z : D} (h : pl 3 z = true) : EH C rs (rowsD C z) (decide (z = entsD (endP rs)))
def spEHolds (CS CE : Addr) : FS := fun ds c K _ => ∃ rs d b, ds = [serverD CS rs, d] ∧ Srv rs ∧ EH CE rs d b ∧ K (.bl b) c
def W_ending_holds (CS cEnding : Addr) : WS := (wSeq (wSet 2 (wCall (spEnding CS cEnding) [] (wCons (wN 0) wNil)))
  (wRet (wAndV (w1 (D.isI (tabC cEnding)) (wL 1)) (wCall (spSame 3) [] (wCons (w1 (D.fld cEnding "rows") (wL 1)) (wCons (w1 (D.fld cEnding "rows") (wL 2)) wNil))))))
theorem q_ending_holds (CS CE : Addr) (ds : List D) (c : Nat) (K KE : D → Nat → Prop) (h : spEHolds CS CE ds c K KE) : W_ending_holds CS CE (en0 ["server", "value", "due"] ds c) { nx := fun e => K .non e.cnt, rt := K } := by
  obtain ⟨rs, d, b, rfl, s, hv, h⟩ := h
  simp only [W_ending_holds, wSeq, wSet, wCall, wNil, wN, wCons, wRet, wAndV, w1, wL, en0]
  simp [En.asg, datOf]
  refine ⟨rs, rfl, s, ?_⟩
  cases hv with
  | no q => exact ⟨_, isC_not q, .inl ⟨rfl, h⟩⟩
  | rows q =>
    refine ⟨_, isC_obj .., .inr ⟨rfl, _, fld_rows' .., _, fld_rows' .., ?_⟩⟩
    exact ⟨_, _, rfl, q, pl_ents s.epok (by have := s.eplen; omega), h⟩
end DL
/-! DN, part t: lasting_holds. -/
namespace DL
open PySem PySem.Spec L2
inductive LH (C : Addr) (rs : List Row3) : D → Bool → Prop
  | no {d : D} (h : isObj d = false) : LH C rs d false
  | non : LH C rs (rowsD C .non) false
  | len {ps : List (Txt × Txt)} (hl : ps.length < 2 ^ 20) (hn : ps.length ≠ (lastG rs).length) : LH C rs (rowsD C (prsD ps)) false
  | rows {ps : List (Txt × Txt)} (ok : ∀ p ∈ ps, TxtOk p.2) (h : ps.map Prod.fst = lastG rs) : LH C rs (rowsD C (prsD ps)) (ps.all fun p => decide (p.2 ∈ lastC rs p.1))
def wLHBody (CS : Addr) : WS := (wSeq (wIfS (wOr (wNot (wTru (w1 (D.isI (tabB ["tuple"])) (wL 4)))) (wOr (wTst (w2 D.neo (w1 D.lenD (wL 4)) (wC (.int 2)))) (wNot (wTru (wCall (spSame 3) [] (wCons (w2O 4 D.ix (wC (.int 0))) (wCons (wN 5) wNil))))))) (wRet (wC (.bl false))) wNx)
  (wIfS (wOr (wNot (wTru (w1 (D.isI (tabB ["str"])) (w2O 4 D.ix (wC (.int 1)))))) (wTst (w2 D.nin (w2O 4 D.ix (wC (.int 1))) (wCall (spLCalls CS) [] (wCons (wN 0) (wCons (wN 5) (wCons (wN 2) wNil))))))) (wRet (wC (.bl false))) wNx))
def spLHolds (CS CL : Addr) : FS := fun ds c K _ => ∃ rs d b, ds = [serverD CS rs, d] ∧ Srv rs ∧ LH CL rs d b ∧ K (.bl b) c
def W_lasting_holds (CS cLasting : Addr) : WS := (wSeq (wIfS (wOr (wNot (wTru (w1 (D.isI (tabC cLasting)) (wL 1)))) (wNot (wTru (w1 (D.isI (tabB ["tuple"])) (w1 (D.fld cLasting "rows") (wL 1)))))) (wRet (wC (.bl false))) wNx)
  (wSeq (wPar [2, 3] (sFz (wCall (spEndsOf CS) [] (wCons (wN 0) wNil)) (sFz (wCall (spLGates CS) [] (wCons (wN 0) wNil)) sNil)))
  (wSeq (wIfS (wTst (w2 D.neo (w1 D.lenD (w1 (D.fld cLasting "rows") (wL 1))) (w1 D.lenD (wL 3)))) (wRet (wC (.bl false))) wNx)
  (wSeq (wFor (wZip (wCons (w1 (D.fld cLasting "rows") (wL 1)) (wCons (wN 3) wNil))) (wgT 2 (wgCons (wgN 4) (wgCons (wgN 5) wgNil))) (wLHBody CS))
  (wRet (wC (.bl true)))))))
theorem gd_txt (x : Txt) (n : Nat) : (txtD x).gd n = PyData.strOk (strOf x) := by cases n <;> rfl
theorem has_lstT {l : List Txt} {x : Txt} (hx : TxtOk x) (hl : ∀ y ∈ l, TxtOk y) : (txtD x).has (lstT l) = some (decide (x ∈ l)) := by
  have e1 : D.gds (l.map txtD) 62 = true := gds_of fun d hd => by
    obtain ⟨y, hy, rfl⟩ := List.mem_map.mp hd
    rw [gd_txt]
    exact hl y hy
  have e2 : (txtD x).gd 63 = true := by rw [gd_txt]; exact hx
  show (if (txtD x).gd 63 && D.gds (l.map txtD) 62 then some (decide (txtD x ∈ l.map txtD)) else none) = _
  rw [e1, e2]
  simp only [Bool.and_self, if_true]
  refine congrArg some (decide_eq_decide.mpr ⟨fun h => ?_, fun h => List.mem_map.mpr ⟨x, h, rfl⟩⟩)
  obtain ⟨y, hy, e⟩ := List.mem_map.mp h
  exact txtD_inj _ _ e ▸ hy
theorem nin_lstT {l : List Txt} {x : Txt} (hx : TxtOk x) (hl : ∀ y ∈ l, TxtOk y) : D.nin (txtD x) (lstT l) = some (.bl (!decide (x ∈ l))) := by unfold D.nin; rw [has_lstT hx hl]; rfl
theorem inn_lstT {l : List Txt} {x : Txt} (hx : TxtOk x) (hl : ∀ y ∈ l, TxtOk y) : D.inn (txtD x) (lstT l) = some (.bl (decide (x ∈ l))) := by unfold D.inn; rw [has_lstT hx hl]; rfl
theorem pair_ix0 (p : Txt × Txt) : D.ix (pairD p) (.int 0) = some (txtD p.1) := rfl
theorem pair_ix1 (p : Txt × Txt) : D.ix (pairD p) (.int 1) = some (txtD p.2) := rfl
theorem lh_loop {CS : Addr} {rs : List Row3} (s : Srv rs) {F : Fn} {s1 s3 : S} {c : Nat} : ∀ (ps : List (Txt × Txt)) (s4 s5 : S), (∀ p ∈ ps, TxtOk p.1 ∧ TxtOk p.2) → ((ps.all fun p => decide (p.2 ∈ lastC rs p.1)) = false → F.rt (.bl false) c) →
    ((ps.all fun p => decide (p.2 ∈ lastC rs p.1)) = true → ∀ s4 s5, F.nx ⟨[.fz (serverD CS rs), s1, .fz (fdD (endsF rs)), s3, s4, s5], c, none⟩) →
    wForR (wgT 2 (wgCons (wgN 4) (wgCons (wgN 5) wgNil))) (wLHBody CS) F (zipD (ps.map pairD) ((ps.map Prod.fst).map txtD)) ⟨[.fz (serverD CS rs), s1, .fz (fdD (endsF rs)), s3, s4, s5], c, none⟩
  | [], s4, s5, _, _, h => by simpa [wForR, zipD] using h rfl s4 s5
  | p :: ps, s4, s5, ok, h0, h => by
    have ih := lh_loop (CS := CS) s (F := F) (s1 := s1) (s3 := s3) (c := c) ps (.fz (pairD p)) (.fz (txtD p.1)) (fun q hq => ok q (List.mem_cons_of_mem _ hq))
    have e : zipD ((p :: ps).map pairD) (((p :: ps).map Prod.fst).map txtD) = .tup [pairD p, txtD p.1] :: zipD (ps.map pairD) ((ps.map Prod.fst).map txtD) := rfl
    rw [e, wForR]
    generalize wForR (wgT 2 (wgCons (wgN 4) (wgCons (wgN 5) wgNil))) (wLHBody CS) F (zipD (ps.map pairD) ((ps.map Prod.fst).map txtD)) = R at ih
    refine ⟨_, rfl, rfl, _, _, rfl, _, _, rfl, rfl, ?_⟩
    obtain ⟨o1, o2⟩ := ok p List.mem_cons_self
    have f1 : D.isI (tabB ["tuple"]) (pairD p) = some (.bl true) := rfl
    have f2 : D.lenD (pairD p) = some (.int 2) := rfl
    have f3 : D.neo (.int 2) (.int 2) = some (.bl false) := by rw [neo_int]; rfl
    have f4 := nin_lstT (l := lastC rs p.1) o2 fun y hy => s.cok (lcalls_mem hy)
    simp only [wLHBody, wSeq, wIfS, wOr, wNot, wTru, wTst, w1, w2, w2O, wL, wRet, wNx, wN, wC, wCall, wCons, wNil]
    simp [En.asg, datOf, f1, f2, f3, pair_ix0, pair_ix1, isI_txt, D.tru]
    refine ⟨_, _, rfl, by unfold txtD; rw [pl_str]; exact o1, by unfold txtD; rw [pl_str]; exact o1, .inr ⟨by simp, ?_⟩⟩
    refine ⟨rs, p.1, endsF rs, rfl, s, _, f4, ?_⟩
    by_cases q : p.2 ∈ lastC rs p.1
    · refine .inl ⟨by simp [q], ih (fun z => h0 (by rw [List.all_cons, z]; simp)) fun z => h (by rw [List.all_cons, z]; simp [q])⟩
    · exact .inr ⟨by simp [q], h0 (by rw [List.all_cons]; simp [q])⟩
theorem lastP_keys (rs : List Row3) : (lastP rs).map Prod.fst = lastG rs := by
  unfold lastP
  rw [List.map_map]
  exact List.map_id _
theorem q_lasting_holds (CS CL : Addr) (ds : List D) (c : Nat) (K KE : D → Nat → Prop) (h : spLHolds CS CL ds c K KE) : W_lasting_holds CS CL (en0 ["server", "value", "ends", "due", "row", "gate"] ds c) { nx := fun e => K .non e.cnt, rt := K } := by
  obtain ⟨rs, d, b, rfl, s, hv, h⟩ := h
  have ll := s.llen
  simp only [W_lasting_holds, wSeq, wIfS, wOr, wNot, wTru, wTst, w1, w2, wL, wRet, wNx, wN, wC, wCall, wCons, wNil, wPar, sFz, sNil, wFor, wZip, en0]
  simp [datOf]
  cases hv with
  | no q => exact ⟨_, isC_not q, .inl ⟨rfl, h⟩⟩
  | non => exact ⟨_, isC_obj .., .inr ⟨rfl, _, fld_rows' .., _, it_non, .inl ⟨rfl, h⟩⟩⟩
  | @len ps hl hn =>
    refine ⟨_, isC_obj .., .inr ⟨rfl, _, fld_rows' .., _, it_tup _, .inr ⟨rfl, rs, rfl, s, rs, rfl, s, ?_⟩⟩⟩
    simp [asgs, En.asg, datOf]
    refine ⟨_, fld_rows' .., _, lenD_tup _, _, lenD_tup _, _, neo_int _ _, ?_⟩
    refine .inr ⟨?_, h⟩
    have : ¬ ps.length = (lastsOf (ansOf rs) (gatesOf rs)).length := hn
    simp only [List.length_map]
    rw [decide_eq_false (by omega)]
    rfl
  | @rows ps ok hk =>
    have hlen : ps.length = (lastG rs).length := by rw [← hk, List.length_map]
    refine ⟨_, isC_obj .., .inr ⟨rfl, _, fld_rows' .., _, it_tup _, .inr ⟨rfl, rs, rfl, s, rs, rfl, s, ?_⟩⟩⟩
    simp [asgs, En.asg, datOf]
    refine ⟨_, fld_rows' .., _, lenD_tup _, _, lenD_tup _, _, neo_int _ _, ?_⟩
    refine .inl ⟨?_, _, fld_rows' .., _, _, ⟨rfl, rfl⟩, _, rfl, ?_⟩
    · simp only [List.length_map]
      have : ps.length = (lastsOf (ansOf rs) (gatesOf rs)).length := hlen
      rw [decide_eq_true (by omega)]
      rfl
    · show wForR _ _ _ (zipD (ps.map pairD) ((lastG rs).map txtD)) _
      rw [← hk]
      refine lh_loop s ps .un .un (fun p hp => ⟨s.lasts p.1 (by rw [← hk]; exact List.mem_map.mpr ⟨p, hp, rfl⟩), ok p hp⟩) (fun q => ?_) fun q s4 s5 => ?_
      · rw [q] at h; exact h
      · rw [q] at h; exact h
end DL
/-! DN, part u: the law's own server. -/
namespace DL
open PySem PySem.Spec L2
def lawD (rs : List Row3) : D := .dct [.str "rows", .str "answers", .str "places"] [.lst (rs.map rowD), ansD lstT (ansOf rs), lstT (gatesOf rs)]
theorem law_ix0 (a b c : D) : D.ix (.dct [.str "rows", .str "answers", .str "places"] [a, b, c]) (.str "rows") = some a := by
  have h1 : kok [.str "rows", .str "answers", .str "places"] (.str "rows") = true := by decide +kernel
  have h2 : dix [.str "rows", .str "answers", .str "places"] (.str "rows") = some 0 := by decide +kernel
  simp only [D.ix]
  unfold dget
  rw [if_pos h1, h2]; rfl
theorem law_ix1 (a b c : D) : D.ix (.dct [.str "rows", .str "answers", .str "places"] [a, b, c]) (.str "answers") = some b := by
  have h1 : kok [.str "rows", .str "answers", .str "places"] (.str "answers") = true := by decide +kernel
  have h2 : dix [.str "rows", .str "answers", .str "places"] (.str "answers") = some 1 := by decide +kernel
  simp only [D.ix]
  unfold dget
  rw [if_pos h1, h2]; rfl
theorem law_ix2 (a b c : D) : D.ix (.dct [.str "rows", .str "answers", .str "places"] [a, b, c]) (.str "places") = some c := by
  have h1 : kok [.str "rows", .str "answers", .str "places"] (.str "places") = true := by decide +kernel
  have h2 : dix [.str "rows", .str "answers", .str "places"] (.str "places") = some 2 := by decide +kernel
  simp only [D.ix]
  unfold dget
  rw [if_pos h1, h2]; rfl
theorem lawD_rows (rs : List Row3) : D.ix (lawD rs) (.str "rows") = some (.lst (rs.map rowD)) := law_ix0 ..
theorem lawD_ans (rs : List Row3) : D.ix (lawD rs) (.str "answers") = some (ansD lstT (ansOf rs)) := law_ix1 ..
theorem lawD_places (rs : List Row3) : D.ix (lawD rs) (.str "places") = some (lstT (gatesOf rs)) := law_ix2 ..
/-- the places as they are met -/
def addPl (pl : List Txt) (r : Row3) : List Txt := pl ++ [r.1, r.2.2].filter fun x => !decide (x ∈ pl)
abbrev plOf (rs : List Row3) : List Txt := rs.foldl addPl []
theorem pl_mem : ∀ (rs : List Row3) (pl : List Txt) (g : Txt), g ∈ rs.foldl addPl pl ↔ g ∈ pl ∨ ∃ r ∈ rs, r.1 = g ∨ r.2.2 = g
  | [], pl, g => by simp
  | r :: rs, pl, g => by
    rw [List.foldl_cons, pl_mem rs]
    unfold addPl
    rw [List.mem_append, List.mem_filter, List.mem_cons, List.mem_cons]
    constructor
    · rintro ((h | ⟨h, _⟩) | ⟨q, h1, h2⟩)
      · exact .inl h
      · refine .inr ⟨r, List.mem_cons_self, ?_⟩
        rcases h with h | h | h
        · exact .inl h.symm
        · exact .inr h.symm
        · cases h
      · exact .inr ⟨q, List.mem_cons_of_mem _ h1, h2⟩
    · rintro (h | ⟨q, h1, h2⟩)
      · exact .inl (.inl h)
      · rcases List.mem_cons.mp h1 with rfl | h1
        · by_cases z : g ∈ pl
          · exact .inl (.inl z)
          · refine .inl (.inr ⟨?_, by simp [z]⟩)
            rcases h2 with h2 | h2
            · exact .inl h2.symm
            · exact .inr (.inl h2.symm)
        · exact .inr ⟨q, h1, h2⟩
theorem pl_len : ∀ (rs : List Row3) (pl : List Txt), (rs.foldl addPl pl).length ≤ pl.length + 2 * rs.length
  | [], pl => Nat.le_refl _
  | r :: rs, pl => by
    rw [List.foldl_cons, List.length_cons]
    have h1 := pl_len rs (addPl pl r)
    have h2 : (addPl pl r).length ≤ pl.length + 2 := by
      unfold addPl
      rw [List.length_append]
      have := List.length_filter_le (fun x => !decide (x ∈ pl)) [r.1, r.2.2]
      simp only [List.length_cons, List.length_nil] at this
      omega
    omega
theorem plOf_add (done : List Row3) (r : Row3) : plOf (done ++ [r]) = addPl (plOf done) r := by unfold plOf; rw [List.foldl_append]; rfl
theorem plOf_ok {rs : List Row3} (h : ∀ r ∈ rs, RowOk r) : ∀ g ∈ plOf rs, TxtOk g := fun g hg => by
  rcases (pl_mem rs [] g).mp hg with h' | ⟨r, hr, rfl | rfl⟩
  · simp at h'
  · exact name_ok (h r hr).1
  · exact name_ok (h r hr).2.2
theorem plOf_can {rs : List Row3} (h : ∀ r ∈ rs, RowOk r) (hl : rs.length < 1000) : canT (plOf rs) = gatesOf rs := by
  refine canT_eq (fun g => ?_) (plOf_ok h) (by have := pl_len rs []; simp only [List.length_nil, Nat.zero_add] at this; exact Nat.lt_of_le_of_lt this (by omega))
  rw [pl_mem, List.mem_append, List.mem_map, List.mem_map]
  constructor
  · rintro (z | ⟨r, hr, rfl | rfl⟩)
    · simp at z
    · exact .inl ⟨r, hr, rfl⟩
    · exact .inr ⟨r, hr, rfl⟩
  · rintro (⟨r, hr, rfl⟩ | ⟨r, hr, rfl⟩)
    · exact .inr ⟨r, hr, .inl rfl⟩
    · exact .inr ⟨r, hr, .inr rfl⟩
def spLServer : FS := fun ds c K _ => ∃ a xs, ds = [a] ∧ seqOf a = some (xs.map rowD) ∧ (∀ r ∈ xs, RowOk r) ∧ xs.length < 307 ∧ K (lawD (canR xs)) c
def wLSBody : WS := (wSeq (wAsg (w2 D.add (wMO 1 D.get1 (wCons (wTup (wCons (wN 3) (wCons (wN 4) wNil))) (wCons (wLst wNil) wNil))) (wLst (wCons (wN 5) wNil))) (wgD 1 (wTup (wCons (wN 3) (wCons (wN 4) wNil)))))
  (wSet 2 (w2 D.add (wN 2) (wLc (wIt (wLst (wCons (wN 3) (wCons (wN 5) wNil)))) (wgN 6) (wTst (w2 D.nin (wN 6) (wL 2))) (wN 6) [6]))))
def W__law_server_of : WS := (wSeq (wPar [1, 2] (sOw wDct0 (sOw (wLst wNil) sNil)))
  (wSeq (wFor (wIt (w1 D.sortSet (wL 0))) wIniG1 wLSBody)
  (wRet (wDisp [(.str "rows", (w1 D.sortSet (wL 0))), (.str "answers", (wN 1)), (.str "places", (w1 D.sortSet (wL 2)))]))))
theorem ls_comp {K : DK} {s0 s1 s4 s6 : S} {c : Nat} {pl : List Txt} {a b : Txt} (hp : ∀ g ∈ pl, TxtOk g) (ha : TxtOk a) (hb : TxtOk b) (h : K (lstT ([a, b].filter fun x => !decide (x ∈ pl))) ⟨[s0, s1, .fz (lstT pl), .fz (txtD a), s4, .fz (txtD b), s6], c, none⟩) :
    wLc (wIt (wLst (wCons (wN 3) (wCons (wN 5) wNil)))) (wgN 6) (wTst (w2 D.nin (wN 6) (wL 2))) (wN 6) [6] ⟨[s0, s1, .fz (lstT pl), .fz (txtD a), s4, .fz (txtD b), s6], c, none⟩ K := by
  simp only [wLc, wIt, wLst, wCons, wNil, wN]
  refine ⟨lt2, _, rfl, ?_⟩
  refine lc_txtF txtD (fun x => !decide (x ∈ pl)) (by simp) [a, b] (fun x hx K' k => ?_) (fun x hx _ K' k => ?_) (by simp) h
  · simp only [wTst, w2, wN, wL]
    simp [En.wipe, En.asg, datOf] at k ⊢
    refine ⟨_, nin_lstT ?_ hp, orb ?_⟩
    · simp at hx
      rcases hx with rfl | rfl
      · exact ha
      · exact hb
    · by_cases q : x ∈ pl <;> simpa [q] using k
  · simp only [wN]
    simp [En.wipe, En.asg] at k ⊢
    exact k
theorem ls_loop {F : Fn} {s0 : S} {c : Nat} {rs : List Row3} (ok : ∀ r ∈ rs, RowOk r) : ∀ (rest done : List Row3) (s2 s3 s4 s5 s6 : S), done ++ rest = rs → done.length + rest.length < 1000 → (s2 = .ow (lstT (plOf done)) ∨ s2 = .fz (lstT (plOf done))) →
    (∀ s2 s3 s4 s5 s6, (s2 = .ow (lstT (plOf rs)) ∨ s2 = .fz (lstT (plOf rs))) → F.nx ⟨[s0, .ow (ansD lstT (ansOf rs)), s2, s3, s4, s5, s6], c, none⟩) →
    wForR wIniG1 wLSBody F (rest.map rowD) ⟨[s0, .ow (ansD lstT (ansOf done)), s2, s3, s4, s5, s6], c, none⟩
  | [], done, s2, s3, s4, s5, s6, he, _, h2, h => by
    rw [List.append_nil] at he
    subst he
    simpa [wForR] using h s2 s3 s4 s5 s6 h2
  | r :: rest, done, s2, s3, s4, s5, s6, he, hl, hs2, h => by
    rw [List.length_cons] at hl
    have ih := ls_loop (F := F) (s0 := s0) (c := c) ok rest (done ++ [r]) (.fz (lstT (plOf (done ++ [r])))) (.fz (txtD r.1)) (.fz (txtD r.2.1)) (.fz (txtD r.2.2)) s6 (by simpa using he) (by simp; omega) (.inr rfl) h
    rw [List.map_cons, wForR]
    generalize wForR wIniG1 wLSBody F (rest.map rowD) = R at ih
    have e1 := get1_pair lstT (ansOf done) (r.1, r.2.1) (.lst [])
    rw [getD_lstT] at e1
    have e2 := add_lst (l := ansAt (ansOf done) r.1 r.2.1) (m := [r.2.2]) (by have := ansAt_len done r.1 r.2.1; simp; omega)
    have e3 := put_ans (vf := lstT) done r
    have e4 := ansOf_len done
    have e5 := small (n := (ansOf done).length) (by omega)
    have okr : RowOk r := ok r (by rw [← he]; simp)
    have okd : ∀ g ∈ plOf done, TxtOk g := plOf_ok fun r hr => ok r (by rw [← he]; exact List.mem_append_left _ hr)
    have e6 := pl_len done []
    simp only [List.length_nil, Nat.zero_add] at e6
    simp only [wIniG1, wLSBody, wSeq, rowD, wAsg, wSet, w2, wMO, wCons, wNil, wTup, wLst, wN, wgD, wgT, wgCons, wgNil, wgN]
    refine ⟨_, rfl, rfl, _, _, rfl, _, _, rfl, _, _, rfl, rfl, ?_⟩
    simp [En.asg, datOf, owned, En.put, lt2]
    have lt1 : 1 ≤ sizeLine := Nat.le_trans (by decide) lt2
    refine ⟨⟨_, _, rfl⟩, _, e1, lt1, _, e2, _, _, rfl, kok_pair _ (r.1, r.2.1), by show (alK pairD (ansOf done)).length ≤ _; unfold alK; rw [List.length_map]; omega, ?_⟩
    have fin : ∀ K : DK, K (lstT ([r.1, r.2.2].filter fun x => !decide (x ∈ plOf done))) ⟨[s0, .ow (ansD lstT (ansOf (done ++ [r]))), .fz (lstT (plOf done)), .fz (txtD r.1), .fz (txtD r.2.1), .fz (txtD r.2.2), s6], c, none⟩ →
        wLc (wIt (wLst (wCons (wN 3) (wCons (wN 5) wNil)))) (wgN 6) (wTst (w2 D.nin (wN 6) (wL 2))) (wN 6) [6] ⟨[s0, .ow (.dct (dput (alK pairD (ansOf done)) (alV lstT (ansOf done)) (pairD (r.1, r.2.1)) (lstT (ansAt (ansOf done) r.1 r.2.1 ++ [r.2.2]))).1 (dput (alK pairD (ansOf done)) (alV lstT (ansOf done)) (pairD (r.1, r.2.1)) (lstT (ansAt (ansOf done) r.1 r.2.1 ++ [r.2.2]))).2), .fz (lstT (plOf done)), .fz (txtD r.1), .fz (txtD r.2.1), .fz (txtD r.2.2), s6], c, none⟩ K := fun K k => by
      rw [e3]
      exact ls_comp okd (name_ok okr.1) (name_ok okr.2.2) k
    have e7 := add_lst (l := plOf done) (m := [r.1, r.2.2].filter fun x => !decide (x ∈ plOf done)) (by
      have := List.length_filter_le (fun x => !decide (x ∈ plOf done)) [r.1, r.2.2]
      simp only [List.length_cons, List.length_nil] at this
      have e6 : (plOf done).length ≤ 2 * done.length := e6
      omega)
    have e8 : plOf done ++ [r.1, r.2.2].filter (fun x => !decide (x ∈ plOf done)) = plOf (done ++ [r]) := (plOf_add done r).symm
    rw [e8] at e7
    rcases hs2 with rfl | rfl
    · simp
      exact fin _ ⟨_, e7, ih⟩
    · simp
      exact fin _ ⟨_, e7, ih⟩
theorem sortSet_P {l : List Txt} (h : ∀ x ∈ l, TxtOk x) (hl : l.length + 1 < 4096) : D.sortSet (lstT l) = some (lstT (canT l)) := sortSet_T h hl
theorem q_lserver (ds : List D) (c : Nat) (K KE : D → Nat → Prop) (h : spLServer ds c K KE) : W__law_server_of (en0 ["rows", "answers", "places", "place", "call", "other", "one"] ds c) { nx := fun e => K .non e.cnt, rt := K } := by
  obtain ⟨a, xs, rfl, h1, h2, h3, h⟩ := h
  have e1 := sortSet_R h1 h2 h3
  have hc : (canR xs).length ≤ xs.length := canF_len _
  have ok : ∀ r ∈ canR xs, RowOk r := fun r hr => h2 r ((canF_mem unR_rowD).mp hr)
  have e2 := pl_len (canR xs) []
  simp only [List.length_nil, Nat.zero_add] at e2
  have e3 := sortSet_P (plOf_ok ok) (by have e2 : (plOf (canR xs)).length ≤ _ := e2; omega)
  rw [plOf_can ok (by omega)] at e3
  simp only [W__law_server_of, wSeq, wPar, sOw, sNil, wDct0, wLst, wNil, wFor, wIt, w1, wL, wRet, wDisp, wPairs, wN, en0]
  simp [datOf, asgs, En.asg]
  refine ⟨_, e1, _, rfl, ?_⟩
  refine ls_loop ok (canR xs) [] _ .un .un .un .un rfl (by simp; omega) (.inl rfl) fun s2 s3 s4 s5 s6 hs2 => ?_
  simp [datOf, En.put]
  refine ⟨_, e1, ?_⟩
  rcases hs2 with rfl | rfl
  · exact ⟨_, rfl, _, e3, h⟩
  · exact ⟨_, rfl, _, e3, h⟩
end DL
/-! DN, part v: calls_at, the law's lasting, made_server. -/
namespace DL
open PySem PySem.Spec L2
theorem orK {b : Bool} {A : Bool → Prop} (h : A b) : (D.bl b = .bl false ∧ A false) ∨ (D.bl b = .bl true ∧ A true) := by
  cases b
  · exact .inl ⟨rfl, h⟩
  · exact .inr ⟨rfl, h⟩
theorem lc_genF {α : Type} {wt : WT} {we : WE} {K : DK} {i : Nat} {e : En} (cd : α → D) (un : D → α) (hu : ∀ a, un (cd a) = a) (f : α → D) (p : α → Bool) (hi : i < e.sl.length) (l : List α) (ht : ∀ x ∈ l, ∀ K' : Bool → En → Prop, K' (p x) (e.at_ i (cd x)) → wt (e.at_ i (cd x)) K')
    (he : ∀ x ∈ l, p x = true → ∀ K' : DK, K' (f x) (e.at_ i (cd x)) → we (e.at_ i (cd x)) K') (hz : l.length < 2 ^ 20) (h : K (.lst ((l.filter p).map f)) e) : wLcR (wgN i) wt we [i] K (l.map cd) [] e := by
  refine lc_pure (f := fun d => f (un d)) (p := fun d => p (un d)) hi _ [] (fun d hd K' k => ?_) (fun d hd hp K' k => ?_) (by have := small hz; simp; omega) ?_
  · obtain ⟨x, hx, rfl⟩ := List.mem_map.mp hd
    rw [hu] at k
    exact ht x hx K' k
  · obtain ⟨x, hx, rfl⟩ := List.mem_map.mp hd
    rw [hu] at k hp
    exact he x hx hp K' k
  · rw [List.filter_map, List.map_map, List.nil_append]
    have e1 : (l.filter ((fun d => p (un d)) ∘ cd)) = l.filter p := List.filter_congr fun x _ => by simp [hu]
    rw [e1]
    have e2 : (l.filter p).map ((fun d => f (un d)) ∘ cd) = (l.filter p).map f := List.map_congr_left fun x _ => by simp [hu]
    rw [e2]
    exact h
def unP : D → Txt × Txt
  | .tup [a, b] => (unT a, unT b)
  | _ => ([], [])
theorem unP_pairD (p : Txt × Txt) : unP (pairD p) = p := by
  obtain ⟨a, b⟩ := p
  show (unT (txtD a), unT (txtD b)) = _
  rw [unT_txtD, unT_txtD]
theorem eqo_txt {a b : Txt} (ha : TxtOk a) (hb : TxtOk b) : D.eqo (txtD a) (txtD b) = some (.bl (decide (a = b))) := by
  unfold txtD
  rw [eqo_str ha hb]
  refine congrArg (fun b => some (D.bl b)) (decide_eq_decide.mpr ⟨fun h => strOf_inj h, fun h => by rw [h]⟩)
theorem sort1_P {l : List Txt} (h : ∀ x ∈ l, TxtOk x) (hl : l.length < 2 ^ 20) : D.sort1 (lstT l) = some (lstT (srtT l)) := sort1_T h hl
def callsAt (rs : List Row3) (p : Txt) : List Txt := srtT (callsRaw (ansOf rs) p)
theorem Srv.caok {rs : List Row3} (s : Srv rs) {p c : Txt} (h : c ∈ callsAt rs p) : TxtOk c := s.cok ((srtF_perm unT_txtD _).mem_iff.mp h)
def spCallsAt : FS := fun ds c K _ => ∃ rs p, ds = [lawD rs, txtD p] ∧ Srv rs ∧ TxtOk p ∧ K (lstT (callsAt rs p)) c
def W__law_calls_at : WS := (wRet (w1 D.sort1 (wLc (wIt (w2O 0 D.ix (wC (.str "answers")))) (wgN 2) (wTst (w2 D.eqo (w2O 2 D.ix (wC (.int 0))) (wN 1))) (w2O 2 D.ix (wC (.int 1))) [2])))
theorem ansD_items {vf : List Txt → D} (al : Ans) : (ansD vf al).items = some ((al.map (·.1)).map pairD) := by
  show some (al.map fun p => pairD p.1) = _
  rw [List.map_map]; rfl
theorem q_calls_at (ds : List D) (c : Nat) (K KE : D → Nat → Prop) (h : spCallsAt ds c K KE) : W__law_calls_at (en0 ["server", "place", "key"] ds c) { nx := fun e => K .non e.cnt, rt := K } := by
  obtain ⟨rs, p, rfl, s, hp, h⟩ := h
  have al := ansOf_len rs
  have sz := s.sz
  simp only [W__law_calls_at, wRet, w1, wLc, wIt, w2O, wC, en0]
  simp [datOf]
  refine ⟨_, lawD_ans rs, _, ansD_items _, ?_⟩
  refine lc_genF pairD unP unP_pairD (fun q => txtD q.2) (fun q => decide (q.1 = p)) (by simp) _ (fun q hq K' k => ?_) (fun q hq _ K' k => ?_) (by rw [List.length_map]; omega) ?_
  · have hq1 : TxtOk q.1 := by
      rcases (ans_keys rs [] q).mp hq with z | ⟨r, hr, rfl⟩
      · simp at z
      · exact name_ok (s.ok r hr).1
    simp only [wTst, w2, wN, w2O, wC]
    simp [En.wipe, En.asg, datOf] at k ⊢
    refine ⟨_, pair_ix0 q, _, eqo_txt hq1 hp, orb ?_⟩
    by_cases z : q.1 = p <;> simpa [z] using k
  · simp only [w2O, wC]
    simp [En.wipe, En.asg, datOf] at k ⊢
    exact ⟨_, pair_ix1 q, k⟩
  · have e1 : (((ansOf rs).map (·.1)).filter fun q => decide (q.1 = p)).map (fun q => txtD q.2) = (callsRaw (ansOf rs) p).map txtD := by
      unfold callsRaw
      rw [List.map_map]; rfl
    rw [e1]
    exact ⟨_, sort1_P (fun x hx => s.cok hx) (by have := callsRaw_len (ansOf rs) p; omega), h⟩
/-! ### the gates that last, by the law's rounds -/
def spLLasting : FS := fun ds c K _ => ∃ rs, ds = [lawD rs] ∧ Srv rs ∧ K (lstT (lastG rs)) c
def wLLBody : WS := (wSetN 1 (wLc (wIt (wN 1)) (wgN 3) (wTst (w2 D.neo (wLc (wIt (wCall spCallsAt [] (wCons (wN 0) (wCons (wN 3) wNil)))) (wgN 4) (wTst (w2 D.eqo (wLc (wIt (w2 D.ix (w2O 0 D.ix (wC (.str "answers"))) (wTup (wCons (wN 3) (wCons (wN 4) wNil))))) (wgN 5) (wTst (w2 D.nin (wN 5) (wL 1))) (wN 5) [5]) (wLst wNil))) (wN 4) [4]) (wLst wNil))) (wN 3) [3]))
def W__law_lasting : WS := (wSeq (wSetN 1 (w1 D.list1 (w2O 0 D.ix (wC (.str "places")))))
  (wSeq (wFor (wRng1 (wCons (w2 D.add (w1 D.lenD (wL 1)) (wC (.int 1))) wNil)) (wgN 2) wLLBody)
  (wRet (wN 1))))
theorem fnil {α : Type} (p : α → Bool) (l : List α) : decide (l.filter (fun x => !p x) = []) = l.all p := by
  rw [Bool.eq_iff_iff, decide_eq_true_eq, List.filter_eq_nil_iff, List.all_eq_true]
  refine forall_congr' fun x => forall_congr' fun _ => ?_
  cases p x <;> simp
theorem fnil2 {α : Type} (p : α → Bool) (l : List α) : (!decide (l.filter p = [])) = l.any p := by
  rw [Bool.eq_iff_iff, Bool.not_eq_true', decide_eq_false_iff_not, List.any_eq_true]
  constructor
  · intro h
    obtain ⟨x, hx⟩ := List.exists_mem_of_ne_nil _ h
    exact ⟨x, (List.mem_filter.mp hx).1, (List.mem_filter.mp hx).2⟩
  · rintro ⟨x, h1, h2⟩ e
    exact List.filter_eq_nil_iff.mp e x h1 h2
theorem Srv.aok {rs : List Row3} (s : Srv rs) {g c x : Txt} (h : x ∈ ansAt (ansOf rs) g c) : TxtOk x := name_ok (s.ok _ (ansAt_mem.mp h)).2.2
theorem ix_ans {rs : List Row3} {p y : Txt} (h : y ∈ callsAt rs p) : D.ix (ansD lstT (ansOf rs)) (pairD (p, y)) = some (lstT (ansAt (ansOf rs) p y)) := by
  have e := ix_pair lstT (ansOf rs) (p, y)
  rw [ansAt_get ((srtF_perm unT_txtD _).mem_iff.mp h)] at e
  exact e
/-- the block [call for call in calls if [later for later in answers if later not in left] == []], written once -/
theorem lft_sub {al : Ans} {gs : List Txt} : ∀ (n : Nat) (g : Txt), g ∈ lft al gs n → g ∈ gs
  | 0, _, h => h
  | n + 1, g, h => lft_sub n g (List.mem_filter.mp h).1
theorem ll_loop {F : Fn} {rs : List Row3} (s : Srv rs) {c : Nat} : ∀ (ds : List D) (n : Nat) (s2 s3 s4 s5 : S), (∀ s2 s3 s4 s5, F.nx ⟨[.fz (lawD rs), .ow (lstT (lft (ansOf rs) (gatesOf rs) (n + ds.length))), s2, s3, s4, s5], c, none⟩) →
    wForR (wgN 2) wLLBody F ds ⟨[.fz (lawD rs), .ow (lstT (lft (ansOf rs) (gatesOf rs) n)), s2, s3, s4, s5], c, none⟩
  | [], n, s2, s3, s4, s5, h => by simpa [wForR] using h s2 s3 s4 s5
  | d :: ds, n, s2, s3, s4, s5, h => by
    have ih := ll_loop (F := F) s (c := c) ds (n + 1) (.fz d) s3 s4 s5 (fun s2 s3 s4 s5 => by
      have := h s2 s3 s4 s5
      rw [List.length_cons] at this
      rw [show n + 1 + ds.length = n + (ds.length + 1) by omega]
      exact this)
    rw [wForR]
    generalize wForR (wgN 2) wLLBody F ds = R at ih
    have hg : ∀ g ∈ lft (ansOf rs) (gatesOf rs) n, TxtOk g := fun g h => s.gok g (lft_sub n g h)
    have hl : (lft (ansOf rs) (gatesOf rs) n).length < 2 ^ 20 := by
      have := (sub_len (l := lft (ansOf rs) (gatesOf rs) n) (m := gatesOf rs) ?_ (Srv.gnd rs) (lft_sub n)).1
      · have := s.glen; omega
      · clear h ih hg
        induction n with
        | zero => exact Srv.gnd rs
        | succ n ih => exact ih.filter _
    simp only [wLLBody, wgN, wSetN, wLc, wIt, wN]
    simp [En.asg, En.put]
    refine ⟨_, rfl, ?_⟩
    refine lc_txtF txtD (stays (ansOf rs) (lft (ansOf rs) (gatesOf rs) n)) (by simp) _ (fun g hgm K' k => ?_) (fun g hgm _ K' k => ?_) hl ih
    · simp only [wTst, w2, wLst, wNil, wLc, wIt, wCall, wCons, wN]
      simp only [En.wipe, En.asg] at k
      simp [En.wipe, En.asg] at k ⊢
      refine ⟨rs, g, rfl, s, hg g hgm, _, rfl, ?_⟩
      refine lc_txtF txtD (fun y => (ansAt (ansOf rs) g y).all fun x => decide (x ∈ lft (ansOf rs) (gatesOf rs) n)) (by simp) _ (fun y hy K' k => ?_) (fun y hy _ K' k => ?_) (s.calls g) ?_
      · simp only [wTst, w2, w2O, wC, wTup, wLst, wNil, wLc, wIt, wCall, wCons, wN]
        simp [En.wipe, En.asg, datOf] at k ⊢
        refine ⟨_, lawD_ans rs, lt2, _, ix_ans hy, _, rfl, ?_⟩
        refine lc_txtF txtD (fun x => !decide (x ∈ lft (ansOf rs) (gatesOf rs) n)) (by simp) _ (fun x hx K' k => ?_) (fun x hx _ K' k => ?_) (s.ans g y) ?_
        · simp only [wTst, w2, wN, wL]
          simp [En.wipe, En.asg, datOf] at k ⊢
          refine ⟨_, nin_lstT (s.aok hx) hg, orb ?_⟩
          by_cases q : x ∈ lft (ansOf rs) (gatesOf rs) n <;> simpa [q] using k
        · simp only [wN]
          simp [En.wipe, En.asg] at k ⊢
          exact k
        · refine ⟨_, eqo_lstT (m := []) (fun x hx => s.aok (List.mem_filter.mp hx).1) (fun _ z => nomatch z), ?_⟩
          rw [fnil]
          exact orK (A := fun b => K' b _) k
      · simp only [wN]
        simp [En.wipe, En.asg] at k ⊢
        exact k
      · refine ⟨_, neo_lstT (m := []) (fun x hx => s.caok (List.mem_filter.mp hx).1) (fun _ z => nomatch z), ?_⟩
        rw [fnil2]
        exact orK (A := fun b => K' b _) k
    · simp only [wN]
      simp [En.wipe, En.asg] at k ⊢
      exact k
theorem q_llasting (ds : List D) (c : Nat) (K KE : D → Nat → Prop) (h : spLLasting ds c K KE) : W__law_lasting (en0 ["server", "left", "lap", "place", "call", "later"] ds c) { nx := fun e => K .non e.cnt, rt := K } := by
  obtain ⟨rs, rfl, s, h⟩ := h
  have gl := s.glen
  have e1 : D.lenD (lstT (gatesOf rs)) = some (.int (gatesOf rs).length) := by
    show some (D.int ((gatesOf rs).map txtD).length) = _
    rw [List.length_map]
  have e2 : lft (ansOf rs) (gatesOf rs) ((gatesOf rs).length + 1) = lastG rs := by
    rw [lft_eq Srv.clo]
    have := rnd_stay (fixed (al := ansOf rs) (Srv.gnd rs)) 1
    unfold lastG lastsOf rk
    rw [this]
  simp only [W__law_lasting, wSeq, wSetN, w1, w2, w2O, wC, wL, wFor, wRng1, wCons, wNil, wRet, en0]
  simp [datOf, En.asg]
  refine ⟨_, lawD_places rs, _, rfl, _, e1, _, rfl, ((gatesOf rs).length : Int) + 1, rfl, by omega, by omega, ?_⟩
  refine ll_loop s _ 0 .un .un .un .un fun s2 s3 s4 s5 => ?_
  have e3 : (rangeD 0 (((gatesOf rs).length : Int) + 1).toNat).length = (gatesOf rs).length + 1 := by
    simp [rangeD]
  rw [e3, Nat.zero_add, e2]
  simp only [wN]
  exact h
/-! ### the server that is made of its rows, mixed -/
def spMade (CS : Addr) : FS := fun ds c K _ => ∃ rs, ds = [.pen, lawD rs] ∧ Srv rs ∧ rs.length + 3 < 307 ∧ canR rs = rs ∧ c + 2 * rs.length + 4 < 2 ^ 50 ∧ ∀ c', c ≤ c' → c' ≤ c + 2 * rs.length + 4 → K (serverD CS rs) c'
def W__law_made_server (CS : Addr) : WS := (wRet (wCall (spServer CS) [] (wCons (w1 D.tup1 (wCall spMixed [] (wCons (wN 0) (wCons (w2O 1 D.ix (wC (.str "rows"))) wNil)))) wNil)))
theorem q_made (CS : Addr) (ds : List D) (c : Nat) (K KE : D → Nat → Prop) (h : spMade CS ds c K KE) : W__law_made_server CS (en0 ["pen", "server"] ds c) { nx := fun e => K .non e.cnt, rt := K } := by
  obtain ⟨rs, rfl, s, h1, h2, h3, h⟩ := h
  simp only [W__law_made_server, wRet, wCall, wCons, wNil, w1, w2O, wN, wC, en0]
  simp [datOf]
  refine ⟨_, lawD_rows rs, _, _, rfl, rfl, by rw [List.length_map]; omega, by rw [List.length_map]; omega, fun ys c' m1 m2 m3 m4 => ?_⟩
  rw [List.length_map] at m2 m4
  have e1 : (ys.map unR).map rowD = ys := dec_map unR_rowD fun d hd => by
    obtain ⟨r, _, e⟩ := List.mem_map.mp ((m1 d).mp hd)
    exact ⟨r, e.symm⟩
  have m5 : ∀ r, r ∈ ys.map unR ↔ r ∈ rs := fun r => by
    rw [List.mem_map]
    constructor
    · rintro ⟨d, hd, rfl⟩
      obtain ⟨r, hr, rfl⟩ := List.mem_map.mp ((m1 d).mp hd)
      rw [unR_rowD]; exact hr
    · intro hr
      exact ⟨rowD r, (m1 _).mpr (List.mem_map.mpr ⟨r, hr, rfl⟩), unR_rowD r⟩
  have e2 : canR (ys.map unR) = rs := (canR_eq m5 (fun r hr => s.ok r ((m5 r).mp hr)) (by rw [List.length_map]; omega)).trans h2
  refine ⟨_, rfl, _, ys.map unR, rfl, ?_, fun r hr => s.ok r ((m5 r).mp hr), by rw [List.length_map]; omega, ?_⟩
  · rw [e1]; rfl
  · rw [e2]
    exact h c' m3 m4
end DL
/-! DN, part w: drawn names as texts, drawn rows. -/
namespace DL
open PySem PySem.Spec L2
theorem num_fig : ∀ i : Nat, i < 100 → (Str.ofString (toString (i : Int))).cps.toList.all (fun c => decide (48 ≤ c ∧ c ≤ 57)) = true := by decide +kernel
theorem name_at {i : Nat} {w : Str} (hi : i < 100) (h : NameAt i w) : ∃ l, w = strOf l ∧ nameL l = true := by
  obtain ⟨u, v, rfl, hu, h1, h2, h3⟩ := h
  refine ⟨_, rfl, ?_⟩
  have hd := num_len i hi
  have hf := num_fig i hi
  cases u with
  | nil => exact absurd rfl hu
  | cons a u =>
    unfold nameL
    rw [List.all_cons, Bool.and_eq_true] at h1
    have s1 : ∀ {l : List Nat}, l.all isLow = true → l.all isSign = true := fun {l} h => by
      rw [List.all_eq_true] at h ⊢
      intro x hx
      unfold isSign
      rw [h x hx]; rfl
    have s2 : ∀ {l : List Nat}, l.all (fun c => decide (48 ≤ c ∧ c ≤ 57)) = true → l.all isSign = true := fun {l} h => by
      rw [List.all_eq_true] at h ⊢
      intro x hx
      unfold isSign
      rw [h x hx, Bool.or_true]
    simp only [List.length_append, List.length_cons, List.cons_append, List.all_cons, List.all_append, Bool.and_eq_true, decide_eq_true_eq] at h3 ⊢
    refine ⟨⟨⟨by omega, by omega⟩, h1.1⟩, ?_, ⟨s1 h1.2, s2 hf⟩, s1 h2⟩
    unfold isSign
    rw [h1.1]; rfl
theorem names_txt {ws w0 : List Str} {many : Nat} (hl : w0.length = many) (hm : many ≤ 100) (h : ∀ i w, w0[i]? = some w → NameAt i w) (p : ws.Perm w0) : ∃ ls : List Txt, ws.map D.str = ls.map txtD ∧ (∀ l ∈ ls, nameL l = true) ∧ ls.length = many := by
  have key : ∀ w ∈ ws, ∃ l, w = strOf l ∧ nameL l = true := fun w hw => by
    obtain ⟨i, hi⟩ := List.mem_iff_getElem?.mp (p.mem_iff.mp hw)
    have := (List.getElem?_eq_some_iff.mp hi).1
    exact name_at (by omega) (h i w hi)
  refine ⟨ws.map fun w => w.cps.toList, ?_, fun l hl => ?_, by rw [List.length_map, p.length_eq, hl]⟩
  · rw [List.map_map]
    refine List.map_congr_left fun w hw => ?_
    obtain ⟨l, rfl, _⟩ := key w hw
    simp [txtD, strOf]
  · obtain ⟨w, hw, rfl⟩ := List.mem_map.mp hl
    obtain ⟨l, rfl, h⟩ := key w hw
    simpa [strOf] using h
/-- many drawn names, sorted -/
theorem srt_names {ls : List Txt} (h : ∀ l ∈ ls, nameL l = true) : ∀ l ∈ srtT ls, nameL l = true := fun l hl => h l ((srtF_perm unT_txtD _).mem_iff.mp hl)
/-- what the rows are drawn from, drawn so far -/
structure RowsAt (ps cs : List Txt) (rows : List Row3) (n : Nat) : Prop where
  ok : ∀ r ∈ rows, RowOk r
  sz : rows.length ≤ n
theorem RowsAt.add {ps cs : List Txt} {rows : List Row3} {n : Nat} (h : RowsAt ps cs rows n) {r : Row3} (hr : RowOk r) : RowsAt ps cs (rows ++ [r]) (n + 1) := ⟨fun x hx => by
  rcases List.mem_append.mp hx with hx | hx
  · exact h.ok x hx
  · rw [List.mem_singleton] at hx; exact hx ▸ hr, by rw [List.length_append, List.length_singleton]; have := h.sz; omega⟩
def spBare : FS := fun ds c K _ => ∃ cs : List Txt, ∃ many : Nat, ds = [.pen, lstT cs, .int many] ∧ (∀ x ∈ cs, nameL x = true) ∧ cs ≠ [] ∧ cs.length ≤ 2 ∧ 1 ≤ many ∧ many ≤ 4 ∧ c + 200 < 2 ^ 40 ∧ ∀ rs c', Srv rs → rs.length ≤ 17 → canR rs = rs → c ≤ c' → c' ≤ c + 100 → K (lawD rs) c'
def wBare3 : WS := (wDrop (wLM 4 lmApp (wCons (wTup (wCons (wN 5) (wCons (wN 6) (wCons (wCall spPick [] (wCons (wN 0) (wCons (wN 3) wNil))) wNil)))) wNil)))
def wBare2 : WS := (wIfS (wTst (w2 cGt (wCall spDraw [] (wCons (wN 0) (wCons (wC (.int 4)) wNil))) (wC (.int 0)))) (wFor (wRng1 (wCons (w2 D.add (wC (.int 1)) (w2 (iop CDiv fun i j => i / j) (wCall spDraw [] (wCons (wN 0) (wCons (wC (.int 5)) wNil))) (wC (.int 3)))) wNil)) (wgN 7) wBare3) wNx)
def wBare1 : WS := (wFor (wIt (wN 1)) (wgN 6) wBare2)
def W__law_bare_server : WS := (wSeq (wPar [3, 4] (sOw (w1 D.sort1 (wCall spNames [] (wCons (wN 0) (wCons (wN 2) wNil)))) (sOw (wLst wNil) sNil)))
  (wSeq (wFor (wIt (wN 3)) (wgN 5) wBare1)
  (wSeq (wIfS (wTst (w2O 4 D.eqo (wLst wNil))) (wDrop (wLM 4 lmApp (wCons (wTup (wCons (w2O 3 D.ix (wC (.int 0))) (wCons (w2O 1 D.ix (wC (.int 0))) (wCons (w2O 3 D.ix (w1 D.neg (wC (.int 1)))) wNil)))) wNil))) wNx)
  (wRet (wCall spLServer [] (wCons (wN 4) wNil))))))
def rowsL (rows : List Row3) : D := .lst (rows.map rowD)
/-- the turns of one call at one place -/
theorem bare3 {F : Fn} {ps cs : List Txt} {s2 : S} {p y : Txt} (hp : nameL p = true) (hy : nameL y = true) (hps : ∀ x ∈ ps, nameL x = true) (pne : 0 < ps.length) (pl : ps.length < 100) : ∀ (ds : List D) (rows : List Row3) (n c : Nat) (s7 : S), RowsAt ps cs rows n → n + ds.length < 1000 → c + ds.length < 2 ^ 49 →
    (∀ rows s7, RowsAt ps cs rows (n + ds.length) → F.nx ⟨[.fz .pen, .fz (lstT cs), s2, .fz (lstT ps), .ow (rowsL rows), .fz (txtD p), .fz (txtD y), s7], c + ds.length, none⟩) →
    wForR (wgN 7) wBare3 F ds ⟨[.fz .pen, .fz (lstT cs), s2, .fz (lstT ps), .ow (rowsL rows), .fz (txtD p), .fz (txtD y), s7], c, none⟩
  | [], rows, n, c, s7, r, _, _, h => by simpa [wForR] using h rows s7 r
  | d :: ds, rows, n, c, s7, r, hn, hc, h => by
    rw [List.length_cons] at hn hc
    have ih := bare3 (F := F) (cs := cs) (s2 := s2) hp hy hps pne pl ds
    rw [wForR]
    generalize wForR (wgN 7) wBare3 F ds = R at ih
    simp only [wBare3, wgN, wDrop, wLM, wCons, wTup, wNil, wN, wCall]
    simp [En.asg, owned, En.put, rowsL]
    refine ⟨_, _, rfl, rfl, by rw [List.length_map]; exact pne, by rw [List.length_map]; omega, by omega, fun x hx => ⟨by have := small (n := 3) (by omega); omega, ?_⟩⟩
    obtain ⟨o, ho, rfl⟩ := List.mem_map.mp hx
    have e1 := r.sz
    refine ⟨_, _, lmApp_ok (by rw [List.length_map]; exact small (by omega)), ?_⟩
    have := ih (rows ++ [(p, y, o)]) (n + 1) (c + 1) (.fz d) (r.add ⟨hp, hy, hps o ho⟩) (by omega) (by omega) fun rows s7 r' => by
      have := h rows s7 (by rw [List.length_cons]; rw [show n + (ds.length + 1) = n + 1 + ds.length by omega]; exact r')
      rw [List.length_cons] at this
      rw [show c + 1 + ds.length = c + (ds.length + 1) by omega]
      exact this
    simpa [rowsL, rowD, txtD] using this
theorem RowsAt.mono {ps cs : List Txt} {rows : List Row3} {n m : Nat} (h : RowsAt ps cs rows n) (hm : n ≤ m) : RowsAt ps cs rows m := ⟨h.ok, Nat.le_trans h.sz hm⟩
/-- the calls of one place -/
theorem bare2 {F : Fn} {ps cs : List Txt} {s2 : S} {p : Txt} (hp : nameL p = true) (hps : ∀ x ∈ ps, nameL x = true) (pne : 0 < ps.length) (pl : ps.length < 100) : ∀ (ys : List Txt) (rows : List Row3) (n c : Nat) (s6 s7 : S), (∀ y ∈ ys, nameL y = true) → RowsAt ps cs rows n → n + 2 * ys.length < 900 → c + 4 * ys.length < 2 ^ 48 →
    (∀ rows s6 s7 c', RowsAt ps cs rows (n + 2 * ys.length) → c ≤ c' → c' ≤ c + 4 * ys.length → F.nx ⟨[.fz .pen, .fz (lstT cs), s2, .fz (lstT ps), .ow (rowsL rows), .fz (txtD p), s6, s7], c', none⟩) →
    wForR (wgN 6) wBare2 F (ys.map txtD) ⟨[.fz .pen, .fz (lstT cs), s2, .fz (lstT ps), .ow (rowsL rows), .fz (txtD p), s6, s7], c, none⟩
  | [], rows, n, c, s6, s7, _, r, _, _, h => by simpa [wForR] using h rows s6 s7 c r (Nat.le_refl _) (Nat.le_refl _)
  | y :: ys, rows, n, c, s6, s7, hy, r, hn, hc, h => by
    rw [List.length_cons] at hn hc
    have ih := bare2 (F := F) (cs := cs) (s2 := s2) hp hps pne pl ys
    rw [List.map_cons, wForR]
    generalize wForR (wgN 6) wBare2 F (ys.map txtD) = R at ih
    have go : ∀ (rows : List Row3) (s7 : S) (c' : Nat), RowsAt ps cs rows (n + 2) → c ≤ c' → c' ≤ c + 4 → R ⟨[.fz .pen, .fz (lstT cs), s2, .fz (lstT ps), .ow (rowsL rows), .fz (txtD p), .fz (txtD y), s7], c', none⟩ := fun rows s7 c' r' h1 h2 =>
      ih rows (n + 2) c' (.fz (txtD y)) s7 (fun z hz => hy z (List.mem_cons_of_mem _ hz)) r' (by omega) (by omega) fun rows s6 s7 c2 r2 h3 h4 =>
        h rows s6 s7 c2 (by rw [List.length_cons, show n + 2 * (ys.length + 1) = n + 2 + 2 * ys.length by omega]; exact r2) (by omega) (by rw [List.length_cons]; omega)
    simp only [wBare2, wgN, wIfS, wTst, w2, wCall, wCons, wNil, wN, wC, wFor, wRng1, wNx]
    simp [En.asg]
    refine ⟨4, rfl, by omega, by omega, by omega, fun q q0 q1 => ⟨_, rfl, orb ?_⟩⟩
    by_cases z : 0 < q
    · rw [if_pos (by simpa using z)]
      refine ⟨5, rfl, by omega, by omega, by omega, fun t t0 t1 => ⟨.int (t / 3), ?_, .int (1 + t / 3), rfl, 1 + t / 3, rfl, by omega, by omega, ?_⟩⟩
      · show (if CDiv t 3 then some (D.int (t / 3)) else none) = _
        rw [if_pos ⟨by omega, by omega⟩]
      · have e3 : (rangeD 0 (1 + t / 3).toNat).length = (1 + t / 3).toNat := by simp [rangeD]
        refine bare3 hp (hy y List.mem_cons_self) hps pne pl _ rows n (c + 1 + 1) s7 r (by rw [e3]; omega) (by rw [e3]; omega) fun rows s7 r' => ?_
        rw [e3] at r' ⊢
        exact go rows s7 _ (r'.mono (by omega)) (by omega) (by omega)
    · rw [if_neg (by simpa using z)]
      exact go rows s7 _ (r.mono (by omega)) (by omega) (by omega)
/-- the places -/
theorem bare1 {F : Fn} {ps cs : List Txt} {s2 : S} (hps : ∀ x ∈ ps, nameL x = true) (pne : 0 < ps.length) (pl : ps.length < 100) (hcs : ∀ y ∈ cs, nameL y = true) (cl : cs.length ≤ 2) : ∀ (qs : List Txt) (rows : List Row3) (n c : Nat) (s5 s6 s7 : S), (∀ y ∈ qs, nameL y = true) → RowsAt ps cs rows n → n + 4 * qs.length < 800 → c + 8 * qs.length < 2 ^ 47 →
    (∀ rows s5 s6 s7 c', RowsAt ps cs rows (n + 4 * qs.length) → c ≤ c' → c' ≤ c + 8 * qs.length → F.nx ⟨[.fz .pen, .fz (lstT cs), s2, .fz (lstT ps), .ow (rowsL rows), s5, s6, s7], c', none⟩) →
    wForR (wgN 5) wBare1 F (qs.map txtD) ⟨[.fz .pen, .fz (lstT cs), s2, .fz (lstT ps), .ow (rowsL rows), s5, s6, s7], c, none⟩
  | [], rows, n, c, s5, s6, s7, _, r, _, _, h => by simpa [wForR] using h rows s5 s6 s7 c r (Nat.le_refl _) (Nat.le_refl _)
  | q :: qs, rows, n, c, s5, s6, s7, hq, r, hn, hc, h => by
    rw [List.length_cons] at hn hc
    have ih := bare1 (F := F) (s2 := s2) hps pne pl hcs cl qs
    rw [List.map_cons, wForR]
    generalize wForR (wgN 5) wBare1 F (qs.map txtD) = R at ih
    simp only [wBare1, wgN, wFor, wIt, wN]
    simp [En.asg]
    refine ⟨_, rfl, ?_⟩
    refine bare2 (hq q List.mem_cons_self) hps pne pl cs rows n c s6 s7 hcs r (by omega) (by omega) fun rows s6 s7 c' r' h1 h2 => ?_
    refine ih rows (n + 4) c' (.fz (txtD q)) s6 s7 (fun z hz => hq z (List.mem_cons_of_mem _ hz)) (r'.mono (by omega)) (by omega) (by omega) fun rows s5 s6 s7 c2 r2 h3 h4 => ?_
    exact h rows s5 s6 s7 c2 (by rw [List.length_cons, show n + 4 * (qs.length + 1) = n + 4 + 4 * qs.length by omega]; exact r2) (by omega) (by rw [List.length_cons]; omega)
theorem gd_rowD {r : Row3} (h : RowOk r) (n : Nat) : (rowD r).gd (n + 2) = true := by
  unfold rowD
  simp only [D.gd, D.gds]
  have h1 := name_ok h.1
  have h2 := name_ok h.2.1
  have h3 := name_ok h.2.2
  rw [h1, h2, h3]; rfl
theorem eqo_rows0 {rows : List Row3} (h : ∀ r ∈ rows, RowOk r) : D.eqo (rowsL rows) (.lst []) = some (.bl (decide (rows = []))) := by
  unfold D.eqo
  rw [eqc_gd (x := rowsL rows) (y := .lst []) ?_ rfl]
  · unfold rowsL
    simp
  · unfold rowsL
    simp only [D.gd]
    exact gds_of fun d hd => by
      obtain ⟨r, hr, rfl⟩ := List.mem_map.mp hd
      exact gd_rowD (h r hr) 61
theorem ixT {l : List Txt} {i : Int} (h0 : -(l.length : Int) ≤ i) (h1 : i < l.length) : ∃ x ∈ l, D.ix (lstT l) (.int i) = some (txtD x) := by
  have key : ∀ n : Nat, n < l.length → ∃ x ∈ l, (l.map txtD)[n]? = some (txtD x) := fun n hn => ⟨l[n], List.getElem_mem hn, by simp [hn]⟩
  show ∃ x ∈ l, L2.atI (l.map txtD) i = some (txtD x)
  unfold L2.atI L2.ixN
  by_cases q : 0 ≤ i
  · rw [if_pos q]
    obtain ⟨n, rfl⟩ := Int.eq_ofNat_of_zero_le q
    have hn : n < l.length := by omega
    rw [List.length_map, if_pos (by omega)]
    exact key n hn
  · rw [if_neg q, List.length_map, if_pos h0]
    exact key _ (by omega)
theorem q_bare (ds : List D) (c : Nat) (K KE : D → Nat → Prop) (h : spBare ds c K KE) : W__law_bare_server (en0 ["pen", "calls", "many", "places", "rows", "place", "call", "turn"] ds c) { nx := fun e => K .non e.cnt, rt := K } := by
  obtain ⟨cs, many, rfl, h1, h2, h3, h4, h5, h6, h⟩ := h
  simp only [W__law_bare_server, wSeq, wPar, sOw, sNil, wCall, wLst, wNil, wCons, wFor, wIt, w1, wRet, wN, wIfS, wTst, w2O, wC, wNx, en0]
  simp
  refine ⟨many, rfl, by omega, by omega, fun ws w0 c' g1 g2 g3 g4 g5 => ?_⟩
  obtain ⟨ls, e1, e2, e3⟩ := names_txt g1 (by omega) g2 g3
  rw [e1]
  refine ⟨_, sort1_P (fun x hx => name_ok (e2 x hx)) (by omega), ?_⟩
  have pok := srt_names e2
  have pl : (srtT ls).length = many := by rw [(srtF_perm unT_txtD _).length_eq, e3]
  generalize srtT ls = ps at pok pl
  simp [asgs, En.asg, En.put]
  refine ⟨_, rfl, ?_⟩
  refine bare1 (ps := ps) (cs := cs) pok (by omega) (by omega) h1 h3 ps [] 0 c' .un .un .un pok ⟨(fun _ z => nomatch z), Nat.le_refl _⟩ (by omega) (by omega) fun rows s5 s6 s7 c2 r k1 k2 => ?_
  have sz := r.sz
  have fin : ∀ rows : List Row3, (∀ r ∈ rows, RowOk r) → rows.length ≤ 17 → spLServer [rowsL rows] c2 (fun d c => K d c) (fun _ _ => False) := fun rows ok sz => by
    have hc : (canR rows).length ≤ rows.length := canF_len _
    refine ⟨_, rows, rfl, rfl, ok, by omega, ?_⟩
    exact h _ c2 ⟨fun r hr => ok r ((canF_mem unR_rowD).mp hr), by omega⟩ (by omega) (canR_canR ok (by omega)) (by omega) (by omega)
  simp [datOf]
  refine ⟨_, eqo_rows0 r.ok, orb ?_⟩
  by_cases z : rows = []
  · rw [if_pos (by simpa using z)]
    subst z
    have lc : 0 < cs.length := List.length_pos_iff.mpr h2
    obtain ⟨x1, m1, f1⟩ := ixT (l := ps) (i := 0) (by omega) (by omega)
    obtain ⟨x2, m2, f2⟩ := ixT (l := cs) (i := 0) (by omega) (by omega)
    obtain ⟨x3, m3, f3⟩ := ixT (l := ps) (i := -1) (by omega) (by omega)
    simp only [wDrop, wLM, wCons, wTup, wNil, w2O, w1, wC]
    simp [owned, datOf, En.put, rowsL]
    refine ⟨_, f1, _, f2, _, rfl, _, f3, by have := small (n := 3) (by omega); omega, _, _, lmApp_ok (small (by simp)), ?_⟩
    exact fin [(x1, x2, x3)] (fun r hr => by
      rw [List.mem_singleton] at hr
      subst hr
      exact ⟨pok x1 m1, h1 x2 m2, pok x3 m3⟩) (by simp)
  · rw [if_neg (by simpa using z)]
    exact fin rows r.ok (by omega)
end DL
/-! DN, part x: the law of k43, its statements up to the rounds. -/
namespace DL
open PySem PySem.Spec L2
/-! ### a server is drawn -/
def wK1 : WS := (wSet 3 (wCall spBare [] (wCons (wN 1) (wCons (w1 D.sort1 (wCall spNames [] (wCons (wN 1) (wCons (wC (.int 2)) wNil)))) (wCons (w2 D.add (wC (.int 2)) (wCall spDraw [] (wCons (wN 1) (wCons (wC (.int 3)) wNil)))) wNil)))))
def wK2T : WT := (wTst (w2 cGt (wCall spDraw [] (wCons (wN 1) (wCons (wC (.int 3)) wNil))) (wC (.int 0))))
def wK2 : WS := (wIfS (wTst (w2 D.eqo (wCall spDraw [] (wCons (wN 1) (wCons (wC (.int 2)) wNil))) (wC (.int 0)))) (wSet 3 (wCall spLServer [] (wCons (wOrT (wLc (wIt (w2O 3 D.ix (wC (.str "rows")))) (wgN 18) wK2T (wN 18) [18]) (w2O 3 D.ix (wC (.str "rows")))) wNil))) wNx)
structure SrvL (rs : List Row3) : Prop where
  s : Srv rs
  sz : rs.length ≤ 17
  can : canR rs = rs
section
variable {F : Fn} {a0 a2 a3 a4 a5 a6 a7 a8 a9 a10 a11 a12 a13 a14 a15 a16 a17 a18 a19 : S} {c : Nat}
theorem k1 (hc : c + 1000 < 2 ^ 39) (h : ∀ rs c', SrvL rs → c ≤ c' → c' ≤ c + 200 → F.nx ⟨[a0, .fz .pen, a2, .fz (lawD rs), a4, a5, a6, a7, a8, a9, a10, a11, a12, a13, a14, a15, a16, a17, a18, a19], c', none⟩) : wK1 ⟨[a0, .fz .pen, a2, a3, a4, a5, a6, a7, a8, a9, a10, a11, a12, a13, a14, a15, a16, a17, a18, a19], c, none⟩ F := by
  simp only [wK1, wSet, wCall, wCons, wNil, wN, w1, w2, wC]
  simp
  refine ⟨2, rfl, by omega, by omega, fun ws w0 c1 g1 g2 g3 g4 g5 => ?_⟩
  obtain ⟨ls, e1, e2, e3⟩ := names_txt g1 (by omega) g2 g3
  rw [e1]
  refine ⟨_, sort1_P (fun x hx => name_ok (e2 x hx)) (by omega), 3, rfl, by omega, by omega, by omega, fun r r0 r1 => ⟨.int (2 + r), rfl, ?_⟩⟩
  have pl : (srtT ls).length = 2 := by rw [(srtF_perm unT_txtD _).length_eq, e3]
  refine ⟨srtT ls, (2 + r).toNat, by rw [Int.toNat_of_nonneg (by omega)], srt_names e2, fun z => by rw [z] at pl; simp at pl, by omega, by omega, by omega, by omega, fun rs c' hs hz hcn h1 h2 => ?_⟩
  simp [En.asg]
  exact h rs c' ⟨hs, hz, hcn⟩ (by omega) (by omega)
theorem k2c {K : DK} : ∀ (rs acc : List Row3) (c : Nat), acc.length + rs.length < 1000 → c + rs.length < 2 ^ 40 → (∀ sub : List Row3, (∀ r ∈ sub, r ∈ rs) → sub.length ≤ rs.length → K (.lst ((acc ++ sub).map rowD)) ⟨[a0, .fz .pen, a2, a3, a4, a5, a6, a7, a8, a9, a10, a11, a12, a13, a14, a15, a16, a17, a18, a19], c + rs.length, none⟩) →
    wLcR (wgN 18) wK2T (wN 18) [18] K (rs.map rowD) (acc.map rowD) ⟨[a0, .fz .pen, a2, a3, a4, a5, a6, a7, a8, a9, a10, a11, a12, a13, a14, a15, a16, a17, a18, a19], c, none⟩
  | [], acc, c, _, _, h => by
    have := h [] (fun _ z => nomatch z) (Nat.le_refl _)
    simpa [wLcR] using this
  | r :: rs, acc, c, hl, hc, h => by
    rw [List.length_cons] at hl hc
    have ih := k2c (K := K) rs
    rw [List.map_cons, wLcR]
    generalize rs.map rowD = ds at ih
    generalize hR : (fun acc e => wLcR (wgN 18) wK2T (wN 18) [18] K ds acc e) = R
    have hR' : ∀ acc e, wLcR (wgN 18) wK2T (wN 18) [18] K ds acc e = R acc e := fun acc e => by rw [← hR]
    simp only [hR'] at ih ⊢
    simp only [wgN, wK2T, wTst, w2, wCall, wCons, wNil, wN, wC]
    simp [En.wipe, En.asg, En.back, En.put]
    refine ⟨3, rfl, by omega, by omega, by omega, fun q q0 q1 => ⟨_, rfl, orb ?_⟩⟩
    by_cases z : 0 < q
    · rw [if_pos (by simpa using z)]
      refine ⟨by have := small (n := acc.length) (by omega); omega, ?_⟩
      have := ih (acc ++ [r]) (c + 1) (by simp; omega) (by omega) fun sub h1 h2 => by
        have := h (r :: sub) (fun x hx => by
          rcases List.mem_cons.mp hx with rfl | hx
          · exact List.mem_cons_self
          · exact List.mem_cons_of_mem _ (h1 x hx)) (by simpa using h2)
        rw [List.append_assoc]
        rw [List.length_cons] at this
        rw [show c + 1 + rs.length = c + (rs.length + 1) by omega]
        exact this
      simpa using this
    · rw [if_neg (by simpa using z)]
      exact ih acc (c + 1) (by omega) (by omega) fun sub h1 h2 => by
        have := h sub (fun x hx => List.mem_cons_of_mem _ (h1 x hx)) (by rw [List.length_cons]; omega)
        rw [List.length_cons] at this
        rw [show c + 1 + rs.length = c + (rs.length + 1) by omega]
        exact this
theorem tru_rows {rows : List Row3} : D.tru (.lst (rows.map rowD)) = some (!decide (rows = [])) := by
  cases rows <;> rfl
theorem k2 {rs : List Row3} (s : SrvL rs) (hc : c + 1000 < 2 ^ 39) (h : ∀ rs c', SrvL rs → c ≤ c' → c' ≤ c + 18 → F.nx ⟨[a0, .fz .pen, a2, .fz (lawD rs), a4, a5, a6, a7, a8, a9, a10, a11, a12, a13, a14, a15, a16, a17, a18, a19], c', none⟩) : wK2 ⟨[a0, .fz .pen, a2, .fz (lawD rs), a4, a5, a6, a7, a8, a9, a10, a11, a12, a13, a14, a15, a16, a17, a18, a19], c, none⟩ F := by
  have sz := s.sz
  simp only [wK2, wIfS, wTst, wSet, wCall, wCons, wNil, wN, w2, wC, wNx, wOrT, wLc, wIt, w2O]
  simp
  refine ⟨2, rfl, by omega, by omega, by omega, fun q q0 q1 => ⟨_, eqo_int q 0, orb ?_⟩⟩
  have fin : ∀ (rows : List Row3) (c1 : Nat), (∀ r ∈ rows, r ∈ rs) → rows.length ≤ rs.length → c ≤ c1 → c1 ≤ c + 18 → spLServer [.lst (rows.map rowD)] c1 (fun d c => F.nx ⟨[a0, .fz .pen, a2, .fz d, a4, a5, a6, a7, a8, a9, a10, a11, a12, a13, a14, a15, a16, a17, a18, a19], c, none⟩) (fun _ _ => False) := fun rows c1 h1 h2 h3 h4 => by
    have hc' : (canR rows).length ≤ rows.length := canF_len _
    have ok : ∀ r ∈ rows, RowOk r := fun r hr => s.s.ok r (h1 r hr)
    refine ⟨_, rows, rfl, rfl, ok, by omega, ?_⟩
    exact h _ c1 ⟨⟨fun r hr => ok r ((canF_mem unR_rowD).mp hr), by omega⟩, by omega, canR_canR ok (by omega)⟩ h3 h4
  by_cases z : q = 0
  · rw [if_pos (by simpa using z)]
    simp [datOf]
    refine ⟨_, lawD_rows rs, _, rfl, ?_⟩
    refine k2c rs [] (c + 1) (by simp; omega) (by omega) fun sub h1 h2 => ?_
    rw [List.nil_append]
    by_cases y : sub = []
    · refine .inl ⟨by rw [tru_rows]; simp [y], rfl, _, rfl, _, lawD_rows rs, ?_⟩
      simp [En.asg]
      exact fin rs _ (fun _ hr => hr) (Nat.le_refl _) (by omega) (by omega)
    · refine .inr ⟨by rw [tru_rows]; simp [y], ?_⟩
      simp [En.asg]
      exact fin sub _ h1 h2 (by omega) (by omega)
  · rw [if_neg (by simpa using z)]
    exact h rs _ s (by omega) (by omega)
/-! ### it is made; what lasts, by the law -/
def wK3 (CS : Addr) : WS := (wPar [4, 5] (sFz (wCall (spMade CS) [] (wCons (wN 1) (wCons (wN 3) wNil))) (sFz (wCall spLLasting [] (wCons (wN 3) wNil)) sNil)))
def wK4 : WS := (wPar [6, 7] (sOw wDct0 (sOw wDct0 sNil)))
theorem k3 {CS : Addr} {rs : List Row3} (s : SrvL rs) (hc : c + 1000 < 2 ^ 39) (h : ∀ c', c ≤ c' → c' ≤ c + 38 → F.nx ⟨[a0, .fz .pen, a2, .fz (lawD rs), .fz (serverD CS rs), .fz (lstT (lastG rs)), a6, a7, a8, a9, a10, a11, a12, a13, a14, a15, a16, a17, a18, a19], c', none⟩) : wK3 CS ⟨[a0, .fz .pen, a2, .fz (lawD rs), a4, a5, a6, a7, a8, a9, a10, a11, a12, a13, a14, a15, a16, a17, a18, a19], c, none⟩ F := by
  have sz := s.sz
  simp only [wK3, wPar, sFz, sNil, wCall, wCons, wNil, wN]
  simp
  refine ⟨rs, rfl, s.s, by omega, s.can, by omega, fun c' h1 h2 => ⟨rs, rfl, s.s, ?_⟩⟩
  simp [asgs, En.asg]
  exact h c' h1 (by omega)
theorem k4 (h : F.nx ⟨[a0, .fz .pen, a2, a3, a4, a5, .ow (.dct [] []), .ow (.dct [] []), a8, a9, a10, a11, a12, a13, a14, a15, a16, a17, a18, a19], c, none⟩) : wK4 ⟨[a0, .fz .pen, a2, a3, a4, a5, a6, a7, a8, a9, a10, a11, a12, a13, a14, a15, a16, a17, a18, a19], c, none⟩ F := by
  simp only [wK4, wPar, sOw, sNil, wDct0]
  simp [asgs, En.asg]
  exact h
/-! ### the calls of a place that are such -/
theorem law_calls {wt : WT} {K : DK} {rs : List Row3} {g : Txt} (s : Srv rs) (hg : TxtOk g) (p : Txt → Bool) (hwt : ∀ (y x : Txt), x ∈ ansAt (ansOf rs) g y → ∀ K' : Bool → En → Prop, K' (p x) ⟨[a0, .fz .pen, a2, .fz (lawD rs), a4, a5, a6, a7, .fz (txtD g), a9, a10, a11, a12, a13, a14, a15, a16, .fz (txtD y), a18, .fz (txtD x)], c, none⟩ → wt ⟨[a0, .fz .pen, a2, .fz (lawD rs), a4, a5, a6, a7, .fz (txtD g), a9, a10, a11, a12, a13, a14, a15, a16, .fz (txtD y), a18, .fz (txtD x)], c, none⟩ K')
    (h : K (lstT ((callsAt rs g).filter fun y => decide ((ansAt (ansOf rs) g y).filter p = []))) ⟨[a0, .fz .pen, a2, .fz (lawD rs), a4, a5, a6, a7, .fz (txtD g), a9, a10, a11, a12, a13, a14, a15, a16, a17, a18, a19], c, none⟩) : (wLc (wIt (wCall spCallsAt [] (wCons (wN 3) (wCons (wN 8) wNil)))) (wgN 17) (wTst (w2 D.eqo (wLc (wIt (w2 D.ix (w2O 3 D.ix (wC (.str "answers"))) (wTup (wCons (wN 8) (wCons (wN 17) wNil))))) (wgN 19) wt (wN 19) [19]) (wLst wNil))) (wN 17) [17]) ⟨[a0, .fz .pen, a2, .fz (lawD rs), a4, a5, a6, a7, .fz (txtD g), a9, a10, a11, a12, a13, a14, a15, a16, a17, a18, a19], c, none⟩ K := by
  simp only [wLc, wIt, wCall, wCons, wNil, wN]
  simp
  refine ⟨rs, g, rfl, s, hg, _, rfl, ?_⟩
  refine lc_txtF txtD (fun y => decide ((ansAt (ansOf rs) g y).filter p = [])) (by simp) _ (fun y hy K' k => ?_) (fun y hy _ K' k => ?_) (s.calls g) h
  · simp only [wTst, w2, w2O, wC, wTup, wLst, wNil, wLc, wIt, wCall, wCons, wN]
    simp [En.wipe, En.asg, datOf] at k ⊢
    refine ⟨_, lawD_ans rs, lt2, _, ix_ans hy, _, rfl, ?_⟩
    refine lc_txtF txtD p (by simp) _ (fun x hx K' k => ?_) (fun x hx _ K' k => ?_) (s.ans g y) ?_
    · simp [En.wipe, En.asg] at k ⊢
      exact hwt y x hx K' k
    · simp only [wN]
      simp [En.wipe, En.asg] at k ⊢
      exact k
    · refine ⟨_, eqo_lstT (m := []) (fun x hx => s.aok (List.mem_filter.mp hx).1) (fun _ z => nomatch z), ?_⟩
      refine orK (A := fun b => K' b _) ?_
      simpa using k
  · simp only [wN]
    simp [En.wipe, En.asg] at k ⊢
    exact k
/-! ### calls[place] of those that last -/
def clD (al : List (Txt × List Txt)) : D := .dct (alK txtD al) (alV lstT al)
def clOf (rs : List Row3) (l : List Txt) : List (Txt × List Txt) := l.map fun g => (g, lastC rs g)
def wK5B : WS := (wAsg (wLc (wIt (wCall spCallsAt [] (wCons (wN 3) (wCons (wN 8) wNil)))) (wgN 17) (wTst (w2 D.eqo (wLc (wIt (w2 D.ix (w2O 3 D.ix (wC (.str "answers"))) (wTup (wCons (wN 8) (wCons (wN 17) wNil))))) (wgN 19) (wTst (w2 D.nin (wN 19) (wL 5))) (wN 19) [19]) (wLst wNil))) (wN 17) [17]) (wgD 6 (wN 8)))
def wK5 : WS := (wFor (wIt (wN 5)) (wgN 8) wK5B)
theorem k5l {rs : List Row3} (s : SrvL rs) : ∀ (rest done : List Txt) (a8 : S), done ++ rest = lastG rs → (∀ a8, F.nx ⟨[a0, .fz .pen, a2, .fz (lawD rs), a4, .fz (lstT (lastG rs)), .ow (clD (clOf rs (lastG rs))), a7, a8, a9, a10, a11, a12, a13, a14, a15, a16, a17, a18, a19], c, none⟩) → wForR (wgN 8) wK5B F (rest.map txtD) ⟨[a0, .fz .pen, a2, .fz (lawD rs), a4, .fz (lstT (lastG rs)), .ow (clD (clOf rs done)), a7, a8, a9, a10, a11, a12, a13, a14, a15, a16, a17, a18, a19], c, none⟩
  | [], done, a8, he, h => by
    rw [List.append_nil] at he
    subst he
    simpa [wForR] using h a8
  | g :: rest, done, a8, he, h => by
    have ih := k5l s rest (done ++ [g]) (.fz (txtD g)) (by simpa using he) h
    rw [List.map_cons, wForR]
    generalize wForR (wgN 8) wK5B F (rest.map txtD) = R at ih
    have hgm : g ∈ lastG rs := by rw [← he]; simp
    have hnd : (lastG rs).Nodup := lasts_nodup (Srv.gnd rs)
    have hn : g ∉ done := fun z => by
      rw [← he] at hnd
      exact (List.nodup_append.mp hnd).2.2 _ z _ List.mem_cons_self rfl
    have dl : done.length < 614 := by
      have := s.s.llen
      rw [← he, List.length_append] at this
      omega
    simp only [wK5B, wgN, wAsg]
    simp only [En.asg, List.set]
    refine law_calls s.s (s.s.lasts g hgm) (fun x => !decide (x ∈ lastG rs)) (fun y x hx K' k => ?_) ?_
    · simp only [wTst, w2, wN, wL]
      simp [datOf]
      refine ⟨_, nin_lstT (s.s.aok hx) s.s.lasts, orK (A := fun b => K' b _) k⟩
    · have e1 : ((callsAt rs g).filter fun y => decide ((ansAt (ansOf rs) g y).filter (fun x => !decide (x ∈ lastG rs)) = [])) = lastC rs g := by
        have := lcalls_eq (al := ansOf rs) (gs := gatesOf rs) Srv.clo g
        unfold lastC endsK
        rw [← this]
        exact List.filter_congr fun y _ => fnil _ _
      rw [e1]
      simp only [wgD, wN]
      simp [owned, En.put]
      refine ⟨_, _, rfl, kok_txt _ g, by show (alK txtD (clOf rs done)).length ≤ _; unfold alK clOf; rw [List.length_map, List.length_map]; have := small (n := done.length) (by omega); omega, ?_⟩
      have e2 := dput_al (kf := txtD) (vf := lstT) txtD_inj (clOf rs done) g (lastC rs g)
      rw [upsert_new (by unfold clOf; rw [List.map_map]; simpa [Function.comp_def] using hn)] at e2
      rw [e2]
      have e3 : clOf rs done ++ [(g, lastC rs g)] = clOf rs (done ++ [g]) := by unfold clOf; rw [List.map_append]; rfl
      rw [e3]
      exact ih
theorem k5 {rs : List Row3} (s : SrvL rs) (h : ∀ a8, F.nx ⟨[a0, .fz .pen, a2, .fz (lawD rs), a4, .fz (lstT (lastG rs)), .ow (clD (clOf rs (lastG rs))), a7, a8, a9, a10, a11, a12, a13, a14, a15, a16, a17, a18, a19], c, none⟩) : wK5 ⟨[a0, .fz .pen, a2, .fz (lawD rs), a4, .fz (lstT (lastG rs)), .ow (.dct [] []), a7, a8, a9, a10, a11, a12, a13, a14, a15, a16, a17, a18, a19], c, none⟩ F := by
  simp only [wK5, wFor, wIt, wN]
  simp
  refine ⟨_, rfl, ?_⟩
  exact k5l s (lastG rs) [] a8 rfl h
end
end DL
/-! DN, part y: the law of k43: its rounds, the first checks. -/
namespace DL
open PySem PySem.Spec L2
theorem fr_eq {l : List Txt} {f : Txt → List Txt} {q : Txt → Bool} : decide (l.filter (fun y => decide ((f y).filter q = [])) = []) = l.all fun y => (f y).any q := by
  have h := fnil2 (fun y => decide ((f y).filter q = [])) l
  have e : (fun y => decide ((f y).filter q = [])) = fun y => !(f y).any q := funext fun y => by rw [← fnil2]; simp
  rw [e] at h ⊢
  rw [← Bool.not_not (decide _), h, List.not_any_eq_all_not]
  simp
/-- a place is found in this round -/
def frc (rs : List Row3) (n : Nat) (g : Txt) : Bool := !decide (g ∈ rk (ansOf rs) (gatesOf rs) n) && endsBy (ansOf rs) (rk (ansOf rs) (gatesOf rs) n) g
def wK6C : WS := (wIfS (wAnd (wTst (w2 D.nin (wN 8) (wL 7))) (wTst (w2 D.eqo (wLc (wIt (wCall spCallsAt [] (wCons (wN 3) (wCons (wN 8) wNil)))) (wgN 17) (wTst (w2 D.eqo (wLc (wIt (w2 D.ix (w2O 3 D.ix (wC (.str "answers"))) (wTup (wCons (wN 8) (wCons (wN 17) wNil))))) (wgN 19) (wTst (w2 D.inn (wN 19) (wL 7))) (wN 19) [19]) (wLst wNil))) (wN 17) [17]) (wLst wNil)))) (wDrop (wLM 10 lmApp (wCons (wN 8) wNil))) wNx)
def wK6D : WS := (wAsg (wN 9) (wgD 7 (wN 8)))
def wK6B : WS := (wSeq (wSetN 10 (wLst wNil))
  (wSeq (wFor (wIt (w2O 3 D.ix (wC (.str "places")))) (wgN 8) wK6C)
  (wFor (wIt (wN 10)) (wgN 8) wK6D)))
def wK6 : WS := (wFor (wRng1 (wCons (w1 D.lenD (w2O 3 D.ix (wC (.str "places")))) wNil)) (wgN 9) wK6B)
section
variable {F : Fn} {a0 a2 a3 a4 a5 a6 a7 a8 a9 a10 a11 a12 a13 a14 a15 a16 a17 a18 a19 : S} {c : Nat}
theorem k6c {rs : List Row3} (s : SrvL rs) {n : Nat} : ∀ (rest done : List Txt) (a8 : S), done ++ rest = gatesOf rs → (∀ a8, F.nx ⟨[a0, .fz .pen, a2, .fz (lawD rs), a4, a5, a6, .ow (fdD (rnd (ansOf rs) (gatesOf rs) n)), a8, a9, .ow (lstT ((gatesOf rs).filter (frc rs n))), a11, a12, a13, a14, a15, a16, a17, a18, a19], c, none⟩) → wForR (wgN 8) wK6C F (rest.map txtD) ⟨[a0, .fz .pen, a2, .fz (lawD rs), a4, a5, a6, .ow (fdD (rnd (ansOf rs) (gatesOf rs) n)), a8, a9, .ow (lstT (done.filter (frc rs n))), a11, a12, a13, a14, a15, a16, a17, a18, a19], c, none⟩
  | [], done, a8, he, h => by
    rw [List.append_nil] at he
    subst he
    simpa [wForR] using h a8
  | g :: rest, done, a8, he, h => by
    have ih := k6c s (n := n) rest (done ++ [g]) (.fz (txtD g)) (by simpa using he) h
    rw [List.map_cons, wForR]
    generalize wForR (wgN 8) wK6C F (rest.map txtD) = R at ih
    have hgm : g ∈ gatesOf rs := by rw [← he]; simp
    have dl : (done.filter (frc rs n)).length < 614 := by
      have := s.s.glen
      rw [← he, List.length_append] at this
      have := List.length_filter_le (frc rs n) done
      omega
    simp only [wK6C, wgN, wIfS, wAnd, wTst, w2, wN, wL]
    simp only [En.asg, List.set]
    simp [datOf]
    refine ⟨_, nin_fd _ g, orb ?_⟩
    rw [rk_def]
    by_cases q : g ∈ rk (ansOf rs) (gatesOf rs) n
    · rw [if_neg (by simp [q])]
      simp only [wNx]
      have e : (done ++ [g]).filter (frc rs n) = done.filter (frc rs n) := by
        rw [List.filter_append, List.filter_cons_of_neg (by simp [frc, q])]; simp
      rw [e] at ih
      exact ih
    · rw [if_pos (by simp [q])]
      refine law_calls s.s (s.s.gok g hgm) (fun x => decide (x ∈ rk (ansOf rs) (gatesOf rs) n)) (fun y x hx K' k => ?_) ?_
      · simp only [wTst, w2, wN, wL]
        simp [datOf]
        refine ⟨_, inn_fd _ x, orK (A := fun b => K' b _) ?_⟩
        rw [rk_def]
        exact k
      · have e1 := eqo_lstT (l := (callsAt rs g).filter fun y => decide ((ansAt (ansOf rs) g y).filter (fun x => decide (x ∈ rk (ansOf rs) (gatesOf rs) n)) = [])) (m := []) (fun x hx => s.s.caok (List.mem_filter.mp hx).1) (fun _ z => nomatch z)
        refine ⟨Nat.zero_le _, _, e1, orb ?_⟩
        rw [fr_eq]
        have e2 : ((callsAt rs g).all fun y => (ansAt (ansOf rs) g y).any fun x => decide (x ∈ rk (ansOf rs) (gatesOf rs) n)) = frc rs n g := by
          unfold frc endsBy
          simp [q]
          rfl
        rw [e2]
        cases z : frc rs n g with
        | true =>
          rw [if_pos rfl]
          simp only [wDrop, wLM, wCons, wNil, wN]
          simp [owned, En.put]
          refine ⟨⟨_, rfl⟩, _, rfl, _, _, lmApp_ok (by rw [List.length_map]; exact small (by omega)), ?_⟩
          have e : (done ++ [g]).filter (frc rs n) = done.filter (frc rs n) ++ [g] := by
            rw [List.filter_append, List.filter_cons_of_pos z]; simp
          rw [e] at ih
          simpa [lstT] using ih
        | false =>
          rw [if_neg (by simp)]
          simp only [wNx]
          have e : (done ++ [g]).filter (frc rs n) = done.filter (frc rs n) := by
            rw [List.filter_append, List.filter_cons_of_neg (by simp [z])]; simp
          rw [e] at ih
          exact ih
theorem k6d {n : Nat} : ∀ (l : List Txt) (fd : Fnd) (a8 : S), (fd.map (·.1) ++ l).Nodup → fd.length + l.length < 2 ^ 20 → (∀ a8, F.nx ⟨[a0, .fz .pen, a2, a3, a4, a5, a6, .ow (fdD (fd ++ l.map fun g => (g, n))), a8, .fz (numD n), a10, a11, a12, a13, a14, a15, a16, a17, a18, a19], c, none⟩) → wForR (wgN 8) wK6D F (l.map txtD) ⟨[a0, .fz .pen, a2, a3, a4, a5, a6, .ow (fdD fd), a8, .fz (numD n), a10, a11, a12, a13, a14, a15, a16, a17, a18, a19], c, none⟩
  | [], fd, a8, _, _, h => by simpa [wForR] using h a8
  | g :: l, fd, a8, nd, hl, h => by
    have ih := k6d l (fd ++ [(g, n)]) (.fz (txtD g)) (by simpa using nd) (by rw [List.length_cons] at hl; simp; omega) (fun a8 => by simpa using h a8)
    have hn : g ∉ fd.map (·.1) := fun z => (List.nodup_append.mp nd).2.2 _ z _ List.mem_cons_self rfl
    rw [List.map_cons, wForR]
    generalize wForR (wgN 8) wK6D F (l.map txtD) = R at ih
    simp only [wK6D, wAsg, wgN, wgD, wN]
    simp [En.asg, owned, En.put]
    refine ⟨_, _, rfl, kok_txt fd g, by show (alK txtD fd).length ≤ _; unfold alK; rw [List.length_map]; have := small hl; omega, ?_⟩
    have e1 := dput_al (kf := txtD) (vf := numD) txtD_inj fd g n
    rw [upsert_new hn] at e1
    rw [e1]
    exact ih
theorem k6l {rs : List Row3} (s : SrvL rs) : ∀ (k n : Nat) (a8 a9 a10 : S), (∀ a8 a9 a10, F.nx ⟨[a0, .fz .pen, a2, .fz (lawD rs), a4, a5, a6, .ow (fdD (rnd (ansOf rs) (gatesOf rs) (n + k))), a8, a9, a10, a11, a12, a13, a14, a15, a16, a17, a18, a19], c, none⟩) → wForR (wgN 9) wK6B F ((List.range' n k).map numD) ⟨[a0, .fz .pen, a2, .fz (lawD rs), a4, a5, a6, .ow (fdD (rnd (ansOf rs) (gatesOf rs) n)), a8, a9, a10, a11, a12, a13, a14, a15, a16, a17, a18, a19], c, none⟩
  | 0, n, a8, a9, a10, h => by simpa [wForR] using h a8 a9 a10
  | k + 1, n, a8, a9, a10, h => by
    have ih := fun a8 a9 a10 => k6l s k (n + 1) a8 a9 a10 (fun a8 a9 a10 => by
      have := h a8 a9 a10
      rw [show n + 1 + k = n + (k + 1) by omega]
      exact this)
    rw [List.range'_succ, List.map_cons, wForR]
    generalize wForR (wgN 9) wK6B F ((List.range' (n + 1) k).map numD) = R at ih
    have e2 := rk_nodup (al := ansOf rs) (Srv.gnd rs) (n + 1)
    have e3 := rk_len (al := ansOf rs) (Srv.gnd rs) (n + 1)
    rw [rk_succ] at e2 e3
    rw [List.length_append] at e3
    have gl := s.s.glen
    simp only [wK6B, wgN, wSeq, wSetN, wLst, wNil, wFor, wIt, w2O, wC]
    simp [En.asg, datOf]
    refine ⟨_, lawD_places rs, _, rfl, ?_⟩
    refine k6c s (gatesOf rs) [] a8 rfl fun a8 => ?_
    simp only [wN]
    simp [En.put]
    refine ⟨_, rfl, ?_⟩
    refine k6d (n := n) (fresh (ansOf rs) (gatesOf rs) (rk (ansOf rs) (gatesOf rs) n)) _ a8 e2 ?_ fun a8 => ih a8 _ _
    have : (rk (ansOf rs) (gatesOf rs) n).length = (rnd (ansOf rs) (gatesOf rs) n).length := List.length_map ..
    omega
theorem lenD_lstT (l : List Txt) : D.lenD (lstT l) = some (.int l.length) := by
  show some (D.int (l.map txtD).length) = _
  rw [List.length_map]
theorem range_num (n : Nat) : rangeD 0 n = (List.range' 0 n).map numD := by
  unfold rangeD
  rw [← List.range_eq_range']
  exact List.map_congr_left fun j _ => by rw [Int.zero_add]; rfl
theorem k6 {rs : List Row3} (s : SrvL rs) (h : ∀ a8 a9 a10, F.nx ⟨[a0, .fz .pen, a2, .fz (lawD rs), a4, a5, a6, .ow (fdD (endsF rs)), a8, a9, a10, a11, a12, a13, a14, a15, a16, a17, a18, a19], c, none⟩) : wK6 ⟨[a0, .fz .pen, a2, .fz (lawD rs), a4, a5, a6, .ow (.dct [] []), a8, a9, a10, a11, a12, a13, a14, a15, a16, a17, a18, a19], c, none⟩ F := by
  have gl := s.s.glen
  simp only [wK6, wFor, wRng1, wCons, wNil, w1, w2O, wC]
  simp [datOf]
  refine ⟨_, lawD_places rs, _, lenD_lstT _, (gatesOf rs).length, rfl, by omega, by omega, ?_⟩
  rw [Int.toNat_natCast, range_num]
  refine k6l s (gatesOf rs).length 0 a8 a9 a10 fun a8 a9 a10 => ?_
  rw [Nat.zero_add]
  exact h a8 a9 a10
/-! ### the first check -/
def wK7 (CS : Addr) : WS := (wIfS (wOr (wNot (wTru (wCall (spLSame 3) [] (wCons (wCall (spLGates CS) [] (wCons (wN 4) wNil)) (wCons (w1 D.tup1 (w1 D.sort1 (wL 5))) wNil))))) (wTst (w2 D.neo (w1 D.sort1 (w2 D.add (w1 D.list1 (wL 7)) (wN 5))) (w1 D.sort1 (w2O 3 D.ix (wC (.str "places"))))))) (wRet (wC (.bl false))) wNx)
theorem lastG_srt (rs : List Row3) : srtT (lastG rs) = lastG rs := Srtd.srtF unT_txtD ((canF_srtd unT_txtD _).filter _)
theorem gates_srt (rs : List Row3) : srtT (gatesOf rs) = gatesOf rs := Srtd.srtF unT_txtD (canF_srtd unT_txtD _)
theorem pl_tupT {l : List Txt} (h : ∀ x ∈ l, TxtOk x) (hl : l.length < 2 ^ 20) : pl 3 (tupT l) = true := by
  unfold tupT
  rw [pl_tup, Bool.and_eq_true, decide_eq_true_eq, List.all_eq_true]
  refine ⟨by rw [List.length_map]; exact hl, fun d hd => ?_⟩
  obtain ⟨x, hx, rfl⟩ := List.mem_map.mp hd
  unfold txtD
  rw [pl_str]
  exact h x hx
theorem k7 {CS : Addr} {rs : List Row3} (s : SrvL rs) (h : F.nx ⟨[a0, .fz .pen, a2, .fz (lawD rs), .fz (serverD CS rs), .fz (lstT (lastG rs)), a6, .ow (fdD (endsF rs)), a8, a9, a10, a11, a12, a13, a14, a15, a16, a17, a18, a19], c, none⟩) : wK7 CS ⟨[a0, .fz .pen, a2, .fz (lawD rs), .fz (serverD CS rs), .fz (lstT (lastG rs)), a6, .ow (fdD (endsF rs)), a8, a9, a10, a11, a12, a13, a14, a15, a16, a17, a18, a19], c, none⟩ F := by
  have ll := s.s.llen
  have el := s.s.elen
  have gl := s.s.glen
  have e1 := sort1_P s.s.lasts (by omega)
  rw [lastG_srt] at e1
  have aok : ∀ x ∈ endsK rs ++ lastG rs, TxtOk x := fun x hx => (List.mem_append.mp hx).elim (s.s.ends x) (s.s.lasts x)
  have alen : (endsK rs ++ lastG rs).length < 2 ^ 20 := by rw [List.length_append]; omega
  have ll' : (lastG rs).length < 2 ^ 20 := by omega
  have e2 := sort1_P (l := endsK rs ++ lastG rs) aok alen
  have e3 : srtT (endsK rs ++ lastG rs) = gatesOf rs := (srtT_eq (all_gates (Srv.gnd rs)) aok alen).trans (gates_srt rs)
  have e4 := sort1_P s.s.gok (by omega)
  rw [gates_srt] at e4
  rw [e3] at e2
  have e5 : D.neo (lstT (gatesOf rs)) (lstT (gatesOf rs)) = some (.bl false) := by rw [neo_lstT s.s.gok s.s.gok]; simp
  have e6 := list1_fd (fd := endsF rs) (by have := s.s.flen; omega)
  have e7 := add_lst (l := endsK rs) (m := lastG rs) (by omega)
  simp only [wK7, wIfS, wOr, wNot, wTru, wTst, w1, w2, w2O, wL, wN, wC, wCall, wCons, wNil, wRet, wNx]
  simp [datOf]
  refine ⟨rs, rfl, s.s, _, e1, _, rfl, _, _, rfl, pl_tupT s.s.lasts ll', pl_tupT s.s.lasts ll', .inr ⟨by simp [lastG, tupT, D.tru], ?_⟩⟩
  exact ⟨_, e6, _, e7, _, e2, _, lawD_places rs, _, e4, _, e5, .inl ⟨rfl, h⟩⟩
/-! ### what the program tells -/
def wK8 (CS CL CE : Addr) : WS := (wPar [11, 12] (sFz (wCall (spLasting CS CL) [] (wCons (wN 4) wNil)) (sFz (wCall (spEnding CS CE) [] (wCons (wN 4) wNil)) sNil)))
theorem k8 {CS CL CE : Addr} {rs : List Row3} (s : Srv rs) (h : F.nx ⟨[a0, .fz .pen, a2, a3, .fz (serverD CS rs), a5, a6, a7, a8, a9, a10, .fz (rowsD CL (prsD (lastP rs))), .fz (rowsD CE (entsD (endP rs))), a13, a14, a15, a16, a17, a18, a19], c, none⟩) : wK8 CS CL CE ⟨[a0, .fz .pen, a2, a3, .fz (serverD CS rs), a5, a6, a7, a8, a9, a10, a11, a12, a13, a14, a15, a16, a17, a18, a19], c, none⟩ F := by
  simp only [wK8, wPar, sFz, sNil, wCall, wCons, wNil, wN]
  simp
  refine ⟨rs, rfl, s, rs, rfl, s, ?_⟩
  simp [asgs, En.asg]
  exact h
def wK9 : WS := (wSet 13 (w1 D.tup1 (wLc (wIt (w1 D.sort1 (w1 D.list1 (wL 7)))) (wgN 8) wYes (wTup (wCons (wN 8) (wCons (w2O 7 D.ix (wN 8)) wNil))) [8])))
theorem k9 {rs : List Row3} (s : Srv rs) (h : F.nx ⟨[a0, .fz .pen, a2, a3, a4, a5, a6, .ow (fdD (endsF rs)), a8, a9, a10, a11, a12, .fz (entsD (endP rs)), a14, a15, a16, a17, a18, a19], c, none⟩) : wK9 ⟨[a0, .fz .pen, a2, a3, a4, a5, a6, .ow (fdD (endsF rs)), a8, a9, a10, a11, a12, a13, a14, a15, a16, a17, a18, a19], c, none⟩ F := by
  have ll := s.elen
  have fl := s.flen
  have e0 := sort1_P s.ends (by omega)
  simp only [wK9, wSet, w1, wLc, wIt, wL]
  simp [datOf]
  refine ⟨_, list1_fd (fd := endsF rs) (by omega), _, e0, _, rfl, ?_⟩
  refine lc_txt (fun g => entD (g, (alGet (endsF rs) g).getD 0)) (by simp) _ (fun g hg K' k => ?_) (by rw [(srtF_perm unT_txtD _).length_eq]; omega) ?_
  · have hg := (srtF_perm unT_txtD _).mem_iff.mp hg
    have e1 := ix_txt numD (endsF rs) g
    rw [ends_get hg] at e1
    simp only [wTup, wCons, wN, wNil, w2O]
    simp [En.wipe, En.asg, datOf] at k ⊢
    exact ⟨_, e1, lt2, k⟩
  · have e1 : (srtT (endsK rs)).map (fun g => entD (g, (alGet (endsF rs) g).getD 0)) = (endP rs).map entD := by
      unfold endP
      rw [List.map_map]; rfl
    rw [e1]
    refine ⟨_, rfl, ?_⟩
    simp [En.asg]
    exact h
def wK10 (CS CE : Addr) : WS := (wIfS (wOr (wNot (wTru (w1 (D.isI (tabC CE)) (wL 12)))) (wOr (wNot (wTru (wCall (spLSame 3) [] (wCons (w1 (D.fld CE "rows") (wL 12)) (wCons (wN 13) wNil))))) (wTst (w2 D.nsw (wCall (spEHolds CS CE) [] (wCons (wN 4) (wCons (wCall (spMkRows CE) [] (wCons (w1 D.list1 (wL 13)) wNil)) wNil))) (wC (.bl true)))))) (wRet (wC (.bl false))) wNx)
theorem pl_ent {p : Txt × Nat} (h : TxtOk p.1) : pl 2 (entD p) = true := by
  unfold entD txtD numD
  rw [pl_tup, List.all_cons, List.all_cons, pl_str, pl_int, h]
  rfl
theorem k10 {CS CE : Addr} {rs : List Row3} (s : Srv rs) (h : F.nx ⟨[a0, .fz .pen, a2, a3, .fz (serverD CS rs), a5, a6, a7, a8, a9, a10, a11, .fz (rowsD CE (entsD (endP rs))), .fz (entsD (endP rs)), a14, a15, a16, a17, a18, a19], c, none⟩) : wK10 CS CE ⟨[a0, .fz .pen, a2, a3, .fz (serverD CS rs), a5, a6, a7, a8, a9, a10, a11, .fz (rowsD CE (entsD (endP rs))), .fz (entsD (endP rs)), a14, a15, a16, a17, a18, a19], c, none⟩ F := by
  have el := s.eplen
  have p1 := pl_ents s.epok (by omega)
  have e1 : asT 3 (.lst ((endP rs).map entD)) = some (entsD (endP rs)) := asT_lst (fun d hd => by
    obtain ⟨p, hp, rfl⟩ := List.mem_map.mp hd
    exact pl_ent (s.epok p hp)) (by rw [List.length_map]; omega)
  have e2 : D.list1 (entsD (endP rs)) = some (.lst ((endP rs).map entD)) := rfl
  have e3 : EH CE rs (rowsD CE (entsD (endP rs))) true := by
    have := EH.rows (C := CE) (rs := rs) p1
    simpa using this
  simp only [wK10, wIfS, wOr, wNot, wTru, wTst, w1, w2, wL, wN, wC, wCall, wCons, wNil, wRet, wNx]
  simp [datOf]
  refine ⟨_, isC_obj .., .inr ⟨rfl, _, fld_rows' .., _, _, rfl, p1, p1, .inr ⟨by simp [D.tru], ?_⟩⟩⟩
  exact ⟨_, e2, _, _, rfl, e1, rs, _, true, rfl, s, e3, _, rfl, .inl ⟨rfl, h⟩⟩
def wK11 (CS CL : Addr) : WS := (wIfS (wOr (wNot (wTru (w1 (D.isI (tabC CL)) (wL 11)))) (wOr (wTst (w2 D.neo (wLc (wIt (w1 (D.fld CL "rows") (wL 11))) (wgN 18) wYes (w2O 18 D.ix (wC (.int 0))) [18]) (w1 D.sort1 (wL 5)))) (wTst (w2 D.nsw (wCall (spLHolds CS CL) [] (wCons (wN 4) (wCons (wN 11) wNil))) (wC (.bl true)))))) (wRet (wC (.bl false))) wNx)
theorem lh_told (CL : Addr) {rs : List Row3} (s : Srv rs) : LH CL rs (rowsD CL (prsD (lastP rs))) true := by
  have := LH.rows (C := CL) (rs := rs) (ps := lastP rs) (fun p hp => (s.lpok p hp).2) (lastP_keys rs)
  have e : ((lastP rs).all fun p => decide (p.2 ∈ lastC rs p.1)) = true := by
    rw [List.all_eq_true]
    intro p hp
    obtain ⟨g, hg, rfl⟩ := List.mem_map.mp hp
    exact decide_eq_true (headD_mem (Srv.lne hg))
  rwa [e] at this
theorem k11 {CS CL : Addr} {rs : List Row3} (s : Srv rs) (h : F.nx ⟨[a0, .fz .pen, a2, a3, .fz (serverD CS rs), .fz (lstT (lastG rs)), a6, a7, a8, a9, a10, .fz (rowsD CL (prsD (lastP rs))), a12, a13, a14, a15, a16, a17, a18, a19], c, none⟩) : wK11 CS CL ⟨[a0, .fz .pen, a2, a3, .fz (serverD CS rs), .fz (lstT (lastG rs)), a6, a7, a8, a9, a10, .fz (rowsD CL (prsD (lastP rs))), a12, a13, a14, a15, a16, a17, a18, a19], c, none⟩ F := by
  have ll := s.llen
  have e1 := sort1_P s.lasts (by omega)
  rw [lastG_srt] at e1
  have e2 : D.neo (lstT (lastG rs)) (lstT (lastG rs)) = some (.bl false) := by rw [neo_lstT s.lasts s.lasts]; simp
  simp only [wK11, wIfS, wOr, wNot, wTru, wTst, w1, w2, wL, wN, wC, wCall, wCons, wNil, wRet, wNx, wLc, wIt]
  simp [datOf]
  refine ⟨_, isC_obj .., .inr ⟨rfl, _, fld_rows' .., _, rfl, ?_⟩⟩
  refine lc_genF pairD unP unP_pairD (fun p => txtD p.1) (fun _ => true) (by simp) (lastP rs) (fun p hp K' k => k) (fun p hp _ K' k => ?_) (by unfold lastP; rw [List.length_map]; omega) ?_
  · simp only [w2O, wC]
    simp [En.wipe, En.asg, datOf] at k ⊢
    exact ⟨_, pair_ix0 p, k⟩
  · have e3 : ((lastP rs).filter (fun _ => true)).map (fun p => txtD p.1) = (lastG rs).map txtD := by
      rw [List.filter_eq_self.mpr fun _ _ => rfl, ← lastP_keys rs, List.map_map]; rfl
    rw [e3]
    simp [datOf]
    exact ⟨_, e1, _, e2, .inl ⟨rfl, rs, _, true, rfl, s, lh_told CL s, _, rfl, .inl ⟨rfl, h⟩⟩⟩
end
end DL
/-! DN, part z: the law of k43: drawn lasting tables, the judges' answers, the whole. -/
namespace DL
open PySem PySem.Spec L2
def wK12E : WE := (wTup (wCons (wN 8) (wCons (wCall spPick [] (wCons (wN 1) (wCons (wIf (wTst (w2 D.eqo (wN 14) (wC (.int 0)))) (w2O 6 D.ix (wN 8)) (wCall spCallsAt [] (wCons (wN 3) (wCons (wN 8) wNil)))) wNil))) wNil)))
def wK12B (CS CL : Addr) : WS := (wSeq (wSetN 15 (wLc (wIt (w1 D.sort1 (wL 5))) (wgN 8) wYes wK12E [8]))
  (wIfS (wNot (wTru (wCall (spLSame 3) [] (wCons (wCall (spLHolds CS CL) [] (wCons (wN 4) (wCons (wCall (spMkRows CL) [] (wCons (w1 D.tup1 (wL 15)) wNil)) wNil))) (wCons (w2 D.eqo (wLc (wIt (wN 15)) (wgN 18) (wTst (w2 D.nin (w2O 18 D.ix (wC (.int 1))) (w2O 6 D.ix (w2O 18 D.ix (wC (.int 0)))))) (wN 18) [18]) (wLst wNil)) wNil))))) (wRet (wC (.bl false))) wNx))
def wK12 (CS CL : Addr) : WS := (wFor (wRng1 (wCons (wC (.int 4)) wNil)) (wgN 14) (wK12B CS CL))
theorem cl_get {rs : List Row3} {g : Txt} (h : g ∈ lastG rs) : D.ix (clD (clOf rs (lastG rs))) (txtD g) = some (lstT (lastC rs g)) := by
  have hnd : (lastG rs).Nodup := lasts_nodup (Srv.gnd rs)
  have e := ix_txt lstT (clOf rs (lastG rs)) g
  have nd : ((clOf rs (lastG rs)).map (·.1)).Nodup := by
    unfold clOf
    rw [List.map_map]
    have : (lastG rs).map ((fun (x : Txt × List Txt) => x.1) ∘ fun g => (g, lastC rs g)) = lastG rs := List.map_id _
    rw [this]
    exact hnd
  have := alGet_of_mem nd (p := (g, lastC rs g)) (List.mem_map.mpr ⟨g, h, rfl⟩)
  rw [this] at e
  exact e
theorem callsAt_ne {rs : List Row3} {g : Txt} (h : g ∈ lastG rs) : callsAt rs g ≠ [] := fun z => by
  have := headD_mem (a := []) (Srv.lne h)
  have h2 : (lastC rs g).headD [] ∈ callsAt rs g := (List.mem_filter.mp this).1
  rw [z] at h2
  simp at h2
theorem lastC_sub {rs : List Row3} {g x : Txt} (h : x ∈ lastC rs g) : x ∈ callsAt rs g := (List.mem_filter.mp h).1
theorem seqOf_lstT (l : List Txt) : seqOf (lstT l) = some (l.map txtD) := rfl
section
variable {F : Fn} {a0 a2 a3 a4 a5 a6 a7 a8 a9 a10 a11 a12 a13 a14 a15 a16 a17 a18 a19 : S} {c : Nat}
theorem k12c {K : DK} {rs : List Row3} (s : SrvL rs) {t : Int} : ∀ (rest : List Txt) (acc : List (Txt × Txt)) (c : Nat), (∀ g ∈ rest, g ∈ lastG rs) → acc.length + rest.length < 1000 → c + rest.length < 2 ^ 40 →
    (∀ ps : List (Txt × Txt), ps.map Prod.fst = rest → (∀ p ∈ ps, p.2 ∈ callsAt rs p.1) → K (.lst ((acc ++ ps).map pairD)) ⟨[a0, .fz .pen, a2, .fz (lawD rs), a4, a5, .ow (clD (clOf rs (lastG rs))), a7, a8, a9, a10, a11, a12, a13, .fz (.int t), a15, a16, a17, a18, a19], c + rest.length, none⟩) →
    wLcR (wgN 8) wYes wK12E [8] K (rest.map txtD) (acc.map pairD) ⟨[a0, .fz .pen, a2, .fz (lawD rs), a4, a5, .ow (clD (clOf rs (lastG rs))), a7, a8, a9, a10, a11, a12, a13, .fz (.int t), a15, a16, a17, a18, a19], c, none⟩
  | [], acc, c, _, _, _, h => by
    have := h [] rfl (fun _ z => nomatch z)
    simpa [wLcR] using this
  | g :: rest, acc, c, hm, hl, hc, h => by
    rw [List.length_cons] at hl hc
    have ih := k12c (K := K) s (t := t) rest
    have hg : g ∈ lastG rs := hm g List.mem_cons_self
    rw [List.map_cons, wLcR]
    generalize rest.map txtD = ds at ih
    generalize hR : (fun acc e => wLcR (wgN 8) wYes wK12E [8] K ds acc e) = R
    have hR' : ∀ acc e, wLcR (wgN 8) wYes wK12E [8] K ds acc e = R acc e := fun acc e => by rw [← hR]
    simp only [hR'] at ih ⊢
    have go : ∀ x : Txt, x ∈ callsAt rs g → 2 ≤ sizeLine ∧ acc.length < sizeLine ∧ R (acc.map pairD ++ [.tup [txtD g, txtD x]]) ⟨[a0, .fz .pen, a2, .fz (lawD rs), a4, a5, .ow (clD (clOf rs (lastG rs))), a7, a8, a9, a10, a11, a12, a13, .fz (.int t), a15, a16, a17, a18, a19], c + 1, none⟩ := fun x hx => by
      refine ⟨lt2, small (by omega), ?_⟩
      have := ih (acc ++ [(g, x)]) (c + 1) (fun y hy => hm y (List.mem_cons_of_mem _ hy)) (by simp; omega) (by omega) fun ps h1 h2 => by
        have := h ((g, x) :: ps) (by rw [List.map_cons, h1]) (fun p hp => by
          rcases List.mem_cons.mp hp with rfl | hp
          · exact hx
          · exact h2 p hp)
        rw [List.length_cons] at this
        rw [List.append_assoc, show c + 1 + rest.length = c + (rest.length + 1) by omega]
        exact this
      simpa [pairD] using this
    have hsz : ∀ l : List Txt, l.length ≤ (callsAt rs g).length → l.length < 2 ^ 20 := fun l h => by
      have := s.s.calls g
      show _ < _
      unfold callsAt at h
      omega
    simp only [wgN, wYes, wK12E, wTup, wCons, wNil, wN, wCall, wIf, wTst, w2, w2O, wC]
    simp [En.wipe, En.asg, En.back, En.put, datOf]
    refine ⟨_, eqo_int t 0, orb ?_⟩
    by_cases z : t = 0
    · rw [if_pos (by simpa using z)]
      refine ⟨_, cl_get hg, _, _, rfl, seqOf_lstT _, by rw [List.length_map]; exact List.length_pos_iff.mpr (Srv.lne hg), by rw [List.length_map]; have := hsz (lastC rs g) (List.length_filter_le _ _); omega, by omega, fun d hd => ?_⟩
      obtain ⟨x, hx, rfl⟩ := List.mem_map.mp hd
      exact go x (lastC_sub hx)
    · rw [if_neg (by simpa using z)]
      refine ⟨rs, g, rfl, s.s, s.s.lasts g hg, _, _, rfl, seqOf_lstT _, by rw [List.length_map]; exact List.length_pos_iff.mpr (callsAt_ne hg), by rw [List.length_map]; have := hsz (callsAt rs g) (Nat.le_refl _); omega, by omega, fun d hd => ?_⟩
      obtain ⟨x, hx, rfl⟩ := List.mem_map.mp hd
      exact go x hx
theorem gd_pairD {p : Txt × Txt} (h : TxtOk p.1 ∧ TxtOk p.2) (n : Nat) : (pairD p).gd (n + 2) = true := by
  unfold pairD
  simp only [D.gd, D.gds, gd_txt]
  rw [h.1, h.2]; rfl
theorem eqo_pairs0 {ps : List (Txt × Txt)} (h : ∀ p ∈ ps, TxtOk p.1 ∧ TxtOk p.2) : D.eqo (.lst (ps.map pairD)) (.lst []) = some (.bl (decide (ps = []))) := by
  unfold D.eqo
  rw [eqc_gd (y := .lst []) ?_ rfl]
  · simp
  · simp only [D.gd]
    exact gds_of fun d hd => by
      obtain ⟨r, hr, rfl⟩ := List.mem_map.mp hd
      exact gd_pairD (h r hr) 61
theorem pl_bl (n : Nat) (b : Bool) : pl n (.bl b) = true := by cases n <;> rfl
theorem k12l {CS CL : Addr} {rs : List Row3} (s : SrvL rs) : ∀ (k n : Nat) (a8 a14 a15 : S) (c : Nat), c + 614 * k < 2 ^ 39 → (∀ a8 a14 a15 c', c ≤ c' → c' ≤ c + 614 * k → F.nx ⟨[a0, .fz .pen, a2, .fz (lawD rs), .fz (serverD CS rs), .fz (lstT (lastG rs)), .ow (clD (clOf rs (lastG rs))), a7, a8, a9, a10, a11, a12, a13, a14, a15, a16, a17, a18, a19], c', none⟩) → wForR (wgN 14) (wK12B CS CL) F ((List.range' n k).map numD) ⟨[a0, .fz .pen, a2, .fz (lawD rs), .fz (serverD CS rs), .fz (lstT (lastG rs)), .ow (clD (clOf rs (lastG rs))), a7, a8, a9, a10, a11, a12, a13, a14, a15, a16, a17, a18, a19], c, none⟩
  | 0, n, a8, a14, a15, c, _, h => by simpa [wForR] using h a8 a14 a15 c (Nat.le_refl _) (Nat.le_refl _)
  | k + 1, n, a8, a14, a15, c, hc, h => by
    have ll := s.s.llen
    have ih := k12l (CS := CS) (CL := CL) s k (n + 1)
    rw [List.range'_succ, List.map_cons, wForR]
    generalize wForR (wgN 14) (wK12B CS CL) F ((List.range' (n + 1) k).map numD) = R at ih
    have e1 := sort1_P s.s.lasts (by omega)
    rw [lastG_srt] at e1
    simp only [wK12B, wgN, wSeq, wSetN, wLc, wIt, w1, wL]
    simp only [En.asg, List.set]
    simp [datOf]
    refine ⟨_, e1, _, rfl, ?_⟩
    refine k12c s (t := (n : Int)) (lastG rs) [] c (fun _ h => h) (by simp; omega) (by omega) fun ps h1 h2 => ?_
    rw [List.nil_append]
    have hl : ps.length = (lastG rs).length := by rw [← h1, List.length_map]
    have pok : ∀ p ∈ ps, TxtOk p.1 ∧ TxtOk p.2 := fun p hp => ⟨s.s.lasts p.1 (by rw [← h1]; exact List.mem_map.mpr ⟨p, hp, rfl⟩), s.s.caok (h2 p hp)⟩
    have e2 : asT 3 (.tup (ps.map pairD)) = some (prsD ps) := asT_pl 3 _ (pl_pairs pok (by omega))
    simp only [wIfS, wNot, wTru, wCall, wCons, wNil, wN, w1, w2, wL, wLc, wIt, wLst, wRet, wNx]
    simp [datOf, En.put]
    refine ⟨_, rfl, _, _, rfl, e2, rs, _, _, rfl, s.s, LH.rows (fun p hp => (pok p hp).2) h1, _, rfl, ?_⟩
    refine lc_genF pairD unP unP_pairD pairD (fun p => !decide (p.2 ∈ lastC rs p.1)) (by simp) ps (fun p hp K' k => ?_) (fun p hp _ K' k => ?_) (by omega) ?_
    · have hg : p.1 ∈ lastG rs := by rw [← h1]; exact List.mem_map.mpr ⟨p, hp, rfl⟩
      simp only [wTst, w2, w2O, wC]
      simp [En.wipe, En.asg, datOf] at k ⊢
      refine ⟨_, pair_ix1 p, _, pair_ix0 p, _, cl_get hg, _, nin_lstT (pok p hp).2 (fun y hy => s.s.caok (lastC_sub hy)), orK (A := fun b => K' b _) ?_⟩
      simpa using k
    · simp only [wN]
      simp [En.wipe, En.asg] at k ⊢
      exact k
    · refine ⟨_, eqo_pairs0 fun p hp => pok p (List.mem_filter.mp hp).1, ?_⟩
      rw [fnil]
      refine ⟨_, _, rfl, pl_bl _ _, pl_bl _ _, .inr ⟨by simp [D.tru], ?_⟩⟩
      refine ih _ _ _ (c + (lastG rs).length) (by omega) fun a8 a14 a15 c' k1 k2 => ?_
      exact h a8 a14 a15 c' (by omega) (by omega)
theorem k12 {CS CL : Addr} {rs : List Row3} (s : SrvL rs) (hc : c + 3000 < 2 ^ 39) (h : ∀ a8 a14 a15 c', c ≤ c' → c' ≤ c + 2456 → F.nx ⟨[a0, .fz .pen, a2, .fz (lawD rs), .fz (serverD CS rs), .fz (lstT (lastG rs)), .ow (clD (clOf rs (lastG rs))), a7, a8, a9, a10, a11, a12, a13, a14, a15, a16, a17, a18, a19], c', none⟩) : wK12 CS CL ⟨[a0, .fz .pen, a2, .fz (lawD rs), .fz (serverD CS rs), .fz (lstT (lastG rs)), .ow (clD (clOf rs (lastG rs))), a7, a8, a9, a10, a11, a12, a13, a14, a15, a16, a17, a18, a19], c, none⟩ F := by
  simp only [wK12, wFor, wRng1, wCons, wNil, wC]
  simp
  rw [range_num]
  exact k12l s 4 0 a8 a14 a15 c (by omega) h
/-! ### values that are no tables -/
def wK13B (CS CL : Addr) : WS := (wIfS (wTst (w2 D.nsw (wCall (spLHolds CS CL) [] (wCons (wN 4) (wCons (wN 16) wNil))) (wC (.bl false)))) (wRet (wC (.bl false))) wNx)
def wK13 (CS CL : Addr) : WS := (wFor (wIt (wLst (wCons (wC .non) (wCons (wC (.int 5)) (wCons (w1 (D.fld CL "rows") (wL 11)) (wCons (wCall (spMkRows CL) [] (wCons (wC .non) wNil)) (wCons (wCall (spMkRows CL) [] (wCons (w2 D.add (w1 (D.fld CL "rows") (wL 11)) (wTup (wCons (wTup (wCons (wC (.str "zz")) (wCons (wC (.str "zz")) wNil))) wNil))) wNil)) (wCons (wIf (wTst (w2 D.neo (wN 5) (wLst wNil))) (wCall (spMkRows CL) [] (wCons (wSl (w1 (D.fld CL "rows") (wL 11)) (wOS (wC (.int 1))) wON) wNil)) (wC .non)) wNil)))))))) (wgN 16) (wK13B CS CL))
theorem zz_eq : (.str "zz" : D) = txtD [122, 122] := by decide +kernel
theorem zz_ok : TxtOk [122, 122] := by decide +kernel
theorem cut_from (ys : List D) : cutD ys (some 1) none = ys.drop 1 := by
  unfold cutD
  rw [show (1 : Int) = ((1 : Nat) : Int) from rfl, HT.sIx_nat, HT.sIx_none]
  cases ys with
  | nil => simp
  | cons a ys => simp
theorem sl_tup (ys : List D) : D.sl (.tup ys) (some 1) none = some (.tup (ys.drop 1)) := by
  show some (D.tup (cutD ys (some 1) none)) = _
  rw [cut_from]
theorem add_tups {l m : List D} (h : l.length + m.length < 2 ^ 20) : D.add (.tup l) (.tup m) = some (.tup (l ++ m)) := by
  show (if l.length + m.length ≤ sizeLine then some (D.tup (l ++ m)) else none) = _
  rw [if_pos (Nat.le_of_lt (small h))]
theorem k13l {CS CL : Addr} {rs : List Row3} (s : Srv rs) : ∀ (vs : List D) (a16 : S), (∀ v ∈ vs, LH CL rs v false) → (∀ a16, F.nx ⟨[a0, .fz .pen, a2, a3, .fz (serverD CS rs), a5, a6, a7, a8, a9, a10, a11, a12, a13, a14, a15, a16, a17, a18, a19], c, none⟩) → wForR (wgN 16) (wK13B CS CL) F vs ⟨[a0, .fz .pen, a2, a3, .fz (serverD CS rs), a5, a6, a7, a8, a9, a10, a11, a12, a13, a14, a15, a16, a17, a18, a19], c, none⟩
  | [], a16, _, h => by simpa [wForR] using h a16
  | v :: vs, a16, hv, h => by
    have ih := k13l (CS := CS) s vs (.fz v) (fun x hx => hv x (List.mem_cons_of_mem _ hx)) h
    rw [wForR]
    generalize wForR (wgN 16) (wK13B CS CL) F vs = R at ih
    simp only [wK13B, wgN, wIfS, wTst, w2, wCall, wCons, wNil, wN, wC, wRet, wNx]
    simp [En.asg]
    exact ⟨rs, v, false, rfl, s, hv v List.mem_cons_self, _, rfl, .inl ⟨rfl, ih⟩⟩
theorem k13 {CS CL : Addr} {rs : List Row3} (s : Srv rs) (h : ∀ a16, F.nx ⟨[a0, .fz .pen, a2, a3, .fz (serverD CS rs), .fz (lstT (lastG rs)), a6, a7, a8, a9, a10, .fz (rowsD CL (prsD (lastP rs))), a12, a13, a14, a15, a16, a17, a18, a19], c, none⟩) : wK13 CS CL ⟨[a0, .fz .pen, a2, a3, .fz (serverD CS rs), .fz (lstT (lastG rs)), a6, a7, a8, a9, a10, .fz (rowsD CL (prsD (lastP rs))), a12, a13, a14, a15, a16, a17, a18, a19], c, none⟩ F := by
  have ll := s.llen
  have plen : (lastP rs).length = (lastG rs).length := by unfold lastP; rw [List.length_map]
  have e1 : D.add (prsD (lastP rs)) (.tup [.tup [.str "zz", .str "zz"]]) = some (prsD (lastP rs ++ [([122, 122], [122, 122])])) := by
    unfold prsD
    rw [add_tups (by simp; omega), zz_eq, List.map_append]
    rfl
  have p1 : pl 3 (prsD (lastP rs ++ [([122, 122], [122, 122])])) = true := pl_pairs (fun p hp => by
    rcases List.mem_append.mp hp with hp | hp
    · exact s.lpok p hp
    · rw [List.mem_singleton] at hp; subst hp; exact ⟨zz_ok, zz_ok⟩) (by simp; omega)
  have e2 := sl_tup ((lastP rs).map pairD)
  have e3 : ((lastP rs).map pairD).drop 1 = ((lastP rs).drop 1).map pairD := (List.map_drop ..).symm
  rw [e3] at e2
  have p2 : pl 3 (prsD ((lastP rs).drop 1)) = true := pl_pairs (fun p hp => s.lpok p (List.mem_of_mem_drop hp)) (by simp; omega)
  have e4 := neo_lstT (l := lastG rs) (m := []) s.lasts (fun _ z => nomatch z)
  have lt1 : 1 ≤ sizeLine := Nat.le_trans (by decide) lt2
  have lt6 : 6 ≤ sizeLine := by decide +kernel
  simp only [wK13, wFor, wIt, wLst, wCons, wNil, wC, w1, wL, wCall, w2, wTup, wIf, wTst, wSl, wOS, wON, wN]
  simp [datOf, lt1, lt2]
  refine ⟨_, fld_rows' .., _, _, rfl, rfl, _, fld_rows' .., _, e1, _, _, rfl, asT_pl 3 _ p1, _, e4, orb ?_⟩
  have v1 : LH CL rs (rowsD CL (prsD (lastP rs ++ [([122, 122], [122, 122])]))) false := LH.len (by simp; omega) (by simp; omega)
  by_cases z : lastG rs = []
  · rw [if_neg (by simp [z])]
    refine ⟨lt6, _, rfl, ?_⟩
    refine k13l s _ a16 (fun v hv => ?_) h
    simp only [List.mem_cons, List.not_mem_nil, or_false] at hv
    rcases hv with rfl | rfl | rfl | rfl | rfl | rfl
    · exact .no rfl
    · exact .no rfl
    · exact .no rfl
    · exact .non
    · exact v1
    · exact .no rfl
  · rw [if_pos (by simp [z])]
    have hp : 0 < (lastG rs).length := List.length_pos_iff.mpr z
    refine ⟨_, fld_rows' .., _, e2, _, _, rfl, asT_pl 3 _ p2, lt6, _, rfl, ?_⟩
    refine k13l s _ a16 (fun v hv => ?_) h
    simp only [List.mem_cons, List.not_mem_nil, or_false] at hv
    rcases hv with rfl | rfl | rfl | rfl | rfl | rfl
    · exact .no rfl
    · exact .no rfl
    · exact .no rfl
    · exact .non
    · exact v1
    · exact LH.len (by simp; omega) (by simp; omega)
/-! ### values that are no ends -/
def wK14B (CS CE : Addr) : WS := (wIfS (wTst (w2 D.nsw (wCall (spEHolds CS CE) [] (wCons (wN 4) (wCons (wN 16) wNil))) (wC (.bl false)))) (wRet (wC (.bl false))) wNx)
def wK14C : WE := (wLc (wIt (wN 13)) (wgN 18) wYes (wTup (wCons (w2O 18 D.ix (wC (.int 0))) (wCons (w2 D.add (w2O 18 D.ix (wC (.int 1))) (wC (.int 1))) wNil))) [18])
def wK14 (CS CE : Addr) : WS := (wFor (wIt (wLst (wCons (wC .non) (wCons (wC (.int 5)) (wCons (wN 13) (wCons (wCall (spMkRows CE) [] (wCons (wC .non) wNil)) (wCons (wCall (spMkRows CE) [] (wCons (w2 D.add (wN 13) (wTup (wCons (wTup (wCons (wC (.str "zz")) (wCons (wC (.int 0)) wNil))) wNil))) wNil)) (wCons (wIf (wTst (w2 D.neo (wN 13) (wTup wNil))) (wCall (spMkRows CE) [] (wCons (wSl (wN 13) (wOS (wC (.int 1))) wON) wNil)) (wC .non)) (wCons (wIf (wTst (w2 D.neo (wN 13) (wTup wNil))) (wCall (spMkRows CE) [] (wCons (w1 D.tup1 wK14C) wNil)) (wC .non)) wNil))))))))) (wgN 16) (wK14B CS CE))
theorem k14l {CS CE : Addr} {rs : List Row3} (s : Srv rs) : ∀ (vs : List D) (a16 : S), (∀ v ∈ vs, EH CE rs v false) → (∀ a16, F.nx ⟨[a0, .fz .pen, a2, a3, .fz (serverD CS rs), a5, a6, a7, a8, a9, a10, a11, a12, a13, a14, a15, a16, a17, a18, a19], c, none⟩) → wForR (wgN 16) (wK14B CS CE) F vs ⟨[a0, .fz .pen, a2, a3, .fz (serverD CS rs), a5, a6, a7, a8, a9, a10, a11, a12, a13, a14, a15, a16, a17, a18, a19], c, none⟩
  | [], a16, _, h => by simpa [wForR] using h a16
  | v :: vs, a16, hv, h => by
    have ih := k14l (CS := CS) s vs (.fz v) (fun x hx => hv x (List.mem_cons_of_mem _ hx)) h
    rw [wForR]
    generalize wForR (wgN 16) (wK14B CS CE) F vs = R at ih
    simp only [wK14B, wgN, wIfS, wTst, w2, wCall, wCons, wNil, wN, wC, wRet, wNx]
    simp [En.asg]
    exact ⟨rs, v, false, rfl, s, hv v List.mem_cons_self, _, rfl, .inl ⟨rfl, ih⟩⟩
theorem gd_entD {p : Txt × Nat} (h : TxtOk p.1) (n : Nat) : (entD p).gd (n + 2) = true := by
  unfold entD numD
  simp only [D.gd, D.gds, gd_txt]
  rw [h]; rfl
theorem neo_ents0 {ps : List (Txt × Nat)} (h : ∀ p ∈ ps, TxtOk p.1) : D.neo (entsD ps) (.tup []) = some (.bl (!decide (ps = []))) := by
  unfold D.neo
  rw [eqc_gd (y := .tup []) ?_ rfl]
  · simp [entsD]
  · unfold entsD
    simp only [D.gd]
    exact gds_of fun d hd => by
      obtain ⟨r, hr, rfl⟩ := List.mem_map.mp hd
      exact gd_entD (h r hr) 61
theorem entsD_len {a b : List (Txt × Nat)} (h : entsD a = entsD b) : a.length = b.length := by
  unfold entsD at h
  injection h with h
  simpa using congrArg List.length h
theorem eh_no {C : Addr} {rs : List Row3} {z : D} (h : pl 3 z = true) (hn : z ≠ entsD (endP rs)) : EH C rs (rowsD C z) false := by
  have := EH.rows (C := C) (rs := rs) h
  rwa [decide_eq_false hn] at this
theorem ent_ix0 (p : Txt × Nat) : D.ix (entD p) (.int 0) = some (txtD p.1) := rfl
theorem ent_ix1 (p : Txt × Nat) : D.ix (entD p) (.int 1) = some (numD p.2) := rfl
def unE : D → Txt × Nat
  | .tup [a, .int i] => (unT a, i.toNat)
  | _ => ([], 0)
theorem unE_entD (p : Txt × Nat) : unE (entD p) = p := by
  obtain ⟨a, n⟩ := p
  show (unT (txtD a), ((n : Int)).toNat) = _
  rw [unT_txtD]; rfl
theorem k14c {K : DK} {ps : List (Txt × Nat)} (hl : ps.length < 1000) (h : K (.lst ((ps.map fun p => (p.1, p.2 + 1)).map entD)) ⟨[a0, .fz .pen, a2, a3, a4, a5, a6, a7, a8, a9, a10, a11, a12, .fz (entsD ps), a14, a15, a16, a17, a18, a19], c, none⟩) : wK14C ⟨[a0, .fz .pen, a2, a3, a4, a5, a6, a7, a8, a9, a10, a11, a12, .fz (entsD ps), a14, a15, a16, a17, a18, a19], c, none⟩ K := by
  simp only [wK14C, wLc, wIt, wN]
  simp
  refine ⟨_, rfl, ?_⟩
  refine lc_genF entD unE unE_entD (fun p => entD (p.1, p.2 + 1)) (fun _ => true) (by simp) ps (fun p hp K' k => k) (fun p hp _ K' k => ?_) (by omega) ?_
  · simp only [wTup, wCons, wNil, w2O, wC, w2]
    simp [En.wipe, En.asg, datOf] at k ⊢
    refine ⟨_, ent_ix0 p, _, ent_ix1 p, _, rfl, lt2, ?_⟩
    exact k
  · rw [List.filter_eq_self.mpr fun _ _ => rfl]
    rw [List.map_map] at h
    exact h
theorem k14 {CS CE : Addr} {rs : List Row3} (s : Srv rs) (h : ∀ a16, F.nx ⟨[a0, .fz .pen, a2, a3, .fz (serverD CS rs), a5, a6, a7, a8, a9, a10, a11, a12, .fz (entsD (endP rs)), a14, a15, a16, a17, a18, a19], c, none⟩) : wK14 CS CE ⟨[a0, .fz .pen, a2, a3, .fz (serverD CS rs), a5, a6, a7, a8, a9, a10, a11, a12, .fz (entsD (endP rs)), a14, a15, a16, a17, a18, a19], c, none⟩ F := by
  have ll := s.eplen
  have e1 : D.add (entsD (endP rs)) (.tup [.tup [.str "zz", .int 0]]) = some (entsD (endP rs ++ [([122, 122], 0)])) := by
    unfold entsD
    rw [add_tups (by simp; omega), zz_eq, List.map_append]
    rfl
  have p1 : pl 3 (entsD (endP rs ++ [([122, 122], 0)])) = true := pl_ents (fun p hp => by
    rcases List.mem_append.mp hp with hp | hp
    · exact s.epok p hp
    · rw [List.mem_singleton] at hp; subst hp; exact zz_ok) (by simp; omega)
  have e2 := sl_tup ((endP rs).map entD)
  have e3 : ((endP rs).map entD).drop 1 = ((endP rs).drop 1).map entD := (List.map_drop ..).symm
  rw [e3] at e2
  have p2 : pl 3 (entsD ((endP rs).drop 1)) = true := pl_ents (fun p hp => s.epok p (List.mem_of_mem_drop hp)) (by simp; omega)
  have p3 : pl 3 (entsD ((endP rs).map fun p => (p.1, p.2 + 1))) = true := pl_ents (fun p hp => by
    obtain ⟨q, hq, rfl⟩ := List.mem_map.mp hp
    exact s.epok q hq) (by rw [List.length_map]; omega)
  have e4 := neo_ents0 s.epok
  have lt1 : 1 ≤ sizeLine := Nat.le_trans (by decide) lt2
  have lt0 : 0 ≤ sizeLine := Nat.zero_le _
  have lt7 : 7 ≤ sizeLine := by decide +kernel
  have v1 : EH CE rs (rowsD CE (entsD (endP rs ++ [([122, 122], 0)]))) false := eh_no p1 fun z => by
    have := entsD_len z
    simp at this
  have v2 : EH CE rs (rowsD CE .non) false := eh_no rfl fun z => by unfold entsD at z; cases z
  simp only [wK14, wFor, wIt, wLst, wCons, wNil, wC, w1, wL, wCall, w2, wTup, wIf, wTst, wSl, wOS, wON, wN]
  simp [datOf, lt1, lt2]
  refine ⟨_, _, rfl, rfl, _, e1, _, _, rfl, asT_pl 3 _ p1, ?_⟩
  by_cases z : endP rs = []
  · have e5 : D.neo (entsD (endP rs)) (.tup []) = some (.bl false) := by rw [e4]; simp [z]
    refine ⟨_, e5, .inl ⟨rfl, _, e5, .inl ⟨rfl, lt7, _, rfl, ?_⟩⟩⟩
    refine k14l s _ a16 (fun v hv => ?_) h
    simp only [List.mem_cons, List.not_mem_nil, or_false] at hv
    rcases hv with rfl | rfl | rfl | rfl | rfl | rfl | rfl
    · exact .no rfl
    · exact .no rfl
    · exact .no rfl
    · exact v2
    · exact v1
    · exact .no rfl
    · exact .no rfl
  · have e5 : D.neo (entsD (endP rs)) (.tup []) = some (.bl true) := by rw [e4]; simp [z]
    have hp : 0 < (endP rs).length := List.length_pos_iff.mpr z
    refine ⟨_, e5, .inr ⟨rfl, _, e2, _, _, rfl, asT_pl 3 _ p2, _, e5, .inr ⟨rfl, ?_⟩⟩⟩
    refine k14c (by omega) ?_
    refine ⟨_, rfl, _, _, rfl, asT_pl 3 _ p3, lt7, _, rfl, ?_⟩
    refine k14l s _ a16 (fun v hv => ?_) h
    simp only [List.mem_cons, List.not_mem_nil, or_false] at hv
    rcases hv with rfl | rfl | rfl | rfl | rfl | rfl | rfl
    · exact .no rfl
    · exact .no rfl
    · exact .no rfl
    · exact v2
    · exact v1
    · exact eh_no p2 fun z => by
        have := entsD_len z
        simp at this
        omega
    · refine eh_no p3 fun z => ?_
      unfold entsD at z
      injection z with z
      cases q : endP rs with
      | nil => rw [q] at hp; simp at hp
      | cons p ps =>
        rw [q, List.map_cons, List.map_cons, List.map_cons] at z
        injection z with z _
        unfold entD numD at z
        injection z with z
        injection z with _ z
        injection z with z _
        injection z with z
        omega
/-! ### the whole -/
def wK (CS CL CE : Addr) : WS := (wSeq wK1 (wSeq wK2 (wSeq (wK3 CS) (wSeq wK4 (wSeq wK5 (wSeq wK6 (wSeq (wK7 CS) (wSeq (wK8 CS CL CE) (wSeq wK9 (wSeq (wK10 CS CE) (wSeq (wK11 CS CL) (wSeq (wK12 CS CL) (wSeq (wK13 CS CL) (wK14 CS CE))))))))))))))
theorem k_lap {CS CL CE : Addr} (hc : c + 6000 < 2 ^ 39) (h : ∀ a0 a2 a3 a4 a5 a6 a7 a8 a9 a10 a11 a12 a13 a14 a15 a16 a17 a18 a19 c', c ≤ c' → c' ≤ c + 3000 → F.nx ⟨[a0, .fz .pen, a2, a3, a4, a5, a6, a7, a8, a9, a10, a11, a12, a13, a14, a15, a16, a17, a18, a19], c', none⟩) : wK CS CL CE ⟨[a0, .fz .pen, a2, a3, a4, a5, a6, a7, a8, a9, a10, a11, a12, a13, a14, a15, a16, a17, a18, a19], c, none⟩ F := by
  simp only [wK, wSeq]
  refine k1 (by omega) fun rs c1 s h1 h2 => ?_
  refine k2 s (by omega) fun rs c2 s h3 h4 => ?_
  refine k3 s (by omega) fun c3 h5 h6 => ?_
  refine k4 ?_
  refine k5 s fun a8 => ?_
  refine k6 s fun a8 a9 a10 => ?_
  refine k7 s ?_
  refine k8 s.s ?_
  refine k9 s.s ?_
  refine k10 s.s ?_
  refine k11 s.s ?_
  refine k12 s (by omega) fun a8 a14 a15 c4 h7 h8 => ?_
  refine k13 s.s fun a16 => ?_
  refine k14 s.s fun a16 => ?_
  exact h _ _ _ _ _ _ _ _ _ _ _ _ _ _ _ _ _ _ _ _ (by omega) (by omega)
theorem k_laps {CS CL CE : Addr} : ∀ (ds : List D) (a0 a2 a3 a4 a5 a6 a7 a8 a9 a10 a11 a12 a13 a14 a15 a16 a17 a18 a19 : S) (c : Nat), c + 3000 * ds.length + 6000 < 2 ^ 39 → (∀ a0 a2 a3 a4 a5 a6 a7 a8 a9 a10 a11 a12 a13 a14 a15 a16 a17 a18 a19 c', F.nx ⟨[a0, .fz .pen, a2, a3, a4, a5, a6, a7, a8, a9, a10, a11, a12, a13, a14, a15, a16, a17, a18, a19], c', none⟩) → wForR (wgN 2) (wK CS CL CE) F ds ⟨[a0, .fz .pen, a2, a3, a4, a5, a6, a7, a8, a9, a10, a11, a12, a13, a14, a15, a16, a17, a18, a19], c, none⟩
  | [], a0, a2, a3, a4, a5, a6, a7, a8, a9, a10, a11, a12, a13, a14, a15, a16, a17, a18, a19, c, _, h => by rw [wForR]; exact h _ _ _ _ _ _ _ _ _ _ _ _ _ _ _ _ _ _ _ _
  | d :: ds, a0, a2, a3, a4, a5, a6, a7, a8, a9, a10, a11, a12, a13, a14, a15, a16, a17, a18, a19, c, hc, h => by
    rw [List.length_cons] at hc
    rw [wForR]
    simp only [wgN, En.asg, List.set]
    refine k_lap (by omega) fun a0 a2 a3 a4 a5 a6 a7 a8 a9 a10 a11 a12 a13 a14 a15 a16 a17 a18 a19 c' h1 h2 => ?_
    exact k_laps ds _ _ _ _ _ _ _ _ _ _ _ _ _ _ _ _ _ _ _ c' (by omega) h
end
def spLaw : FS := fun ds c K _ => ∃ ns : List Int, ds = [.scr ns] ∧ c = 0 ∧ ∀ c', K (.bl true) c'
def W_law (CS CL CE : Addr) : WS := (wSeq (wSet 1 (wCall spPen [] (wCons (wN 0) wNil)))
  (wSeq (wFor (wRng1 (wCons (wC (.int 5)) wNil)) (wgN 2) (wK CS CL CE))
  (wRet (wC (.bl true)))))
theorem q_law (CS CL CE : Addr) (ds : List D) (c : Nat) (K KE : D → Nat → Prop) (h : spLaw ds c K KE) : W_law CS CL CE (en0 ["script", "pen", "lap", "server", "made", "lasts", "calls", "found", "place", "number", "fresh", "told", "ends", "due", "turn", "rows", "value", "call", "row", "later"] ds c) { nx := fun e => K .non e.cnt, rt := K } := by
  obtain ⟨ns, rfl, rfl, h⟩ := h
  simp only [W_law, wSeq, wSet, wCall, wCons, wNil, wN, wFor, wRng1, wC, wRet, en0]
  simp
  refine ⟨ns, rfl, ?_⟩
  simp [En.asg]
  refine k_laps _ _ _ _ _ _ _ _ _ _ _ _ _ _ _ _ _ _ _ _ 0 (by simp [rangeD]) fun a0 a2 a3 a4 a5 a6 a7 a8 a9 a10 a11 a12 a13 a14 a15 a16 a17 a18 a19 c' => ?_
  exact h c'
end DL
/-! DO, part a: what k19 asks: calls, doubts, drawn servers of up to 288 rows, the law. -/
namespace DL
open PySem PySem.Spec L2
def callsOf (rs : List Row3) : List Txt := canT (rs.map fun r => r.2.1)
def spCalls (C : Addr) : FS := fun ds c K _ => ∃ rs, ds = [serverD C rs] ∧ Srv rs ∧ K (tupT (callsOf rs)) c
def W_Server_calls (cServer : Addr) : WS := (wRet (wCall spAscending [] (wCons (wLc (wIt (w1 (D.fld cServer "rows") (wL 0))) (wgN 1) wYes (w2O 1 D.ix (wC (.int 1))) [1]) wNil)))
theorem Srv.rcok {rs : List Row3} (s : Srv rs) : ∀ x ∈ rs.map (fun r => r.2.1), TxtOk x := fun x hx => by
  obtain ⟨r, hr, rfl⟩ := List.mem_map.mp hx
  exact name_ok (s.ok r hr).2.1
theorem q_calls (C : Addr) (ds : List D) (c : Nat) (K KE : D → Nat → Prop) (h : spCalls C ds c K KE) : W_Server_calls C (en0 ["self", "row"] ds c) { nx := fun e => K .non e.cnt, rt := K } := by
  obtain ⟨rs, rfl, s, h⟩ := h
  have sz := s.sz
  have e1 : D.items (.tup (rs.map rowD)) = some (rs.map rowD) := rfl
  simp only [W_Server_calls, w1, w2, wL, wRet, wN, wCall, wCons, wNil, wLc, wIt, en0]
  simp [datOf, serverD, fld_rows, e1]
  refine lc_rows 1 (fun r => r.2.1) row_ix1 (by simp) rs (by omega) ?_
  have hlen : (rs.map fun r => r.2.1).length + 1 < 4096 := by simp; omega
  refine ⟨_, _, rfl, rfl, txt_set hlen, txts_dsrt s.rcok (by omega), ?_⟩
  rw [← canF_map unT_txtD]
  exact h
/-! ### the keys of several answers -/
abbrev srtP : List (Txt × Txt) → List (Txt × Txt) := srtF pairD unP
def keysOf (rs : List Row3) : List (Txt × Txt) := (ansOf rs).map (·.1)
def doubt (rs : List Row3) (p : Txt × Txt) : Bool := decide (1 < (ansAt (ansOf rs) p.1 p.2).length)
def doubtsOf (rs : List Row3) : List (Txt × Txt) := (srtP (keysOf rs)).filter (doubt rs)
theorem Srv.kok {rs : List Row3} (s : Srv rs) : ∀ p ∈ keysOf rs, TxtOk p.1 ∧ TxtOk p.2 := fun p hp => by
  rcases (ans_keys rs [] p).mp hp with z | ⟨r, hr, rfl⟩
  · simp at z
  · exact ⟨name_ok (s.ok r hr).1, name_ok (s.ok r hr).2.1⟩
theorem Srv.klen {rs : List Row3} (s : Srv rs) : (keysOf rs).length < 307 := by
  have := ansOf_len rs
  have := s.sz
  unfold keysOf
  rw [List.length_map]
  omega
theorem pairs_srt {l : List (Txt × Txt)} (h : ∀ p ∈ l, TxtOk p.1 ∧ TxtOk p.2) (hl : l.length < 2 ^ 20) : SrtOk (l.map pairD) where
  gd := gds_of fun d hd => by
    obtain ⟨p, hp, rfl⟩ := List.mem_map.mp hd
    exact gd_pairD (h p hp) 58
  al := fun d hd e he => by
    obtain ⟨p, _, rfl⟩ := List.mem_map.mp hd
    obtain ⟨q, _, rfl⟩ := List.mem_map.mp he
    rfl
  kind := .inl fun d hd => by
    obtain ⟨p, _, rfl⟩ := List.mem_map.mp hd
    exact ⟨_, _, rfl⟩
  sz := by rw [List.length_map]; exact Nat.le_of_lt (small hl)
theorem sort1_pairs {l : List (Txt × Txt)} (h : ∀ p ∈ l, TxtOk p.1 ∧ TxtOk p.2) (hl : l.length < 2 ^ 20) : D.sort1 (.lst (l.map pairD)) = some (.lst ((srtP l).map pairD)) := by
  rw [srtF_map unP_pairD]
  simp only [D.sort1]
  rw [if_pos (pairs_srt h hl)]
theorem list1_ans {vf : List Txt → D} {rs : List Row3} (s : Srv rs) : D.list1 (ansD vf (ansOf rs)) = some (.lst ((keysOf rs).map pairD)) := by
  have e : alK pairD (ansOf rs) = (keysOf rs).map pairD := by unfold alK keysOf; rw [List.map_map]; rfl
  show (if (alK pairD (ansOf rs)).length ≤ sizeLine then some (D.lst (alK pairD (ansOf rs))) else none) = _
  rw [e, if_pos (by rw [List.length_map]; have := s.klen; exact Nat.le_of_lt (small (by omega)))]
theorem ix_ansP {vf : List Txt → D} {rs : List Row3} {p : Txt × Txt} (h : p ∈ keysOf rs) : D.ix (ansD vf (ansOf rs)) (pairD p) = some (vf (ansAt (ansOf rs) p.1 p.2)) := by
  have e := ix_pair vf (ansOf rs) p
  have e2 := alGet_some (ansOf rs) p
  have h' : p ∈ (ansOf rs).map (·.1) := h
  unfold ansAt
  cases q : alGet (ansOf rs) p with
  | none => rw [q] at e2; simp [h'] at e2
  | some l => rw [q] at e; exact e
theorem lenD_tupT (l : List Txt) : D.lenD (tupT l) = some (.int l.length) := by
  show some (D.int (l.map txtD).length) = _
  rw [List.length_map]
theorem gt1 (n : Nat) : cGt (.int n) (.int 1) = some (.bl (decide (1 < n))) := by
  show some (D.bl (decide ((1 : Int) < (n : Int)))) = _
  refine congrArg (fun b => some (D.bl b)) (decide_eq_decide.mpr (by omega))
def spDoubts (C : Addr) : FS := fun ds c K _ => ∃ rs, ds = [serverD C rs] ∧ Srv rs ∧ K (prsD (doubtsOf rs)) c
def W_Server_doubts (cServer : Addr) : WS := (wRet (w1 D.tup1 (wLc (wIt (w1 D.sort1 (w1 D.list1 (w1 (D.fld cServer "_answers") (wL 0))))) (wgN 1) (wTst (w2 cGt (w1 D.lenD (w2 D.ix (w1 (D.fld cServer "_answers") (wL 0)) (wN 1))) (wC (.int 1)))) (wN 1) [1])))
theorem q_doubts (C : Addr) (ds : List D) (c : Nat) (K KE : D → Nat → Prop) (h : spDoubts C ds c K KE) : W_Server_doubts C (en0 ["self", "key"] ds c) { nx := fun e => K .non e.cnt, rt := K } := by
  obtain ⟨rs, rfl, s, h⟩ := h
  have kl := s.klen
  simp only [W_Server_doubts, w1, wL, wRet, wLc, wIt, en0]
  simp [datOf, serverD, fld_ans]
  refine ⟨_, list1_ans s, _, sort1_pairs s.kok (by omega), _, rfl, ?_⟩
  refine lc_genF pairD unP unP_pairD pairD (doubt rs) (by simp) _ (fun p hp K' k => ?_) (fun p hp _ K' k => ?_) (by rw [(srtF_perm unP_pairD _).length_eq]; omega) ⟨_, rfl, h⟩
  · have hp := (srtF_perm unP_pairD _).mem_iff.mp hp
    simp only [wTst, w2, w1, wL, wN, wC]
    simp [En.wipe, En.asg, datOf, fld_ans] at k ⊢
    refine ⟨_, ix_ansP hp, _, lenD_tupT _, _, gt1 _, orK (A := fun b => K' b _) k⟩
  · simp only [wN]
    simp [En.wipe, En.asg] at k ⊢
    exact k
def spDoubt : FS := fun ds c K _ => ∃ rs, ds = [lawD rs] ∧ Srv rs ∧ K (.lst ((doubtsOf rs).map pairD)) c
def W__law_doubtful_keys : WS := (wRet (wLc (wIt (w1 D.sort1 (w1 D.list1 (w2O 0 D.ix (wC (.str "answers")))))) (wgN 1) (wTst (w2 cGt (w1 D.lenD (w2 D.ix (w2O 0 D.ix (wC (.str "answers"))) (wN 1))) (wC (.int 1)))) (wN 1) [1]))
theorem q_doubtful (ds : List D) (c : Nat) (K KE : D → Nat → Prop) (h : spDoubt ds c K KE) : W__law_doubtful_keys (en0 ["server", "key"] ds c) { nx := fun e => K .non e.cnt, rt := K } := by
  obtain ⟨rs, rfl, s, h⟩ := h
  have kl := s.klen
  simp only [W__law_doubtful_keys, w1, w2O, wC, wRet, wLc, wIt, en0]
  simp [datOf]
  refine ⟨_, lawD_ans rs, _, list1_ans s, _, sort1_pairs s.kok (by omega), _, rfl, ?_⟩
  refine lc_genF pairD unP unP_pairD pairD (doubt rs) (by simp) _ (fun p hp K' k => ?_) (fun p hp _ K' k => ?_) (by rw [(srtF_perm unP_pairD _).length_eq]; omega) h
  · have hp := (srtF_perm unP_pairD _).mem_iff.mp hp
    simp only [wTst, w2, w1, w2O, wN, wC]
    simp [En.wipe, En.asg, datOf] at k ⊢
    refine ⟨_, lawD_ans rs, _, ix_ansP hp, _, lenD_lstT _, _, gt1 _, orK (A := fun b => K' b _) k⟩
  · simp only [wN]
    simp [En.wipe, En.asg] at k ⊢
    exact k
/-! ### answers of what is no text -/
def spAnswersW (C : Addr) : FS := fun ds c K KE => (∃ rs a b, ds = [serverD C rs, a, b] ∧ D.isI (tabB ["str"]) a = some (.bl false) ∧ K (.tup []) c) ∨ spAnswers C ds c K KE
theorem q_answersW (C : Addr) (ds : List D) (c : Nat) (K KE : D → Nat → Prop) (h : spAnswersW C ds c K KE) : W_Server_answers C (en0 ["self", "gate", "call"] ds c) { nx := fun e => K .non e.cnt, rt := K } := by
  rcases h with ⟨rs, a, b, rfl, ha, h⟩ | h
  · simp only [W_Server_answers, wSeq, wIfS, wOr, wNot, wTru, w1, wL, wRet, wNx, wN, wM, wCons, wNil, wTup, en0]
    simp [datOf, ha, D.tru]
    exact h
  · exact q_answers C ds c K KE h
/-! ### drawn rows -/
def spSomeSrv : FS := fun ds c K _ => ∃ cs ps : List Txt, ∃ sh : Int, ds = [.pen, lstT cs, lstT ps, .int sh] ∧ (∀ x ∈ cs, nameL x = true) ∧ (∀ x ∈ ps, nameL x = true) ∧ cs ≠ [] ∧ ps ≠ [] ∧ cs.length ≤ 6 ∧ ps.length ≤ 16 ∧ c + 2000 < 2 ^ 40 ∧ ∀ rs c', Srv rs → canR rs = rs → c ≤ c' → c' ≤ c + 600 → K (lawD rs) c'
def wSrv3 : WS := (wDrop (wLM 4 lmApp (wCons (wTup (wCons (wN 5) (wCons (wN 6) (wCons (wCall spPick [] (wCons (wN 0) (wCons (wN 2) wNil))) wNil)))) wNil)))
def wSrv2 : WS := (wIfS (wTst (w2 cLt (wCall spDraw [] (wCons (wN 0) (wCons (wC (.int 10)) wNil))) (wN 3))) (wFor (wRng1 (wCons (wCall spPick [] (wCons (wN 0) (wCons (wLst (wCons (wC (.int 1)) (wCons (wC (.int 1)) (wCons (wC (.int 1)) (wCons (wC (.int 2)) (wCons (wC (.int 2)) (wCons (wC (.int 3)) wNil))))))) wNil))) wNil)) (wgN 7) wSrv3) wNx)
def wSrv1 : WS := (wFor (wIt (wN 1)) (wgN 6) wSrv2)
def W__law_some_server : WS := (wSeq (wSetN 4 (wLst wNil))
  (wSeq (wFor (wIt (wN 2)) (wgN 5) wSrv1)
  (wSeq (wIfS (wTst (w2O 4 D.eqo (wLst wNil))) (wSetN 4 (wLst (wCons (wTup (wCons (w2O 2 D.ix (wC (.int 0))) (wCons (w2O 1 D.ix (wC (.int 0))) (wCons (w2O 2 D.ix (w1 D.neg (wC (.int 1)))) wNil)))) wNil))) wNx)
  (wRet (wCall spLServer [] (wCons (wN 4) wNil))))))
theorem srv3 {F : Fn} {ps cs : List Txt} {s3 : S} {p y : Txt} (hp : nameL p = true) (hy : nameL y = true) (hps : ∀ x ∈ ps, nameL x = true) (pne : 0 < ps.length) (pl : ps.length < 100) : ∀ (ds : List D) (rows : List Row3) (n c : Nat) (s7 : S), RowsAt ps cs rows n → n + ds.length < 1000 → c + ds.length < 2 ^ 49 →
    (∀ rows s7, RowsAt ps cs rows (n + ds.length) → F.nx ⟨[.fz .pen, .fz (lstT cs), .fz (lstT ps), s3, .ow (rowsL rows), .fz (txtD p), .fz (txtD y), s7], c + ds.length, none⟩) →
    wForR (wgN 7) wSrv3 F ds ⟨[.fz .pen, .fz (lstT cs), .fz (lstT ps), s3, .ow (rowsL rows), .fz (txtD p), .fz (txtD y), s7], c, none⟩
  | [], rows, n, c, s7, r, _, _, h => by simpa [wForR] using h rows s7 r
  | d :: ds, rows, n, c, s7, r, hn, hc, h => by
    rw [List.length_cons] at hn hc
    have ih := srv3 (F := F) (cs := cs) (s3 := s3) hp hy hps pne pl ds
    rw [wForR]
    generalize wForR (wgN 7) wSrv3 F ds = R at ih
    simp only [wSrv3, wgN, wDrop, wLM, wCons, wTup, wNil, wN, wCall]
    simp [En.asg, owned, En.put, rowsL]
    refine ⟨_, _, rfl, rfl, by rw [List.length_map]; exact pne, by rw [List.length_map]; omega, by omega, fun x hx => ⟨by have := small (n := 3) (by omega); omega, ?_⟩⟩
    obtain ⟨o, ho, rfl⟩ := List.mem_map.mp hx
    have e1 := r.sz
    refine ⟨_, _, lmApp_ok (by rw [List.length_map]; exact small (by omega)), ?_⟩
    have := ih (rows ++ [(p, y, o)]) (n + 1) (c + 1) (.fz d) (r.add ⟨hp, hy, hps o ho⟩) (by omega) (by omega) fun rows s7 r' => by
      have := h rows s7 (by rw [List.length_cons]; rw [show n + (ds.length + 1) = n + 1 + ds.length by omega]; exact r')
      rw [List.length_cons] at this
      rw [show c + 1 + ds.length = c + (ds.length + 1) by omega]
      exact this
    simpa [rowsL, rowD, txtD] using this
theorem srv2 {F : Fn} {ps cs : List Txt} {sh : Int} {p : Txt} (hp : nameL p = true) (hps : ∀ x ∈ ps, nameL x = true) (pne : 0 < ps.length) (pl : ps.length < 100) : ∀ (ys : List Txt) (rows : List Row3) (n c : Nat) (s6 s7 : S), (∀ y ∈ ys, nameL y = true) → RowsAt ps cs rows n → n + 3 * ys.length < 900 → c + 5 * ys.length < 2 ^ 48 →
    (∀ rows s6 s7 c', RowsAt ps cs rows (n + 3 * ys.length) → c ≤ c' → c' ≤ c + 5 * ys.length → F.nx ⟨[.fz .pen, .fz (lstT cs), .fz (lstT ps), .fz (.int sh), .ow (rowsL rows), .fz (txtD p), s6, s7], c', none⟩) →
    wForR (wgN 6) wSrv2 F (ys.map txtD) ⟨[.fz .pen, .fz (lstT cs), .fz (lstT ps), .fz (.int sh), .ow (rowsL rows), .fz (txtD p), s6, s7], c, none⟩
  | [], rows, n, c, s6, s7, _, r, _, _, h => by simpa [wForR] using h rows s6 s7 c r (Nat.le_refl _) (Nat.le_refl _)
  | y :: ys, rows, n, c, s6, s7, hy, r, hn, hc, h => by
    rw [List.length_cons] at hn hc
    have ih := srv2 (F := F) (cs := cs) (sh := sh) hp hps pne pl ys
    rw [List.map_cons, wForR]
    generalize wForR (wgN 6) wSrv2 F (ys.map txtD) = R at ih
    have go : ∀ (rows : List Row3) (s7 : S) (c' : Nat), RowsAt ps cs rows (n + 3) → c ≤ c' → c' ≤ c + 5 → R ⟨[.fz .pen, .fz (lstT cs), .fz (lstT ps), .fz (.int sh), .ow (rowsL rows), .fz (txtD p), .fz (txtD y), s7], c', none⟩ := fun rows s7 c' r' h1 h2 =>
      ih rows (n + 3) c' (.fz (txtD y)) s7 (fun z hz => hy z (List.mem_cons_of_mem _ hz)) r' (by omega) (by omega) fun rows s6 s7 c2 r2 h3 h4 =>
        h rows s6 s7 c2 (by rw [List.length_cons, show n + 3 * (ys.length + 1) = n + 3 + 3 * ys.length by omega]; exact r2) (by omega) (by rw [List.length_cons]; omega)
    simp only [wSrv2, wgN, wIfS, wTst, w2, wCall, wCons, wNil, wN, wC, wFor, wRng1, wNx, wLst]
    simp [En.asg]
    refine ⟨10, rfl, by omega, by omega, by omega, fun q q0 q1 => ⟨_, rfl, orb ?_⟩⟩
    by_cases z : q < sh
    · rw [if_pos (by simpa using z)]
      have lt6 : 6 ≤ sizeLine := by decide +kernel
      refine ⟨lt6, _, _, rfl, rfl, by decide, by decide, by omega, fun x hx => ?_⟩
      have hx3 : ∃ t : Nat, x = .int t ∧ t ≤ 3 := by
        simp only [List.mem_cons, List.not_mem_nil, or_false] at hx
        rcases hx with rfl | rfl | rfl | rfl | rfl | rfl
        · exact ⟨1, rfl, by decide⟩
        · exact ⟨1, rfl, by decide⟩
        · exact ⟨1, rfl, by decide⟩
        · exact ⟨2, rfl, by decide⟩
        · exact ⟨2, rfl, by decide⟩
        · exact ⟨3, rfl, by decide⟩
      obtain ⟨t, rfl, ht⟩ := hx3
      refine ⟨t, rfl, by omega, by omega, ?_⟩
      have e3 : (rangeD 0 (t : Int).toNat).length = t := by simp [rangeD]
      refine srv3 hp (hy y List.mem_cons_self) hps pne pl _ rows n (c + 1 + 1) s7 r (by rw [e3]; omega) (by rw [e3]; omega) fun rows s7 r' => ?_
      rw [e3] at r' ⊢
      exact go rows s7 _ (r'.mono (by omega)) (by omega) (by omega)
    · rw [if_neg (by simpa using z)]
      exact go rows s7 _ (r.mono (by omega)) (by omega) (by omega)
theorem srv1 {F : Fn} {ps cs : List Txt} {sh : Int} (hps : ∀ x ∈ ps, nameL x = true) (pne : 0 < ps.length) (pl : ps.length < 100) (hcs : ∀ y ∈ cs, nameL y = true) (cl : cs.length ≤ 6) : ∀ (qs : List Txt) (rows : List Row3) (n c : Nat) (s5 s6 s7 : S), (∀ y ∈ qs, nameL y = true) → RowsAt ps cs rows n → n + 18 * qs.length < 800 → c + 30 * qs.length < 2 ^ 47 →
    (∀ rows s5 s6 s7 c', RowsAt ps cs rows (n + 18 * qs.length) → c ≤ c' → c' ≤ c + 30 * qs.length → F.nx ⟨[.fz .pen, .fz (lstT cs), .fz (lstT ps), .fz (.int sh), .ow (rowsL rows), s5, s6, s7], c', none⟩) →
    wForR (wgN 5) wSrv1 F (qs.map txtD) ⟨[.fz .pen, .fz (lstT cs), .fz (lstT ps), .fz (.int sh), .ow (rowsL rows), s5, s6, s7], c, none⟩
  | [], rows, n, c, s5, s6, s7, _, r, _, _, h => by simpa [wForR] using h rows s5 s6 s7 c r (Nat.le_refl _) (Nat.le_refl _)
  | q :: qs, rows, n, c, s5, s6, s7, hq, r, hn, hc, h => by
    rw [List.length_cons] at hn hc
    have ih := srv1 (F := F) (sh := sh) hps pne pl hcs cl qs
    rw [List.map_cons, wForR]
    generalize wForR (wgN 5) wSrv1 F (qs.map txtD) = R at ih
    simp only [wSrv1, wgN, wFor, wIt, wN]
    simp [En.asg]
    refine ⟨_, rfl, ?_⟩
    refine srv2 (hq q List.mem_cons_self) hps pne pl cs rows n c s6 s7 hcs r (by omega) (by omega) fun rows s6 s7 c' r' h1 h2 => ?_
    refine ih rows (n + 18) c' (.fz (txtD q)) s6 s7 (fun z hz => hq z (List.mem_cons_of_mem _ hz)) (r'.mono (by omega)) (by omega) (by omega) fun rows s5 s6 s7 c2 r2 h3 h4 => ?_
    exact h rows s5 s6 s7 c2 (by rw [List.length_cons, show n + 18 * (qs.length + 1) = n + 18 + 18 * qs.length by omega]; exact r2) (by omega) (by rw [List.length_cons]; omega)
theorem q_somesrv (ds : List D) (c : Nat) (K KE : D → Nat → Prop) (h : spSomeSrv ds c K KE) : W__law_some_server (en0 ["pen", "calls", "places", "share", "rows", "place", "call", "turn"] ds c) { nx := fun e => K .non e.cnt, rt := K } := by
  obtain ⟨cs, ps, sh, rfl, h1, h1p, h2, h2p, h3, h3p, h6, h⟩ := h
  have pne : 0 < ps.length := List.length_pos_iff.mpr h2p
  simp only [W__law_some_server, wSeq, wSetN, wCall, wLst, wNil, wCons, wFor, wIt, w1, wRet, wN, wIfS, wTst, w2O, wC, wNx, en0]
  simp [En.asg]
  refine ⟨_, rfl, ?_⟩
  refine srv1 (ps := ps) (cs := cs) h1p pne (by omega) h1 h3 ps [] 0 c .un .un .un h1p ⟨(fun _ z => nomatch z), Nat.le_refl _⟩ (by omega) (by omega) fun rows s5 s6 s7 c2 r k1 k2 => ?_
  have sz := r.sz
  have fin : ∀ rows : List Row3, (∀ r ∈ rows, RowOk r) → rows.length ≤ 288 → spLServer [rowsL rows] c2 (fun d c => K d c) (fun _ _ => False) := fun rows ok sz => by
    have hc : (canR rows).length ≤ rows.length := canF_len _
    refine ⟨_, rows, rfl, rfl, ok, by omega, ?_⟩
    exact h _ c2 ⟨fun r hr => ok r ((canF_mem unR_rowD).mp hr), by omega⟩ (canR_canR ok (by omega)) (by omega) (by omega)
  simp [datOf]
  refine ⟨_, eqo_rows0 r.ok, orb ?_⟩
  by_cases z : rows = []
  · rw [if_pos (by simpa using z)]
    have lc : 0 < cs.length := List.length_pos_iff.mpr h2
    obtain ⟨x1, m1, f1⟩ := ixT (l := ps) (i := 0) (by omega) (by omega)
    obtain ⟨x2, m2, f2⟩ := ixT (l := cs) (i := 0) (by omega) (by omega)
    obtain ⟨x3, m3, f3⟩ := ixT (l := ps) (i := -1) (by omega) (by omega)
    simp only [wCons, wTup, wNil, w2O, w1, wC]
    simp [datOf]
    refine ⟨_, f1, _, f2, _, rfl, _, f3, by have := small (n := 3) (by omega); omega, by have := small (n := 1) (by omega); omega, ?_⟩
    exact fin [(x1, x2, x3)] (fun r hr => by
      rw [List.mem_singleton] at hr
      subst hr
      exact ⟨h1p x1 m1, h1 x2 m2, h1p x3 m3⟩) (by simp)
  · rw [if_neg (by simpa using z)]
    exact fin rows r.ok (by omega)
end DL
/-! DO, part b: the law of k19. -/
namespace DL
open PySem PySem.Spec L2
def w19a1 : WS := (wSet 1 (wCall spPen [] (wCons (wN 0) wNil)))
def w19a2 : WS := (wSet 2 (w2 D.eqo (wCall spDraw [] (wCons (wN 1) (wCons (wC (.int 5)) wNil))) (wC (.int 0))))
def w19a3 : WS := (wSetN 3 (w1 D.sort1 (wCall spNames [] (wCons (wN 1) (wCons (wIf (wTru (wN 2)) (wC (.int 6)) (w2 D.add (wC (.int 1)) (wCall spDraw [] (wCons (wN 1) (wCons (wC (.int 4)) wNil))))) wNil)))))
def w19a4 : WS := (wSet 4 (wCall spSomeSrv [] (wCons (wN 1) (wCons (wN 3) (wCons (wCall spNames [] (wCons (wN 1) (wCons (wIf (wTru (wN 2)) (wC (.int 16)) (w2 D.add (wC (.int 1)) (wCall spDraw [] (wCons (wN 1) (wCons (wC (.int 5)) wNil))))) wNil))) (wCons (wIf (wTru (wN 2)) (wC (.int 5)) (wC (.int 7))) wNil))))))
def w19a5 : WS := (wSet 4 (wCall spLServer [] (wCons (wSl (w2O 4 D.ix (wC (.str "rows"))) wON (wOS (wC (.int 120)))) wNil)))
def w19b (CS : Addr) : WS := (wSet 5 (wCall (spMade CS) [] (wCons (wN 1) (wCons (wN 4) wNil))))
def w19c (CS : Addr) : WS := (wIfS (wOr (wNot (wTru (wCall (spLSame 3) [] (wCons (wMeth CS "gates" (spGates CS) [] (wN 5) wNil) (wCons (w1 D.tup1 (w2O 4 D.ix (wC (.str "places")))) wNil))))) (wNot (wTru (wCall (spLSame 3) [] (wCons (wMeth CS "calls" (spCalls CS) [] (wN 5) wNil) (wCons (w1 D.tup1 (w1 D.sortSet (wLc (wIt (w2O 4 D.ix (wC (.str "rows")))) (wgN 8) wYes (w2O 8 D.ix (wC (.int 1))) [8]))) wNil)))))) (wRet (wC (.bl false))) wNx)
def w19d (CS : Addr) : WS := (wIfS (wNot (wTru (wCall (spLSame 3) [] (wCons (wMeth CS "doubts" (spDoubts CS) [] (wN 5) wNil) (wCons (w1 D.tup1 (wCall spDoubt [] (wCons (wN 4) wNil))) wNil))))) (wRet (wC (.bl false))) wNx)
def w19f (CS : Addr) : WS := (wIfS (wNot (wTru (wCall (spLSame 3) [] (wCons (wMeth CS "answers" (spAnswersW CS) [] (wN 5) (wCons (wN 6) (wCons (wN 7) wNil))) (wCons (w1 D.tup1 (wM D.get1 (w2O 4 D.ix (wC (.str "answers"))) (wCons (wTup (wCons (wN 6) (wCons (wN 7) wNil))) (wCons (wLst wNil) wNil)))) wNil))))) (wRet (wC (.bl false))) wNx)
def w19e (CS : Addr) : WS := (wSeq (wIfS (wNot (wTru (wCall (spLSame 3) [] (wCons (wMeth CS "known" (spKnown CS) [] (wN 5) (wCons (wN 6) wNil)) (wCons (w1 D.tup1 (wCall spCallsAt [] (wCons (wN 4) (wCons (wN 6) wNil)))) wNil))))) (wRet (wC (.bl false))) wNx)
  (wFor (wIt (w2 D.add (wN 3) (wLst (wCons (wC (.str "zzi")) wNil)))) (wgN 7) (w19f CS)))
def w19g (CS : Addr) : WS := (wRet (wAndV (w2 D.eqo (wMeth CS "answers" (spAnswersW CS) [] (wN 5) (wCons (wC .non) (wCons (wLst (wCons (wC (.str "a")) wNil)) wNil))) (wTup wNil)) (w2 D.eqo (wMeth CS "answers" (spAnswersW CS) [] (wN 5) (wCons (wC (.int 5)) (wCons (wC (.str "a")) wNil))) (wTup wNil))))
theorem zzi_eq : (.str "zzi" : D) = txtD [122, 122, 105] := by decide +kernel
theorem zzi_ok : TxtOk [122, 122, 105] := by decide +kernel
theorem ncl : ("calls" : Str) ∉ (["rows", "_answers", "_known"] : List Str) := by decide +kernel
theorem ndo : ("doubts" : Str) ∉ (["rows", "_answers", "_known"] : List Str) := by decide +kernel
theorem sl_lst {ys : List D} {n : Nat} : D.sl (.lst ys) none (some (n : Int)) = some (.lst (ys.take n)) := by
  show some (D.lst (cutD ys none (some (n : Int)))) = _
  rw [cut_to]
abbrev E9 (s0 s2 : S) (cs : List Txt) (s4 s5 s6 s7 s8 : S) (c : Nat) : En := ⟨[s0, .fz .pen, s2, .fz (lstT cs), s4, s5, s6, s7, s8], c, none⟩
section
variable {F : Fn} {s0 s4 s5 s6 s7 s8 : S} {c : Nat}
theorem k19a1 {ns : List Int} {s1 s2 s3 : S} (h : F.nx ⟨[.fz (.scr ns), .fz .pen, s2, s3, s4, s5, s6, s7, s8], c, none⟩) : w19a1 ⟨[.fz (.scr ns), s1, s2, s3, s4, s5, s6, s7, s8], c, none⟩ F := by
  simp only [w19a1, wSet, wCall, wCons, wNil, wN]
  simp [En.asg]
  exact ⟨ns, rfl, h⟩
theorem k19a2 {s2 s3 : S} (hc : c < 100) (h : ∀ b, F.nx ⟨[s0, .fz .pen, .fz (.bl b), s3, s4, s5, s6, s7, s8], c + 1, none⟩) : w19a2 ⟨[s0, .fz .pen, s2, s3, s4, s5, s6, s7, s8], c, none⟩ F := by
  simp only [w19a2, wSet, wCall, wCons, wNil, wN, w2, wC]
  simp [En.asg]
  exact ⟨5, rfl, by omega, by omega, by omega, fun q q0 q1 => ⟨_, eqo_int q 0, h _⟩⟩
theorem names_sp {many c : Nat} {K : D → Nat → Prop} {KE : D → Nat → Prop} (hm : 1 ≤ many) (hm2 : many ≤ 16) (hc : c < 10000) (h : ∀ ls c', (∀ x ∈ ls, nameL x = true) → ls ≠ [] → ls.length = many → c ≤ c' → c' ≤ c + 176 → K (lstT ls) c') : spNames [.pen, .int many] c K KE := by
  refine ⟨many, rfl, by omega, by omega, fun ws w0 c1 g1 g2 g3 g4 g5 => ?_⟩
  obtain ⟨ls, e1, e2, e3⟩ := names_txt g1 (by omega) g2 g3
  rw [e1]
  exact h ls c1 e2 (fun z => by rw [z] at e3; simp at e3; omega) e3 g4 (by omega)
theorem k19a3 {b : Bool} {s3 : S} (hc : c < 100) (h : ∀ cs c', (∀ x ∈ cs, nameL x = true) → cs ≠ [] → cs.length ≤ 6 → c' ≤ c + 200 → F.nx ⟨[s0, .fz .pen, .fz (.bl b), .ow (lstT cs), s4, s5, s6, s7, s8], c', none⟩) :
    w19a3 ⟨[s0, .fz .pen, .fz (.bl b), s3, s4, s5, s6, s7, s8], c, none⟩ F := by
  have go : ∀ (many c1 : Nat), 1 ≤ many → many ≤ 6 → c1 ≤ c + 1 → spNames [.pen, .int many] c1 (fun d c' => ∃ z, D.sort1 d = some z ∧ F.nx ⟨[s0, .fz .pen, .fz (.bl b), .ow z, s4, s5, s6, s7, s8], c', none⟩) (fun _ _ => False) := fun many c1 h1 h2 h3 =>
    names_sp h1 (by omega) (by omega) fun ls c' e1 e2 e3 e4 e5 => ⟨_, sort1_P (fun x hx => name_ok (e1 x hx)) (by omega), h _ c' (srt_names e1) (fun z => by
      have := (srtF_perm unT_txtD ls).length_eq
      have z : srtF txtD unT ls = [] := z
      rw [z, List.length_nil] at this
      omega) (by rw [(srtF_perm unT_txtD ls).length_eq]; omega) (by omega)⟩
  simp only [w19a3, wSetN, wCall, wCons, wNil, wN, w1, w2, wC, wIf, wTru]
  cases b with
  | true =>
    simp [En.asg, D.tru]
    exact go 6 c (by omega) (by omega) (by omega)
  | false =>
    simp [En.asg, D.tru]
    refine ⟨4, rfl, by omega, by omega, by omega, fun q q0 q1 => ⟨.int (1 + q), rfl, ?_⟩⟩
    have := go (1 + q).toNat (c + 1) (by omega) (by omega) (by omega)
    rw [Int.toNat_of_nonneg (by omega)] at this
    exact this
theorem k19a4 {b : Bool} {cs : List Txt} (h1 : ∀ x ∈ cs, nameL x = true) (h2 : cs ≠ []) (h3 : cs.length ≤ 6) (hc : c < 1000) (h : ∀ rs c', Srv rs → canR rs = rs → c' ≤ c + 1000 → F.nx ⟨[s0, .fz .pen, .fz (.bl b), .fz (lstT cs), .fz (lawD rs), s5, s6, s7, s8], c', none⟩) :
    w19a4 ⟨[s0, .fz .pen, .fz (.bl b), .ow (lstT cs), s4, s5, s6, s7, s8], c, none⟩ F := by
  have go : ∀ (many c1 : Nat) (sh : Int), 1 ≤ many → many ≤ 16 → c1 ≤ c + 1 → spNames [.pen, .int many] c1 (fun d c' => spSomeSrv [.pen, lstT cs, d, .int sh] c' (fun d c' => F.nx ⟨[s0, .fz .pen, .fz (.bl b), .fz (lstT cs), .fz d, s5, s6, s7, s8], c', none⟩) (fun _ _ => False)) (fun _ _ => False) := fun many c1 sh g1 g2 g3 =>
    names_sp g1 g2 (by omega) fun ps c' e1 e2 e3 e4 e5 => ⟨cs, ps, sh, rfl, h1, e1, h2, e2, h3, by omega, by omega, fun rs c2 s hcn k1 k2 => h rs c2 s hcn (by omega)⟩
  simp only [w19a4, wSet, wCall, wCons, wNil, wN, w2, wC, wIf, wTru]
  cases b with
  | true =>
    simp [En.asg, En.put, D.tru]
    exact go 16 c 5 (by omega) (by omega) (by omega)
  | false =>
    simp [En.asg, En.put, D.tru]
    refine ⟨5, rfl, by omega, by omega, by omega, fun q q0 q1 => ⟨.int (1 + q), rfl, ?_⟩⟩
    have := go (1 + q).toNat (c + 1) 7 (by omega) (by omega) (by omega)
    rw [Int.toNat_of_nonneg (by omega)] at this
    exact this
theorem k19a5 {rs : List Row3} (s : Srv rs) {s2 s3 : S} (h : ∀ rs, Srv rs → rs.length ≤ 120 → canR rs = rs → F.nx ⟨[s0, .fz .pen, s2, s3, .fz (lawD rs), s5, s6, s7, s8], c, none⟩) : w19a5 ⟨[s0, .fz .pen, s2, s3, .fz (lawD rs), s5, s6, s7, s8], c, none⟩ F := by
  simp only [w19a5, wSet, wCall, wCons, wNil, wSl, wON, wOS, w2O, wC]
  simp [datOf, En.asg]
  have hc : (canR (rs.take 120)).length ≤ (rs.take 120).length := canF_len _
  have ok : ∀ r ∈ rs.take 120, RowOk r := fun r hr => s.ok r (List.mem_of_mem_take hr)
  rw [List.length_take] at hc
  have e4 : (rs.map rowD).take 120 = (rs.take 120).map rowD := (List.map_take ..).symm
  refine ⟨_, lawD_rows rs, _, sl_lst (n := 120), _, rs.take 120, rfl, by rw [e4]; rfl, ok, by rw [List.length_take]; omega, ?_⟩
  exact h _ ⟨fun r hr => ok r ((canF_mem unR_rowD).mp hr), by omega⟩ (by omega) (canR_canR ok (by rw [List.length_take]; omega))
theorem k19b {CS : Addr} {rs : List Row3} (s : Srv rs) (hl : rs.length ≤ 120) (hcn : canR rs = rs) (hc : c < 5000) {s2 s3 : S} (h : ∀ c', F.nx ⟨[s0, .fz .pen, s2, s3, .fz (lawD rs), .fz (serverD CS rs), s6, s7, s8], c', none⟩) : w19b CS ⟨[s0, .fz .pen, s2, s3, .fz (lawD rs), s5, s6, s7, s8], c, none⟩ F := by
  simp only [w19b, wSet, wCall, wCons, wNil, wN]
  simp [En.asg]
  exact ⟨rs, rfl, s, by omega, hcn, by omega, fun c' _ _ => h c'⟩
theorem k19c {CS : Addr} {rs : List Row3} (s : Srv rs) {s2 s3 : S} (h : F.nx ⟨[s0, .fz .pen, s2, s3, .fz (lawD rs), .fz (serverD CS rs), s6, s7, s8], c, none⟩) : w19c CS ⟨[s0, .fz .pen, s2, s3, .fz (lawD rs), .fz (serverD CS rs), s6, s7, s8], c, none⟩ F := by
  have gl := s.glen
  have sz := s.sz
  have p1 := pl_tupT s.gok (by omega)
  have hcl : (callsOf rs).length ≤ (rs.map fun r => r.2.1).length := canF_len _
  rw [List.length_map] at hcl
  have cok : ∀ x ∈ callsOf rs, TxtOk x := fun x hx => s.rcok x ((canF_mem unT_txtD).mp hx)
  have p2 := pl_tupT cok (by omega)
  have e2 := sortSet_P s.rcok (by rw [List.length_map]; omega)
  simp only [w19c, wIfS, wOr, wNot, wTru, wCall, wCons, wNil, wMeth, wN, w1, w2O, wC, wLc, wIt, wRet, wNx]
  simp [datOf]
  refine ⟨⟨_, ⟨_, rfl⟩, nga⟩, rs, rfl, s.ok, s.sz, _, lawD_places rs, _, rfl, _, _, rfl, p1, p1, .inr ⟨by simp [tupT, D.tru], ?_⟩⟩
  refine ⟨⟨_, ⟨_, rfl⟩, ncl⟩, rs, rfl, s, _, lawD_rows rs, _, rfl, ?_⟩
  refine lc_rows 1 (fun r => r.2.1) row_ix1 (by simp) rs (by omega) ?_
  exact ⟨_, e2, _, rfl, _, _, rfl, p2, p2, .inr ⟨by simp [callsOf, tupT, D.tru], h⟩⟩
theorem k19d {CS : Addr} {rs : List Row3} (s : Srv rs) {s2 s3 : S} (h : F.nx ⟨[s0, .fz .pen, s2, s3, .fz (lawD rs), .fz (serverD CS rs), s6, s7, s8], c, none⟩) : w19d CS ⟨[s0, .fz .pen, s2, s3, .fz (lawD rs), .fz (serverD CS rs), s6, s7, s8], c, none⟩ F := by
  have kl := s.klen
  have dl : (doubtsOf rs).length < 2 ^ 20 := Nat.lt_of_le_of_lt (List.length_filter_le _ _) (by rw [(srtF_perm unP_pairD _).length_eq]; omega)
  have p1 : pl 3 (prsD (doubtsOf rs)) = true := pl_pairs (fun p hp => s.kok p ((srtF_perm unP_pairD _).mem_iff.mp (List.mem_filter.mp hp).1)) dl
  simp only [w19d, wIfS, wNot, wTru, wCall, wCons, wNil, wMeth, wN, w1, wRet, wNx]
  simp
  exact ⟨⟨_, ⟨_, rfl⟩, ndo⟩, rs, rfl, s, rs, rfl, s, _, rfl, _, _, rfl, p1, p1, .inr ⟨by simp [prsD, D.tru], h⟩⟩
theorem k19f {CS : Addr} {rs : List Row3} (s : Srv rs) {s2 s3 : S} {p y : Txt} (h : F.nx ⟨[s0, .fz .pen, s2, s3, .fz (lawD rs), .fz (serverD CS rs), .fz (txtD p), .fz (txtD y), s8], c, none⟩) :
    w19f CS ⟨[s0, .fz .pen, s2, s3, .fz (lawD rs), .fz (serverD CS rs), .fz (txtD p), .fz (txtD y), s8], c, none⟩ F := by
  have p1 := pl_tupT (l := ansAt (ansOf rs) p y) (fun x hx => s.aok hx) (s.ans p y)
  have e1 := get1_pair lstT (ansOf rs) (p, y) (.lst [])
  rw [getD_lstT] at e1
  simp only [w19f, wIfS, wNot, wTru, wCall, wCons, wNil, wMeth, wM, wTup, wLst, w2O, wC, wN, w1, wRet, wNx]
  simp [datOf, lt2]
  refine ⟨⟨_, ⟨_, rfl⟩, nan⟩, .inr ⟨rs, p, y, rfl, _, lawD_ans rs, ⟨_, _, rfl⟩, _, e1, _, rfl, _, _, rfl, p1, p1, .inr ⟨by simp [ansAt, tupT, D.tru], h⟩⟩⟩
theorem k19fl {CS : Addr} {rs : List Row3} (s : Srv rs) {s2 s3 : S} {p : Txt} : ∀ (ys : List Txt) (s7 : S), (∀ s7, F.nx ⟨[s0, .fz .pen, s2, s3, .fz (lawD rs), .fz (serverD CS rs), .fz (txtD p), s7, s8], c, none⟩) →
    wForR (wgN 7) (w19f CS) F (ys.map txtD) ⟨[s0, .fz .pen, s2, s3, .fz (lawD rs), .fz (serverD CS rs), .fz (txtD p), s7, s8], c, none⟩
  | [], s7, h => by simpa [wForR] using h s7
  | y :: ys, s7, h => by
    have ih := k19fl s ys (.fz (txtD y)) h
    rw [List.map_cons, wForR]
    generalize wForR (wgN 7) (w19f CS) F (ys.map txtD) = R at ih
    simp only [wgN, En.asg, List.set]
    exact k19f s ih
theorem k19el {CS : Addr} {rs : List Row3} (s : Srv rs) {s2 : S} {cs : List Txt} (hcs : cs.length < 100) : ∀ (qs : List Txt) (s6 s7 : S), (∀ q ∈ qs, TxtOk q) → (∀ s6 s7, F.nx ⟨[s0, .fz .pen, s2, .fz (lstT cs), .fz (lawD rs), .fz (serverD CS rs), s6, s7, s8], c, none⟩) →
    wForR (wgN 6) (w19e CS) F (qs.map txtD) ⟨[s0, .fz .pen, s2, .fz (lstT cs), .fz (lawD rs), .fz (serverD CS rs), s6, s7, s8], c, none⟩
  | [], s6, s7, _, h => by simpa [wForR] using h s6 s7
  | q :: qs, s6, s7, hq, h => by
    have ih := fun s7 => k19el (CS := CS) s hcs qs (.fz (txtD q)) s7 (fun x hx => hq x (List.mem_cons_of_mem _ hx)) h
    rw [List.map_cons, wForR]
    generalize wForR (wgN 6) (w19e CS) F (qs.map txtD) = R at ih
    have p1 := pl_tupT (l := srtT (callsRaw (ansOf rs) q)) (fun x hx => s.caok hx) (s.calls q)
    have e1 := add_lst (l := cs) (m := [[122, 122, 105]]) (by simp; omega)
    have lt1 : 1 ≤ sizeLine := Nat.le_trans (by decide) lt2
    simp only [w19e, wgN, wSeq, wIfS, wNot, wTru, wCall, wCons, wNil, wMeth, wN, w1, w2, wC, wFor, wIt, wLst, wRet, wNx]
    simp [En.asg, lt1]
    refine ⟨⟨_, ⟨_, rfl⟩, nkn⟩, rs, q, rfl, rs, q, rfl, s, hq q List.mem_cons_self, _, rfl, _, _, rfl, p1, p1, .inr ⟨by simp [callsAt, tupT, D.tru], ?_⟩⟩
    rw [zzi_eq]
    refine ⟨_, e1, _, rfl, ?_⟩
    exact k19fl s (cs ++ [[122, 122, 105]]) s7 fun s7 => ih s7
theorem k19g {CS : Addr} {rs : List Row3} {s2 s3 : S} (h : F.rt (.bl true) c) : w19g CS ⟨[s0, .fz .pen, s2, s3, .fz (lawD rs), .fz (serverD CS rs), s6, s7, s8], c, none⟩ F := by
  have lt1 : 1 ≤ sizeLine := Nat.le_trans (by decide) lt2
  have e1 : D.eqo (.tup []) (.tup []) = some (.bl true) := by decide +kernel
  simp only [w19g, wRet, wAndV, w2, wMeth, wN, wC, wCons, wNil, wLst, wTup]
  simp [lt1]
  refine ⟨⟨_, ⟨_, rfl⟩, nan⟩, .inl ⟨rs, _, _, rfl, is_non, _, e1, .inr ⟨rfl, ⟨_, ⟨_, rfl⟩, nan⟩, .inl ⟨rs, _, _, rfl, is_int 5, _, e1, h⟩⟩⟩⟩
end
def W19_law (CS : Addr) : WS := (wSeq w19a1 (wSeq w19a2 (wSeq w19a3 (wSeq w19a4 (wSeq w19a5 (wSeq (w19b CS) (wSeq (w19c CS) (wSeq (w19d CS)
  (wSeq (wFor (wIt (w2 D.add (w2O 4 D.ix (wC (.str "places"))) (wLst (wCons (wC (.str "zzi")) wNil)))) (wgN 6) (w19e CS)) (w19g CS))))))))))
theorem q_law19 (CS : Addr) (ds : List D) (c : Nat) (K KE : D → Nat → Prop) (h : spLaw ds c K KE) : W19_law CS (en0 ["script", "pen", "wide", "calls", "server", "made", "place", "call", "row"] ds c) { nx := fun e => K .non e.cnt, rt := K } := by
  obtain ⟨ns, rfl, rfl, h⟩ := h
  simp only [W19_law, wSeq]
  refine k19a1 ?_
  refine k19a2 (by omega) fun b => ?_
  refine k19a3 (by omega) fun cs c1 h1 h2 h3 hc1 => ?_
  refine k19a4 h1 h2 h3 (by omega) fun rs c2 s hcn hc2 => ?_
  refine k19a5 s fun rs s hl hcn => ?_
  refine k19b s hl hcn (by omega) fun c3 => ?_
  refine k19c s ?_
  refine k19d s ?_
  have gl := s.glen
  have lt1 : 1 ≤ sizeLine := Nat.le_trans (by decide) lt2
  have e1 := add_lst (l := gatesOf rs) (m := [[122, 122, 105]]) (by simp; omega)
  simp only [wFor, wIt, w2, w2O, wC, wLst, wCons, wNil]
  simp [datOf, lt1]
  rw [zzi_eq]
  refine ⟨_, lawD_places rs, _, e1, _, rfl, ?_⟩
  refine k19el s (by omega) (gatesOf rs ++ [[122, 122, 105]]) _ _ (fun q hq => ?_) fun s6 s7 => ?_
  · rcases List.mem_append.mp hq with hq | hq
    · exact s.gok q hq
    · rw [List.mem_singleton] at hq; exact hq ▸ zzi_ok
  · exact k19g (h c3)
end DL
/-! DP, part a: the order of rows of names; texts of servers. -/
namespace DL
open PySem PySem.Spec L2
/-! ### the order -/
def tZ : Txt := List.replicate 12 122
theorem tZ_eq : (.str "zzzzzzzzzzzz" : D) = txtD tZ := by decide +kernel
theorem le_rep : ∀ (n : Nat) (l : Txt), (∀ c ∈ l, c ≤ 122) → l.length ≤ n → ¬ (List.replicate n 122 < l)
  | _, [], _, _ => List.not_lt_nil _
  | 0, c :: l, _, h => by simp at h
  | n + 1, c :: l, h, hl => by
    rw [List.replicate_succ, List.cons_lt_cons_iff]
    have hc := h c List.mem_cons_self
    rintro (z | ⟨_, z⟩)
    · omega
    · exact le_rep n l (fun x hx => h x (List.mem_cons_of_mem _ hx)) (by simpa using hl) z
theorem sign_le {c : Nat} (h : isSign c = true) : c ≤ 122 ∧ c ≠ 10 ∧ c ≠ 32 := by
  unfold isSign isLow at h
  simp only [Bool.or_eq_true, decide_eq_true_eq] at h
  omega
theorem name_facts {l : Txt} (h : nameL l = true) : l.length ≤ 12 ∧ l ≠ [] ∧ ∀ c ∈ l, c ≤ 122 ∧ c ≠ 10 ∧ c ≠ 32 := by
  unfold nameL at h
  simp only [Bool.and_eq_true, decide_eq_true_eq, List.all_eq_true] at h
  obtain ⟨⟨⟨h1, h2⟩, _⟩, h4⟩ := h
  exact ⟨h2, fun z => by rw [z] at h1; simp at h1, fun c hc => sign_le (h4 c hc)⟩
theorem name_leZ {l : Txt} (h : nameL l = true) : ¬ (tZ < l) := le_rep 12 l (fun c hc => ((name_facts h).2.2 c hc).1) (name_facts h).1
theorem tri (a b : Txt) : a < b ∨ a = b ∨ b < a := by
  by_cases h1 : a < b
  · exact .inl h1
  · by_cases h2 : b < a
    · exact .inr (.inr h2)
    · exact .inr (.inl (List.le_antisymm (List.not_lt.mp h2) (List.not_lt.mp h1)))
theorem lt_le {a b c : Txt} (h : a < b) (k : ¬ (c < b)) : a < c := by
  rcases tri b c with h2 | h2 | h2
  · exact List.lt_trans h h2
  · exact h2 ▸ h
  · exact (k h2).elim
theorem lt_irr {a : Txt} : ¬ a < a := List.lt_irrefl a
theorem lt_asy {a b : Txt} (h : a < b) : ¬ b < a := fun k => lt_irr (List.lt_trans h k)
def ltR (a b : Row3) : Prop := a.1 < b.1 ∨ (a.1 = b.1 ∧ (a.2.1 < b.2.1 ∨ (a.2.1 = b.2.1 ∧ a.2.2 < b.2.2)))
open PyProof.Rows in
theorem ltR_of {a b : Row3} (h : dle (rowD a) (rowD b) = true) (ne : a ≠ b) : ltR a b := by
  obtain ⟨a1, a2, a3⟩ := a
  obtain ⟨b1, b2, b3⟩ := b
  have h' : PyProof.Rows.lexLt itemOrd (PySem.W.keyToks (rowD (b1, b2, b3)).enc) (PySem.W.keyToks (rowD (a1, a2, a3)).enc) = false := by simpa [dle, PySem.W.dataLe, PySem.W.sortLe] using h
  have ea : ∀ x y z : Txt, PySem.W.keyToks (rowD (x, y, z)).enc = [.inl 1, .inr x, .inl 1, .inr y, .inl 1, .inr z, .inl 0] := fun x y z => by
    simp [rowD, D.enc, D.py, D.pys, PySem.W.keyToks, PySem.W.keyToksAll, strOf]
  rw [ea, ea] at h'
  have st : ∀ (x y : Txt), itemLt (.inr x) (.inr y) = decide (x < y) := fun x y => rfl
  have si : ∀ (x : Int), itemLt (.inl x) (.inl x) = false := fun x => by simp [itemLt]
  simp only [PyProof.Rows.lexLt, st, si, Bool.or_eq_false_iff, Bool.and_eq_false_iff, Bool.not_eq_false', Bool.not_eq_true', decide_eq_false_iff_not, decide_eq_true_eq, Bool.false_eq_true, false_or, true_and, or_false, and_true] at h'
  unfold ltR
  simp only
  rcases tri a1 b1 with q | q | q
  · exact .inl q
  · subst q
    refine .inr ⟨rfl, ?_⟩
    rcases tri a2 b2 with q | q | q
    · exact .inl q
    · subst q
      refine .inr ⟨rfl, ?_⟩
      rcases tri a3 b3 with q | q | q
      · exact q
      · exact (ne (by rw [q])).elim
      · simp [lt_irr] at h'
        exact (h' q).elim
    · simp [lt_irr, q] at h'
  · simp [q] at h'
end DL
/-! DP, part b: texts of servers. -/
namespace DL
open PySem PySem.Spec L2 TL
def sNl : Str := "\n"
def sSp : Str := " "
def sGates : Str := "gates"
def rowSs (r : Row3) : List Str := [strOf r.1, strOf r.2.1, strOf r.2.2]
def rowS (r : Row3) : Str := PySem.Txt.join sSp (rowSs r)
def textS (rs : List Row3) : Str := PySem.Txt.join sNl (sGates :: rs.map rowS)
theorem tl_strOf (l : Txt) : tl (strOf l) = l := rfl
theorem joinL_len (S : List Nat) : ∀ ps : List (List Nat), (joinL S ps).length ≤ (ps.map (·.length)).sum + ps.length * S.length
  | [] => by simp [joinL]
  | [p] => by simp [joinL]
  | p :: q :: r => by
    have ih := joinL_len S (q :: r)
    simp only [joinL, List.length_append, List.map_cons, List.sum_cons, List.length_cons, Nat.add_mul] at ih ⊢
    omega
theorem joinL_mem (S : List Nat) (c : Nat) (hS : c ∉ S) : ∀ ps : List (List Nat), (∀ p ∈ ps, c ∉ p) → c ∉ joinL S ps
  | [], _ => by simp [joinL]
  | [p], h => by simpa [joinL] using h p List.mem_cons_self
  | p :: q :: r, h => by
    have ih := joinL_mem S c hS (q :: r) fun x hx => h x (List.mem_cons_of_mem _ hx)
    simp only [joinL, List.mem_append, not_or]
    exact ⟨h p List.mem_cons_self, hS, ih⟩
theorem tl_nl : tl sNl = [10] := by decide +kernel
theorem tl_sp : tl sSp = [32] := by decide +kernel
theorem tl_gates : tl sGates = [103, 97, 116, 101, 115] := by decide +kernel
theorem tl_rowS (r : Row3) : tl (rowS r) = joinL [32] [r.1, r.2.1, r.2.2] := by
  unfold rowS
  rw [join_eq, tl_join, tl_sp]; rfl
theorem row_no {r : Row3} (h : RowOk r) : 10 ∉ tl (rowS r) ∧ (tl (rowS r)).length ≤ 39 := by
  obtain ⟨h1, h2, h3⟩ := h
  have f1 := name_facts h1
  have f2 := name_facts h2
  have f3 := name_facts h3
  rw [tl_rowS]
  constructor
  · refine joinL_mem [32] 10 (by decide) _ fun p hp => ?_
    simp only [List.mem_cons, List.not_mem_nil, or_false] at hp
    rcases hp with rfl | rfl | rfl
    · exact fun z => (f1.2.2 10 z).2.1 rfl
    · exact fun z => (f2.2.2 10 z).2.1 rfl
    · exact fun z => (f3.2.2 10 z).2.1 rfl
  · have := joinL_len [32] [r.1, r.2.1, r.2.2]
    simp at this
    omega
theorem split_row {r : Row3} (h : RowOk r) : PySem.Txt.split (rowS r) sSp = rowSs r := by
  obtain ⟨h1, h2, h3⟩ := h
  refine split_join (s := 32) (S := []) tl_sp (by decide +kernel) (by simp [rowSs]) fun p hp => ?_
  simp only [rowSs, List.mem_cons, List.not_mem_nil, or_false] at hp
  rcases hp with rfl | rfl | rfl
  · exact fun z => ((name_facts h1).2.2 32 z).2.2 rfl
  · exact fun z => ((name_facts h2).2.2 32 z).2.2 rfl
  · exact fun z => ((name_facts h3).2.2 32 z).2.2 rfl
theorem split_gates : PySem.Txt.split sGates sSp = [sGates] := by
  have : PySem.Txt.join sSp [sGates] = sGates := rfl
  have h := split_join (y := sSp) (s := 32) (S := []) tl_sp (by decide +kernel) (parts := [sGates]) (by simp) fun p hp => by
    rw [List.mem_singleton] at hp; subst hp; rw [tl_gates]; decide
  rwa [this] at h
theorem split_text {rs : List Row3} (h : ∀ r ∈ rs, RowOk r) : PySem.Txt.split (textS rs) sNl = sGates :: rs.map rowS := by
  refine split_join (s := 10) (S := []) tl_nl (by decide +kernel) (by simp) fun p hp => ?_
  rcases List.mem_cons.mp hp with rfl | hp
  · rw [tl_gates]; decide
  · obtain ⟨r, hr, rfl⟩ := List.mem_map.mp hp
    exact (row_no (h r hr)).1
theorem sum_le {α : Type} (f : α → Nat) (n : Nat) : ∀ l : List α, (∀ x ∈ l, f x ≤ n) → (l.map f).sum ≤ l.length * n
  | [], _ => by simp
  | x :: l, h => by
    have := sum_le f n l fun y hy => h y (List.mem_cons_of_mem _ hy)
    have h1 := h x List.mem_cons_self
    simp only [List.map_cons, List.sum_cons, List.length_cons, Nat.add_mul]
    omega
theorem parts_sum {rs : List Row3} (h : ∀ r ∈ rs, RowOk r) : ((sGates :: rs.map rowS).map (·.length)).sum ≤ 5 + rs.length * 39 := by
  have e : sGates.length = 5 := by decide +kernel
  rw [List.map_cons, List.sum_cons, e, List.map_map]
  have := sum_le ((fun x : Str => x.length) ∘ rowS) 39 rs fun r hr => by
    show (rowS r).length ≤ 39
    rw [len_tl]; exact (row_no (h r hr)).2
  omega
theorem text_len {rs : List Row3} (h : ∀ r ∈ rs, RowOk r) : (textS rs).length ≤ 6 + rs.length * 40 := by
  rw [len_tl]
  unfold textS
  rw [join_eq, tl_join, tl_nl]
  have h1 := joinL_len [10] ((sGates :: rs.map rowS).map tl)
  have h2 := parts_sum h
  have e : ((sGates :: rs.map rowS).map tl).map (·.length) = (sGates :: rs.map rowS).map (·.length) := by
    rw [List.map_map]
    exact List.map_congr_left fun x _ => (len_tl x).symm
  rw [e] at h1
  simp only [List.length_map, List.length_cons, List.length_nil] at h1
  omega
/-! ### server_text -/
theorem strsD_map : ∀ xs : List Str, strsD (xs.map D.str) = some xs
  | [] => rfl
  | x :: xs => by
    show (strsD (xs.map D.str)).map (x :: ·) = _
    rw [strsD_map xs]; rfl
theorem join_row (r : Row3) (h : RowOk r) : joinD sSp (rowD r) = some (.str (rowS r)) := by
  have e : rowD r = .tup ((rowSs r).map D.str) := rfl
  rw [e]
  show ((strsD ((rowSs r).map D.str)).bind fun ys => if joinOk sSp ys = true then some (D.str (PySem.Txt.join sSp ys)) else none) = _
  rw [strsD_map]
  show (if joinOk sSp (rowSs r) = true then _ else _) = _
  rw [if_pos]
  · rfl
  · obtain ⟨h1, h2, h3⟩ := h
    have e1 := (name_facts h1).1
    have e2 := (name_facts h2).1
    have e3 := (name_facts h3).1
    have l1 : ∀ l : Txt, (strOf l).length = l.length := fun l => len_tl _
    refine decide_eq_true ?_
    have es : sSp.length = 1 := by decide +kernel
    simp only [rowSs, List.map_cons, List.map_nil, List.sum_cons, List.sum_nil, l1, es, List.length_cons, List.length_nil]
    omega
theorem join_text {rs : List Row3} (h : ∀ r ∈ rs, RowOk r) (hl : rs.length < 307) : joinD sNl (.lst ((sGates :: rs.map rowS).map D.str)) = some (.str (textS rs)) := by
  show ((strsD ((sGates :: rs.map rowS).map D.str)).bind fun ys => if joinOk sNl ys = true then some (D.str (PySem.Txt.join sNl ys)) else none) = _
  rw [strsD_map]
  show (if joinOk sNl (sGates :: rs.map rowS) = true then _ else _) = _
  rw [if_pos]
  · rfl
  · refine decide_eq_true ?_
    have h2 := parts_sum h
    have es : sNl.length = 1 := by decide +kernel
    rw [es, List.length_cons, List.length_map]
    omega
def spText (C : Addr) : FS := fun ds c K _ => ∃ rs, ds = [serverD C rs] ∧ Srv rs ∧ K (.str (textS rs)) c
def W_server_text (cServer : Addr) : WS := (wRet (wJoin (wC (.str "\n")) (w2 D.add (wLst (wCons (wC (.str "gates")) wNil)) (wLc (wIt (w1 (D.fld cServer "rows") (wL 0))) (wgN 1) wYes (wJoin (wC (.str " ")) (wN 1)) [1]))))
theorem lc_join {K : DK} {i : Nat} {e : En} (hi : i < e.sl.length) (rs : List Row3) (hz : rs.length < 2 ^ 20) (ok : ∀ r ∈ rs, RowOk r) (h : K (.lst ((rs.map rowS).map D.str)) e) : wLcR (wgN i) wYes (wJoin (wC (.str " ")) (wN i)) [i] K (rs.map rowD) [] e := by
  refine lc_genF rowD unR unR_rowD (fun r => .str (rowS r)) (fun _ => true) hi rs (fun r hr K' k => k) (fun r hr _ K' k => ?_) hz (by
    rw [List.filter_eq_self.mpr fun _ _ => rfl]
    rw [List.map_map] at h
    exact h)
  have e1 : (e.at_ i (rowD r)).sl[i]? = some (.fz (rowD r)) := by
    simp only [En.wipe, En.asg]
    rw [List.getElem?_set_self (by simpa using hi)]
  simp only [wJoin, wC, wN, e1]
  exact ⟨_, rfl, _, join_row r (ok r hr), k⟩
theorem q_text (C : Addr) (ds : List D) (c : Nat) (K KE : D → Nat → Prop) (h : spText C ds c K KE) : W_server_text C (en0 ["server", "row"] ds c) { nx := fun e => K .non e.cnt, rt := K } := by
  obtain ⟨rs, rfl, s, h⟩ := h
  have sz := s.sz
  have e1 : D.items (.tup (rs.map rowD)) = some (rs.map rowD) := rfl
  have lt1 : 1 ≤ sizeLine := Nat.le_trans (by decide) lt2
  simp only [W_server_text, wRet, wJoin, w2, wC, wLst, wCons, wNil, wLc, wIt, w1, wL, en0]
  simp [datOf, serverD, fld_rows, e1, lt1]
  refine lc_join (by simp) rs (by omega) s.ok ?_
  have ea : D.add (.lst [.str "gates"]) (.lst ((rs.map rowS).map D.str)) = some (.lst ((sGates :: rs.map rowS).map D.str)) := by
    show (if [D.str "gates"].length + ((rs.map rowS).map D.str).length ≤ sizeLine then some (D.lst ([D.str "gates"] ++ (rs.map rowS).map D.str)) else none) = _
    rw [if_pos (by simp only [List.length_map, List.length_cons, List.length_nil]; exact Nat.le_of_lt (small (by omega)))]; rfl
  exact ⟨_, ea, _, join_text s.ok sz, h⟩
end DL
/-! DP, part c: texts of servers are read. -/
namespace DL
open PySem PySem.Spec L2 TL
def lastD : Option Row3 → D
  | none => .non
  | some r => rowD r
theorem strsD_txt (xs : List Txt) : strsD (xs.map txtD) = some (xs.map strOf) := by
  have : xs.map txtD = (xs.map strOf).map D.str := by rw [List.map_map]; rfl
  rw [this, strsD_map]
theorem gt_row (xs : List Txt) (r : Row3) : D.gtT (tupT xs) (rowD r) = some (.bl (ltSs (rowSs r) (xs.map strOf))) := by
  have h2 : strsD [D.str (strOf r.1), .str (strOf r.2.1), .str (strOf r.2.2)] = some (rowSs r) := rfl
  show (match strsD (xs.map txtD), strsD [D.str (strOf r.1), .str (strOf r.2.1), .str (strOf r.2.2)] with
    | some ns, some ms => some (D.bl (ltSs ms ns))
    | _, _ => none) = _
  rw [strsD_txt, h2]
theorem mul_Z (k : Nat) (h : k ≤ 1000) : D.mulT (.tup [txtD tZ]) (.int k) = some (tupT (List.replicate k tZ)) := by
  show (if _ then _ else _) = _
  rw [if_pos ⟨by simp, by omega, by omega, by simp⟩]
  have : (List.replicate (k : Int).toNat [txtD tZ]).flatten = (List.replicate k tZ).map txtD := by
    rw [Int.toNat_natCast, List.map_replicate]
    induction k with
    | zero => rfl
    | succ n ih => rw [List.replicate_succ, List.flatten_cons, ih (by omega), List.replicate_succ]; rfl
  rw [this]; rfl
def spIsRight : FS := fun ds c K _ => ∃ (o : Option Row3) (bg : List Txt) (wd : Txt), ds = [lastD o, tupT bg, txtD wd] ∧ nameL wd = true ∧ bg.length ≤ 2 ∧ (∀ r, o = some r → ltSs (rowSs r) ((bg ++ [wd] ++ List.replicate (2 - bg.length) tZ).map strOf) = true) ∧ K (.bl true) c
def W_is_right : WS := (wSeq (wIfS (wNot (wTru (wCall spIsName [] (wCons (wN 2) wNil)))) (wRet (wC (.bl false))) wNx)
  (wSeq (wIfS (wTst (w2 D.isv (wN 0) (wC .non))) (wRet (wC (.bl true))) wNx)
  (wSeq (wSet 3 (w2 D.add (wN 1) (wTup (wCons (wN 2) wNil))))
  (wRet (w2 D.gtT (w2 D.add (wN 3) (w2 D.mulT (wTup (wCons (wC (.str "zzzzzzzzzzzz")) wNil)) (w2 D.sub (wC (.int 3)) (w1 D.lenD (wL 3))))) (wN 0))))))
theorem q_is_right (ds : List D) (c : Nat) (K KE : D → Nat → Prop) (h : spIsRight ds c K KE) : W_is_right (en0 ["last", "begin", "word", "greatest"] ds c) { nx := fun e => K .non e.cnt, rt := K } := by
  obtain ⟨o, bg, wd, rfl, hw, hb, hl, h⟩ := h
  have lt1 : 1 ≤ sizeLine := Nat.le_trans (by decide) lt2
  simp only [W_is_right, wSeq, wIfS, wNot, wTru, wTst, wCall, wCons, wNil, wN, wC, wRet, wNx, wSet, wTup, w2, w1, wL, en0]
  simp
  refine ⟨wd, rfl, hw, ?_⟩
  simp [D.tru]
  cases o with
  | none => exact ⟨_, rfl, .inr ⟨rfl, h⟩⟩
  | some r =>
    refine ⟨_, rfl, .inl ⟨rfl, ?_⟩⟩
    simp [En.asg, lt1, datOf, lastD]
    have e1 : D.add (tupT bg) (.tup [txtD wd]) = some (tupT (bg ++ [wd])) := add_tup (m := [wd]) (by simp; omega)
    have e2 : D.sub (.int 3) (.int (bg ++ [wd]).length) = some (.int ((2 - bg.length : Nat) : Int)) := by
      show some (D.int (3 - ((bg ++ [wd]).length : Int))) = _
      rw [List.length_append, List.length_singleton]
      refine congrArg (fun i => some (D.int i)) ?_
      omega
    have e3 := mul_Z (2 - bg.length) (by omega)
    rw [← tZ_eq] at e3
    have e4 := add_tup (l := bg ++ [wd]) (m := List.replicate (2 - bg.length) tZ) (by simp; omega)
    refine ⟨_, e1, _, lenD_tupT _, _, e2, _, e3, _, e4, _, gt_row _ _, ?_⟩
    rw [hl r rfl]
    exact h
def spReadRow : FS := fun ds c K _ => ∃ (b : Row3) (n : Int) (o : Option Row3), ds = [.lst ((rowSs b).map D.str), .int n, lastD o] ∧ RowOk b ∧ (∀ a, o = some a → ltR a b) ∧ K (rowD b) c
def wRRB : WS := (wSeq (wIfS (wOr (wTst (w2 D.eqo (w1 D.lenD (wL 3)) (wC (.int 3)))) (wNot (wTru (wCall spIsRight [] (wCons (wN 2) (wCons (wN 3) (wCons (wN 4) wNil))))))) wNo wNx)
  (wSet 3 (w2 D.add (wN 3) (wTup (wCons (wN 4) wNil)))))
def W_read_row : WS := (wSeq (wSet 3 (wTup wNil))
  (wSeq (wFor (wIt (wN 0)) (wgN 4) wRRB)
  (wSeq (wIfS (wTst (w2 cLt (w1 D.lenD (wL 3)) (wC (.int 3)))) wNo wNx)
  (wRet (wN 3)))))
theorem rr_step {F : Fn} {s0 s1 s4 : S} {c : Nat} {o : Option Row3} {bg : List Txt} {wd : Txt} {ds : List D} (hw : nameL wd = true) (hb : bg.length ≤ 2) (hl : ∀ r, o = some r → ltSs (rowSs r) ((bg ++ [wd] ++ List.replicate (2 - bg.length) tZ).map strOf) = true)
    (h : wForR (wgN 4) wRRB F ds ⟨[s0, s1, .fz (lastD o), .fz (tupT (bg ++ [wd])), .fz (txtD wd)], c, none⟩) : wForR (wgN 4) wRRB F (txtD wd :: ds) ⟨[s0, s1, .fz (lastD o), .fz (tupT bg), s4], c, none⟩ := by
  have lt1 : 1 ≤ sizeLine := Nat.le_trans (by decide) lt2
  rw [wForR]
  generalize wForR (wgN 4) wRRB F ds = R at h
  have e1 : D.add (tupT bg) (.tup [txtD wd]) = some (tupT (bg ++ [wd])) := add_tup (m := [wd]) (by simp; omega)
  simp only [wRRB, wgN, wSeq, wIfS, wOr, wTst, wNot, wTru, wCall, wCons, wNil, wN, wNo, wNx, wSet, wTup, w2, w1, wL, wC]
  simp [En.asg, datOf, lt1, e1]
  refine ⟨_, lenD_tupT _, _, eqo_int _ _, .intro (by simp; omega) ⟨o, bg, wd, rfl, hw, hb, hl, ⟨rfl, h⟩⟩⟩
theorem ltSs3 {a1 a2 a3 x y z : Txt} : ltSs ([a1, a2, a3].map strOf) ([x, y, z].map strOf) = true ↔ ltR (a1, a2, a3) (x, y, z) := by
  have e : ∀ p q : Txt, (strOf p = strOf q) = (p = q) := fun p q => propext ⟨strOf_inj, fun h => by rw [h]⟩
  have l : ∀ p q : Txt, ltS (strOf p) (strOf q) = decide (p < q) := fun p q => rfl
  simp only [List.map_cons, List.map_nil, ltSs, e, l, ltR]
  by_cases h1 : a1 = x
  · subst h1
    simp [lt_irr]
    by_cases h2 : a2 = y
    · subst h2
      simp [lt_irr]
      by_cases h3 : a3 = z
      · subst h3; simp [lt_irr]
      · simp [h3]
    · simp [h2]
  · simp [h1]
theorem ltR_1 {a b : Row3} (hb : RowOk b) (h : ltR a b) : ltR a (b.1, tZ, tZ) := by
  obtain ⟨_, h2, h3⟩ := hb
  rcases h with h | ⟨h, h' | ⟨h', h''⟩⟩
  · exact .inl h
  · exact .inr ⟨h, .inl (lt_le h' (name_leZ h2))⟩
  · refine .inr ⟨h, ?_⟩
    rcases tri a.2.1 tZ with q | q | q
    · exact .inl q
    · exact .inr ⟨q, lt_le h'' (name_leZ h3)⟩
    · exact (name_leZ h2 (h' ▸ q)).elim
theorem ltR_2 {a b : Row3} (hb : RowOk b) (h : ltR a b) : ltR a (b.1, b.2.1, tZ) := by
  obtain ⟨_, h2, h3⟩ := hb
  rcases h with h | ⟨h, h' | ⟨h', h''⟩⟩
  · exact .inl h
  · exact .inr ⟨h, .inl h'⟩
  · exact .inr ⟨h, .inr ⟨h', lt_le h'' (name_leZ h3)⟩⟩
theorem q_read_row (ds : List D) (c : Nat) (K KE : D → Nat → Prop) (h : spReadRow ds c K KE) : W_read_row (en0 ["words", "line", "last", "begin", "word"] ds c) { nx := fun e => K .non e.cnt, rt := K } := by
  obtain ⟨b, n, o, rfl, ok, hl, h⟩ := h
  obtain ⟨b1, b2, b3⟩ := b
  have ei : D.items (.lst ((rowSs (b1, b2, b3)).map D.str)) = some [txtD b1, txtD b2, txtD b3] := rfl
  have r1 : ∀ a, o = some a → ltR a (b1, tZ, tZ) := fun a e => ltR_1 ok (hl a e)
  have r2 : ∀ a, o = some a → ltR a (b1, b2, tZ) := fun a e => ltR_2 ok (hl a e)
  simp only [W_read_row, wSeq, wSet, wTup, wNil, wFor, wIt, wN, wIfS, wTst, w2, w1, wL, wC, wNo, wNx, wRet, en0]
  simp [En.asg, ei]
  refine rr_step (bg := []) ok.1 (by simp) (fun r e => ltSs3.mpr (r1 r e)) ?_
  refine rr_step (bg := [b1]) ok.2.1 (by simp) (fun r e => ltSs3.mpr (r2 r e)) ?_
  refine rr_step (bg := [b1, b2]) ok.2.2 (by simp) (fun r e => ltSs3.mpr (hl r e)) ?_
  simp [wForR, datOf]
  exact ⟨_, lenD_tupT [b1, b2, b3], _, rfl, rfl, h⟩
end DL
/-! DP, part d: server_read, ==. -/
namespace DL
open PySem PySem.Spec L2 TL
def unS : D → Str
  | .str x => x
  | _ => Str.empty
def lineD (r : Row3) : D := .lst ((rowSs r).map D.str)
def linesD (rs : List Row3) : D := .lst (.lst [.str "gates"] :: rs.map lineD)
theorem atI_0 {x : D} {xs : List D} : atI (x :: xs) 0 = some x := by
  unfold atI ixN
  simp
theorem ix_l0 {x : D} {xs : List D} : D.ix (.lst (x :: xs)) (.int 0) = some x := atI_0
theorem atI_nn {xs : List D} {i : Nat} (h : i < xs.length) : atI xs (i : Int) = xs[i]? := by
  unfold atI ixN
  simp [h]
theorem ix_line {rs : List Row3} {m : Nat} {r : Row3} (h : rs[m]? = some r) : D.ix (linesD rs) (.int (1 + (m : Int))) = some (lineD r) := by
  have hm : m < rs.length := (List.getElem?_eq_some_iff.mp h).1
  have e : (1 + (m : Int)) = ((m + 1 : Nat) : Int) := by omega
  show atI (D.lst [.str "gates"] :: rs.map lineD) _ = _
  rw [e, atI_nn (by simp; omega), List.getElem?_cons_succ, List.getElem?_map, h]; rfl
theorem row_gd {r : Row3} (h : RowOk r) : (rowD r).gd 64 = true := by
  simp [rowD, D.gd, D.gds]
  exact ⟨name_ok h.1, name_ok h.2.1, name_ok h.2.2⟩
theorem neZZZ {o : Option Row3} {b : Row3} (ho : ∀ a, o = some a → RowOk a ∧ ltR a b) (hb : RowOk b) : D.eqo (lastD o) (.tup [.str "zzzzzzzzzzzz", .str "zzzzzzzzzzzz", .str "zzzzzzzzzzzz"]) = some (.bl false) := by
  cases o with
  | none => decide +kernel
  | some a =>
    obtain ⟨ok, lt⟩ := ho a rfl
    have e : (.tup [.str "zzzzzzzzzzzz", .str "zzzzzzzzzzzz", .str "zzzzzzzzzzzz"] : D) = rowD (tZ, tZ, tZ) := by
      rw [tZ_eq]; rfl
    have gz : (rowD (tZ, tZ, tZ)).gd 64 = true := by decide +kernel
    rw [e]
    show (eqc (rowD a) (rowD (tZ, tZ, tZ))).map D.bl = _
    rw [eqc_gd (row_gd ok) gz]
    have ne : rowD a ≠ rowD (tZ, tZ, tZ) := fun z => by
      have := rowD_inj _ _ z
      subst this
      rcases lt with h | ⟨_, h | ⟨_, h⟩⟩
      · exact name_leZ hb.1 h
      · exact name_leZ hb.2.1 h
      · exact name_leZ hb.2.2 h
    simp [ne]
def spRead (C E : Addr) : FS := fun ds c K KE => (∃ rs, ds = [.str (textS rs)] ∧ Srv rs ∧ canR rs = rs ∧ K (serverD C rs) c) ∨ ∃ d, ds = [d] ∧ D.isI (tabB ["str"]) d = some (.bl false) ∧ KE (.err E ["word", "line"] [.int 0, .int 0]) c
theorem asc_of {rs : List Row3} (h : canR rs = rs) : rs.Pairwise ltR := by
  have h1 : Srtd rowD rs := h ▸ canF_srtd unR_rowD rs
  have h2 : rs.Nodup := h ▸ canF_nodup unR_rowD rs
  unfold Srtd at h1
  rw [List.pairwise_map] at h1
  exact (List.Pairwise.and h1 h2).imp fun ⟨a, b⟩ => ltR_of a b
def wSRB : WS := (wSeq (wIfS (wTst (w2 D.eqo (wN 3) (wTup (wCons (wC (.str "zzzzzzzzzzzz")) (wCons (wC (.str "zzzzzzzzzzzz")) (wCons (wC (.str "zzzzzzzzzzzz")) wNil)))))) wNo wNx)
  (wSeq (wSet 3 (wCall spReadRow [] (wCons (w2O 1 D.ix (wN 4)) (wCons (w2 D.add (wN 4) (wC (.int 1))) (wCons (wN 3) wNil)))))
  (wDrop (wLM 2 lmApp (wCons (wN 3) wNil)))))
def W_server_read (cBadText : Addr) (cServer : Addr) : WSX := (wSeqX (wIfX (wNot (wTru (w1 (D.isI (tabB ["str"])) (wL 0)))) (wRaise cBadText ["line", "word"] (wCons (wC (.int 0)) (wCons (wC (.int 0)) wNil))) (wOf wNx))
  (wOf (wSeq (wSetN 1 (wLc (wIt (wSplit (wN 0) (wC (.str "\n")))) (wgN 5) wYes (wSplit (wN 5) (wC (.str " "))) [5]))
  (wSeq (wIfS (wTst (w2 D.neo (w2 D.ix (w2O 1 D.ix (wC (.int 0))) (wC (.int 0))) (wC (.str "gates")))) wNo wNx)
  (wSeq (wIfS (wTst (w2 cGt (w1 D.lenD (w2O 1 D.ix (wC (.int 0)))) (wC (.int 1)))) wNo wNx)
  (wSeq (wPar [2, 3] (sOw (wLst wNil) (sFz (wC .non) sNil)))
  (wSeq (wFor (wRng2 (wCons (wC (.int 1)) (wCons (w1 D.lenD (wL 1)) wNil))) (wgN 4) wSRB)
  (wRet (wCall (spServer cServer) [] (wCons (w1 D.tup1 (wL 2)) wNil))))))))))
theorem sr_loop {F : Fn} {s0 s5 : S} {c : Nat} {rs : List Row3} (ok : ∀ r ∈ rs, RowOk r) (sz : rs.length < 307) (asc : rs.Pairwise ltR) : ∀ (rest done : List Row3) (s4 : S), done ++ rest = rs →
    (∀ s3 s4, F.nx ⟨[s0, .ow (linesD rs), .ow (.lst (rs.map rowD)), s3, s4, s5], c, none⟩) →
    wForR (wgN 4) wSRB F ((List.range' done.length rest.length).map fun (i : Nat) => D.int (1 + (i : Int))) ⟨[s0, .ow (linesD rs), .ow (.lst (done.map rowD)), .fz (lastD done.getLast?), s4, s5], c, none⟩
  | [], done, s4, hd, h => by
    rw [List.append_nil] at hd
    subst hd
    simpa [wForR] using h _ s4
  | r :: rest, done, s4, hd, h => by
    have ih := sr_loop ok sz asc rest (done ++ [r]) (.fz (.int (1 + (done.length : Int)))) (by rw [List.append_assoc]; exact hd) h
    have hr : r ∈ rs := hd ▸ List.mem_append_right _ List.mem_cons_self
    have hlt : ∀ a, done.getLast? = some a → RowOk a ∧ ltR a r := fun a ha => by
      have ha' : a ∈ done := List.mem_of_getLast? ha
      refine ⟨ok a (hd ▸ List.mem_append_left _ ha'), ?_⟩
      rw [← hd] at asc
      exact (List.pairwise_append.mp asc).2.2 a ha' r List.mem_cons_self
    have hget : rs[done.length]? = some r := by rw [← hd, List.getElem?_append_right (Nat.le_refl _)]; simp
    have hl2 : done.length + (rest.length + 1) = rs.length := by rw [← hd]; simp
    have eL : (done ++ [r]).getLast? = some r := by simp
    rw [List.length_append, List.length_singleton, eL, List.map_append] at ih
    rw [List.length_cons, List.range'_succ, List.map_cons, wForR]
    generalize wForR (wgN 4) wSRB F _ = R at ih
    have e1 : D.add (.int (1 + (done.length : Int))) (.int 1) = some (.int (1 + (done.length : Int) + 1)) := rfl
    have lt3 : 3 ≤ sizeLine := Nat.le_of_lt (small (by decide))
    simp only [wSRB, wgN, wSeq, wIfS, wTst, w2, wTup, wCons, wNil, wN, wC, wNo, wNx, wSet, wCall, w2O, wDrop, wLM]
    simp [En.asg, datOf, lt3, owned, En.put, e1]
    refine ⟨_, neZZZ hlt (ok r hr), rfl, _, ix_line hget, r, _, done.getLast?, rfl, ok r hr, fun a ha => (hlt a ha).2, ?_⟩
    refine ⟨_, _, lmApp_ok (by rw [List.length_map]; exact small (by omega)), ?_⟩
    simpa [lastD] using ih
theorem split_d {t : Str} {K : DK} {i : Nat} {e : En} {x : Str} (h1 : e.sl[i]? = some (.fz (.str t))) (h2 : (x.length == 0) = false) (h3 : t.length + 2 ≤ sizeLine) (h : K (.lst ((PySem.Txt.split t x).map .str)) e) : wSplit (wN i) (wC (.str x)) e K := by
  simp only [wSplit, wN, wC, h1]
  exact ⟨_, rfl, _, rfl, h2, h3, h⟩
theorem lc_split {K : DK} {i : Nat} {e : En} (hi : i < e.sl.length) {rs : List Row3} (ok : ∀ r ∈ rs, RowOk r) (sz : rs.length < 307) (h : K (linesD rs) e) :
    wLcR (wgN i) wYes (wSplit (wN i) (wC (.str " "))) [i] K ((sGates :: rs.map rowS).map D.str) [] e := by
  have l1 : ∀ x ∈ sGates :: rs.map rowS, x.length + 2 ≤ sizeLine := fun x hx => by
    rcases List.mem_cons.mp hx with rfl | hx
    · exact Nat.le_of_lt (small (by decide +kernel))
    · obtain ⟨r, hr, rfl⟩ := List.mem_map.mp hx
      have := (row_no (ok r hr)).2
      rw [← len_tl] at this
      exact Nat.le_of_lt (small (by omega))
  refine lc_genF D.str unS (fun _ => rfl) (fun x => .lst ((PySem.Txt.split x sSp).map .str)) (fun _ => true) hi _ (fun r hr K' k => k) (fun x hx _ K' k => ?_) (by simp; omega) (by
    rw [List.filter_eq_self.mpr fun _ _ => rfl, List.map_cons, split_gates, List.map_map]
    have e2 : rs.map ((fun x => D.lst ((PySem.Txt.split x sSp).map .str)) ∘ rowS) = rs.map lineD := List.map_congr_left fun r hr => by
      show D.lst _ = _
      rw [split_row (ok r hr)]; rfl
    rw [e2]
    exact h)
  have e1 : (e.at_ i (.str x)).sl[i]? = some (.fz (.str x)) := by
    simp only [En.wipe, En.asg]
    rw [List.getElem?_set_self (by simpa using hi)]
  exact split_d e1 (by decide +kernel) (l1 x hx) k
theorem q_server_read (C E : Addr) (ds : List D) (c : Nat) (K KE : D → Nat → Prop) (h : spRead C E ds c K KE) : W_server_read E C (en0 ["text", "lines", "rows", "last", "at", "line"] ds c) { nx := fun e => K .non e.cnt, rt := K } fun d e => KE d e.cnt := by
  rcases h with ⟨rs, rfl, s, hc, h⟩ | ⟨d, rfl, hd, h⟩
  · have sz := s.sz
    have lt1 : 1 ≤ sizeLine := Nat.le_trans (by decide) lt2
    have ei : ∀ xs, D.items (.lst xs) = some xs := fun _ => rfl
    have tl_ := text_len s.ok
    simp only [W_server_read, wSeqX, wIfX, wNot, wTru, w1, wL, wOf, wNx, wSeq, wSetN, wLc, wIt, en0]
    simp [datOf, is_str, D.tru]
    refine split_d rfl (by decide +kernel) (Nat.le_of_lt (small (by omega))) ?_
    rw [show PySem.Txt.split (textS rs) "\n" = _ from split_text s.ok]
    refine ⟨_, ei _, lc_split (by simp) s.ok sz ?_⟩
    simp only [wIfS, wTst, w2, w2O, wC, wNo, wNx, wPar, sOw, sFz, sNil, wLst, wNil, wFor, wRng2, wCons, w1, wL, wRet, wCall]
    simp [En.asg, datOf]
    refine ⟨_, ix_l0, _, ix_l0, _, by decide +kernel, rfl, ?_⟩
    have e2 : D.lenD (linesD rs) = some (.int ((rs.length + 1 : Nat) : Int)) := by
      show some (D.int (((D.lst [D.str "gates"] :: rs.map lineD).length : Nat) : Int)) = _
      rw [List.length_cons, List.length_map]
    have e3 : rangeD 1 (((rs.length + 1 : Nat) : Int) - 1).toNat = (List.range' (List.length ([] : List Row3)) rs.length).map fun (i : Nat) => D.int (1 + (i : Int)) := by
      unfold rangeD
      rw [show (((rs.length + 1 : Nat) : Int) - 1).toNat = rs.length by omega, List.range_eq_range']
      rfl
    refine ⟨_, ix_l0, _, rfl, _, rfl, rfl, ?_⟩
    simp [asgs, En.asg]
    refine ⟨_, e2, _, _, ⟨rfl, rfl⟩, by omega, ?_⟩
    rw [e3]
    refine sr_loop (done := []) s.ok sz (asc_of hc) rs _ rfl fun s3 s4 => ?_
    refine ⟨_, rfl, _, rfl, _, rs, rfl, rfl, s.ok, sz, ?_⟩
    rw [hc]
    exact h
  · simp only [W_server_read, wSeqX, wIfX, wNot, wTru, w1, wL, wRaise, wCons, wNil, wC, en0]
    simp [datOf, hd, D.tru]
    exact h
end DL
/-! DP, part e: the law of k21. -/
namespace DL
open PySem PySem.Spec L2 TL
theorem rows_gd {rs : List Row3} (h : ∀ r ∈ rs, RowOk r) : (D.tup (rs.map rowD)).gd 64 = true := by
  simp only [D.gd]
  refine gds_of fun d hd => ?_
  obtain ⟨r, hr, rfl⟩ := List.mem_map.mp hd
  have ok := h r hr
  simp [rowD, D.gd, D.gds]
  exact ⟨name_ok ok.1, name_ok ok.2.1, name_ok ok.2.2⟩
theorem rowsD_inj {rs ss : List Row3} (h : D.tup (rs.map rowD) = .tup (ss.map rowD)) : rs = ss := by
  injection h with h
  induction rs generalizing ss with
  | nil => cases ss with
    | nil => rfl
    | cons _ _ => cases h
  | cons r rs ih => cases ss with
    | nil => cases h
    | cons t ss =>
      rw [List.map_cons, List.map_cons, List.cons.injEq] at h
      rw [rowD_inj _ _ h.1, ih h.2]
theorem eqo_rows {rs ss : List Row3} (h : ∀ r ∈ rs, RowOk r) (k : ∀ r ∈ ss, RowOk r) : D.eqo (.tup (rs.map rowD)) (.tup (ss.map rowD)) = some (.bl (decide (rs = ss))) := by
  show (eqc _ _).map D.bl = _
  rw [eqc_gd (rows_gd h) (rows_gd k)]
  show some (D.bl (decide _)) = _
  refine congrArg (fun b => some (D.bl b)) (decide_eq_decide.mpr ⟨rowsD_inj, fun e => by rw [e]⟩)
def spEqS (C : Addr) : FS := fun ds c K _ => ∃ rs ss, ds = [serverD C rs, serverD C ss] ∧ Srv rs ∧ Srv ss ∧ K (.bl (decide (rs = ss))) c
def W_Server___eq__ (cServer : Addr) : WS := (wSeq (wIfS (wNot (wTru (w1 (D.isI (tabC cServer)) (wL 1)))) (wRet (wC (.bl false))) wNx)
  (wRet (w2 D.eqo (w1 (D.fld cServer "rows") (wL 0)) (w1 (D.fld cServer "rows") (wL 1)))))
theorem isI_srv (C : Addr) (rs : List Row3) : D.isI (tabC C) (serverD C rs) = some (.bl true) := by
  simp [D.isI, D.ty, tabC, serverD]
theorem q_eqS (C : Addr) (ds : List D) (c : Nat) (K KE : D → Nat → Prop) (h : spEqS C ds c K KE) : W_Server___eq__ C (en0 ["self", "other"] ds c) { nx := fun e => K .non e.cnt, rt := K } := by
  obtain ⟨rs, ss, rfl, s1, s2, h⟩ := h
  simp only [W_Server___eq__, wSeq, wIfS, wNot, wTru, w1, w2, wL, wRet, wC, wNx, en0]
  simp [datOf, isI_srv, D.tru]
  exact ⟨_, fld_rows .., _, fld_rows .., _, eqo_rows s1.ok s2.ok, h⟩
theorem joinL_all (P : Nat → Prop) (S : List Nat) (hS : ∀ c ∈ S, P c) : ∀ ps : List (List Nat), (∀ p ∈ ps, ∀ c ∈ p, P c) → ∀ c ∈ joinL S ps, P c
  | [], _ => by simp [joinL]
  | [p], h => by simpa [joinL] using h p List.mem_cons_self
  | p :: q :: r, h => by
    have ih := joinL_all P S hS (q :: r) fun x hx => h x (List.mem_cons_of_mem _ hx)
    intro c hc
    simp only [joinL, List.mem_append] at hc
    rcases hc with hc | hc | hc
    · exact h p List.mem_cons_self c hc
    · exact hS c hc
    · exact ih c hc
theorem strOk_of {x : Str} (h : ∀ c ∈ tl x, c ≤ 122) : PyData.strOk x = true := by
  show x.cps.all (fun c => decide (c < 0x110000)) = true
  rw [← Array.all_toList, List.all_eq_true]
  intro c hc
  have := h c hc
  exact decide_eq_true (by omega)
theorem rowS_le {r : Row3} (h : RowOk r) : ∀ c ∈ tl (rowS r), c ≤ 122 := by
  rw [tl_rowS]
  refine joinL_all (· ≤ 122) [32] (by decide) _ fun p hp c hc => ?_
  simp only [List.mem_cons, List.not_mem_nil, or_false] at hp
  rcases hp with rfl | rfl | rfl
  · exact ((name_facts h.1).2.2 c hc).1
  · exact ((name_facts h.2.1).2.2 c hc).1
  · exact ((name_facts h.2.2).2.2 c hc).1
theorem text_ok {rs : List Row3} (h : ∀ r ∈ rs, RowOk r) : PyData.strOk (textS rs) = true := by
  refine strOk_of ?_
  unfold textS
  rw [join_eq, tl_join, tl_nl]
  refine joinL_all (· ≤ 122) [10] (by decide) _ fun p hp c hc => ?_
  obtain ⟨x, hx, rfl⟩ := List.mem_map.mp hp
  rcases List.mem_cons.mp hx with rfl | hx
  · rw [tl_gates] at hc
    revert c
    decide
  · obtain ⟨r, hr, rfl⟩ := List.mem_map.mp hx
    exact rowS_le (h r hr) c hc
theorem neo_str {x y : Str} (hx : PyData.strOk x = true) (hy : PyData.strOk y = true) : D.neo (.str x) (.str y) = some (.bl (!decide (x = y))) := by
  unfold D.neo
  rw [eqc_gd (x := .str x) (y := .str y) (by simpa [D.gd] using hx) (by simpa [D.gd] using hy)]
  simp
/-! ### the law's statements -/
abbrev E21 (s0 s2 s3 s4 s5 s6 s7 s8 s9 s10 s11 s12 s13 : S) (c : Nat) : En := ⟨[s0, .fz .pen, s2, s3, s4, s5, s6, s7, s8, s9, s10, s11, s12, s13], c, none⟩
def w21a : WS := (wSet 1 (wCall spPen [] (wCons (wN 0) wNil)))
def w21b : WS := (wSet 3 (w2 D.eqo (wCall spDraw [] (wCons (wN 1) (wCons (wC (.int 6)) wNil))) (wC (.int 0))))
def w21c : WS := (wPar [4, 5] (sOw (w1 D.sort1 (wCall spNames [] (wCons (wN 1) (wCons (wIf (wTru (wN 3)) (wC (.int 6)) (w2 D.add (wC (.int 1)) (wCall spDraw [] (wCons (wN 1) (wCons (wC (.int 3)) wNil))))) wNil)))) (sFz (wCall spNames [] (wCons (wN 1) (wCons (wIf (wTru (wN 3)) (wC (.int 15)) (w2 D.add (wC (.int 1)) (wCall spDraw [] (wCons (wN 1) (wCons (wC (.int 5)) wNil))))) wNil))) sNil)))
def w21d : WS := (wSet 6 (wCall spLServer [] (wCons (wSl (w2 D.ix (wCall spSomeSrv [] (wCons (wN 1) (wCons (wN 4) (wCons (wN 5) (wCons (wC (.int 8)) wNil))))) (wC (.str "rows"))) wON (wOS (wC (.int 120)))) wNil)))
def w21e : WS := (wIfS (wTst (w2 D.eqo (wCall spDraw [] (wCons (wN 1) (wCons (wC (.int 8)) wNil))) (wC (.int 0)))) (wSet 6 (wCall spLServer [] (wCons (wLst wNil) wNil))) wNx)
def w21f (CS : Addr) : WS := (wSet 7 (wCall (spMade CS) [] (wCons (wN 1) (wCons (wN 6) wNil))))
def w21g : WS := (wSet 8 (wJoin (wC (.str "\n")) (w2 D.add (wLst (wCons (wC (.str "gates")) wNil)) (wLc (wIt (w2O 6 D.ix (wC (.str "rows")))) (wgN 13) wYes (wJoin (wC (.str " ")) (wN 13)) [13]))))
def w21h (CS CE : Addr) : WS := (wSet 9 (wCall (spRead CS CE) [] (wCons (wN 8) wNil)))
def w21i (CS : Addr) : WS := (wIfS (wOr (wNot (wTru (wCall (spLSame 3) [] (wCons (wCall (spText CS) [] (wCons (wN 7) wNil)) (wCons (wN 8) wNil))))) (wOr (wNot (wTst (wEqI CS (spEqS CS) (wN 9) (wN 7)))) (wOr (wNot (wTru (w1 (D.isI (tabC CS)) (wL 9)))) (wTst (w2 D.neo (wCall (spText CS) [] (wCons (wN 9) wNil)) (wN 8)))))) (wRet (wC (.bl false))) wNx)
def w21j : WS := (wSetN 11 (wLst wNil))
def w21k (CS CE : Addr) : WS := (wTry CE 12 11 [.f "line", .f "word"] (wSeqX (wDropX (wCallX (spRead CS CE) (wCons (wN 10) wNil)))
  (wOf (wDrop (wLM 11 lmApp (wCons (wC .non) wNil))))))
def w21l : WS := (wIfS (wTst (w2 D.neo (wN 11) (wLst (wCons (wTup (wCons (wC (.int 0)) (wCons (wC (.int 0)) wNil))) wNil)))) (wRet (wC (.bl false))) wNx)
section
variable {F : Fn} {s0 s2 s3 s4 s5 s6 s7 s8 s9 s10 s11 s12 s13 : S} {c : Nat}
theorem k21a {ns : List Int} {s1 : S} (h : F.nx (E21 (.fz (.scr ns)) s2 s3 s4 s5 s6 s7 s8 s9 s10 s11 s12 s13 c)) : w21a ⟨[.fz (.scr ns), s1, s2, s3, s4, s5, s6, s7, s8, s9, s10, s11, s12, s13], c, none⟩ F := by
  simp only [w21a, wSet, wCall, wCons, wNil, wN]
  simp [En.asg]
  exact ⟨ns, rfl, h⟩
theorem k21b (hc : c < 10000) (h : ∀ b, F.nx (E21 s0 s2 (.fz (.bl b)) s4 s5 s6 s7 s8 s9 s10 s11 s12 s13 (c + 1))) : w21b (E21 s0 s2 s3 s4 s5 s6 s7 s8 s9 s10 s11 s12 s13 c) F := by
  simp only [w21b, wSet, wCall, wCons, wNil, wN, w2, wC]
  simp [En.asg]
  exact ⟨6, rfl, by omega, by omega, by omega, fun q q0 q1 => ⟨_, eqo_int q 0, h _⟩⟩
theorem k21c {b : Bool} (hc : c < 9000) (h : ∀ cs ps c', (∀ x ∈ cs, nameL x = true) → cs ≠ [] → cs.length ≤ 6 → (∀ x ∈ ps, nameL x = true) → ps ≠ [] → ps.length ≤ 15 → c' ≤ c + 400 → F.nx (E21 s0 s2 (.fz (.bl b)) (.ow (lstT cs)) (.fz (lstT ps)) s6 s7 s8 s9 s10 s11 s12 s13 c')) :
    w21c (E21 s0 s2 (.fz (.bl b)) s4 s5 s6 s7 s8 s9 s10 s11 s12 s13 c) F := by
  have go2 : ∀ (cs : List Txt) (many c1 : Nat), (∀ x ∈ cs, nameL x = true) → cs ≠ [] → cs.length ≤ 6 → 1 ≤ many → many ≤ 15 → c1 ≤ c + 200 → spNames [.pen, .int many] c1 (fun d c' => F.nx (E21 s0 s2 (.fz (.bl b)) (.ow (lstT cs)) (.fz d) s6 s7 s8 s9 s10 s11 s12 s13 c')) (fun _ _ => False) := fun cs many c1 h1 h2 h3 g1 g2 g3 =>
    names_sp g1 (by omega) (by omega) fun ps c' e1 e2 e3 e4 e5 => h cs ps c' h1 h2 h3 e1 e2 (by omega) (by omega)
  have srt : ∀ ls : List Txt, (∀ x ∈ ls, nameL x = true) → ls ≠ [] → ls.length ≤ 6 → (∀ x ∈ srtT ls, nameL x = true) ∧ srtT ls ≠ [] ∧ (srtT ls).length ≤ 6 := fun ls h1 h2 h3 => by
    have e := (srtF_perm unT_txtD ls).length_eq
    refine ⟨srt_names h1, fun z => ?_, by show (srtF txtD unT ls).length ≤ 6; omega⟩
    have z : srtF txtD unT ls = [] := z
    rw [z, List.length_nil] at e
    exact h2 (List.eq_nil_of_length_eq_zero e.symm)
  have lt2' : 2 ≤ sizeLine := lt2
  simp only [w21c, wPar, sOw, sFz, sNil, wCall, wCons, wNil, wN, w1, w2, wC, wIf, wTru]
  cases b with
  | true =>
    simp [En.asg, D.tru, asgs]
    refine names_sp (many := 6) (by omega) (by omega) (by omega) fun ls c1 e1 e2 e3 e4 e5 => ?_
    obtain ⟨q1, q2, q3⟩ := srt ls e1 e2 (by omega)
    exact ⟨_, sort1_P (fun x hx => name_ok (e1 x hx)) (by omega), go2 _ 15 c1 q1 q2 q3 (by omega) (by omega) (by omega)⟩
  | false =>
    simp [En.asg, D.tru, asgs]
    refine ⟨3, rfl, by omega, by omega, by omega, fun q q0 q1 => ⟨.int (1 + q), rfl, ?_⟩⟩
    have e0 : (.int (1 + q) : D) = .int ((1 + q).toNat : Int) := by rw [Int.toNat_of_nonneg (by omega)]
    rw [e0]
    refine names_sp (many := (1 + q).toNat) (by omega) (by omega) (by omega) fun ls c1 e1 e2 e3 e4 e5 => ?_
    obtain ⟨q1', q2, q3⟩ := srt ls e1 e2 (by omega)
    refine ⟨_, sort1_P (fun x hx => name_ok (e1 x hx)) (by omega), 5, rfl, by omega, by omega, by omega, fun p p0 p1 => ⟨.int (1 + p), rfl, ?_⟩⟩
    have e2' : (.int (1 + p) : D) = .int ((1 + p).toNat : Int) := by rw [Int.toNat_of_nonneg (by omega)]
    rw [e2']
    exact go2 _ _ _ q1' q2 q3 (by omega) (by omega) (by omega)
end
end DL
/-! DP, part f: the law of k21. -/
namespace DL
open PySem PySem.Spec L2 TL
theorem canR_nil : canR [] = [] := List.eq_nil_of_length_eq_zero (Nat.le_zero.mp (by simpa using canF_len (f := rowD) (un := unR) []))
section
variable {F : Fn} {s0 s2 s3 s4 s5 s6 s7 s8 s9 s10 s11 s12 s13 : S} {c : Nat}
theorem k21d {cs ps : List Txt} (h1 : ∀ x ∈ cs, nameL x = true) (h2 : cs ≠ []) (h3 : cs.length ≤ 6) (g1 : ∀ x ∈ ps, nameL x = true) (g2 : ps ≠ []) (g3 : ps.length ≤ 15) (hc : c < 10000)
    (h : ∀ rs c', Srv rs → rs.length ≤ 120 → canR rs = rs → c' ≤ c + 600 → F.nx (E21 s0 s2 s3 (.fz (lstT cs)) (.fz (lstT ps)) (.fz (lawD rs)) s7 s8 s9 s10 s11 s12 s13 c')) :
    w21d (E21 s0 s2 s3 (.ow (lstT cs)) (.fz (lstT ps)) s6 s7 s8 s9 s10 s11 s12 s13 c) F := by
  simp only [w21d, wSet, wCall, wCons, wNil, wSl, wON, wOS, w2, wC, wN]
  simp [datOf, En.asg, En.put]
  refine ⟨cs, ps, 8, rfl, h1, g1, h2, g2, h3, by omega, by omega, fun rs c2 s hcn k1 k2 => ?_⟩
  have hc : (canR (rs.take 120)).length ≤ (rs.take 120).length := canF_len _
  have ok : ∀ r ∈ rs.take 120, RowOk r := fun r hr => s.ok r (List.mem_of_mem_take hr)
  rw [List.length_take] at hc
  have e4 : (rs.map rowD).take 120 = (rs.take 120).map rowD := (List.map_take ..).symm
  refine ⟨_, lawD_rows rs, _, sl_lst (n := 120), _, rs.take 120, rfl, by rw [e4]; rfl, ok, by rw [List.length_take]; omega, ?_⟩
  exact h _ c2 ⟨fun r hr => ok r ((canF_mem unR_rowD).mp hr), by omega⟩ (by omega) (canR_canR ok (by rw [List.length_take]; omega)) k2
theorem k21e {rs : List Row3} (s : Srv rs) (hl : rs.length ≤ 120) (hcn : canR rs = rs) (hc : c < 20000) (h : ∀ rs, Srv rs → rs.length ≤ 120 → canR rs = rs → F.nx (E21 s0 s2 s3 s4 s5 (.fz (lawD rs)) s7 s8 s9 s10 s11 s12 s13 (c + 1))) :
    w21e (E21 s0 s2 s3 s4 s5 (.fz (lawD rs)) s7 s8 s9 s10 s11 s12 s13 c) F := by
  have lt0 : 0 ≤ sizeLine := Nat.zero_le _
  simp only [w21e, wIfS, wTst, w2, wCall, wCons, wNil, wN, wC, wSet, wLst, wNx]
  simp [En.asg]
  refine ⟨8, rfl, by omega, by omega, by omega, fun q q0 q1 => ⟨_, eqo_int q 0, orb ?_⟩⟩
  split
  · refine ⟨_, [], rfl, rfl, (fun _ z => nomatch z), by simp, ?_⟩
    show F.nx _
    rw [canR_nil]
    exact h [] ⟨(fun _ z => nomatch z), by simp⟩ (by simp) canR_nil
  · exact h rs s hl hcn
theorem k21f {CS : Addr} {rs : List Row3} (s : Srv rs) (hl : rs.length ≤ 120) (hcn : canR rs = rs) (hc : c < 30000) (h : ∀ c', c' ≤ c + 300 → F.nx (E21 s0 s2 s3 s4 s5 (.fz (lawD rs)) (.fz (serverD CS rs)) s8 s9 s10 s11 s12 s13 c')) :
    w21f CS (E21 s0 s2 s3 s4 s5 (.fz (lawD rs)) s7 s8 s9 s10 s11 s12 s13 c) F := by
  simp only [w21f, wSet, wCall, wCons, wNil, wN]
  simp [En.asg]
  exact ⟨rs, rfl, s, by omega, hcn, by omega, fun c' _ k => h c' (by omega)⟩
theorem k21g {rs : List Row3} (s : Srv rs) (h : ∀ s13, F.nx (E21 s0 s2 s3 s4 s5 (.fz (lawD rs)) s7 (.fz (.str (textS rs))) s9 s10 s11 s12 s13 c)) :
    w21g (E21 s0 s2 s3 s4 s5 (.fz (lawD rs)) s7 s8 s9 s10 s11 s12 s13 c) F := by
  have sz := s.sz
  have lt1 : 1 ≤ sizeLine := Nat.le_trans (by decide) lt2
  have e1 : D.items (.lst (rs.map rowD)) = some (rs.map rowD) := rfl
  simp only [w21g, wSet, wJoin, w2, wC, wLst, wCons, wNil, wLc, wIt, w2O]
  simp [datOf, lt1]
  refine ⟨_, lawD_rows rs, _, e1, ?_⟩
  refine lc_join (by simp) rs (by omega) s.ok ?_
  have ea : D.add (.lst [.str "gates"]) (.lst ((rs.map rowS).map D.str)) = some (.lst ((sGates :: rs.map rowS).map D.str)) := by
    show (if [D.str "gates"].length + ((rs.map rowS).map D.str).length ≤ sizeLine then some (D.lst ([D.str "gates"] ++ (rs.map rowS).map D.str)) else none) = _
    rw [if_pos (by simp only [List.length_map, List.length_cons, List.length_nil]; exact Nat.le_of_lt (small (by omega)))]; rfl
  refine ⟨_, ea, _, join_text s.ok sz, ?_⟩
  simp [En.asg, En.wipe]
  exact h _
theorem k21h {CS CE : Addr} {rs : List Row3} (s : Srv rs) (hcn : canR rs = rs) (h : F.nx (E21 s0 s2 s3 s4 s5 s6 s7 (.fz (.str (textS rs))) (.fz (serverD CS rs)) s10 s11 s12 s13 c)) :
    w21h CS CE (E21 s0 s2 s3 s4 s5 s6 s7 (.fz (.str (textS rs))) s9 s10 s11 s12 s13 c) F := by
  simp only [w21h, wSet, wCall, wCons, wNil, wN]
  simp [En.asg]
  exact .inl ⟨rs, rfl, s, hcn, h⟩
theorem k21i {CS : Addr} {rs : List Row3} (s : Srv rs) (h : F.nx (E21 s0 s2 s3 s4 s5 s6 (.fz (serverD CS rs)) (.fz (.str (textS rs))) (.fz (serverD CS rs)) s10 s11 s12 s13 c)) :
    w21i CS (E21 s0 s2 s3 s4 s5 s6 (.fz (serverD CS rs)) (.fz (.str (textS rs))) (.fz (serverD CS rs)) s10 s11 s12 s13 c) F := by
  have ok := text_ok s.ok
  have p1 : pl 3 (.str (textS rs)) = true := by rw [pl_str]; exact ok
  simp only [w21i, wIfS, wOr, wNot, wTru, wTst, wCall, wCons, wNil, wN, wEqI, w1, w2, wL, wRet, wC, wNx]
  simp [datOf]
  refine ⟨rs, rfl, s, _, _, rfl, p1, p1, .inr ⟨by simp [D.tru], ?_⟩⟩
  refine ⟨⟨_, _, rfl⟩, rs, rs, rfl, s, s, by simp, ?_⟩
  simp [isI_srv, D.tru]
  exact ⟨rs, rfl, s, _, neo_str ok ok, .inl ⟨by simp, h⟩⟩
theorem k21j (h : F.nx (E21 s0 s2 s3 s4 s5 s6 s7 s8 s9 s10 (.ow (.lst [])) s12 s13 c)) : w21j (E21 s0 s2 s3 s4 s5 s6 s7 s8 s9 s10 s11 s12 s13 c) F := by
  simp only [w21j, wSetN, wLst, wNil]
  simp [En.asg]
  exact h
theorem k21k {CS CE : Addr} {v : D} (hv : D.isI (tabB ["str"]) v = some (.bl false)) (h : F.nx (E21 s0 s2 s3 s4 s5 s6 s7 s8 s9 (.fz v) (.ow (.lst [.tup [.int 0, .int 0]])) .un s13 c)) :
    w21k CS CE (E21 s0 s2 s3 s4 s5 s6 s7 s8 s9 (.fz v) (.ow (.lst [])) s12 s13 c) F := by
  have e1 : HI.gets ["word", "line"] [.int 0, .int 0] [.f "line", .f "word"] = some [.int 0, .int 0] := by decide +kernel
  simp only [w21k, wTry, wTryA, wSeqX, wDropX, wCallX, wCons, wNil, wN, wOf]
  simp
  refine .inr ⟨v, rfl, hv, _, _, rfl, _, e1, by simp, [], rfl, small (by decide), by simp, ?_⟩
  simp [En.asg, En.put]
  exact h
theorem k21l (h : ∀ s11, F.nx (E21 s0 s2 s3 s4 s5 s6 s7 s8 s9 s10 s11 s12 s13 c)) : w21l (E21 s0 s2 s3 s4 s5 s6 s7 s8 s9 s10 (.ow (.lst [.tup [.int 0, .int 0]])) s12 s13 c) F := by
  have lt1 : 1 ≤ sizeLine := Nat.le_trans (by decide) lt2
  have e1 : D.neo (.lst [.tup [.int 0, .int 0]]) (.lst [.tup [.int 0, .int 0]]) = some (.bl false) := by decide +kernel
  simp only [w21l, wIfS, wTst, w2, wN, wLst, wTup, wCons, wNil, wC, wRet, wNx]
  simp [En.asg, En.put, datOf, lt1, lt2]
  exact ⟨_, e1, .inl ⟨rfl, h _⟩⟩
end
end DL
/-! DP, part g: the law of k21, put together. -/
namespace DL
open PySem PySem.Spec L2 TL
def w21lap (CS CE : Addr) : WS := wSeq w21b (wSeq w21c (wSeq w21d (wSeq w21e (wSeq (w21f CS) (wSeq w21g (wSeq (w21h CS CE) (w21i CS)))))))
def w21val (CS CE : Addr) : WS := wSeq w21j (wSeq (w21k CS CE) w21l)
def W21_law (CS CE : Addr) : WS := (wSeq w21a (wSeq (wFor (wRng1 (wCons (wC (.int 3)) wNil)) (wgN 2) (w21lap CS CE))
  (wSeq (wFor (wIt (wLst (wCons (wC .non) (wCons (wC (.int 5)) (wCons (wTup (wCons (wN 8) wNil)) (wCons (wC (.bl true)) (wCons (wLst (wCons (wN 8) wNil)) wNil))))))) (wgN 10) (w21val CS CE))
  (wRet (wC (.bl true))))))
section
variable {F : Fn} {CS CE : Addr} {s0 : S}
theorem lap21 {s2 s3 s4 s5 s6 s7 s8 s9 s10 s11 s12 s13 : S} {c : Nat} (hc : c < 6000) (h : ∀ s3 s4 s5 s6 s7 t s9 s13 c', c' ≤ c + 1500 → F.nx (E21 s0 s2 s3 s4 s5 s6 s7 (.fz (.str t)) s9 s10 s11 s12 s13 c')) : w21lap CS CE (E21 s0 s2 s3 s4 s5 s6 s7 s8 s9 s10 s11 s12 s13 c) F := by
  simp only [w21lap, wSeq]
  refine k21b (by omega) fun b => ?_
  refine k21c (by omega) fun cs ps c1 h1 h2 h3 g1 g2 g3 k1 => ?_
  refine k21d h1 h2 h3 g1 g2 g3 (by omega) fun rs c2 s hl hcn k2 => ?_
  refine k21e s hl hcn (by omega) fun rs s hl hcn => ?_
  refine k21f s hl hcn (by omega) fun c3 k3 => ?_
  refine k21g s fun s13 => ?_
  refine k21h (CE := CE) s hcn ?_
  refine k21i s ?_
  exact h _ _ _ _ _ _ _ _ c3 (by omega)
theorem val21 {s2 s3 s4 s5 s6 s7 s8 s9 s11 s12 s13 : S} {c : Nat} {v : D} (hv : D.isI (tabB ["str"]) v = some (.bl false)) (h : ∀ s11 s12, F.nx (E21 s0 s2 s3 s4 s5 s6 s7 s8 s9 (.fz v) s11 s12 s13 c)) : w21val CS CE (E21 s0 s2 s3 s4 s5 s6 s7 s8 s9 (.fz v) s11 s12 s13 c) F := by
  simp only [w21val, wSeq]
  refine k21j ?_
  refine k21k (CS := CS) hv ?_
  exact k21l fun s11 => h s11 _
theorem vals21 {s2 s3 s4 s5 s6 s7 s8 s9 s13 : S} {c : Nat} : ∀ (vs : List D) (s10 s11 s12 : S), (∀ v ∈ vs, D.isI (tabB ["str"]) v = some (.bl false)) → (∀ s10 s11 s12, F.nx (E21 s0 s2 s3 s4 s5 s6 s7 s8 s9 s10 s11 s12 s13 c)) → wForR (wgN 10) (w21val CS CE) F vs (E21 s0 s2 s3 s4 s5 s6 s7 s8 s9 s10 s11 s12 s13 c)
  | [], s10, s11, s12, _, h => by simpa [wForR] using h s10 s11 s12
  | v :: vs, s10, s11, s12, hv, h => by
    have ih := fun s11 s12 => vals21 vs (.fz v) s11 s12 (fun x hx => hv x (List.mem_cons_of_mem _ hx)) h
    rw [wForR]
    generalize wForR (wgN 10) (w21val CS CE) F vs = R at ih
    simp only [wgN, En.asg, List.set]
    exact val21 (F := { F with nx := R, bk := F.nx, ct := R }) (hv v List.mem_cons_self) ih
end
theorem q_law21 (CS CE : Addr) (ds : List D) (c : Nat) (K KE : D → Nat → Prop) (h : spLaw ds c K KE) : W21_law CS CE (en0 ["script", "pen", "lap", "wide", "calls", "places", "server", "made", "text", "again", "value", "told", "error", "row"] ds c) { nx := fun e => K .non e.cnt, rt := K } := by
  obtain ⟨ns, rfl, rfl, h⟩ := h
  have lt5 : 5 ≤ sizeLine := Nat.le_of_lt (small (by decide))
  have lt1 : 1 ≤ sizeLine := Nat.le_trans (by decide) lt2
  simp only [W21_law, wSeq]
  refine k21a ?_
  have e3 : rangeD 0 (3 : Int).toNat = [.int 0, .int 1, .int 2] := by decide +kernel
  simp only [wFor, wRng1, wCons, wNil, wC]
  refine ⟨3, rfl, by decide, by decide, ?_⟩
  rw [e3]
  simp only [wForR, wgN, En.asg, List.set]
  refine lap21 (by omega) fun s3 s4 s5 s6 s7 t s9 s13 c1 k1 => ?_
  refine lap21 (c := c1) (by omega) fun s3 s4 s5 s6 s7 t s9 s13 c2 k2 => ?_
  refine lap21 (c := c2) (by omega) fun s3 s4 s5 s6 s7 t s9 s13 c3 k3 => ?_
  simp only [wIt, wLst, wTup, wN, wCons, wNil, wC]
  simp [lt1, lt5]
  refine ⟨_, rfl, ?_⟩
  refine vals21 _ _ _ _ (fun v hv => ?_) fun s10 s11 s12 => ?_
  · simp only [List.mem_cons, List.not_mem_nil, or_false] at hv
    rcases hv with rfl | rfl | rfl | rfl | rfl <;> rfl
  · simp only [wRet, wC]
    exact h _
end DL
namespace T21
open PySem PySem.Spec L2 DL
def top (i : Nat) : Stmt := PySem.Challenge.pw_nolessservers_k21_whole_texts_of_servers.main.body.getD i (.Pass ⟨0, 0, 0, 0⟩)
def nbs : List Str := ["len", "list", "tuple", "sorted", "set", "range", "min", "max", "sum", "str", "isinstance", "zip", "all", "any", "int", "bool"]
section
variable {P : Program} {w : World} {K : PySem.W.Frag} {mg : Str → Option Value} {base : Heap} {k : Nat}
theorem d__law_pen (nb : ∀ x ∈ nbs, mg x = none) {f : Addr} {cdv : Value} {A : Around} {outer : List Env} {s : Shared} {H : Hp} {E : XK} (hr : Room k (A.deeper (PyProof.Rows.envOfC "_law_pen" (defScope (top 22)) s.heap.objs.size f cdv))) : DSs (bX P w K mg base ["script", "fold", "cell"] "_law_pen" (defScope (top 22)) f cdv A outer s H E) (defBody (top 22)) (W__law_pen 43) :=
  have hN : (["script", "fold", "cell"] : List Str).Nodup := by decide +kernel
  (ds_cons (ds_set (i := 1) hN de_int)
  (ds_cons (ds_for .never (di_any (de_n 0)) (dg_name (i := 2) hN) (ds_one (ds_set (i := 1) hN (de_mod (de_int1 (nb "int" (by decide)) (dq (de_add (de_mul (de_n 1) de_int) (de_n 2)))) de_int))))
  (ds_one (ds_ret (de_pen 0 1 (pps_cons pe_str (pe_callTy call_list_of rfl (nb "list" (by decide)) (by decide +kernel) (pa_one (pv 0))) (pps_cons pe_str pe_int (pps_cons pe_str pe_int (pps_cons pe_str pe_int (pps_cons pe_str (pv 1) pps_nil))))))))))
theorem d__law_draw (nb : ∀ x ∈ nbs, mg x = none) {f : Addr} {cdv : Value} {A : Around} {outer : List Env} {s : Shared} {H : Hp} {E : XK} (hr : Room k (A.deeper (PyProof.Rows.envOfC "_law_draw" (defScope (top 23)) s.heap.objs.size f cdv))) : PSs (bX P w K mg base ["pen", "many", "cell", "digit", "blend"] "_law_draw" (defScope (top 23)) f cdv A outer s H E) (defBody (top 23)) (tDraw K) :=
  have hN : (["pen", "many", "cell", "digit", "blend"] : List Str).Nodup := by decide +kernel
  have hu := Nat.lt_of_le_of_lt (Nat.add_le_add_left (by decide : 1 ≤ 64) _) (room64 hr)
  (pss_cons (ps_dput hu (pv 0) pe_str (pe_op op_add (pe_dget hu (pv 0) pe_str (by intro _ _; rfl)) pe_int) rfl)
  (pss_cons (ps_if (PW.pt (pw_and (pt_cmpR op_eq (pe_dget hu (pv 0) pe_str (by intro _ _; rfl)) pe_int (nomark _)) (pw_and1 (pt_cmpR op_lt (pe_dget hu (pv 0) pe_str (by intro _ _; rfl)) (pe_callB call_len rfl (nb "len" (by decide)) boot_len (pa_one (pe_dget hu (pv 0) pe_str (by intro _ _; rfl)))) (by first | exact nomark _ | rfl)))))
    (pss_cons (ps_set (i := 2) hN rfl (Or.inl rfl) (pe_ix ix_seq (pe_dget hu (pv 0) pe_str (by intro _ _; rfl)) (pe_dget hu (pv 0) pe_str (by intro _ _; rfl)) (by intro _ _; rfl)))
    (pss_cons (ps_dput hu (pv 0) pe_str (pe_op op_add (pe_dget hu (pv 0) pe_str (by intro _ _; rfl)) pe_int) rfl)
    (pss_one (ps_if (pt_cmpR op_ge (pv 2) (pe_op op_pow pe_int pe_int) (by first | exact nomark _ | rfl)) (pss_one (ps_dput hu (pv 0) pe_str (pe_op op_sub (pv 2) (pe_op op_pow pe_int pe_int)) rfl))
      (pss_one (ps_dput hu (pv 0) pe_str (pe_op op_mod (pe_callTy call_int1 rfl (nb "int" (by decide)) (by decide +kernel) (pa_one (pe_op op_add (pe_op op_mul (pe_dget hu (pv 0) pe_str (by intro _ _; rfl)) pe_int) (pv 2)))) pe_int) rfl)))))) pss_nil)
  (pss_cons (ps_if (pt_cmpR op_gt (pe_dget hu (pv 0) pe_str (by intro _ _; rfl)) pe_int (nomark _))
    (pss_cons (ps_set (i := 3) hN rfl (Or.inl rfl) (pe_op op_mod (pe_callTy call_int1 rfl (nb "int" (by decide)) (by decide +kernel) (pa_one (pe_dget hu (pv 0) pe_str (by intro _ _; rfl)))) (pv 1)))
    (pss_cons (ps_dput hu (pv 0) pe_str (pe_op op_fdiv (pe_dget hu (pv 0) pe_str (by intro _ _; rfl)) (pv 1)) rfl)
    (pss_one (ps_ret (pv 3))))) pss_nil)
  (pss_cons (ps_set (i := 4) hN rfl (Or.inl rfl) (pe_op op_add (pe_op op_add (pe_dget hu (pv 0) pe_str (by intro _ _; rfl)) (pe_op op_mul (pe_dget hu (pv 0) pe_str (by intro _ _; rfl)) pe_int)) pe_int))
  (pss_one (ps_ret (pe_op op_mod (pe_op op_fdiv (pe_callTy call_int1 rfl (nb "int" (by decide)) (by decide +kernel) (pa_one (pe_op op_mod (pe_op op_pow (pv 4) pe_int) pe_int))) pe_int) (pv 1))))))))
theorem d__law_same {sp_rec : FS} (nb : ∀ x ∈ nbs, mg x = none) (D__law_same : DefAt P w K mg base "_law_same" k [] sp_rec) {f : Addr} {cdv : Value} {A : Around} {outer : List Env} {s : Shared} {H : Hp} {E : XK} (hr : Room k (A.deeper (PyProof.Rows.envOfC "_law_same" (defScope (top 30)) s.heap.objs.size f cdv))) : DSs (bX P w K mg base ["told", "due", "one", "two"] "_law_same" (defScope (top 30)) f cdv A outer s H E) (defBody (top 30)) (W__law_same sp_rec) :=
  have hN : (["told", "due", "one", "two"] : List Str).Nodup := by decide +kernel
  (ds_cons (ds_if (dt_tru (de_is1 (nb "isinstance" (by decide)) (.ty _) isT_tup (dq_n 1) (pe_ty (nb "tuple" (by decide))))) (ds_one (ds_ret (de_and (de_is1 (nb "isinstance" (by decide)) (.ty _) isT_tup (dq_n 0) (pe_ty (nb "tuple" (by decide)))) (de_and (de_eq hr (de_len (nb "len" (by decide)) (dq_n 0)) (de_len (nb "len" (by decide)) (dq_n 1))) (de_one (de_all (nb "all" (by decide)) (dq (de_fz (dn_lc (own := [("one", 2), ("two", 3)]) hN (di_zip (nb "zip" (by decide)) (da_cons (de_n 0) (da_cons (de_n 1) da_nil))) (blk_of rfl (by rfl)) (fun _ _ _ _ _ => (cg_tup (cgs_cons (cg_name (i := 2) hN) (cgs_cons (cg_name (i := 3) hN) cgs_nil)))) (fun _ _ _ _ _ => cts_nil) (fun _ _ _ _ _ => (de_call D__law_same hr (da_cons (de_n 2) (da_cons (de_n 3) da_nil))))))))))))) ds_nil)
  (ds_cons (ds_if (dt_is (de_n 1) de_non) (ds_one (ds_ret (de_is (de_n 0) de_non))) ds_nil)
  (ds_cons (ds_if (dt_is (de_n 1) de_bl) (ds_one (ds_ret (de_is (de_n 0) de_bl))) ds_nil)
  (ds_cons (ds_if (dt_is (de_n 1) de_bl) (ds_one (ds_ret (de_is (de_n 0) de_bl))) ds_nil)
  (ds_cons (ds_if (dt_tru (de_is1 (nb "isinstance" (by decide)) (.ty _) isT_int (dq_n 1) (pe_ty (nb "int" (by decide))))) (ds_one (ds_ret (de_and (de_is1 (nb "isinstance" (by decide)) (.ty _) isT_int (dq_n 0) (pe_ty (nb "int" (by decide)))) (de_and (de_not (de_is1 (nb "isinstance" (by decide)) (.ty _) isT_bool (dq_n 0) (pe_ty (nb "bool" (by decide))))) (de_one (de_eq hr (de_n 0) (de_n 1))))))) ds_nil)
  (ds_one (ds_ret (de_and (de_is1 (nb "isinstance" (by decide)) (.ty _) isT_str (dq_n 0) (pe_ty (nb "str" (by decide)))) (de_one (de_eq hr (de_n 0) (de_n 1)))))))))))

theorem d_is_name (nb : ∀ x ∈ nbs, mg x = none) (g_LETTERS : ∃ u, mg "LETTERS" = some u ∧ RelV (flatV (.str "abcdefghijklmnopqrstuvwxyz")) u) (g_FIGURES : ∃ u, mg "FIGURES" = some u ∧ RelV (flatV (.str "0123456789")) u) {f : Addr} {cdv : Value} {A : Around} {outer : List Env} {s : Shared} {H : Hp} {E : XK} (hr : Room k (A.deeper (PyProof.Rows.envOfC "is_name" (defScope (top 10)) s.heap.objs.size f cdv))) : DSs (bX P w K mg base ["value", "sign"] "is_name" (defScope (top 10)) f cdv A outer s H E) (defBody (top 10)) (W_is_name) :=
  have hN : (["value", "sign"] : List Str).Nodup := by decide +kernel
  (ds_cons (ds_if (dt_w (dw_or (dt_not (dt_tru (de_is1 (nb "isinstance" (by decide)) (.ty _) isT_str (dq_n 0) (pe_ty (nb "str" (by decide)))))) (dw_or (dt_not (dt_lele de_int (de_len (nb "len" (by decide)) (dq_n 0)) de_int)) (dw_or1 (dt_nin hr (de_ixO hr 0 de_int) (dq (de_glob (d := (.str "abcdefghijklmnopqrstuvwxyz")) rfl g_LETTERS.choose_spec.1 rfl g_LETTERS.choose_spec.2))))))) (ds_one (ds_ret de_bl)) ds_nil)
  (ds_one (ds_ret (de_all (nb "all" (by decide)) (dq (de_fz (dn_lc (own := [("sign", 1)]) hN (di_any (de_n 0)) (blk_of rfl (by rfl)) (fun _ _ _ _ _ => (cg_name (i := 1) hN)) (fun _ _ _ _ _ => cts_nil) (fun _ _ _ _ _ => (de_or (de_in hr (de_n 1) (dq (de_glob (d := (.str "abcdefghijklmnopqrstuvwxyz")) rfl g_LETTERS.choose_spec.1 rfl g_LETTERS.choose_spec.2))) (de_one (de_in hr (de_n 1) (dq (de_glob (d := (.str "0123456789")) rfl g_FIGURES.choose_spec.1 rfl g_FIGURES.choose_spec.2)))))))))))))

theorem d_is_row (nb : ∀ x ∈ nbs, mg x = none) (D_is_name : DefAt P w K mg base "is_name" k [] spIsName) {f : Addr} {cdv : Value} {A : Around} {outer : List Env} {s : Shared} {H : Hp} {E : XK} (hr : Room k (A.deeper (PyProof.Rows.envOfC "is_row" (defScope (top 12)) s.heap.objs.size f cdv))) : DSs (bX P w K mg base ["value", "part"] "is_row" (defScope (top 12)) f cdv A outer s H E) (defBody (top 12)) (W_is_row) :=
  have hN : (["value", "part"] : List Str).Nodup := by decide +kernel
  (ds_one (ds_ret (de_and (de_is1 (nb "isinstance" (by decide)) (.ty _) isT_tup (dq_n 0) (pe_ty (nb "tuple" (by decide)))) (de_and (de_eq hr (de_len (nb "len" (by decide)) (dq_n 0)) de_int) (de_one (de_all (nb "all" (by decide)) (dq (de_fz (dn_lc (own := [("part", 1)]) hN (di_any (de_n 0)) (blk_of rfl (by rfl)) (fun _ _ _ _ _ => (cg_name (i := 1) hN)) (fun _ _ _ _ _ => cts_nil) (fun _ _ _ _ _ => (de_call D_is_name hr (da_cons (de_n 1) da_nil))))))))))))

theorem d_need_rows (nb : ∀ x ∈ nbs, mg x = none) (D_is_row : DefAt P w K mg base "is_row" k [] spIsRow) {f : Addr} {cdv : Value} {A : Around} {outer : List Env} {s : Shared} {H : Hp} {E : XK} (hr : Room k (A.deeper (PyProof.Rows.envOfC "need_rows" (defScope (top 13)) s.heap.objs.size f cdv))) : DSs (bX P w K mg base ["rows", "row"] "need_rows" (defScope (top 13)) f cdv A outer s H E) (defBody (top 13)) (W_need_rows) :=
  have hN : (["rows", "row"] : List Str).Nodup := by decide +kernel
  (ds_one (ds_for .never (di_any (de_n 0)) (dg_name (i := 1) hN) (ds_one (ds_if (dt_not (dt_tru (de_call D_is_row hr (da_cons (de_n 1) da_nil)))) (ds_one ds_never) ds_nil))))

theorem d_Server___init__ {cServer : Addr} (nb : ∀ x ∈ nbs, mg x = none) (D_need_rows : DefAt P w K mg base "need_rows" k [] spNeedRows) (f_Server_rows : ClF K "rows" cServer) (f_Server__answers : ClF K "_answers" cServer) (f_Server__known : ClF K "_known" cServer) {f : Addr} {cdv : Value} {A : Around} {outer : List Env} {s : Shared} {H : Hp} {E : XK} (hr : Room k (A.deeper (PyProof.Rows.envOfC "Server.__init__" (defScope (inClass (top 14) 0)) s.heap.objs.size f cdv))) : DSs (bX P w K mg base ["self", "rows", "told", "gate", "call", "other", "known"] "Server.__init__" (defScope (inClass (top 14) 0)) f cdv A outer s H E) (defBody (inClass (top 14) 0)) (W_Server___init__ cServer) :=
  have hN : (["self", "rows", "told", "gate", "call", "other", "known"] : List Str).Nodup := by decide +kernel
  (ds_cons (ds_expr (de_call D_need_rows hr (da_cons (de_n 1) da_nil)))
  (ds_cons (ds_fld f_Server_rows 0 (de_tuple (nb "tuple" (by decide)) (dq (de_fz (dn_sortSet (nb "sorted" (by decide)) (nb "set" (by decide)) (dq_n 1) (room64 hr))))))
  (ds_cons (ds_setN (i := 2) hN dn_dct0)
  (ds_cons (ds_for .never (di_any (de_fld f_Server_rows (dq_n 0))) (dg_tup (dgs_cons (dg_name (i := 3) hN) (dgs_cons (dg_name (i := 4) hN) (dgs_cons (dg_name (i := 5) hN) dgs_nil)))) (ds_one (ds_asg (de_add (de_getO hr 2 (da_cons (de_tup (da_cons (de_n 3) (da_cons (de_n 4) da_nil))) (da_cons (de_tup da_nil) da_nil))) (de_tup (da_cons (de_n 5) da_nil))) (dg_D hr 2 (de_tup (da_cons (de_n 3) (da_cons (de_n 4) da_nil)))))))
  (ds_cons (ds_fld f_Server__answers 0 (de_n 2))
  (ds_cons (ds_setN (i := 6) hN dn_dct0)
  (ds_cons (ds_for .never (di_any (de_n 2)) (dg_tup (dgs_cons (dg_name (i := 3) hN) (dgs_cons (dg_name (i := 4) hN) dgs_nil))) (ds_one (ds_asg (de_add (de_getO hr 6 (da_cons (de_n 3) (da_cons (de_tup da_nil) da_nil))) (de_tup (da_cons (de_n 4) da_nil))) (dg_D hr 6 (de_n 3)))))
  (ds_one (ds_fld f_Server__known 0 (de_fz (dn_dc (own := [("gate", 3)]) hr hN (di_any (de_n 6)) (blk_of rfl (by rfl)) (fun _ _ _ _ _ => (cg_name (i := 3) hN)) (fun _ _ _ _ _ => cts_nil) (fun _ _ _ _ _ => (de_n 3)) (fun _ _ _ _ _ => (de_tuple (nb "tuple" (by decide)) (dq (de_fz (dn_sorted (nb "sorted" (by decide)) (dq (de_ixO hr 6 (de_n 3))) (room64 hr)))))))))))))))))

theorem d_Server___eq__ {cServer : Addr} (nb : ∀ x ∈ nbs, mg x = none) (I_Server : mg "Server" = some (.ref cServer) ∧ ClI K cServer ∧ (tyNames.all fun n => PySem.W.kitOne K (.type n) (.ref cServer) == some false) = true) (f_Server_rows : ClF K "rows" cServer) {f : Addr} {cdv : Value} {A : Around} {outer : List Env} {s : Shared} {H : Hp} {E : XK} (hr : Room k (A.deeper (PyProof.Rows.envOfC "Server.__eq__" (defScope (inClass (top 14) 1)) s.heap.objs.size f cdv))) : DSs (bX P w K mg base ["self", "other"] "Server.__eq__" (defScope (inClass (top 14) 1)) f cdv A outer s H E) (defBody (inClass (top 14) 1)) (W_Server___eq__ cServer) :=
  have hN : (["self", "other"] : List Str).Nodup := by decide +kernel
  (ds_cons (ds_if (dt_not (dt_tru (de_is1 (nb "isinstance" (by decide)) (.own _) (isT_C I_Server.2.1 I_Server.2.2) (dq_n 1) (pe_glob (v := .ref cServer) rfl I_Server.1 rfl)))) (ds_one (ds_ret de_bl)) ds_nil)
  (ds_one (ds_ret (de_eq hr (de_fld f_Server_rows (dq_n 0)) (de_fld f_Server_rows (dq_n 1))))))

theorem d_server_text {cServer : Addr} (nb : ∀ x ∈ nbs, mg x = none) (f_Server_rows : ClF K "rows" cServer) {f : Addr} {cdv : Value} {A : Around} {outer : List Env} {s : Shared} {H : Hp} {E : XK} (hr : Room k (A.deeper (PyProof.Rows.envOfC "server_text" (defScope (top 17)) s.heap.objs.size f cdv))) : DSs (bX P w K mg base ["server", "row"] "server_text" (defScope (top 17)) f cdv A outer s H E) (defBody (top 17)) (W_server_text cServer) :=
  have hN : (["server", "row"] : List Str).Nodup := by decide +kernel
  (ds_one (ds_ret (de_join de_str (de_add (de_fz (dn_lst (da_cons de_str da_nil))) (de_fz (dn_lc (own := [("row", 1)]) hN (di_any (de_fld f_Server_rows (dq_n 0))) (blk_of rfl (by rfl)) (fun _ _ _ _ _ => (cg_name (i := 1) hN)) (fun _ _ _ _ _ => cts_nil) (fun _ _ _ _ _ => (de_join de_str (de_n 1)))))))))

theorem d_is_right (nb : ∀ x ∈ nbs, mg x = none) (D_is_name : DefAt P w K mg base "is_name" k [] spIsName) (g_LAST_NAME : ∃ u, mg "LAST_NAME" = some u ∧ RelV (flatV (.str "zzzzzzzzzzzz")) u) {f : Addr} {cdv : Value} {A : Around} {outer : List Env} {s : Shared} {H : Hp} {E : XK} (hr : Room k (A.deeper (PyProof.Rows.envOfC "is_right" (defScope (top 18)) s.heap.objs.size f cdv))) : DSs (bX P w K mg base ["last", "begin", "word", "greatest"] "is_right" (defScope (top 18)) f cdv A outer s H E) (defBody (top 18)) (W_is_right) :=
  have hN : (["last", "begin", "word", "greatest"] : List Str).Nodup := by decide +kernel
  (ds_cons (ds_if (dt_not (dt_tru (de_call D_is_name hr (da_cons (de_n 2) da_nil)))) (ds_one (ds_ret de_bl)) ds_nil)
  (ds_cons (ds_if (dt_is (de_n 0) de_non) (ds_one (ds_ret de_bl)) ds_nil)
  (ds_cons (ds_set (i := 3) hN (de_add (de_n 1) (de_tup (da_cons (de_n 2) da_nil))))
  (ds_one (ds_ret (de_gtT hr (de_add (de_n 3) (de_mulT (de_tup (da_cons (de_glob (d := (.str "zzzzzzzzzzzz")) rfl g_LAST_NAME.choose_spec.1 rfl g_LAST_NAME.choose_spec.2) da_nil)) (de_sub de_int (de_len (nb "len" (by decide)) (dq_n 3))))) (de_n 0)))))))

theorem d_read_row (nb : ∀ x ∈ nbs, mg x = none) (D_is_right : DefAt P w K mg base "is_right" k [] spIsRight) {f : Addr} {cdv : Value} {A : Around} {outer : List Env} {s : Shared} {H : Hp} {E : XK} (hr : Room k (A.deeper (PyProof.Rows.envOfC "read_row" (defScope (top 19)) s.heap.objs.size f cdv))) : DSs (bX P w K mg base ["words", "line", "last", "begin", "word"] "read_row" (defScope (top 19)) f cdv A outer s H E) (defBody (top 19)) (W_read_row) :=
  have hN : (["words", "line", "last", "begin", "word"] : List Str).Nodup := by decide +kernel
  (ds_cons (ds_set (i := 3) hN (de_tup da_nil))
  (ds_cons (ds_for .never (di_any (de_n 0)) (dg_name (i := 4) hN) (ds_cons (ds_if (dt_w (dw_or (dt_eq hr (de_len (nb "len" (by decide)) (dq_n 3)) de_int) (dw_or1 (dt_not (dt_tru (de_call D_is_right hr (da_cons (de_n 2) (da_cons (de_n 3) (da_cons (de_n 4) da_nil))))))))) (ds_one ds_never) ds_nil)
  (ds_one (ds_set (i := 3) hN (de_add (de_n 3) (de_tup (da_cons (de_n 4) da_nil)))))))
  (ds_cons (ds_if (dt_lt (de_len (nb "len" (by decide)) (dq_n 3)) de_int) (ds_one ds_never) ds_nil)
  (ds_one (ds_ret (de_n 3))))))

theorem d_server_read {cBadText : Addr} {cServer : Addr} {jBadText : Nat} {jServer : Nat} (nb : ∀ x ∈ nbs, mg x = none) (R_BadText : ErrC P w K mg base "BadText" cBadText ["line", "word"] jBadText) (hj_BadText : jBadText + 1 ≤ k) (g_LAST_NAME : ∃ u, mg "LAST_NAME" = some u ∧ RelV (flatV (.str "zzzzzzzzzzzz")) u) (D_read_row : DefAt P w K mg base "read_row" k [] spReadRow) (M_Server : MkAt P w K mg base "Server" cServer jServer [] (spServer cServer)) (hj_Server : jServer + 1 ≤ k) {f : Addr} {cdv : Value} {A : Around} {outer : List Env} {s : Shared} {H : Hp} {E : XK} (hr : Room k (A.deeper (PyProof.Rows.envOfC "server_read" (defScope (top 20)) s.heap.objs.size f cdv))) : DXs (cX P w K mg base ["text", "lines", "rows", "last", "at", "line"] "server_read" (defScope (top 20)) f cdv A outer s H E) (defBody (top 20)) (W_server_read cBadText cServer) :=
  have hN : (["text", "lines", "rows", "last", "at", "line"] : List Str).Nodup := by decide +kernel
  (dxs_cons (dx_if (dt_not (dt_tru (de_is1 (nb "isinstance" (by decide)) (.ty _) isT_str (dq_n 0) (pe_ty (nb "str" (by decide)))))) (dxs_one (dx_raise R_BadText (hr.mono hj_BadText) rfl (da_cons de_int (da_cons de_int da_nil)))) dxs_nil)
  (dxs_of (ds_cons (ds_setLc (i := 1) (own := [("line", 5)]) hN (di_any (de_fz (dn_split (de_n 0) de_str))) (blk_of rfl (by rfl)) (fun _ _ _ _ _ => (cg_name (i := 5) hN)) (fun _ _ _ _ _ => cts_nil) (fun _ _ _ _ _ => (de_fz (dn_split (de_n 5) de_str))))
  (ds_cons (ds_if (dt_ne hr (de_ix hr (de_ixO hr 1 de_int) de_int) de_str) (ds_one ds_never) ds_nil)
  (ds_cons (ds_if (dt_gt (de_len (nb "len" (by decide)) (dq (de_ixO hr 1 de_int))) de_int) (ds_one ds_never) ds_nil)
  (ds_cons (ds_par2 (i := 2) (j := 3) hN (das_ow (dn_lst da_nil) (das_fz de_non das_nil)))
  (ds_cons (ds_for (passes_of rfl) (di_range2 (nb "range" (by decide)) (da_cons de_int (da_cons (de_len (nb "len" (by decide)) (dq_n 1)) da_nil))) (dg_name (i := 4) hN) (ds_cons (ds_if (dt_eq hr (de_n 3) (de_tup (da_cons (de_glob (d := (.str "zzzzzzzzzzzz")) rfl g_LAST_NAME.choose_spec.1 rfl g_LAST_NAME.choose_spec.2) (da_cons (de_glob (d := (.str "zzzzzzzzzzzz")) rfl g_LAST_NAME.choose_spec.1 rfl g_LAST_NAME.choose_spec.2) (da_cons (de_glob (d := (.str "zzzzzzzzzzzz")) rfl g_LAST_NAME.choose_spec.1 rfl g_LAST_NAME.choose_spec.2) da_nil))))) (ds_one ds_never) ds_nil)
  (ds_cons (ds_set (i := 3) hN (de_call D_read_row hr (da_cons (de_ixO hr 1 (de_n 4)) (da_cons (de_add (de_n 4) de_int) (da_cons (de_n 3) da_nil)))))
  (ds_one (ds_expr (de_lm PySem.F.slot_list_append PySem.F.type_list_append mt_append lm_app 2 (da_cons (de_n 3) da_nil)))))))
  (ds_one (ds_ret (de_make M_Server hr (da_cons (de_tuple (nb "tuple" (by decide)) (dq_n 2)) da_nil) hj_Server))))))))))

theorem d__law_pick (nb : ∀ x ∈ nbs, mg x = none) (D__law_draw : DefAt P w K mg base "_law_draw" k [] spDraw) {f : Addr} {cdv : Value} {A : Around} {outer : List Env} {s : Shared} {H : Hp} {E : XK} (hr : Room k (A.deeper (PyProof.Rows.envOfC "_law_pick" (defScope (top 24)) s.heap.objs.size f cdv))) : DSs (bX P w K mg base ["pen", "some"] "_law_pick" (defScope (top 24)) f cdv A outer s H E) (defBody (top 24)) (W_pick) :=
  have hN : (["pen", "some"] : List Str).Nodup := by decide +kernel
  (ds_one (ds_ret (de_ixO hr 1 (de_call D__law_draw hr (da_cons (de_n 0) (da_cons (de_len (nb "len" (by decide)) (dq_n 1)) da_nil))))))

theorem d__law_shuffled (nb : ∀ x ∈ nbs, mg x = none) (D__law_draw : DefAt P w K mg base "_law_draw" k [] spDraw) {f : Addr} {cdv : Value} {A : Around} {outer : List Env} {s : Shared} {H : Hp} {E : XK} (hr : Room k (A.deeper (PyProof.Rows.envOfC "_law_shuffled" (defScope (top 25)) s.heap.objs.size f cdv))) : DSs (bX P w K mg base ["pen", "some", "left", "found", "lap"] "_law_shuffled" (defScope (top 25)) f cdv A outer s H E) (defBody (top 25)) (W_shuffled) :=
  have hN : (["pen", "some", "left", "found", "lap"] : List Str).Nodup := by decide +kernel
  (ds_cons (ds_par2 (i := 2) (j := 3) hN (das_ow (dn_list (nb "list" (by decide)) (dq_n 1)) (das_ow (dn_lst da_nil) das_nil)))
  (ds_cons (ds_for .never (di_range1 (nb "range" (by decide)) (da_cons (de_len (nb "len" (by decide)) (dq_n 1)) da_nil)) (dg_name (i := 4) hN) (ds_one (ds_expr (de_lm PySem.F.slot_list_append PySem.F.type_list_append mt_append lm_app 3 (da_cons (de_lm PySem.F.slot_list_pop PySem.F.type_list_pop mt_popAt lm_pop 2 (da_cons (de_call D__law_draw hr (da_cons (de_n 0) (da_cons (de_len (nb "len" (by decide)) (dq_n 2)) da_nil))) da_nil)) da_nil)))))
  (ds_one (ds_ret (de_n 3)))))

theorem d__law_some (nb : ∀ x ∈ nbs, mg x = none) (D__law_shuffled : DefAt P w K mg base "_law_shuffled" k [] spShuffled) (D__law_draw : DefAt P w K mg base "_law_draw" k [] spDraw) {f : Addr} {cdv : Value} {A : Around} {outer : List Env} {s : Shared} {H : Hp} {E : XK} (hr : Room k (A.deeper (PyProof.Rows.envOfC "_law_some" (defScope (top 26)) s.heap.objs.size f cdv))) : DSs (bX P w K mg base ["pen", "some", "most"] "_law_some" (defScope (top 26)) f cdv A outer s H E) (defBody (top 26)) (W_some) :=
  have hN : (["pen", "some", "most"] : List Str).Nodup := by decide +kernel
  (ds_one (ds_ret (de_sl (de_call D__law_shuffled hr (da_cons (de_n 0) (da_cons (de_n 1) da_nil))) do_none (do_some (de_call D__law_draw hr (da_cons (de_n 0) (da_cons (de_add (de_min2 (nb "min" (by decide)) (da_cons (de_n 2) (da_cons (de_len (nb "len" (by decide)) (dq_n 1)) da_nil))) de_int) da_nil)))))))

theorem d__law_name (nb : ∀ x ∈ nbs, mg x = none) (D__law_draw : DefAt P w K mg base "_law_draw" k [] spDraw) {f : Addr} {cdv : Value} {A : Around} {outer : List Env} {s : Shared} {H : Hp} {E : XK} (hr : Room k (A.deeper (PyProof.Rows.envOfC "_law_name" (defScope (top 27)) s.heap.objs.size f cdv))) : DSs (bX P w K mg base ["pen", "index", "word", "spot", "place"] "_law_name" (defScope (top 27)) f cdv A outer s H E) (defBody (top 27)) (W_name) :=
  have hN : (["pen", "index", "word", "spot", "place"] : List Str).Nodup := by decide +kernel
  (ds_cons (ds_set (i := 2) hN de_str)
  (ds_cons (ds_for .never (di_range1 (nb "range" (by decide)) (da_cons (de_add de_int (de_call D__law_draw hr (da_cons (de_n 0) (da_cons de_int da_nil)))) da_nil)) (dg_name (i := 3) hN) (ds_one (ds_set (i := 2) hN (de_add (de_n 2) (de_ix hr de_str (de_call D__law_draw hr (da_cons (de_n 0) (da_cons de_int da_nil))))))))
  (ds_cons (ds_set (i := 4) hN (de_add de_int (de_call D__law_draw hr (da_cons (de_n 0) (da_cons (de_len (nb "len" (by decide)) (dq_n 2)) da_nil)))))
  (ds_one (ds_ret (de_add (de_add (de_sl (de_n 2) do_none (do_some (de_n 4))) (de_str1 (nb "str" (by decide)) (dq_n 1))) (de_sl (de_n 2) (do_some (de_n 4)) do_none)))))))

theorem d__law_names (nb : ∀ x ∈ nbs, mg x = none) (D__law_shuffled : DefAt P w K mg base "_law_shuffled" k [] spShuffled) (D__law_name : DefAt P w K mg base "_law_name" k [] spName) {f : Addr} {cdv : Value} {A : Around} {outer : List Env} {s : Shared} {H : Hp} {E : XK} (hr : Room k (A.deeper (PyProof.Rows.envOfC "_law_names" (defScope (top 28)) s.heap.objs.size f cdv))) : DSs (bX P w K mg base ["pen", "many", "index"] "_law_names" (defScope (top 28)) f cdv A outer s H E) (defBody (top 28)) (W_names) :=
  have hN : (["pen", "many", "index"] : List Str).Nodup := by decide +kernel
  (ds_one (ds_ret (de_call D__law_shuffled hr (da_cons (de_n 0) (da_cons (de_fz (dn_lc (own := [("index", 2)]) hN (di_range1 (nb "range" (by decide)) (da_cons (de_n 1) da_nil)) (blk_of rfl (by rfl)) (fun _ _ _ _ _ => (cg_name (i := 2) hN)) (fun _ _ _ _ _ => cts_nil) (fun _ _ _ _ _ => (de_call D__law_name hr (da_cons (de_n 0) (da_cons (de_n 2) da_nil)))))) da_nil)))))

theorem d__law_mixed (nb : ∀ x ∈ nbs, mg x = none) (D__law_shuffled : DefAt P w K mg base "_law_shuffled" k [] spShuffled) (D__law_some : DefAt P w K mg base "_law_some" k [] spSome) {f : Addr} {cdv : Value} {A : Around} {outer : List Env} {s : Shared} {H : Hp} {E : XK} (hr : Room k (A.deeper (PyProof.Rows.envOfC "_law_mixed" (defScope (top 29)) s.heap.objs.size f cdv))) : DSs (bX P w K mg base ["pen", "some"] "_law_mixed" (defScope (top 29)) f cdv A outer s H E) (defBody (top 29)) (W_mixed) :=
  have hN : (["pen", "some"] : List Str).Nodup := by decide +kernel
  (ds_one (ds_ret (de_call D__law_shuffled hr (da_cons (de_n 0) (da_cons (de_add (de_fz (dn_list (nb "list" (by decide)) (dq_n 1))) (de_call D__law_some hr (da_cons (de_n 0) (da_cons (de_n 1) (da_cons de_int da_nil))))) da_nil)))))

theorem d__law_server_of (nb : ∀ x ∈ nbs, mg x = none) {f : Addr} {cdv : Value} {A : Around} {outer : List Env} {s : Shared} {H : Hp} {E : XK} (hr : Room k (A.deeper (PyProof.Rows.envOfC "_law_server_of" (defScope (top 31)) s.heap.objs.size f cdv))) : DSs (bX P w K mg base ["rows", "answers", "places", "place", "call", "other", "one"] "_law_server_of" (defScope (top 31)) f cdv A outer s H E) (defBody (top 31)) (W__law_server_of) :=
  have hN : (["rows", "answers", "places", "place", "call", "other", "one"] : List Str).Nodup := by decide +kernel
  (ds_cons (ds_parC (n := 2) (das_ow dn_dct0 (das_ow (dn_lst da_nil) das_nil)) (pgs_more (i := 1) hN (pgs_more (i := 2) hN pgs_none)))
  (ds_cons (ds_for .never (di_any (de_fz (dn_sortSet (nb "sorted" (by decide)) (nb "set" (by decide)) (dq_n 0) (room64 hr)))) (dg_tup (dgs_cons (dg_name (i := 3) hN) (dgs_cons (dg_name (i := 4) hN) (dgs_cons (dg_name (i := 5) hN) dgs_nil)))) (ds_cons (ds_asg (de_add (de_getO hr 1 (da_cons (de_tup (da_cons (de_n 3) (da_cons (de_n 4) da_nil))) (da_cons (de_fz (dn_lst da_nil)) da_nil))) (de_fz (dn_lst (da_cons (de_n 5) da_nil)))) (dg_D hr 1 (de_tup (da_cons (de_n 3) (da_cons (de_n 4) da_nil)))))
  (ds_one (ds_set (i := 2) hN (de_add (de_n 2) (de_fz (dn_lc (own := [("one", 6)]) hN (di_any (de_fz (dn_lst (da_cons (de_n 3) (da_cons (de_n 5) da_nil))))) (blk_of rfl (by rfl)) (fun _ _ _ _ _ => (cg_name (i := 6) hN)) (fun _ _ _ _ _ => (cts_one (dt_nin hr (de_n 6) (dq_n 2)))) (fun _ _ _ _ _ => (de_n 6)))))))))
  (ds_one (ds_ret (de_fz (dn_disp (pk_str (de_fz (dn_sortSet (nb "sorted" (by decide)) (nb "set" (by decide)) (dq_n 0) (room64 hr))) (pk_str (de_n 1) (pk_str (de_fz (dn_sortSet (nb "sorted" (by decide)) (nb "set" (by decide)) (dq_n 2) (room64 hr))) pk_nil)))))))))

theorem d__law_some_server (nb : ∀ x ∈ nbs, mg x = none) (D__law_draw : DefAt P w K mg base "_law_draw" k [] spDraw) (D__law_pick : DefAt P w K mg base "_law_pick" k [] spPick) (D__law_server_of : DefAt P w K mg base "_law_server_of" k [] spLServer) {f : Addr} {cdv : Value} {A : Around} {outer : List Env} {s : Shared} {H : Hp} {E : XK} (hr : Room k (A.deeper (PyProof.Rows.envOfC "_law_some_server" (defScope (top 32)) s.heap.objs.size f cdv))) : DSs (bX P w K mg base ["pen", "calls", "places", "share", "rows", "place", "call", "turn"] "_law_some_server" (defScope (top 32)) f cdv A outer s H E) (defBody (top 32)) (W__law_some_server) :=
  have hN : (["pen", "calls", "places", "share", "rows", "place", "call", "turn"] : List Str).Nodup := by decide +kernel
  (ds_cons (ds_setN (i := 4) hN (dn_lst da_nil))
  (ds_cons (ds_for .never (di_any (de_n 2)) (dg_name (i := 5) hN) (ds_one (ds_for .never (di_any (de_n 1)) (dg_name (i := 6) hN) (ds_one (ds_if (dt_lt (de_call D__law_draw hr (da_cons (de_n 0) (da_cons de_int da_nil))) (de_n 3)) (ds_one (ds_for .never (di_range1 (nb "range" (by decide)) (da_cons (de_call D__law_pick hr (da_cons (de_n 0) (da_cons (de_fz (dn_lst (da_cons de_int (da_cons de_int (da_cons de_int (da_cons de_int (da_cons de_int (da_cons de_int da_nil)))))))) da_nil))) da_nil)) (dg_name (i := 7) hN) (ds_one (ds_expr (de_lm PySem.F.slot_list_append PySem.F.type_list_append mt_append lm_app 4 (da_cons (de_tup (da_cons (de_n 5) (da_cons (de_n 6) (da_cons (de_call D__law_pick hr (da_cons (de_n 0) (da_cons (de_n 2) da_nil))) da_nil)))) da_nil)))))) ds_nil)))))
  (ds_cons (ds_if (dt_eqO hr 4 (de_fz (dn_lst da_nil))) (ds_one (ds_setN (i := 4) hN (dn_lst (da_cons (de_tup (da_cons (de_ixO hr 2 de_int) (da_cons (de_ixO hr 1 de_int) (da_cons (de_ixO hr 2 (de_neg de_int)) da_nil)))) da_nil)))) ds_nil)
  (ds_one (ds_ret (de_call D__law_server_of hr (da_cons (de_n 4) da_nil)))))))

theorem d__law_made_server {cServer : Addr} {jServer : Nat} (nb : ∀ x ∈ nbs, mg x = none) (M_Server : MkAt P w K mg base "Server" cServer jServer [] (spServer cServer)) (hj_Server : jServer + 1 ≤ k) (D__law_mixed : DefAt P w K mg base "_law_mixed" k [] spMixed) {f : Addr} {cdv : Value} {A : Around} {outer : List Env} {s : Shared} {H : Hp} {E : XK} (hr : Room k (A.deeper (PyProof.Rows.envOfC "_law_made_server" (defScope (top 33)) s.heap.objs.size f cdv))) : DSs (bX P w K mg base ["pen", "server"] "_law_made_server" (defScope (top 33)) f cdv A outer s H E) (defBody (top 33)) (W__law_made_server cServer) :=
  have hN : (["pen", "server"] : List Str).Nodup := by decide +kernel
  (ds_one (ds_ret (de_make M_Server hr (da_cons (de_tuple (nb "tuple" (by decide)) (dq (de_call D__law_mixed hr (da_cons (de_n 0) (da_cons (de_ixO hr 1 de_str) da_nil))))) da_nil) hj_Server)))

theorem d_law {cBadText : Addr} {cServer : Addr} (nb : ∀ x ∈ nbs, mg x = none) (D__law_pen : DefAt P w K mg base "_law_pen" k [] spPen) (D__law_draw : DefAt P w K mg base "_law_draw" k [] spDraw) (D__law_names : DefAt P w K mg base "_law_names" k [] spNames) (D__law_server_of : DefAt P w K mg base "_law_server_of" k [] spLServer) (D__law_some_server : DefAt P w K mg base "_law_some_server" k [] spSomeSrv) (D__law_made_server : DefAt P w K mg base "_law_made_server" k [] (spMade cServer)) (D_server_read : DefAt P w K mg base "server_read" k [] (spRead cServer cBadText)) (D__law_same : DefAt P w K mg base "_law_same" k [] (spLSame 3)) (D_server_text : DefAt P w K mg base "server_text" k [] (spText cServer)) (M_Server___eq__ : MetAt P w K mg base cServer "__eq__" k [] (spEqS cServer)) (I_Server : mg "Server" = some (.ref cServer) ∧ ClI K cServer ∧ (tyNames.all fun n => PySem.W.kitOne K (.type n) (.ref cServer) == some false) = true) (X_BadText : mg "BadText" = some (.ref cBadText) ∧ XfC K cBadText ∧ PySem.W.exmOne K (.ref cBadText) (.ref cBadText) = some true ∧ ∀ n ∈ (["line", "word"] : List Str), PySem.W.findIn K (.ref cBadText) n = some none) {f : Addr} {cdv : Value} {A : Around} {outer : List Env} {s : Shared} {H : Hp} {E : XK} (hr : Room k (A.deeper (PyProof.Rows.envOfC "law" (defScope (top 34)) s.heap.objs.size f cdv))) : DSs (bX P w K mg base ["script", "pen", "lap", "wide", "calls", "places", "server", "made", "text", "again", "value", "told", "error", "row"] "law" (defScope (top 34)) f cdv A outer s H E) (defBody (top 34)) (W21_law cServer cBadText) :=
  have hN : (["script", "pen", "lap", "wide", "calls", "places", "server", "made", "text", "again", "value", "told", "error", "row"] : List Str).Nodup := by decide +kernel
  (ds_cons (ds_set (i := 1) hN (de_call D__law_pen hr (da_cons (de_n 0) da_nil)))
  (ds_cons (ds_for .never (di_range1 (nb "range" (by decide)) (da_cons de_int da_nil)) (dg_name (i := 2) hN) (ds_cons (ds_set (i := 3) hN (de_eq hr (de_call D__law_draw hr (da_cons (de_n 1) (da_cons de_int da_nil))) de_int))
  (ds_cons (ds_par2 (i := 4) (j := 5) hN (das_ow (dn_sorted (nb "sorted" (by decide)) (dq (de_call D__law_names hr (da_cons (de_n 1) (da_cons (de_if (dt_tru (de_n 3)) de_int (de_add de_int (de_call D__law_draw hr (da_cons (de_n 1) (da_cons de_int da_nil))))) da_nil)))) (room64 hr)) (das_fz (de_call D__law_names hr (da_cons (de_n 1) (da_cons (de_if (dt_tru (de_n 3)) de_int (de_add de_int (de_call D__law_draw hr (da_cons (de_n 1) (da_cons de_int da_nil))))) da_nil))) das_nil)))
  (ds_cons (ds_set (i := 6) hN (de_call D__law_server_of hr (da_cons (de_sl (de_ix hr (de_call D__law_some_server hr (da_cons (de_n 1) (da_cons (de_n 4) (da_cons (de_n 5) (da_cons de_int da_nil))))) de_str) do_none (do_some de_int)) da_nil)))
  (ds_cons (ds_if (dt_eq hr (de_call D__law_draw hr (da_cons (de_n 1) (da_cons de_int da_nil))) de_int) (ds_one (ds_set (i := 6) hN (de_call D__law_server_of hr (da_cons (de_fz (dn_lst da_nil)) da_nil)))) ds_nil)
  (ds_cons (ds_set (i := 7) hN (de_call D__law_made_server hr (da_cons (de_n 1) (da_cons (de_n 6) da_nil))))
  (ds_cons (ds_set (i := 8) hN (de_join de_str (de_add (de_fz (dn_lst (da_cons de_str da_nil))) (de_fz (dn_lc (own := [("row", 13)]) hN (di_any (de_ixO hr 6 de_str)) (blk_of rfl (by rfl)) (fun _ _ _ _ _ => (cg_name (i := 13) hN)) (fun _ _ _ _ _ => cts_nil) (fun _ _ _ _ _ => (de_join de_str (de_n 13))))))))
  (ds_cons (ds_set (i := 9) hN (de_call D_server_read hr (da_cons (de_n 8) da_nil)))
  (ds_one (ds_if (dt_w (dw_or (dt_not (dt_tru (de_call D__law_same hr (da_cons (de_call D_server_text hr (da_cons (de_n 7) da_nil)) (da_cons (de_n 8) da_nil))))) (dw_or (dt_not (dt_eqI M_Server___eq__ hr (Nat.le_refl _) (by simp [PySem.W.notFirst]) (de_n 9) (de_n 7))) (dw_or (dt_not (dt_tru (de_is1 (nb "isinstance" (by decide)) (.own _) (isT_C I_Server.2.1 I_Server.2.2) (dq_n 9) (pe_glob (v := .ref cServer) rfl I_Server.1 rfl)))) (dw_or1 (dt_ne hr (de_call D_server_text hr (da_cons (de_n 9) da_nil)) (de_n 8))))))) (ds_one (ds_ret de_bl)) ds_nil))))))))))
  (ds_cons (ds_for .never (di_any (de_fz (dn_lst (da_cons de_non (da_cons de_int (da_cons (de_tup (da_cons (de_n 8) da_nil)) (da_cons de_bl (da_cons (de_fz (dn_lst (da_cons (de_n 8) da_nil))) da_nil)))))))) (dg_name (i := 10) hN) (ds_cons (ds_setN (i := 11) hN (dn_lst da_nil))
  (ds_cons (ds_ofX (dx_try_app (C := cBadText) (i := 12) (j := 11) rfl rfl hN rfl rfl ⟨rfl, by decide, .inl X_BadText.1⟩ X_BadText.2.2.1 (fun _ _ => (dxs_cons (dx_expr (dex_call D_server_read hr (da_cons (de_n 10) da_nil)))
  (dxs_of (ds_one (ds_expr (de_lm PySem.F.slot_list_append PySem.F.type_list_append mt_append lm_app 11 (da_cons de_non da_nil))))))) (ha_f X_BadText.2.1 (X_BadText.2.2.2 _ (by simp)) (ha_f X_BadText.2.1 (X_BadText.2.2.2 _ (by simp)) ha_nil)) rfl))
  (ds_one (ds_if (dt_ne hr (de_n 11) (de_fz (dn_lst (da_cons (de_tup (da_cons de_int (da_cons de_int da_nil))) da_nil)))) (ds_one (ds_ret de_bl)) ds_nil)))))
  (ds_one (ds_ret de_bl)))))

theorem d_BadText___init__ {f : Addr} {cdv : Value} {A : Around} {outer : List Env} {s : Shared} {H : Hp} {E : XK} : PSs (cX P w K mg base ["self", "line", "word"] "BadText.__init__" (defScope (inClass (top 3) 0)) f cdv A outer s H E) (defBody (inClass (top 3) 0)) (tSeq (tOst K "line" (tVar 0) (tVar 1)) (tOst K "word" (tVar 0) (tVar 2))) :=
  (pss_cons (ps_ost (pv 0) (pv 1)) (pss_one (ps_ost (pv 0) (pv 2))))

end
/-! ### the head -/
def fn0 : He.DefD := ⟨("_law_pen", none), "_law_pen", "_law_pen", defArgs (top 22), defBody (top 22), defScope (top 22), [], []⟩
def fn1 : He.DefD := ⟨("_law_draw", none), "_law_draw", "_law_draw", defArgs (top 23), defBody (top 23), defScope (top 23), [], []⟩
def fn2 : He.DefD := ⟨("_law_same", none), "_law_same", "_law_same", defArgs (top 30), defBody (top 30), defScope (top 30), [], []⟩
def fn3 : He.DefD := ⟨("is_name", none), "is_name", "is_name", defArgs (top 10), defBody (top 10), defScope (top 10), [], []⟩
def fn4 : He.DefD := ⟨("is_row", none), "is_row", "is_row", defArgs (top 12), defBody (top 12), defScope (top 12), [], []⟩
def fn5 : He.DefD := ⟨("need_rows", none), "need_rows", "need_rows", defArgs (top 13), defBody (top 13), defScope (top 13), [], []⟩
def fn6 : He.DefD := ⟨("Server", some "__init__"), "__init__", "Server.__init__", defArgs (inClass (top 14) 0), defBody (inClass (top 14) 0), defScope (inClass (top 14) 0), [], []⟩
def fn7 : He.DefD := ⟨("Server", some "__eq__"), "__eq__", "Server.__eq__", defArgs (inClass (top 14) 1), defBody (inClass (top 14) 1), defScope (inClass (top 14) 1), [], []⟩
def fn8 : He.DefD := ⟨("server_text", none), "server_text", "server_text", defArgs (top 17), defBody (top 17), defScope (top 17), [], []⟩
def fn9 : He.DefD := ⟨("is_right", none), "is_right", "is_right", defArgs (top 18), defBody (top 18), defScope (top 18), [], []⟩
def fn10 : He.DefD := ⟨("read_row", none), "read_row", "read_row", defArgs (top 19), defBody (top 19), defScope (top 19), [], []⟩
def fn11 : He.DefD := ⟨("server_read", none), "server_read", "server_read", defArgs (top 20), defBody (top 20), defScope (top 20), [], []⟩
def fn12 : He.DefD := ⟨("_law_pick", none), "_law_pick", "_law_pick", defArgs (top 24), defBody (top 24), defScope (top 24), [], []⟩
def fn13 : He.DefD := ⟨("_law_shuffled", none), "_law_shuffled", "_law_shuffled", defArgs (top 25), defBody (top 25), defScope (top 25), [], []⟩
def fn14 : He.DefD := ⟨("_law_some", none), "_law_some", "_law_some", defArgs (top 26), defBody (top 26), defScope (top 26), [], []⟩
def fn15 : He.DefD := ⟨("_law_name", none), "_law_name", "_law_name", defArgs (top 27), defBody (top 27), defScope (top 27), [], []⟩
def fn16 : He.DefD := ⟨("_law_names", none), "_law_names", "_law_names", defArgs (top 28), defBody (top 28), defScope (top 28), [], []⟩
def fn17 : He.DefD := ⟨("_law_mixed", none), "_law_mixed", "_law_mixed", defArgs (top 29), defBody (top 29), defScope (top 29), [], []⟩
def fn18 : He.DefD := ⟨("_law_server_of", none), "_law_server_of", "_law_server_of", defArgs (top 31), defBody (top 31), defScope (top 31), [], []⟩
def fn19 : He.DefD := ⟨("_law_some_server", none), "_law_some_server", "_law_some_server", defArgs (top 32), defBody (top 32), defScope (top 32), [], []⟩
def fn20 : He.DefD := ⟨("_law_made_server", none), "_law_made_server", "_law_made_server", defArgs (top 33), defBody (top 33), defScope (top 33), [], []⟩
def fn21 : He.DefD := ⟨("law", none), "law", "law", defArgs (top 34), defBody (top 34), defScope (top 34), [], []⟩
def fn22 : He.DefD := ⟨("BadText", some "__init__"), "__init__", "BadText.__init__", defArgs (inClass (top 3) 0), defBody (inClass (top 3) 0), defScope (inClass (top 3) 0), [], []⟩

def fn : List He.DefD := [fn0, fn1, fn2, fn3, fn4, fn5, fn6, fn7, fn8, fn9, fn10, fn11, fn12, fn13, fn14, fn15, fn16, fn17, fn18, fn19, fn20, fn21, fn22]
def fa0 : List He.Fa := [.glo "BadText", .glo "_law_pen", .glo "_law_draw", .glo "_law_same", .str "LETTERS" "abcdefghijklmnopqrstuvwxyz", .str "FIGURES" "0123456789", .glo "is_name", .glo "is_row", .glo "need_rows", .cls "Server", .noat "Server" "rows", .noat "Server" "_answers", .noat "Server" "_known", .glo "Server", .mkr "Server", .meth "Server" "__eq__", .glo "server_text", .str "LAST_NAME" "zzzzzzzzzzzz", .glo "is_right", .glo "read_row", .glo "server_read", .glo "_law_pick", .glo "_law_shuffled", .glo "_law_some", .glo "_law_name"]
def fa1 : List He.Fa := [.glo "_law_names", .glo "_law_mixed", .glo "_law_server_of", .glo "_law_some_server", .glo "_law_made_server", .glo "law"]
def fa : List He.Fa := fa0 ++ fa1

def xs : List Str := ["Server"]
def ers : List (Str × List Str) := [("BadText", ["line", "word"])]
def loose0 : List Str := ["_wall", "__name__", "ServerError", "BadText", "BadRow", "ascending", "FIGURES", "LETTERS", "is_name", "is_row", "need_rows", "Server", "LAST_NAME", "server_text", "is_right", "read_row", "server_read", "_law_pen", "_law_draw", "_law_pick", "_law_shuffled", "_law_some", "_law_name", "_law_names", "_law_mixed"]
def loose1 : List Str := ["_law_same", "_law_server_of", "_law_some_server", "_law_made_server"]
def loose : List Str := loose0 ++ loose1

open PyProof.Rows in
abbrev R : PySem.W.OpenRow := PySem.W.OpenLaw.row PySem.Challenge.rw_nolessservers_k21_whole_texts_of_servers
abbrev hk : PySem.W.Hook := hookY 4 (fa ++ nbs.map He.Fa.free) fn xs ers
def ob (s : PySem.W.SharedT) : He.AlD × Bool × Bool := obY 4 (fa ++ nbs.map He.Fa.free) fn xs ers (HandSHeadRun.getT s)
theorem ob_eq (s : PySem.W.SharedT) : ob s = hk.obs s.abs := obY_eq (HandSHeadRun.getT_eq s)
theorem run (w : World) : HandSHeadRun.RunEq R (PySem.W.view R.prog [34]) hk ob 4000 loose w := by
  intro os
  kernel_rfl
/-! ### each def keeps its promise -/
section
variable {P : Program} {w : World} {K : PySem.W.Frag} {mg : Str → Option Value} {h : Heap}
theorem at_err_BadText {base : Heap} (L : LftY fa fn xs ers nbs h mg K) : ErrC P w K mg base "BadText" (He.ga K "BadText") ["line", "word"] 1 := by
  obtain ⟨fd, F0⟩ := L.c.a.def_ 22 (d := fn22) rfl
  have F : FunD K "__init__" "BadText.__init__" (defArgs (inClass (top 3) 0)) (defBody (inClass (top 3) 0)) (defScope (inClass (top 3) 0)) [] [] (He.ma K (He.ga K "BadText") "__init__") fd := F0
  have b : Binds K fd ["self", "line", "word"] [] := F.bindsN fun _ _ _ _ _ _ us hl => match us, hl with | [_, _, _], _ => rfl
  have S : FnScope ["self", "line", "word"] ["self", "line", "word"] (defScope (inClass (top 3) 0)) := ⟨rfl, rfl, rfl, by decide +kernel, rfl, by decide +kernel, by decide +kernel⟩
  exact errat (L.err 0) (by decide) (by decide) (L.glo 0) F b S rfl (fun cdv A outer s H E hr => d_BadText___init__) (erini2 (L.err 0).oex ((L.err 0).no _ (by simp)) ((L.err 0).no _ (by simp)))
theorem at__law_pen {base : Heap} (L : LftY fa fn xs ers nbs h mg K) : DefAt P w K mg base "_law_pen" 1 [] spPen := by
  obtain ⟨fd, F0⟩ := L.c.a.def_ 0 (d := fn0) rfl
  have F : FunD K "_law_pen" "_law_pen" (defArgs (top 22)) (defBody (top 22)) (defScope (top 22)) [] [] (He.ga K "_law_pen") fd := F0
  have b : Binds K fd ["script"] [] := F.bindsN fun _ _ _ _ _ _ us hl => match us, hl with | [_], _ => rfl
  have S : FnScope ["script", "fold", "cell"] ["script"] (defScope (top 22)) := ⟨rfl, rfl, rfl, by decide +kernel, rfl, by decide +kernel, by decide +kernel⟩
  exact defat F (L.glo 1) b (dfn_ok (k := 0) F S (fun ds c Kd KE h => by obtain ⟨_, rfl, _⟩ := h; rfl) (fun cdv A outer s H E hr => d__law_pen L.nb hr) (q_pen 43 (by decide) (by decide)))
theorem at__law_draw {base : Heap} (L : LftY fa fn xs ers nbs h mg K) : DefAt P w K mg base "_law_draw" 1 [] spDraw := by
  obtain ⟨fd, F0⟩ := L.c.a.def_ 1 (d := fn1) rfl
  have F : FunD K "_law_draw" "_law_draw" (defArgs (top 23)) (defBody (top 23)) (defScope (top 23)) [] [] (He.ga K "_law_draw") fd := F0
  have b : Binds K fd ["pen", "many"] [] := F.bindsN fun _ _ _ _ _ _ us hl => match us, hl with | [_, _], _ => rfl
  have S : FnScope ["pen", "many", "cell", "digit", "blend"] ["pen", "many"] (defScope (top 23)) := ⟨rfl, rfl, rfl, by decide +kernel, rfl, by decide +kernel, by decide +kernel⟩
  exact defat F (L.glo 2) b (dfn_draw (k := 0) F S rfl fun cdv A outer s H E hr => d__law_draw L.nb hr)
theorem at__law_same {base : Heap} (L : LftY fa fn xs ers nbs h mg K) : ∀ n, DefAt P w K mg base "_law_same" (n + 1) [] (spLSame n)
  | 0 => by
    obtain ⟨fd, F0⟩ := L.c.a.def_ 2 (d := fn2) rfl
    have F : FunD K "_law_same" "_law_same" (defArgs (top 30)) (defBody (top 30)) (defScope (top 30)) [] [] (He.ga K "_law_same") fd := F0
    have b : Binds K fd ["told", "due"] [] := F.bindsN fun _ _ _ _ _ _ us hl => match us, hl with | [_, _], _ => rfl
    have S : FnScope ["told", "due", "one", "two"] ["told", "due"] (defScope (top 30)) := ⟨rfl, rfl, rfl, by decide +kernel, rfl, by decide +kernel, by decide +kernel⟩
    exact defat F (L.glo 3) b (dfn_ok (k := 0) F S (fun ds c Kd KE h => by first | (obtain ⟨rfl, _⟩ := h; rfl; done) | (obtain ⟨_, rfl, _⟩ := h; rfl; done) | (obtain ⟨_, _, rfl, _⟩ := h; rfl; done) | (obtain ⟨_, _, _, rfl, _⟩ := h; rfl; done) | (obtain ⟨_, _, _, _, rfl, _⟩ := h; rfl; done) | (obtain ⟨_, _, _, _, _, rfl, _⟩ := h; rfl; done) | (rcases h with ⟨_, rfl, _⟩ | ⟨_, rfl, _⟩ <;> rfl; done) | (rcases h with ⟨_, rfl, _⟩ | ⟨_, _, rfl, _⟩ <;> rfl; done) | (rcases h with ⟨_, rfl, _⟩ | ⟨_, _, _, rfl, _⟩ <;> rfl; done) | (rcases h with ⟨_, _, rfl, _⟩ | ⟨_, rfl, _⟩ <;> rfl; done) | (rcases h with ⟨_, _, rfl, _⟩ | ⟨_, _, rfl, _⟩ <;> rfl; done) | (rcases h with ⟨_, _, rfl, _⟩ | ⟨_, _, _, rfl, _⟩ <;> rfl; done) | (rcases h with ⟨_, _, _, rfl, _⟩ | ⟨_, rfl, _⟩ <;> rfl; done) | (rcases h with ⟨_, _, _, rfl, _⟩ | ⟨_, _, rfl, _⟩ <;> rfl; done) | (rcases h with ⟨_, _, _, rfl, _⟩ | ⟨_, _, _, rfl, _⟩ <;> rfl; done)) (fun cdv A outer s H E hr => d__law_same L.nb (defat F (L.glo 3) b dfn_no) hr) (q_lsame 0 spNo (fun m h => by omega)))
  | n + 1 => by
    obtain ⟨fd, F0⟩ := L.c.a.def_ 2 (d := fn2) rfl
    have F : FunD K "_law_same" "_law_same" (defArgs (top 30)) (defBody (top 30)) (defScope (top 30)) [] [] (He.ga K "_law_same") fd := F0
    have b : Binds K fd ["told", "due"] [] := F.bindsN fun _ _ _ _ _ _ us hl => match us, hl with | [_, _], _ => rfl
    have S : FnScope ["told", "due", "one", "two"] ["told", "due"] (defScope (top 30)) := ⟨rfl, rfl, rfl, by decide +kernel, rfl, by decide +kernel, by decide +kernel⟩
    exact defat F (L.glo 3) b (dfn_ok (k := n + 1) F S (fun ds c Kd KE h => by first | (obtain ⟨rfl, _⟩ := h; rfl; done) | (obtain ⟨_, rfl, _⟩ := h; rfl; done) | (obtain ⟨_, _, rfl, _⟩ := h; rfl; done) | (obtain ⟨_, _, _, rfl, _⟩ := h; rfl; done) | (obtain ⟨_, _, _, _, rfl, _⟩ := h; rfl; done) | (obtain ⟨_, _, _, _, _, rfl, _⟩ := h; rfl; done) | (rcases h with ⟨_, rfl, _⟩ | ⟨_, rfl, _⟩ <;> rfl; done) | (rcases h with ⟨_, rfl, _⟩ | ⟨_, _, rfl, _⟩ <;> rfl; done) | (rcases h with ⟨_, rfl, _⟩ | ⟨_, _, _, rfl, _⟩ <;> rfl; done) | (rcases h with ⟨_, _, rfl, _⟩ | ⟨_, rfl, _⟩ <;> rfl; done) | (rcases h with ⟨_, _, rfl, _⟩ | ⟨_, _, rfl, _⟩ <;> rfl; done) | (rcases h with ⟨_, _, rfl, _⟩ | ⟨_, _, _, rfl, _⟩ <;> rfl; done) | (rcases h with ⟨_, _, _, rfl, _⟩ | ⟨_, rfl, _⟩ <;> rfl; done) | (rcases h with ⟨_, _, _, rfl, _⟩ | ⟨_, _, rfl, _⟩ <;> rfl; done) | (rcases h with ⟨_, _, _, rfl, _⟩ | ⟨_, _, _, rfl, _⟩ <;> rfl; done)) (fun cdv A outer s H E hr => d__law_same L.nb (at__law_same L n) hr) (q_lsame (n + 1) (spLSame n) (fun m h => by cases h; rfl)))
theorem at_is_name {base : Heap} (L : LftY fa fn xs ers nbs h mg K) : DefAt P w K mg base "is_name" 1 [] spIsName := by
  obtain ⟨fd, F0⟩ := L.c.a.def_ 3 (d := fn3) rfl
  have F : FunD K "is_name" "is_name" (defArgs (top 10)) (defBody (top 10)) (defScope (top 10)) [] [] (He.ga K "is_name") fd := F0
  have b : Binds K fd ["value"] [] := F.bindsN fun _ _ _ _ _ _ us hl => match us, hl with | [_], _ => rfl
  have S : FnScope ["value", "sign"] ["value"] (defScope (top 10)) := ⟨rfl, rfl, rfl, by decide +kernel, rfl, by decide +kernel, by decide +kernel⟩
  exact defat F (L.glo 6) b (dfn_ok (k := 0) F S (fun ds c Kd KE h => by first | (obtain ⟨rfl, _⟩ := h; rfl; done) | (obtain ⟨_, rfl, _⟩ := h; rfl; done) | (obtain ⟨_, _, rfl, _⟩ := h; rfl; done) | (obtain ⟨_, _, _, rfl, _⟩ := h; rfl; done) | (obtain ⟨_, _, _, _, rfl, _⟩ := h; rfl; done) | (obtain ⟨_, _, _, _, _, rfl, _⟩ := h; rfl; done) | (rcases h with ⟨_, rfl, _⟩ | ⟨_, rfl, _⟩ <;> rfl; done) | (rcases h with ⟨_, rfl, _⟩ | ⟨_, _, rfl, _⟩ <;> rfl; done) | (rcases h with ⟨_, rfl, _⟩ | ⟨_, _, _, rfl, _⟩ <;> rfl; done) | (rcases h with ⟨_, _, rfl, _⟩ | ⟨_, rfl, _⟩ <;> rfl; done) | (rcases h with ⟨_, _, rfl, _⟩ | ⟨_, _, rfl, _⟩ <;> rfl; done) | (rcases h with ⟨_, _, rfl, _⟩ | ⟨_, _, _, rfl, _⟩ <;> rfl; done) | (rcases h with ⟨_, _, _, rfl, _⟩ | ⟨_, rfl, _⟩ <;> rfl; done) | (rcases h with ⟨_, _, _, rfl, _⟩ | ⟨_, _, rfl, _⟩ <;> rfl; done) | (rcases h with ⟨_, _, _, rfl, _⟩ | ⟨_, _, _, rfl, _⟩ <;> rfl; done)) (fun cdv A outer s H E hr => d_is_name L.nb (L.str 4) (L.str 5) hr) (q_is_name))
theorem at_is_row {base : Heap} (L : LftY fa fn xs ers nbs h mg K) : DefAt P w K mg base "is_row" 2 [] spIsRow := by
  obtain ⟨fd, F0⟩ := L.c.a.def_ 4 (d := fn4) rfl
  have F : FunD K "is_row" "is_row" (defArgs (top 12)) (defBody (top 12)) (defScope (top 12)) [] [] (He.ga K "is_row") fd := F0
  have b : Binds K fd ["value"] [] := F.bindsN fun _ _ _ _ _ _ us hl => match us, hl with | [_], _ => rfl
  have S : FnScope ["value", "part"] ["value"] (defScope (top 12)) := ⟨rfl, rfl, rfl, by decide +kernel, rfl, by decide +kernel, by decide +kernel⟩
  exact defat F (L.glo 7) b (dfn_ok (k := 1) F S (fun ds c Kd KE h => by first | (obtain ⟨rfl, _⟩ := h; rfl; done) | (obtain ⟨_, rfl, _⟩ := h; rfl; done) | (obtain ⟨_, _, rfl, _⟩ := h; rfl; done) | (obtain ⟨_, _, _, rfl, _⟩ := h; rfl; done) | (obtain ⟨_, _, _, _, rfl, _⟩ := h; rfl; done) | (obtain ⟨_, _, _, _, _, rfl, _⟩ := h; rfl; done) | (rcases h with ⟨_, rfl, _⟩ | ⟨_, rfl, _⟩ <;> rfl; done) | (rcases h with ⟨_, rfl, _⟩ | ⟨_, _, rfl, _⟩ <;> rfl; done) | (rcases h with ⟨_, rfl, _⟩ | ⟨_, _, _, rfl, _⟩ <;> rfl; done) | (rcases h with ⟨_, _, rfl, _⟩ | ⟨_, rfl, _⟩ <;> rfl; done) | (rcases h with ⟨_, _, rfl, _⟩ | ⟨_, _, rfl, _⟩ <;> rfl; done) | (rcases h with ⟨_, _, rfl, _⟩ | ⟨_, _, _, rfl, _⟩ <;> rfl; done) | (rcases h with ⟨_, _, _, rfl, _⟩ | ⟨_, rfl, _⟩ <;> rfl; done) | (rcases h with ⟨_, _, _, rfl, _⟩ | ⟨_, _, rfl, _⟩ <;> rfl; done) | (rcases h with ⟨_, _, _, rfl, _⟩ | ⟨_, _, _, rfl, _⟩ <;> rfl; done)) (fun cdv A outer s H E hr => d_is_row L.nb ((at_is_name L).up (by decide)) hr) (q_is_row))
theorem at_need_rows {base : Heap} (L : LftY fa fn xs ers nbs h mg K) : DefAt P w K mg base "need_rows" 3 [] spNeedRows := by
  obtain ⟨fd, F0⟩ := L.c.a.def_ 5 (d := fn5) rfl
  have F : FunD K "need_rows" "need_rows" (defArgs (top 13)) (defBody (top 13)) (defScope (top 13)) [] [] (He.ga K "need_rows") fd := F0
  have b : Binds K fd ["rows"] [] := F.bindsN fun _ _ _ _ _ _ us hl => match us, hl with | [_], _ => rfl
  have S : FnScope ["rows", "row"] ["rows"] (defScope (top 13)) := ⟨rfl, rfl, rfl, by decide +kernel, rfl, by decide +kernel, by decide +kernel⟩
  exact defat F (L.glo 8) b (dfn_ok (k := 2) F S (fun ds c Kd KE h => by first | (obtain ⟨rfl, _⟩ := h; rfl; done) | (obtain ⟨_, rfl, _⟩ := h; rfl; done) | (obtain ⟨_, _, rfl, _⟩ := h; rfl; done) | (obtain ⟨_, _, _, rfl, _⟩ := h; rfl; done) | (obtain ⟨_, _, _, _, rfl, _⟩ := h; rfl; done) | (obtain ⟨_, _, _, _, _, rfl, _⟩ := h; rfl; done) | (rcases h with ⟨_, rfl, _⟩ | ⟨_, rfl, _⟩ <;> rfl; done) | (rcases h with ⟨_, rfl, _⟩ | ⟨_, _, rfl, _⟩ <;> rfl; done) | (rcases h with ⟨_, rfl, _⟩ | ⟨_, _, _, rfl, _⟩ <;> rfl; done) | (rcases h with ⟨_, _, rfl, _⟩ | ⟨_, rfl, _⟩ <;> rfl; done) | (rcases h with ⟨_, _, rfl, _⟩ | ⟨_, _, rfl, _⟩ <;> rfl; done) | (rcases h with ⟨_, _, rfl, _⟩ | ⟨_, _, _, rfl, _⟩ <;> rfl; done) | (rcases h with ⟨_, _, _, rfl, _⟩ | ⟨_, rfl, _⟩ <;> rfl; done) | (rcases h with ⟨_, _, _, rfl, _⟩ | ⟨_, _, rfl, _⟩ <;> rfl; done) | (rcases h with ⟨_, _, _, rfl, _⟩ | ⟨_, _, _, rfl, _⟩ <;> rfl; done)) (fun cdv A outer s H E hr => d_need_rows L.nb ((at_is_row L).up (by decide)) hr) (q_need_rows))
theorem at_Server___init__ {base : Heap} (L : LftY fa fn xs ers nbs h mg K) : MkAt P w K mg base "Server" (He.ga K "Server") 4 [] (spServer (He.ga K "Server")) := by
  obtain ⟨fd, F0⟩ := L.c.a.def_ 6 (d := fn6) rfl
  have F : FunD K "__init__" "Server.__init__" (defArgs (inClass (top 14) 0)) (defBody (inClass (top 14) 0)) (defScope (inClass (top 14) 0)) [] [] (He.ma K (He.ga K "Server") "__init__") fd := F0
  have b : Binds K fd ["self", "rows"] [] := F.bindsN fun _ _ _ _ _ _ us hl => match us, hl with | [_, _], _ => rfl
  have S : FnScope ["self", "rows", "told", "gate", "call", "other", "known"] ["self", "rows"] (defScope (inClass (top 14) 0)) := ⟨rfl, rfl, rfl, by decide +kernel, rfl, by decide +kernel, by decide +kernel⟩
  exact mkat (L.glo 13) (L.mkr 14) b (dfi_ok (k := 3) F S (fun ds c Kd KE h => by first | (obtain ⟨rfl, _⟩ := h; rfl; done) | (obtain ⟨_, rfl, _⟩ := h; rfl; done) | (obtain ⟨_, _, rfl, _⟩ := h; rfl; done) | (obtain ⟨_, _, _, rfl, _⟩ := h; rfl; done) | (obtain ⟨_, _, _, _, rfl, _⟩ := h; rfl; done) | (obtain ⟨_, _, _, _, _, rfl, _⟩ := h; rfl; done) | (rcases h with ⟨_, rfl, _⟩ | ⟨_, rfl, _⟩ <;> rfl; done) | (rcases h with ⟨_, rfl, _⟩ | ⟨_, _, rfl, _⟩ <;> rfl; done) | (rcases h with ⟨_, rfl, _⟩ | ⟨_, _, _, rfl, _⟩ <;> rfl; done) | (rcases h with ⟨_, _, rfl, _⟩ | ⟨_, rfl, _⟩ <;> rfl; done) | (rcases h with ⟨_, _, rfl, _⟩ | ⟨_, _, rfl, _⟩ <;> rfl; done) | (rcases h with ⟨_, _, rfl, _⟩ | ⟨_, _, _, rfl, _⟩ <;> rfl; done) | (rcases h with ⟨_, _, _, rfl, _⟩ | ⟨_, rfl, _⟩ <;> rfl; done) | (rcases h with ⟨_, _, _, rfl, _⟩ | ⟨_, _, rfl, _⟩ <;> rfl; done) | (rcases h with ⟨_, _, _, rfl, _⟩ | ⟨_, _, _, rfl, _⟩ <;> rfl; done)) (fun cdv A outer s H E hr => d_Server___init__ L.nb ((at_need_rows L).up (by decide)) (L.clf 9 10) (L.clf 9 11) (L.clf 9 12) hr) (fun x => q_server (He.ga K "Server") x))
theorem at_Server___eq__ {base : Heap} (L : LftY fa fn xs ers nbs h mg K) : MetAt P w K mg base (He.ga K "Server") "__eq__" 1 [] (spEqS (He.ga K "Server")) := by
  obtain ⟨fd, F0⟩ := L.c.a.def_ 7 (d := fn7) rfl
  have F : FunD K "__eq__" "Server.__eq__" (defArgs (inClass (top 14) 1)) (defBody (inClass (top 14) 1)) (defScope (inClass (top 14) 1)) [] [] (He.ma K (He.ga K "Server") "__eq__") fd := F0
  have b : Binds K fd ["self", "other"] [] := F.bindsN fun _ _ _ _ _ _ us hl => match us, hl with | [_, _], _ => rfl
  have S : FnScope ["self", "other"] ["self", "other"] (defScope (inClass (top 14) 1)) := ⟨rfl, rfl, rfl, by decide +kernel, rfl, by decide +kernel, by decide +kernel⟩
  exact metat (L.cls 9) (L.meth 15) b (dfn_ok (k := 0) F S (fun ds c Kd KE h => by first | (obtain ⟨rfl, _⟩ := h; rfl; done) | (obtain ⟨_, rfl, _⟩ := h; rfl; done) | (obtain ⟨_, _, rfl, _⟩ := h; rfl; done) | (obtain ⟨_, _, _, rfl, _⟩ := h; rfl; done) | (obtain ⟨_, _, _, _, rfl, _⟩ := h; rfl; done) | (obtain ⟨_, _, _, _, _, rfl, _⟩ := h; rfl; done) | (rcases h with ⟨_, rfl, _⟩ | ⟨_, rfl, _⟩ <;> rfl; done) | (rcases h with ⟨_, rfl, _⟩ | ⟨_, _, rfl, _⟩ <;> rfl; done) | (rcases h with ⟨_, rfl, _⟩ | ⟨_, _, _, rfl, _⟩ <;> rfl; done) | (rcases h with ⟨_, _, rfl, _⟩ | ⟨_, rfl, _⟩ <;> rfl; done) | (rcases h with ⟨_, _, rfl, _⟩ | ⟨_, _, rfl, _⟩ <;> rfl; done) | (rcases h with ⟨_, _, rfl, _⟩ | ⟨_, _, _, rfl, _⟩ <;> rfl; done) | (rcases h with ⟨_, _, _, rfl, _⟩ | ⟨_, rfl, _⟩ <;> rfl; done) | (rcases h with ⟨_, _, _, rfl, _⟩ | ⟨_, _, rfl, _⟩ <;> rfl; done) | (rcases h with ⟨_, _, _, rfl, _⟩ | ⟨_, _, _, rfl, _⟩ <;> rfl; done)) (fun cdv A outer s H E hr => d_Server___eq__ L.nb ⟨L.glo 13, isi_ok (L.c.isi (by decide))⟩ (L.clf 9 10) hr) (q_eqS (He.ga K "Server")))
theorem at_server_text {base : Heap} (L : LftY fa fn xs ers nbs h mg K) : DefAt P w K mg base "server_text" 1 [] (spText (He.ga K "Server")) := by
  obtain ⟨fd, F0⟩ := L.c.a.def_ 8 (d := fn8) rfl
  have F : FunD K "server_text" "server_text" (defArgs (top 17)) (defBody (top 17)) (defScope (top 17)) [] [] (He.ga K "server_text") fd := F0
  have b : Binds K fd ["server"] [] := F.bindsN fun _ _ _ _ _ _ us hl => match us, hl with | [_], _ => rfl
  have S : FnScope ["server", "row"] ["server"] (defScope (top 17)) := ⟨rfl, rfl, rfl, by decide +kernel, rfl, by decide +kernel, by decide +kernel⟩
  exact defat F (L.glo 16) b (dfn_ok (k := 0) F S (fun ds c Kd KE h => by first | (obtain ⟨rfl, _⟩ := h; rfl; done) | (obtain ⟨_, rfl, _⟩ := h; rfl; done) | (obtain ⟨_, _, rfl, _⟩ := h; rfl; done) | (obtain ⟨_, _, _, rfl, _⟩ := h; rfl; done) | (obtain ⟨_, _, _, _, rfl, _⟩ := h; rfl; done) | (obtain ⟨_, _, _, _, _, rfl, _⟩ := h; rfl; done) | (rcases h with ⟨_, rfl, _⟩ | ⟨_, rfl, _⟩ <;> rfl; done) | (rcases h with ⟨_, rfl, _⟩ | ⟨_, _, rfl, _⟩ <;> rfl; done) | (rcases h with ⟨_, rfl, _⟩ | ⟨_, _, _, rfl, _⟩ <;> rfl; done) | (rcases h with ⟨_, _, rfl, _⟩ | ⟨_, rfl, _⟩ <;> rfl; done) | (rcases h with ⟨_, _, rfl, _⟩ | ⟨_, _, rfl, _⟩ <;> rfl; done) | (rcases h with ⟨_, _, rfl, _⟩ | ⟨_, _, _, rfl, _⟩ <;> rfl; done) | (rcases h with ⟨_, _, _, rfl, _⟩ | ⟨_, rfl, _⟩ <;> rfl; done) | (rcases h with ⟨_, _, _, rfl, _⟩ | ⟨_, _, rfl, _⟩ <;> rfl; done) | (rcases h with ⟨_, _, _, rfl, _⟩ | ⟨_, _, _, rfl, _⟩ <;> rfl; done)) (fun cdv A outer s H E hr => d_server_text L.nb (L.clf 9 10) hr) (q_text (He.ga K "Server")))
theorem at_is_right {base : Heap} (L : LftY fa fn xs ers nbs h mg K) : DefAt P w K mg base "is_right" 2 [] spIsRight := by
  obtain ⟨fd, F0⟩ := L.c.a.def_ 9 (d := fn9) rfl
  have F : FunD K "is_right" "is_right" (defArgs (top 18)) (defBody (top 18)) (defScope (top 18)) [] [] (He.ga K "is_right") fd := F0
  have b : Binds K fd ["last", "begin", "word"] [] := F.bindsN fun _ _ _ _ _ _ us hl => match us, hl with | [_, _, _], _ => rfl
  have S : FnScope ["last", "begin", "word", "greatest"] ["last", "begin", "word"] (defScope (top 18)) := ⟨rfl, rfl, rfl, by decide +kernel, rfl, by decide +kernel, by decide +kernel⟩
  exact defat F (L.glo 18) b (dfn_ok (k := 1) F S (fun ds c Kd KE h => by first | (obtain ⟨rfl, _⟩ := h; rfl; done) | (obtain ⟨_, rfl, _⟩ := h; rfl; done) | (obtain ⟨_, _, rfl, _⟩ := h; rfl; done) | (obtain ⟨_, _, _, rfl, _⟩ := h; rfl; done) | (obtain ⟨_, _, _, _, rfl, _⟩ := h; rfl; done) | (obtain ⟨_, _, _, _, _, rfl, _⟩ := h; rfl; done) | (rcases h with ⟨_, rfl, _⟩ | ⟨_, rfl, _⟩ <;> rfl; done) | (rcases h with ⟨_, rfl, _⟩ | ⟨_, _, rfl, _⟩ <;> rfl; done) | (rcases h with ⟨_, rfl, _⟩ | ⟨_, _, _, rfl, _⟩ <;> rfl; done) | (rcases h with ⟨_, _, rfl, _⟩ | ⟨_, rfl, _⟩ <;> rfl; done) | (rcases h with ⟨_, _, rfl, _⟩ | ⟨_, _, rfl, _⟩ <;> rfl; done) | (rcases h with ⟨_, _, rfl, _⟩ | ⟨_, _, _, rfl, _⟩ <;> rfl; done) | (rcases h with ⟨_, _, _, rfl, _⟩ | ⟨_, rfl, _⟩ <;> rfl; done) | (rcases h with ⟨_, _, _, rfl, _⟩ | ⟨_, _, rfl, _⟩ <;> rfl; done) | (rcases h with ⟨_, _, _, rfl, _⟩ | ⟨_, _, _, rfl, _⟩ <;> rfl; done)) (fun cdv A outer s H E hr => d_is_right L.nb ((at_is_name L).up (by decide)) (L.str 17) hr) (q_is_right))
theorem at_read_row {base : Heap} (L : LftY fa fn xs ers nbs h mg K) : DefAt P w K mg base "read_row" 3 [] spReadRow := by
  obtain ⟨fd, F0⟩ := L.c.a.def_ 10 (d := fn10) rfl
  have F : FunD K "read_row" "read_row" (defArgs (top 19)) (defBody (top 19)) (defScope (top 19)) [] [] (He.ga K "read_row") fd := F0
  have b : Binds K fd ["words", "line", "last"] [] := F.bindsN fun _ _ _ _ _ _ us hl => match us, hl with | [_, _, _], _ => rfl
  have S : FnScope ["words", "line", "last", "begin", "word"] ["words", "line", "last"] (defScope (top 19)) := ⟨rfl, rfl, rfl, by decide +kernel, rfl, by decide +kernel, by decide +kernel⟩
  exact defat F (L.glo 19) b (dfn_ok (k := 2) F S (fun ds c Kd KE h => by first | (obtain ⟨rfl, _⟩ := h; rfl; done) | (obtain ⟨_, rfl, _⟩ := h; rfl; done) | (obtain ⟨_, _, rfl, _⟩ := h; rfl; done) | (obtain ⟨_, _, _, rfl, _⟩ := h; rfl; done) | (obtain ⟨_, _, _, _, rfl, _⟩ := h; rfl; done) | (obtain ⟨_, _, _, _, _, rfl, _⟩ := h; rfl; done) | (rcases h with ⟨_, rfl, _⟩ | ⟨_, rfl, _⟩ <;> rfl; done) | (rcases h with ⟨_, rfl, _⟩ | ⟨_, _, rfl, _⟩ <;> rfl; done) | (rcases h with ⟨_, rfl, _⟩ | ⟨_, _, _, rfl, _⟩ <;> rfl; done) | (rcases h with ⟨_, _, rfl, _⟩ | ⟨_, rfl, _⟩ <;> rfl; done) | (rcases h with ⟨_, _, rfl, _⟩ | ⟨_, _, rfl, _⟩ <;> rfl; done) | (rcases h with ⟨_, _, rfl, _⟩ | ⟨_, _, _, rfl, _⟩ <;> rfl; done) | (rcases h with ⟨_, _, _, rfl, _⟩ | ⟨_, rfl, _⟩ <;> rfl; done) | (rcases h with ⟨_, _, _, rfl, _⟩ | ⟨_, _, rfl, _⟩ <;> rfl; done) | (rcases h with ⟨_, _, _, rfl, _⟩ | ⟨_, _, _, rfl, _⟩ <;> rfl; done)) (fun cdv A outer s H E hr => d_read_row L.nb ((at_is_right L).up (by decide)) hr) (q_read_row))
theorem at_server_read {base : Heap} (L : LftY fa fn xs ers nbs h mg K) : DefAt P w K mg base "server_read" 6 [] (spRead (He.ga K "Server") (He.ga K "BadText")) := by
  obtain ⟨fd, F0⟩ := L.c.a.def_ 11 (d := fn11) rfl
  have F : FunD K "server_read" "server_read" (defArgs (top 20)) (defBody (top 20)) (defScope (top 20)) [] [] (He.ga K "server_read") fd := F0
  have b : Binds K fd ["text"] [] := F.bindsN fun _ _ _ _ _ _ us hl => match us, hl with | [_], _ => rfl
  have S : FnScope ["text", "lines", "rows", "last", "at", "line"] ["text"] (defScope (top 20)) := ⟨rfl, rfl, rfl, by decide +kernel, rfl, by decide +kernel, by decide +kernel⟩
  exact defat F (L.glo 20) b (dfnX_ok (k := 5) F S (fun ds c Kd KE h => by first | (obtain ⟨rfl, _⟩ := h; rfl; done) | (obtain ⟨_, rfl, _⟩ := h; rfl; done) | (obtain ⟨_, _, rfl, _⟩ := h; rfl; done) | (obtain ⟨_, _, _, rfl, _⟩ := h; rfl; done) | (obtain ⟨_, _, _, _, rfl, _⟩ := h; rfl; done) | (obtain ⟨_, _, _, _, _, rfl, _⟩ := h; rfl; done) | (rcases h with ⟨_, rfl, _⟩ | ⟨_, rfl, _⟩ <;> rfl; done) | (rcases h with ⟨_, rfl, _⟩ | ⟨_, _, rfl, _⟩ <;> rfl; done) | (rcases h with ⟨_, rfl, _⟩ | ⟨_, _, _, rfl, _⟩ <;> rfl; done) | (rcases h with ⟨_, _, rfl, _⟩ | ⟨_, rfl, _⟩ <;> rfl; done) | (rcases h with ⟨_, _, rfl, _⟩ | ⟨_, _, rfl, _⟩ <;> rfl; done) | (rcases h with ⟨_, _, rfl, _⟩ | ⟨_, _, _, rfl, _⟩ <;> rfl; done) | (rcases h with ⟨_, _, _, rfl, _⟩ | ⟨_, rfl, _⟩ <;> rfl; done) | (rcases h with ⟨_, _, _, rfl, _⟩ | ⟨_, _, rfl, _⟩ <;> rfl; done) | (rcases h with ⟨_, _, _, rfl, _⟩ | ⟨_, _, _, rfl, _⟩ <;> rfl; done)) (fun cdv A outer s H E hr => d_server_read L.nb (at_err_BadText L) (by decide) (L.str 17) ((at_read_row L).up (by decide)) (at_Server___init__ L) (by decide) hr) (q_server_read (He.ga K "Server") (He.ga K "BadText")))
theorem at__law_pick {base : Heap} (L : LftY fa fn xs ers nbs h mg K) : DefAt P w K mg base "_law_pick" 2 [] spPick := by
  obtain ⟨fd, F0⟩ := L.c.a.def_ 12 (d := fn12) rfl
  have F : FunD K "_law_pick" "_law_pick" (defArgs (top 24)) (defBody (top 24)) (defScope (top 24)) [] [] (He.ga K "_law_pick") fd := F0
  have b : Binds K fd ["pen", "some"] [] := F.bindsN fun _ _ _ _ _ _ us hl => match us, hl with | [_, _], _ => rfl
  have S : FnScope ["pen", "some"] ["pen", "some"] (defScope (top 24)) := ⟨rfl, rfl, rfl, by decide +kernel, rfl, by decide +kernel, by decide +kernel⟩
  exact defat F (L.glo 21) b (dfn_ok (k := 1) F S (fun ds c Kd KE h => by first | (obtain ⟨rfl, _⟩ := h; rfl; done) | (obtain ⟨_, rfl, _⟩ := h; rfl; done) | (obtain ⟨_, _, rfl, _⟩ := h; rfl; done) | (obtain ⟨_, _, _, rfl, _⟩ := h; rfl; done) | (obtain ⟨_, _, _, _, rfl, _⟩ := h; rfl; done) | (obtain ⟨_, _, _, _, _, rfl, _⟩ := h; rfl; done) | (rcases h with ⟨_, rfl, _⟩ | ⟨_, rfl, _⟩ <;> rfl; done) | (rcases h with ⟨_, rfl, _⟩ | ⟨_, _, rfl, _⟩ <;> rfl; done) | (rcases h with ⟨_, rfl, _⟩ | ⟨_, _, _, rfl, _⟩ <;> rfl; done) | (rcases h with ⟨_, _, rfl, _⟩ | ⟨_, rfl, _⟩ <;> rfl; done) | (rcases h with ⟨_, _, rfl, _⟩ | ⟨_, _, rfl, _⟩ <;> rfl; done) | (rcases h with ⟨_, _, rfl, _⟩ | ⟨_, _, _, rfl, _⟩ <;> rfl; done) | (rcases h with ⟨_, _, _, rfl, _⟩ | ⟨_, rfl, _⟩ <;> rfl; done) | (rcases h with ⟨_, _, _, rfl, _⟩ | ⟨_, _, rfl, _⟩ <;> rfl; done) | (rcases h with ⟨_, _, _, rfl, _⟩ | ⟨_, _, _, rfl, _⟩ <;> rfl; done)) (fun cdv A outer s H E hr => d__law_pick L.nb ((at__law_draw L).up (by decide)) hr) (q_pick))
theorem at__law_shuffled {base : Heap} (L : LftY fa fn xs ers nbs h mg K) : DefAt P w K mg base "_law_shuffled" 2 [] spShuffled := by
  obtain ⟨fd, F0⟩ := L.c.a.def_ 13 (d := fn13) rfl
  have F : FunD K "_law_shuffled" "_law_shuffled" (defArgs (top 25)) (defBody (top 25)) (defScope (top 25)) [] [] (He.ga K "_law_shuffled") fd := F0
  have b : Binds K fd ["pen", "some"] [] := F.bindsN fun _ _ _ _ _ _ us hl => match us, hl with | [_, _], _ => rfl
  have S : FnScope ["pen", "some", "left", "found", "lap"] ["pen", "some"] (defScope (top 25)) := ⟨rfl, rfl, rfl, by decide +kernel, rfl, by decide +kernel, by decide +kernel⟩
  exact defat F (L.glo 22) b (dfn_ok (k := 1) F S (fun ds c Kd KE h => by first | (obtain ⟨rfl, _⟩ := h; rfl; done) | (obtain ⟨_, rfl, _⟩ := h; rfl; done) | (obtain ⟨_, _, rfl, _⟩ := h; rfl; done) | (obtain ⟨_, _, _, rfl, _⟩ := h; rfl; done) | (obtain ⟨_, _, _, _, rfl, _⟩ := h; rfl; done) | (obtain ⟨_, _, _, _, _, rfl, _⟩ := h; rfl; done) | (rcases h with ⟨_, rfl, _⟩ | ⟨_, rfl, _⟩ <;> rfl; done) | (rcases h with ⟨_, rfl, _⟩ | ⟨_, _, rfl, _⟩ <;> rfl; done) | (rcases h with ⟨_, rfl, _⟩ | ⟨_, _, _, rfl, _⟩ <;> rfl; done) | (rcases h with ⟨_, _, rfl, _⟩ | ⟨_, rfl, _⟩ <;> rfl; done) | (rcases h with ⟨_, _, rfl, _⟩ | ⟨_, _, rfl, _⟩ <;> rfl; done) | (rcases h with ⟨_, _, rfl, _⟩ | ⟨_, _, _, rfl, _⟩ <;> rfl; done) | (rcases h with ⟨_, _, _, rfl, _⟩ | ⟨_, rfl, _⟩ <;> rfl; done) | (rcases h with ⟨_, _, _, rfl, _⟩ | ⟨_, _, rfl, _⟩ <;> rfl; done) | (rcases h with ⟨_, _, _, rfl, _⟩ | ⟨_, _, _, rfl, _⟩ <;> rfl; done)) (fun cdv A outer s H E hr => d__law_shuffled L.nb ((at__law_draw L).up (by decide)) hr) (q_shuffled))
theorem at__law_some {base : Heap} (L : LftY fa fn xs ers nbs h mg K) : DefAt P w K mg base "_law_some" 3 [] spSome := by
  obtain ⟨fd, F0⟩ := L.c.a.def_ 14 (d := fn14) rfl
  have F : FunD K "_law_some" "_law_some" (defArgs (top 26)) (defBody (top 26)) (defScope (top 26)) [] [] (He.ga K "_law_some") fd := F0
  have b : Binds K fd ["pen", "some", "most"] [] := F.bindsN fun _ _ _ _ _ _ us hl => match us, hl with | [_, _, _], _ => rfl
  have S : FnScope ["pen", "some", "most"] ["pen", "some", "most"] (defScope (top 26)) := ⟨rfl, rfl, rfl, by decide +kernel, rfl, by decide +kernel, by decide +kernel⟩
  exact defat F (L.glo 23) b (dfn_ok (k := 2) F S (fun ds c Kd KE h => by first | (obtain ⟨rfl, _⟩ := h; rfl; done) | (obtain ⟨_, rfl, _⟩ := h; rfl; done) | (obtain ⟨_, _, rfl, _⟩ := h; rfl; done) | (obtain ⟨_, _, _, rfl, _⟩ := h; rfl; done) | (obtain ⟨_, _, _, _, rfl, _⟩ := h; rfl; done) | (obtain ⟨_, _, _, _, _, rfl, _⟩ := h; rfl; done) | (rcases h with ⟨_, rfl, _⟩ | ⟨_, rfl, _⟩ <;> rfl; done) | (rcases h with ⟨_, rfl, _⟩ | ⟨_, _, rfl, _⟩ <;> rfl; done) | (rcases h with ⟨_, rfl, _⟩ | ⟨_, _, _, rfl, _⟩ <;> rfl; done) | (rcases h with ⟨_, _, rfl, _⟩ | ⟨_, rfl, _⟩ <;> rfl; done) | (rcases h with ⟨_, _, rfl, _⟩ | ⟨_, _, rfl, _⟩ <;> rfl; done) | (rcases h with ⟨_, _, rfl, _⟩ | ⟨_, _, _, rfl, _⟩ <;> rfl; done) | (rcases h with ⟨_, _, _, rfl, _⟩ | ⟨_, rfl, _⟩ <;> rfl; done) | (rcases h with ⟨_, _, _, rfl, _⟩ | ⟨_, _, rfl, _⟩ <;> rfl; done) | (rcases h with ⟨_, _, _, rfl, _⟩ | ⟨_, _, _, rfl, _⟩ <;> rfl; done)) (fun cdv A outer s H E hr => d__law_some L.nb ((at__law_shuffled L).up (by decide)) ((at__law_draw L).up (by decide)) hr) (q_some))
theorem at__law_name {base : Heap} (L : LftY fa fn xs ers nbs h mg K) : DefAt P w K mg base "_law_name" 2 [] spName := by
  obtain ⟨fd, F0⟩ := L.c.a.def_ 15 (d := fn15) rfl
  have F : FunD K "_law_name" "_law_name" (defArgs (top 27)) (defBody (top 27)) (defScope (top 27)) [] [] (He.ga K "_law_name") fd := F0
  have b : Binds K fd ["pen", "index"] [] := F.bindsN fun _ _ _ _ _ _ us hl => match us, hl with | [_, _], _ => rfl
  have S : FnScope ["pen", "index", "word", "spot", "place"] ["pen", "index"] (defScope (top 27)) := ⟨rfl, rfl, rfl, by decide +kernel, rfl, by decide +kernel, by decide +kernel⟩
  exact defat F (L.glo 24) b (dfn_ok (k := 1) F S (fun ds c Kd KE h => by first | (obtain ⟨rfl, _⟩ := h; rfl; done) | (obtain ⟨_, rfl, _⟩ := h; rfl; done) | (obtain ⟨_, _, rfl, _⟩ := h; rfl; done) | (obtain ⟨_, _, _, rfl, _⟩ := h; rfl; done) | (obtain ⟨_, _, _, _, rfl, _⟩ := h; rfl; done) | (obtain ⟨_, _, _, _, _, rfl, _⟩ := h; rfl; done) | (rcases h with ⟨_, rfl, _⟩ | ⟨_, rfl, _⟩ <;> rfl; done) | (rcases h with ⟨_, rfl, _⟩ | ⟨_, _, rfl, _⟩ <;> rfl; done) | (rcases h with ⟨_, rfl, _⟩ | ⟨_, _, _, rfl, _⟩ <;> rfl; done) | (rcases h with ⟨_, _, rfl, _⟩ | ⟨_, rfl, _⟩ <;> rfl; done) | (rcases h with ⟨_, _, rfl, _⟩ | ⟨_, _, rfl, _⟩ <;> rfl; done) | (rcases h with ⟨_, _, rfl, _⟩ | ⟨_, _, _, rfl, _⟩ <;> rfl; done) | (rcases h with ⟨_, _, _, rfl, _⟩ | ⟨_, rfl, _⟩ <;> rfl; done) | (rcases h with ⟨_, _, _, rfl, _⟩ | ⟨_, _, rfl, _⟩ <;> rfl; done) | (rcases h with ⟨_, _, _, rfl, _⟩ | ⟨_, _, _, rfl, _⟩ <;> rfl; done)) (fun cdv A outer s H E hr => d__law_name L.nb ((at__law_draw L).up (by decide)) hr) (q_name))
theorem at__law_names {base : Heap} (L : LftY fa fn xs ers nbs h mg K) : DefAt P w K mg base "_law_names" 3 [] spNames := by
  obtain ⟨fd, F0⟩ := L.c.a.def_ 16 (d := fn16) rfl
  have F : FunD K "_law_names" "_law_names" (defArgs (top 28)) (defBody (top 28)) (defScope (top 28)) [] [] (He.ga K "_law_names") fd := F0
  have b : Binds K fd ["pen", "many"] [] := F.bindsN fun _ _ _ _ _ _ us hl => match us, hl with | [_, _], _ => rfl
  have S : FnScope ["pen", "many", "index"] ["pen", "many"] (defScope (top 28)) := ⟨rfl, rfl, rfl, by decide +kernel, rfl, by decide +kernel, by decide +kernel⟩
  exact defat F (L.glo 25) b (dfn_ok (k := 2) F S (fun ds c Kd KE h => by first | (obtain ⟨rfl, _⟩ := h; rfl; done) | (obtain ⟨_, rfl, _⟩ := h; rfl; done) | (obtain ⟨_, _, rfl, _⟩ := h; rfl; done) | (obtain ⟨_, _, _, rfl, _⟩ := h; rfl; done) | (obtain ⟨_, _, _, _, rfl, _⟩ := h; rfl; done) | (obtain ⟨_, _, _, _, _, rfl, _⟩ := h; rfl; done) | (rcases h with ⟨_, rfl, _⟩ | ⟨_, rfl, _⟩ <;> rfl; done) | (rcases h with ⟨_, rfl, _⟩ | ⟨_, _, rfl, _⟩ <;> rfl; done) | (rcases h with ⟨_, rfl, _⟩ | ⟨_, _, _, rfl, _⟩ <;> rfl; done) | (rcases h with ⟨_, _, rfl, _⟩ | ⟨_, rfl, _⟩ <;> rfl; done) | (rcases h with ⟨_, _, rfl, _⟩ | ⟨_, _, rfl, _⟩ <;> rfl; done) | (rcases h with ⟨_, _, rfl, _⟩ | ⟨_, _, _, rfl, _⟩ <;> rfl; done) | (rcases h with ⟨_, _, _, rfl, _⟩ | ⟨_, rfl, _⟩ <;> rfl; done) | (rcases h with ⟨_, _, _, rfl, _⟩ | ⟨_, _, rfl, _⟩ <;> rfl; done) | (rcases h with ⟨_, _, _, rfl, _⟩ | ⟨_, _, _, rfl, _⟩ <;> rfl; done)) (fun cdv A outer s H E hr => d__law_names L.nb ((at__law_shuffled L).up (by decide)) ((at__law_name L).up (by decide)) hr) (q_names))
theorem at__law_mixed {base : Heap} (L : LftY fa fn xs ers nbs h mg K) : DefAt P w K mg base "_law_mixed" 4 [] spMixed := by
  obtain ⟨fd, F0⟩ := L.c.a.def_ 17 (d := fn17) rfl
  have F : FunD K "_law_mixed" "_law_mixed" (defArgs (top 29)) (defBody (top 29)) (defScope (top 29)) [] [] (He.ga K "_law_mixed") fd := F0
  have b : Binds K fd ["pen", "some"] [] := F.bindsN fun _ _ _ _ _ _ us hl => match us, hl with | [_, _], _ => rfl
  have S : FnScope ["pen", "some"] ["pen", "some"] (defScope (top 29)) := ⟨rfl, rfl, rfl, by decide +kernel, rfl, by decide +kernel, by decide +kernel⟩
  exact defat F (L.glo 26) b (dfn_ok (k := 3) F S (fun ds c Kd KE h => by first | (obtain ⟨rfl, _⟩ := h; rfl; done) | (obtain ⟨_, rfl, _⟩ := h; rfl; done) | (obtain ⟨_, _, rfl, _⟩ := h; rfl; done) | (obtain ⟨_, _, _, rfl, _⟩ := h; rfl; done) | (obtain ⟨_, _, _, _, rfl, _⟩ := h; rfl; done) | (obtain ⟨_, _, _, _, _, rfl, _⟩ := h; rfl; done) | (rcases h with ⟨_, rfl, _⟩ | ⟨_, rfl, _⟩ <;> rfl; done) | (rcases h with ⟨_, rfl, _⟩ | ⟨_, _, rfl, _⟩ <;> rfl; done) | (rcases h with ⟨_, rfl, _⟩ | ⟨_, _, _, rfl, _⟩ <;> rfl; done) | (rcases h with ⟨_, _, rfl, _⟩ | ⟨_, rfl, _⟩ <;> rfl; done) | (rcases h with ⟨_, _, rfl, _⟩ | ⟨_, _, rfl, _⟩ <;> rfl; done) | (rcases h with ⟨_, _, rfl, _⟩ | ⟨_, _, _, rfl, _⟩ <;> rfl; done) | (rcases h with ⟨_, _, _, rfl, _⟩ | ⟨_, rfl, _⟩ <;> rfl; done) | (rcases h with ⟨_, _, _, rfl, _⟩ | ⟨_, _, rfl, _⟩ <;> rfl; done) | (rcases h with ⟨_, _, _, rfl, _⟩ | ⟨_, _, _, rfl, _⟩ <;> rfl; done)) (fun cdv A outer s H E hr => d__law_mixed L.nb ((at__law_shuffled L).up (by decide)) ((at__law_some L).up (by decide)) hr) (q_mixed))
theorem at__law_server_of {base : Heap} (L : LftY fa fn xs ers nbs h mg K) : DefAt P w K mg base "_law_server_of" 1 [] spLServer := by
  obtain ⟨fd, F0⟩ := L.c.a.def_ 18 (d := fn18) rfl
  have F : FunD K "_law_server_of" "_law_server_of" (defArgs (top 31)) (defBody (top 31)) (defScope (top 31)) [] [] (He.ga K "_law_server_of") fd := F0
  have b : Binds K fd ["rows"] [] := F.bindsN fun _ _ _ _ _ _ us hl => match us, hl with | [_], _ => rfl
  have S : FnScope ["rows", "answers", "places", "place", "call", "other", "one"] ["rows"] (defScope (top 31)) := ⟨rfl, rfl, rfl, by decide +kernel, rfl, by decide +kernel, by decide +kernel⟩
  exact defat F (L.glo 27) b (dfn_ok (k := 0) F S (fun ds c Kd KE h => by first | (obtain ⟨rfl, _⟩ := h; rfl; done) | (obtain ⟨_, rfl, _⟩ := h; rfl; done) | (obtain ⟨_, _, rfl, _⟩ := h; rfl; done) | (obtain ⟨_, _, _, rfl, _⟩ := h; rfl; done) | (obtain ⟨_, _, _, _, rfl, _⟩ := h; rfl; done) | (obtain ⟨_, _, _, _, _, rfl, _⟩ := h; rfl; done) | (rcases h with ⟨_, rfl, _⟩ | ⟨_, rfl, _⟩ <;> rfl; done) | (rcases h with ⟨_, rfl, _⟩ | ⟨_, _, rfl, _⟩ <;> rfl; done) | (rcases h with ⟨_, rfl, _⟩ | ⟨_, _, _, rfl, _⟩ <;> rfl; done) | (rcases h with ⟨_, _, rfl, _⟩ | ⟨_, rfl, _⟩ <;> rfl; done) | (rcases h with ⟨_, _, rfl, _⟩ | ⟨_, _, rfl, _⟩ <;> rfl; done) | (rcases h with ⟨_, _, rfl, _⟩ | ⟨_, _, _, rfl, _⟩ <;> rfl; done) | (rcases h with ⟨_, _, _, rfl, _⟩ | ⟨_, rfl, _⟩ <;> rfl; done) | (rcases h with ⟨_, _, _, rfl, _⟩ | ⟨_, _, rfl, _⟩ <;> rfl; done) | (rcases h with ⟨_, _, _, rfl, _⟩ | ⟨_, _, _, rfl, _⟩ <;> rfl; done)) (fun cdv A outer s H E hr => d__law_server_of L.nb hr) (q_lserver))
theorem at__law_some_server {base : Heap} (L : LftY fa fn xs ers nbs h mg K) : DefAt P w K mg base "_law_some_server" 3 [] spSomeSrv := by
  obtain ⟨fd, F0⟩ := L.c.a.def_ 19 (d := fn19) rfl
  have F : FunD K "_law_some_server" "_law_some_server" (defArgs (top 32)) (defBody (top 32)) (defScope (top 32)) [] [] (He.ga K "_law_some_server") fd := F0
  have b : Binds K fd ["pen", "calls", "places", "share"] [] := F.bindsN fun _ _ _ _ _ _ us hl => match us, hl with | [_, _, _, _], _ => rfl
  have S : FnScope ["pen", "calls", "places", "share", "rows", "place", "call", "turn"] ["pen", "calls", "places", "share"] (defScope (top 32)) := ⟨rfl, rfl, rfl, by decide +kernel, rfl, by decide +kernel, by decide +kernel⟩
  exact defat F (L.glo 28) b (dfn_ok (k := 2) F S (fun ds c Kd KE h => by first | (obtain ⟨rfl, _⟩ := h; rfl; done) | (obtain ⟨_, rfl, _⟩ := h; rfl; done) | (obtain ⟨_, _, rfl, _⟩ := h; rfl; done) | (obtain ⟨_, _, _, rfl, _⟩ := h; rfl; done) | (obtain ⟨_, _, _, _, rfl, _⟩ := h; rfl; done) | (obtain ⟨_, _, _, _, _, rfl, _⟩ := h; rfl; done) | (rcases h with ⟨_, rfl, _⟩ | ⟨_, rfl, _⟩ <;> rfl; done) | (rcases h with ⟨_, rfl, _⟩ | ⟨_, _, rfl, _⟩ <;> rfl; done) | (rcases h with ⟨_, rfl, _⟩ | ⟨_, _, _, rfl, _⟩ <;> rfl; done) | (rcases h with ⟨_, _, rfl, _⟩ | ⟨_, rfl, _⟩ <;> rfl; done) | (rcases h with ⟨_, _, rfl, _⟩ | ⟨_, _, rfl, _⟩ <;> rfl; done) | (rcases h with ⟨_, _, rfl, _⟩ | ⟨_, _, _, rfl, _⟩ <;> rfl; done) | (rcases h with ⟨_, _, _, rfl, _⟩ | ⟨_, rfl, _⟩ <;> rfl; done) | (rcases h with ⟨_, _, _, rfl, _⟩ | ⟨_, _, rfl, _⟩ <;> rfl; done) | (rcases h with ⟨_, _, _, rfl, _⟩ | ⟨_, _, _, rfl, _⟩ <;> rfl; done)) (fun cdv A outer s H E hr => d__law_some_server L.nb ((at__law_draw L).up (by decide)) ((at__law_pick L).up (by decide)) ((at__law_server_of L).up (by decide)) hr) (q_somesrv))
theorem at__law_made_server {base : Heap} (L : LftY fa fn xs ers nbs h mg K) : DefAt P w K mg base "_law_made_server" 6 [] (spMade (He.ga K "Server")) := by
  obtain ⟨fd, F0⟩ := L.c.a.def_ 20 (d := fn20) rfl
  have F : FunD K "_law_made_server" "_law_made_server" (defArgs (top 33)) (defBody (top 33)) (defScope (top 33)) [] [] (He.ga K "_law_made_server") fd := F0
  have b : Binds K fd ["pen", "server"] [] := F.bindsN fun _ _ _ _ _ _ us hl => match us, hl with | [_, _], _ => rfl
  have S : FnScope ["pen", "server"] ["pen", "server"] (defScope (top 33)) := ⟨rfl, rfl, rfl, by decide +kernel, rfl, by decide +kernel, by decide +kernel⟩
  exact defat F (L.glo 29) b (dfn_ok (k := 5) F S (fun ds c Kd KE h => by first | (obtain ⟨rfl, _⟩ := h; rfl; done) | (obtain ⟨_, rfl, _⟩ := h; rfl; done) | (obtain ⟨_, _, rfl, _⟩ := h; rfl; done) | (obtain ⟨_, _, _, rfl, _⟩ := h; rfl; done) | (obtain ⟨_, _, _, _, rfl, _⟩ := h; rfl; done) | (obtain ⟨_, _, _, _, _, rfl, _⟩ := h; rfl; done) | (rcases h with ⟨_, rfl, _⟩ | ⟨_, rfl, _⟩ <;> rfl; done) | (rcases h with ⟨_, rfl, _⟩ | ⟨_, _, rfl, _⟩ <;> rfl; done) | (rcases h with ⟨_, rfl, _⟩ | ⟨_, _, _, rfl, _⟩ <;> rfl; done) | (rcases h with ⟨_, _, rfl, _⟩ | ⟨_, rfl, _⟩ <;> rfl; done) | (rcases h with ⟨_, _, rfl, _⟩ | ⟨_, _, rfl, _⟩ <;> rfl; done) | (rcases h with ⟨_, _, rfl, _⟩ | ⟨_, _, _, rfl, _⟩ <;> rfl; done) | (rcases h with ⟨_, _, _, rfl, _⟩ | ⟨_, rfl, _⟩ <;> rfl; done) | (rcases h with ⟨_, _, _, rfl, _⟩ | ⟨_, _, rfl, _⟩ <;> rfl; done) | (rcases h with ⟨_, _, _, rfl, _⟩ | ⟨_, _, _, rfl, _⟩ <;> rfl; done)) (fun cdv A outer s H E hr => d__law_made_server L.nb (at_Server___init__ L) (by decide) ((at__law_mixed L).up (by decide)) hr) (q_made (He.ga K "Server")))
theorem at_law {base : Heap} (L : LftY fa fn xs ers nbs h mg K) : DefAt P w K mg base "law" 7 [] spLaw := by
  obtain ⟨fd, F0⟩ := L.c.a.def_ 21 (d := fn21) rfl
  have F : FunD K "law" "law" (defArgs (top 34)) (defBody (top 34)) (defScope (top 34)) [] [] (He.ga K "law") fd := F0
  have b : Binds K fd ["script"] [] := F.bindsN fun _ _ _ _ _ _ us hl => match us, hl with | [_], _ => rfl
  have S : FnScope ["script", "pen", "lap", "wide", "calls", "places", "server", "made", "text", "again", "value", "told", "error", "row"] ["script"] (defScope (top 34)) := ⟨rfl, rfl, rfl, by decide +kernel, rfl, by decide +kernel, by decide +kernel⟩
  exact defat F (L.glo 30) b (dfn_ok (k := 6) F S (fun ds c Kd KE h => by first | (obtain ⟨rfl, _⟩ := h; rfl; done) | (obtain ⟨_, rfl, _⟩ := h; rfl; done) | (obtain ⟨_, _, rfl, _⟩ := h; rfl; done) | (obtain ⟨_, _, _, rfl, _⟩ := h; rfl; done) | (obtain ⟨_, _, _, _, rfl, _⟩ := h; rfl; done) | (obtain ⟨_, _, _, _, _, rfl, _⟩ := h; rfl; done) | (rcases h with ⟨_, rfl, _⟩ | ⟨_, rfl, _⟩ <;> rfl; done) | (rcases h with ⟨_, rfl, _⟩ | ⟨_, _, rfl, _⟩ <;> rfl; done) | (rcases h with ⟨_, rfl, _⟩ | ⟨_, _, _, rfl, _⟩ <;> rfl; done) | (rcases h with ⟨_, _, rfl, _⟩ | ⟨_, rfl, _⟩ <;> rfl; done) | (rcases h with ⟨_, _, rfl, _⟩ | ⟨_, _, rfl, _⟩ <;> rfl; done) | (rcases h with ⟨_, _, rfl, _⟩ | ⟨_, _, _, rfl, _⟩ <;> rfl; done) | (rcases h with ⟨_, _, _, rfl, _⟩ | ⟨_, rfl, _⟩ <;> rfl; done) | (rcases h with ⟨_, _, _, rfl, _⟩ | ⟨_, _, rfl, _⟩ <;> rfl; done) | (rcases h with ⟨_, _, _, rfl, _⟩ | ⟨_, _, _, rfl, _⟩ <;> rfl; done)) (fun cdv A outer s H E hr => d_law L.nb ((at__law_pen L).up (by decide)) ((at__law_draw L).up (by decide)) ((at__law_names L).up (by decide)) ((at__law_server_of L).up (by decide)) ((at__law_some_server L).up (by decide)) ((at__law_made_server L).up (by decide)) ((at_server_read L).up (by decide)) (((at__law_same L) 3).up (by decide)) ((at_server_text L).up (by decide)) ((at_Server___eq__ L).up (by decide)) ⟨L.glo 13, isi_ok (L.c.isi (by decide))⟩ ⟨L.glo 0, (L.err 0).xf, (L.err 0).exm, (L.err 0).no⟩ hr) (q_law21 (He.ga K "Server") (He.ga K "BadText")))

theorem law_fn {fa' : Addr} (L : LftY fa fn xs ers nbs h mg K) (hmg : mg ("law" : Str) = some (.ref fa')) : ∃ (fd : FuncData) (sp : Sp), (∀ (s : Shared) (u : Value), BindsTo s fd ⟨[u], []⟩ [("script", u)]) ∧
    (∀ (H : Hp) (a : Addr) (ns : List Int), ns.length ≤ 63 → Only H → SqL K H a (ns.map V.int) → sp [.ref a] H (fun v _ => v = .bl true) fun _ _ _ => False) ∧
    ∀ base : Heap, K.In base → base.Ns mainGlobals mg → FnOk PySem.Challenge.pw_nolessservers_k21_whole_texts_of_servers w K mg base (fun _ _ _ _ _ _ => False) 7 fa' fd ["script"] sp := by
  have e := hmg.symm.trans (L.glo 30)
  cases e
  obtain ⟨fd, F0⟩ := L.c.a.def_ 21 (d := fn21) rfl
  have F : FunD K "law" "law" (defArgs (top 34)) (defBody (top 34)) (defScope (top 34)) [] [] (He.ga K "law") fd := F0
  have b := F.bindsA (ps := ["script"]) fun _ _ _ _ _ _ us hl => match us, hl with | [_], _ => rfl
  have S : FnScope ["script", "pen", "lap", "wide", "calls", "places", "server", "made", "text", "again", "value", "told", "error", "row"] ["script"] (defScope (top 34)) := ⟨rfl, rfl, rfl, by decide +kernel, rfl, by decide +kernel, by decide +kernel⟩
  refine ⟨fd, fun vs H Q _ => spOf ⟨PySem.Challenge.pw_nolessservers_k21_whole_texts_of_servers, w, K⟩ spLaw vs H Q fun _ _ _ => False, fun s v => b s [v] rfl, fun H a ns hl hO hS => scr_call hO hS ⟨ns, rfl, rfl, fun _ => rfl⟩, fun base _ _ => fn_cx (dfn_ok (k := 6) F S (fun ds c Kd KE h => by first | (obtain ⟨rfl, _⟩ := h; rfl; done) | (obtain ⟨_, rfl, _⟩ := h; rfl; done) | (obtain ⟨_, _, rfl, _⟩ := h; rfl; done) | (obtain ⟨_, _, _, rfl, _⟩ := h; rfl; done) | (obtain ⟨_, _, _, _, rfl, _⟩ := h; rfl; done) | (obtain ⟨_, _, _, _, _, rfl, _⟩ := h; rfl; done) | (rcases h with ⟨_, rfl, _⟩ | ⟨_, rfl, _⟩ <;> rfl; done) | (rcases h with ⟨_, rfl, _⟩ | ⟨_, _, rfl, _⟩ <;> rfl; done) | (rcases h with ⟨_, rfl, _⟩ | ⟨_, _, _, rfl, _⟩ <;> rfl; done) | (rcases h with ⟨_, _, rfl, _⟩ | ⟨_, rfl, _⟩ <;> rfl; done) | (rcases h with ⟨_, _, rfl, _⟩ | ⟨_, _, rfl, _⟩ <;> rfl; done) | (rcases h with ⟨_, _, rfl, _⟩ | ⟨_, _, _, rfl, _⟩ <;> rfl; done) | (rcases h with ⟨_, _, _, rfl, _⟩ | ⟨_, rfl, _⟩ <;> rfl; done) | (rcases h with ⟨_, _, _, rfl, _⟩ | ⟨_, _, rfl, _⟩ <;> rfl; done) | (rcases h with ⟨_, _, _, rfl, _⟩ | ⟨_, _, _, rfl, _⟩ <;> rfl; done)) (fun cdv A outer s H E hr => d_law L.nb ((at__law_pen L).up (by decide)) ((at__law_draw L).up (by decide)) ((at__law_names L).up (by decide)) ((at__law_server_of L).up (by decide)) ((at__law_some_server L).up (by decide)) ((at__law_made_server L).up (by decide)) ((at_server_read L).up (by decide)) (((at__law_same L) 3).up (by decide)) ((at_server_text L).up (by decide)) ((at_Server___eq__ L).up (by decide)) ⟨L.glo 13, isi_ok (L.c.isi (by decide))⟩ ⟨L.glo 0, (L.err 0).xf, (L.err 0).exm, (L.err 0).no⟩ hr) (q_law21 (He.ga K "Server") (He.ga K "BadText")))⟩

end
end T21
open PySem PySem.W PySem.Calls PyProof.Rows
theorem PySem.Challenge.cw_nolessservers_k21_whole_texts_of_servers_holds : PySem.Challenge.rw_nolessservers_k21_whole_texts_of_servers.Holds := by
  w_on; o_law
  refine HandSHeadRun.head_any (r := OpenLaw.row PySem.Challenge.rw_nolessservers_k21_whole_texts_of_servers) (q := view (OpenLaw.row PySem.Challenge.rw_nolessservers_k21_whole_texts_of_servers).prog [34]) (H := T21.hk) (ob := T21.ob) (M := 4000) (loose := T21.loose) (d := HandSHeadRun.topDef (OpenLaw.row PySem.Challenge.rw_nolessservers_k21_whole_texts_of_servers).prog 34) (kwd := []) T21.ob_eq
    (by kernel_rfl) (fun s => by kernel_rfl) T21.run (by kernel_rfl) (by kernel_rfl) (by kernel_rfl) (by rfl) (by first | assumption | decide +kernel) (by decide +kernel) ⟨rfl, rfl, rfl, rfl, rfl, by decide +kernel⟩ ?hw ?hc
  case hw => w_witness2
  case hc =>
    refine L2.walk_ofE (l := PySem.Challenge.rw_nolessservers_k21_whole_texts_of_servers) (n := 63) (k := 7) (x := "script") (CX := fun _ _ _ _ _ _ => False) rfl (by decide) (by kernel_rfl) ⟨rfl, by decide, by decide⟩ ?F (fun _ _ _ _ z => z)
    intro w mg fa h Y G hmg0
    obtain ⟨K, KX, c⟩ := Y
    have hmg : mg ("law" : PySem.Str) = some (.ref fa) := by
      have e : (HandSHeadRun.topDef (OpenLaw.row PySem.Challenge.rw_nolessservers_k21_whole_texts_of_servers).prog 34).name = ("law" : PySem.Str) := by kernel_rfl
      rw [← e]
      exact hmg0
    obtain ⟨fd, sp, h1, h2, h3⟩ := T21.law_fn (w := w) ⟨⟨KX, G, c.toSaysX⟩, c.e⟩ hmg
    exact ⟨K, fd, sp, KX, h1, h2, h3⟩
