import PyProof.Rows.All
import Wide.All
import OpenK.AllK
import Wide.FinOn
import HandS.ForMost
import HandS.Walk
import HandS.Comp
import HandS.Exc
import HandS.TryOnly
import HandS.ExcOwn
import HandS.WordsExc
import HandS.Codes
import HandS.Property
import HandS.IsInst
import HandS.Strs
import HandS.TupAny
import HandS.Flow
import KE.Datum
import HandS.Lambda
import HandS.Style
import PyProof.Draws
import HandS.GenYield
import KE.DatumIndex
import KE.KeyNested
import HandS.Dict
import HandS.Nested
import HandS.SortKw
import KE.SortKeyHeap
import KE.SortKeyed
import HandS.Conv
import KE.SortData
import HandS.TupSets
import PySem.Challenge.RW_copiedfrom_k19_nearest_stemmata_up_to_fo
import HandS.ExcSuper
import HandS.ExcField
import KE.KExcSuper
import KE.KSuper
import HandS.Base
import HandS.Call
import HandS.Ends
import HandS.Head0
import HandS.Head1
import HandS.Head2
import HandS.HeadHook1
import HandS.HeadHook2
import HandS.HeadHook3
import HandS.HeadHook4
import HandS.HeadWalk
import HandS.Wide
section
set_option Elab.async false
set_option linter.all false
set_option maxRecDepth 100000
set_option maxHeartbeats 4000000
/-! Plain data over the hand layer: what a value reads as, where nothing that is known changes but at hidden places. -/
namespace PD
open PySem L2
open PySem.W (Datum Tup)

/-- a value that stands for a Lean value -/
class Rep (α : Type) where
  toD : α → PyData
instance repOf {α : Type} [DecidableEq α] [Datum α] : Rep α := ⟨Datum.toD⟩

/-- an object with nothing of its own beside its data -/
def Pl (o : Obj) : Prop := o.dict = none ∧ o.slots = #[]
/-- a tuple, its object known to have nothing of its own -/
def TupA (H : Hp) (a : Addr) (xs : List V) : Prop := ∃ o, H a = some (.frz o (.tup xs)) ∧ Pl o
theorem TupA.sq {K : PySem.W.Frag} {H : Hp} {a : Addr} {xs : List V} (t : TupA H a xs) : SqT K H a xs :=
  let ⟨o, h, _⟩ := t; .inl (.inr ⟨o, h⟩)

mutual
/-- v reads as d; its lists and shelves are none of the hidden ones -/
inductive At (C : Addr) (h : Addr → Prop) (H : Hp) : V → PyData → Prop
  | non : At C h H .non .none
  | bl (b : Bool) : At C h H (.bl b) (.bool b)
  | int (i : Int) : At C h H (.int i) (.int i)
  | str {x : Str} : x.length ≤ 100000 → At C h H (.str x) (.str x)
  | lst {a : Addr} {xs : List V} {ds : List PyData} : ¬ h a → H a = some (.lst xs) → xs.length ≤ 4096 → AtAll C h H xs ds → At C h H (.ref a) (.list ds)
  | tup {a : Addr} {xs : List V} {ds : List PyData} : TupA H a xs → xs.length ≤ 4096 → AtAll C h H xs ds → At C h H (.ref a) (.tuple ds)
  | shf {a dx : Addr} {v1 v2 v3 : V} {d1 d2 d3 : PyData} : ¬ h a → H a = some (.ins C dx [("own_text", v1), ("own_copies", v2), ("own_places", v3)]) →
      At C h H v1 d1 → At C h H v2 d2 → At C h H v3 d3 → At C h H (.ref a) (.dict [(d1, .tuple [d2, d3])])
inductive AtAll (C : Addr) (h : Addr → Prop) (H : Hp) : List V → List PyData → Prop
  | nil : AtAll C h H [] []
  | cons {v : V} {vs : List V} {d : PyData} {ds : List PyData} : At C h H v d → AtAll C h H vs ds → AtAll C h H (v :: vs) (d :: ds)
end

/-- the tables of code objects that may grow: where, the name of what they tell -/
class Tabl where
  T : List (Addr × Str)
variable [Tabl]
/-- all stays but the tables of code objects; no address is forgotten -/
structure Same (H H' : Hp) : Prop where
  keep : ∀ a o, H a = some o → (∀ ps, o ≠ .tbl ps) → H' a = some o
  free : ∀ {a : Addr}, H' a = Option.none → H a = Option.none
  tabs : LamX.Tabs Tabl.T H → LamX.Tabs Tabl.T H'
theorem Same.at {H H' : Hp} (x : Same H H') (a : Addr) (o : HO) (e : H a = some o) (n : ∀ ps, o ≠ .tbl ps := by intro _ z; cases z) : H' a = some o := x.keep a o e n
theorem Same.of {H H' : Hp} (x : L2.Same H H') : Same H H' := ⟨fun a o e _ => x a o e, fun e => x.free e, fun t => t.ext x⟩
theorem Same.refl (H : Hp) : Same H H := .of (L2.Same.refl H)
theorem Same.trans {H H1 H2 : Hp} (x : Same H H1) (y : Same H1 H2) : Same H H2 := ⟨fun a o e n => y.keep a o (x.keep a o e n) n, fun e => x.free (y.free e), fun t => y.tabs (x.tabs t)⟩
theorem Same.seq {K : PySem.W.Frag} {H H' : Hp} (x : Same H H') {a : Addr} {xs : List V} (q : SqL K H a xs) : SqL K H' a xs := by
  rcases q with (q | ⟨o, q⟩) | q
  · exact .inl (.inl (x.at _ _ q))
  · exact .inl (.inr ⟨o, x.at _ _ q⟩)
  · exact .inr q
/-- all stays but what stands at m; no address is forgotten -/
structure Xt (m : Addr → Prop) (H H' : Hp) : Prop where
  keep : ∀ (a : Addr) (o : HO) (_ : ¬ m a) (_ : H a = some o) (_ : ∀ ps, o ≠ .tbl ps := by intro _ z; cases z), H' a = some o
  frz : ∀ a o u, H a = some (.frz o u) → H' a = some (.frz o u)
  free : ∀ a, H' a = Option.none → H a = Option.none
theorem Xt.refl {m : Addr → Prop} (H : Hp) : Xt m H H := ⟨fun _ _ _ e _ => e, fun _ _ _ e => e, fun _ e => e⟩
theorem Xt.trans {m : Addr → Prop} {H H1 H2 : Hp} (x : Xt m H H1) (y : Xt m H1 H2) : Xt m H H2 :=
  ⟨fun a o n e t => y.keep a o n (x.keep a o n e t) t, fun a o u e => y.frz a o u (x.frz a o u e), fun a e => x.free a (y.free a e)⟩
theorem Xt.of {m : Addr → Prop} {H H' : Hp} (s : Same H H') : Xt m H H' := ⟨fun a o _ e t => s.keep a o e t, fun a o u e => s.keep a _ e (by intro _ z; cases z), fun a e => s.free e⟩
theorem Xt.same {H H' : Hp} (x : Xt (fun _ => False) H H') (t : LamX.Tabs Tabl.T H') : Same H H' := ⟨fun a o e n => x.keep a o (fun z => z) e n, fun {a} e => x.free a e, fun _ => t⟩
theorem Xt.mono {m m' : Addr → Prop} {H H' : Hp} (x : Xt m H H') (k : ∀ a, m a → m' a) : Xt m' H H' := ⟨fun a o n e t => x.keep a o (fun z => n (k a z)) e t, x.frz, x.free⟩
theorem same_new {H : Hp} {p : Addr} {o : HO} (hp : H p = Option.none) : Same H (upd H p o) := .of fun b u e => by
  rw [upd_ne (ne_of_none e hp)]
  exact e

/-- what stands at l is no table, and no code object -/
theorem tabs_upd {T : List (Addr × Str)} {H : Hp} {l : Addr} {u o : HO} (t : LamX.Tabs T H) (hl : H l = some u) (n1 : ∀ ps, u ≠ .tbl ps := by intro _ z; cases z) (n2 : ∀ c q, u ≠ LamX.CodeO c q := by intro _ _ z; unfold LamX.CodeO at z; cases z) : LamX.Tabs T (upd H l o) := fun p hp => by
  obtain ⟨ps, h1, h2, h3⟩ := t p hp
  refine ⟨ps, by rw [upd_ne (fun z => by rw [z, hl] at h1; exact n1 _ (Option.some.inj h1))]; exact h1, h2, fun pos cv hc => ?_⟩
  obtain ⟨c, e1, e2⟩ := h3 pos cv hc
  exact ⟨c, e1, by rw [upd_ne (fun z => by rw [z, hl] at e2; exact n2 _ _ (Option.some.inj e2))]; exact e2⟩
/-- what is new since H1 is changed -/
theorem same_upd {H1 H : Hp} {D : Addr} {xs : List V} {o : HO} (x : Same H1 H) (hD : H1 D = Option.none) (hd : H D = some (.lst xs)) : Same H1 (upd H D o) := ⟨fun a u e n => by
  rw [upd_ne (ne_of_none e hD)]
  exact x.keep a u e n, fun {a} e => by
  by_cases z : a = D
  · rw [z, upd_same] at e
    cases e
  · rw [upd_ne z] at e
    exact x.free e, fun t => tabs_upd (x.tabs t) hd⟩
section
variable {C : Addr} {h h' m : Addr → Prop} {H H' : Hp}
mutual
theorem At.mono (x : Xt m H H') (k : ∀ a, m a → h a) : ∀ {v : V} {d : PyData}, At C h H v d → At C h H' v d
  | _, _, .non => .non
  | _, _, .bl b => .bl b
  | _, _, .int i => .int i
  | _, _, .str z => .str z
  | _, _, .lst n e z t => .lst n (x.keep _ _ (fun q => n (k _ q)) e) z (AtAll.mono x k t)
  | _, _, .tup ⟨o, e, q⟩ z t => .tup ⟨o, x.frz _ _ _ e, q⟩ z (AtAll.mono x k t)
  | _, _, .shf n e t1 t2 t3 => .shf n (x.keep _ _ (fun q => n (k _ q)) e) (At.mono x k t1) (At.mono x k t2) (At.mono x k t3)
theorem AtAll.mono (x : Xt m H H') (k : ∀ a, m a → h a) : ∀ {vs : List V} {ds : List PyData}, AtAll C h H vs ds → AtAll C h H' vs ds
  | _, _, .nil => .nil
  | _, _, .cons r t => .cons (At.mono x k r) (AtAll.mono x k t)
end
mutual
/-- fewer hidden ones, or new ones that H does not know yet -/
theorem At.sub (k : ∀ a, h' a → h a ∨ H a = Option.none) : ∀ {v : V} {d : PyData}, At C h H v d → At C h' H v d
  | _, _, .non => .non
  | _, _, .bl b => .bl b
  | _, _, .int i => .int i
  | _, _, .str z => .str z
  | _, _, .lst n e z t => .lst (fun q => (k _ q).elim n fun w => by rw [w] at e; cases e) e z (AtAll.sub k t)
  | _, _, .tup e z t => .tup e z (AtAll.sub k t)
  | _, _, .shf n e t1 t2 t3 => .shf (fun q => (k _ q).elim n fun w => by rw [w] at e; cases e) e (At.sub k t1) (At.sub k t2) (At.sub k t3)
theorem AtAll.sub (k : ∀ a, h' a → h a ∨ H a = Option.none) : ∀ {vs : List V} {ds : List PyData}, AtAll C h H vs ds → AtAll C h' H vs ds
  | _, _, .nil => .nil
  | _, _, .cons r t => .cons (At.sub k r) (AtAll.sub k t)
end
mutual
theorem At.dp {K : PySem.W.Frag} : ∀ {v : V} {d : PyData}, At C h H v d → d.plain = true → Dp K H v d
  | _, _, .non, _ => .non
  | _, _, .bl b, _ => .bl b
  | _, _, .int i, _ => .int i
  | _, _, .str z, _ => .str _
  | _, _, .lst n e z t, p => .lst (SqL.of e) (AtAll.dp t (by simpa only [PyData.plain] using p))
  | _, _, .tup e z t, p => .tup e.sq (AtAll.dp t (by simpa only [PyData.plain] using p))
  | _, _, .shf .., p => nomatch (show PyData.plain (.dict _) = true from p)
theorem AtAll.dp {K : PySem.W.Frag} : ∀ {vs : List V} {ds : List PyData}, AtAll C h H vs ds → PyData.plainAll ds = true → DpAll K H vs ds
  | _, _, .nil, _ => .nil
  | _, _, .cons r t, p => by
    have p' := p
    simp only [PyData.plainAll, Bool.and_eq_true] at p'
    exact .cons (At.dp r p'.1) (AtAll.dp t p'.2)
end
/-- no list, no shelf within: the hidden ones do not matter -/
def nolist : PyData → Bool
  | .list _ => false
  | .dict _ => false
  | .tuple ds => nolistAll ds
  | _ => true
where nolistAll : List PyData → Bool
  | [] => true
  | d :: ds => nolist d && nolistAll ds
theorem AtAll.length : ∀ {vs : List V} {ds : List PyData}, AtAll C h H vs ds → vs.length = ds.length
  | _, _, .nil => rfl
  | _, _, .cons _ t => congrArg (· + 1) (AtAll.length t)
theorem AtAll.get : ∀ {vs : List V} {ds : List PyData} {i : Nat} {v : V}, AtAll C h H vs ds → vs[i]? = some v → ∃ d, ds[i]? = some d ∧ At C h H v d
  | _, _, _, _, .nil, e => by simp at e
  | _, _, 0, _, .cons r _, e => by simp at e; subst e; exact ⟨_, rfl, r⟩
  | _, _, i + 1, v, .cons _ t, e => by
    obtain ⟨d, h1, h2⟩ := AtAll.get (i := i) (v := v) t (by simpa using e)
    exact ⟨d, by simpa using h1, h2⟩
theorem AtAll.get' : ∀ {vs : List V} {ds : List PyData} {i : Nat} {d : PyData}, AtAll C h H vs ds → ds[i]? = some d → ∃ v, vs[i]? = some v ∧ At C h H v d
  | _, _, _, _, .nil, e => by simp at e
  | _, _, 0, _, .cons r _, e => by simp at e; subst e; exact ⟨_, rfl, r⟩
  | _, _, i + 1, d, .cons _ t, e => by
    obtain ⟨v, h1, h2⟩ := AtAll.get' (i := i) (d := d) t (by simpa using e)
    exact ⟨v, by simpa using h1, h2⟩
theorem AtAll.app : ∀ {vs ws : List V} {ds es : List PyData}, AtAll C h H vs ds → AtAll C h H ws es → AtAll C h H (vs ++ ws) (ds ++ es)
  | _, _, _, _, .nil, s => s
  | _, _, _, _, .cons r t, s => .cons r (AtAll.app t s)
theorem AtAll.one {v : V} {d : PyData} (r : At C h H v d) : AtAll C h H [v] [d] := .cons r .nil
theorem AtAll.take : ∀ {vs : List V} {ds : List PyData} (n : Nat), AtAll C h H vs ds → AtAll C h H (vs.take n) (ds.take n)
  | _, _, 0, _ => .nil
  | _, _, _ + 1, .nil => .nil
  | _, _, n + 1, .cons r t => .cons r (AtAll.take n t)
theorem AtAll.drop : ∀ {vs : List V} {ds : List PyData} (n : Nat), AtAll C h H vs ds → AtAll C h H (vs.drop n) (ds.drop n)
  | _, _, 0, r => r
  | _, _, _ + 1, .nil => .nil
  | _, _, n + 1, .cons _ t => AtAll.drop n t
theorem AtAll.erase : ∀ {vs : List V} {ds : List PyData} (n : Nat), AtAll C h H vs ds → AtAll C h H (vs.eraseIdx n) (ds.eraseIdx n)
  | _, _, 0, .nil => .nil
  | _, _, 0, .cons _ t => t
  | _, _, _ + 1, .nil => .nil
  | _, _, n + 1, .cons r t => .cons r (AtAll.erase n t)
theorem AtAll.set {v : V} {d : PyData} (q : At C h H v d) : ∀ {vs : List V} {ds : List PyData} (n : Nat), AtAll C h H vs ds → AtAll C h H (vs.set n v) (ds.set n d)
  | _, _, _, .nil => .nil
  | _, _, 0, .cons _ t => .cons q t
  | _, _, n + 1, .cons r t => .cons r (AtAll.set q n t)
theorem AtAll.rev : ∀ {vs : List V} {ds : List PyData}, AtAll C h H vs ds → AtAll C h H vs.reverse ds.reverse
  | _, _, .nil => .nil
  | _, _, .cons r t => by
    rw [List.reverse_cons, List.reverse_cons]
    exact AtAll.app (AtAll.rev t) (.one r)
end
end PD
end
section
set_option Elab.async false
set_option linter.all false
set_option maxRecDepth 100000
set_option maxHeartbeats 4000000
set_option autoImplicit false
namespace PD
open PySem L2
open PySem.W (Datum Tup)
variable [Tabl]

section
variable {C : Addr} {h h' h2 m : Addr → Prop} {H H' : Hp}
theorem At.step {v : V} {d : PyData} (q : At C h H v d) (x : Xt h H H') (k : ∀ a, h2 a → h a ∨ H a = Option.none) : At C h2 H' v d :=
  ((q.sub (h' := fun a => h a ∨ H a = Option.none) fun _ z => z).mono x fun _ z => .inl z).sub fun a z => .inl (k a z)
theorem AtAll.step {v : List V} {d : List PyData} (q : AtAll C h H v d) (x : Xt h H H') (k : ∀ a, h2 a → h a ∨ H a = Option.none) : AtAll C h2 H' v d :=
  ((q.sub (h' := fun a => h a ∨ H a = Option.none) fun _ z => z).mono x fun _ z => .inl z).sub fun a z => .inl (k a z)
end

/-- a thing that a def alone holds and may change: h hidden, H the heap, v where it is, S what it is made of -/
structure Thing where
  P : (Addr → Prop) → Hp → V → (Addr → Prop) → Prop
  known : ∀ {h : Addr → Prop} {H : Hp} {v : V} {S : Addr → Prop} {b : Addr}, P h H v S → S b → H b ≠ Option.none
  move : ∀ {h m : Addr → Prop} {H H' : Hp} {v : V} {S : Addr → Prop}, P h H v S → Xt m H H' → (∀ b, m b → h b) → (∀ b, S b → ¬ m b) → P h H' v S
  sub : ∀ {h h' : Addr → Prop} {H : Hp} {v : V} {S : Addr → Prop}, P h H v S → (∀ b, h' b → h b ∨ H b = Option.none) → P h' H v S

/-- a list of data -/
def LstT (C : Addr) (ds : List PyData) : Thing where
  P h H v S := ∃ a xs, v = V.ref a ∧ S = (fun b => b = a) ∧ H a = some (.lst xs) ∧ xs.length ≤ 4096 ∧ AtAll C h H xs ds
  known := fun ⟨a, xs, _, e, l, _⟩ z => by subst e; cases z; rw [l]; intro q; cases q
  move := fun ⟨a, xs, ev, e, l, z, t⟩ x k n => by subst e; exact ⟨a, xs, ev, rfl, x.keep _ _ (n a rfl) l, z, t.mono x k⟩
  sub := fun ⟨a, xs, ev, e, l, z, t⟩ k => ⟨a, xs, ev, e, l, z, t.sub k⟩
/-- one object, just known -/
def ObjT (u : HO) : Thing where
  P h H v S := ∃ a, v = V.ref a ∧ S = (fun b => b = a) ∧ H a = some u ∧ ∀ ps, u ≠ .tbl ps
  known := fun ⟨a, _, e, l, _⟩ z => by subst e; cases z; rw [l]; intro q; cases q
  move := fun ⟨a, ev, e, l, t⟩ x k n => by subst e; exact ⟨a, ev, rfl, x.keep _ _ (n a rfl) l t, t⟩
  sub := fun q _ => q
def PotOk (H : Hp) (a : Addr) (n : Nat) : Prop := ∃ p q r : Int, H a = some (.lst [.int p, .int q, .int r]) ∧ 0 ≤ p ∧ p < 10 ^ 300 ∧ 0 ≤ q ∧ q < 2305843009213693951 ∧ 0 ≤ r ∧ r ≤ (n : Int)
/-- the pot of draws: so many were mixed at most -/
def PotT (n : Nat) : Thing where
  P h H v S := ∃ a, v = V.ref a ∧ S = (fun b => b = a) ∧ PotOk H a n
  known := fun ⟨a, _, e, p, q, r, l, _⟩ z => by subst e; cases z; rw [l]; intro q; cases q
  move := fun ⟨a, ev, e, p, q, r, l, t⟩ x k n => by subst e; exact ⟨a, ev, rfl, p, q, r, x.keep _ _ (n a rfl) l, t⟩
  sub := fun q _ => q
/-- lists of data in a list, all of them held -/
def LssT (C : Addr) (dss : List (List PyData)) : Thing where
  P h H v S := ∃ a, ∃ ps : List Addr, v = V.ref a ∧ S = (fun b => b = a ∨ b ∈ ps) ∧ H a = some (.lst (ps.map V.ref)) ∧ a ∉ ps ∧ ps.Nodup ∧ ps.length = dss.length ∧ ps.length ≤ 4096 ∧
    ∀ (i : Nat) (p : Addr) (ds : List PyData), ps[i]? = some p → dss[i]? = some ds → ∃ xs, H p = some (.lst xs) ∧ xs.length ≤ 4096 ∧ AtAll C h H xs ds
  known := fun ⟨a, ps, _, e, l, _, _, hl, _, t⟩ z => by
    subst e
    rcases z with z | z
    · subst z; rw [l]; intro q; cases q
    · obtain ⟨i, hi, e⟩ := List.getElem_of_mem z
      obtain ⟨xs, q, _⟩ := t i _ _ (by rw [List.getElem?_eq_getElem hi, e]) (List.getElem?_eq_getElem (by omega))
      rw [q]; intro q; cases q
  move := fun ⟨a, ps, ev, e, l, na, nd, hl, hz, t⟩ x k n => by
    subst e
    refine ⟨a, ps, ev, rfl, x.keep _ _ (n a (.inl rfl)) l, na, nd, hl, hz, fun i p ds h1 h2 => ?_⟩
    obtain ⟨xs, q1, q2, q3⟩ := t i p ds h1 h2
    exact ⟨xs, x.keep _ _ (n p (.inr (List.mem_of_getElem? h1))) q1, q2, q3.mono x k⟩
  sub := fun ⟨a, ps, ev, e, l, na, nd, hl, hz, t⟩ k => ⟨a, ps, ev, e, l, na, nd, hl, hz, fun i p ds h1 h2 => by
    obtain ⟨xs, q1, q2, q3⟩ := t i p ds h1 h2
    exact ⟨xs, q1, q2, q3.sub k⟩⟩

/-- what a slot holds: nothing that is known, data, a thing that is this def's own -/
inductive Sl where
  | emp
  | dat (d : PyData)
  | own (T : Thing)

/-- the heap at the entry; what is hidden, what may change, what of that was there and is held, what of that is lent; the first slot's value, where it stays -/
structure Wd where
  H0 : Hp
  h : Addr → Prop
  m : Addr → Prop
  o : Addr → Prop
  r : Addr → Prop
  r0 : Option V

def Hd (W : Wd) (F : Nat → Addr → Prop) : Addr → Prop := fun a => W.h a ∨ ∃ i, F i a
/-- what a told value is not made of -/
def Rt (W : Wd) (F : Nat → Addr → Prop) : Addr → Prop := fun a => (W.h a ∧ ¬ W.o a) ∨ W.r a ∨ F 0 a

structure SA (C : Addr) (W : Wd) (F : Nat → Addr → Prop) (H : Hp) (σ : L2.St) (e : List Sl) : Prop where
  len : σ.length = e.length
  xt : Xt W.m W.H0 H
  tabs : LamX.Tabs Tabl.T H
  mh : ∀ a, W.m a → W.h a
  om : ∀ a, W.o a → W.m a
  ro : ∀ a, W.r a → W.o a
  known : ∀ a, W.h a → W.H0 a ≠ Option.none
  foot : ∀ i a, F i a → H a ≠ Option.none ∧ (W.H0 a = Option.none ∨ W.o a)
  apart : ∀ i j a, F i a → F j a → i = j
  lent : ∀ i a, F i a → W.r a → i = 0
  r0 : ∀ v, W.r0 = some v → σ[0]? = some (some v)
  dat : ∀ (i : Nat) (d : PyData), e[i]? = some (.dat d) → ∃ v, σ[i]? = some (some v) ∧ At C (Hd W F) H v d
  own : ∀ (i : Nat) (T : Thing), e[i]? = some (.own T) → ∃ v, σ[i]? = some (some v) ∧ T.P (Hd W F) H v (F i)

section
variable {C : Addr} {W : Wd} {F : Nat → Addr → Prop} {H H2 : Hp} {σ : L2.St} {e : List Sl}
theorem SA.hdk (s : SA C W F H σ e) : ∀ a, Hd W F a → H a ≠ Option.none := fun a q => by
  rcases q with q | ⟨i, q⟩
  · exact fun z => s.known a q (s.xt.free a z)
  · exact (s.foot i a q).1
theorem SA.fresh (s : SA C W F H σ e) {p : Addr} (hp : H p = Option.none) : ¬ Hd W F p := fun q => s.hdk p q hp
/-- nothing that is known has changed -/
theorem SA.same (s : SA C W F H σ e) (x : Same H H2) : SA C W F H2 σ e where
  len := s.len
  xt := s.xt.trans (.of x)
  tabs := x.tabs s.tabs
  mh := s.mh
  om := s.om
  ro := s.ro
  known := s.known
  foot := fun i a q => ⟨fun z => (s.foot i a q).1 (x.free z), (s.foot i a q).2⟩
  apart := s.apart
  lent := s.lent
  r0 := s.r0
  dat := fun i d q => by
    obtain ⟨v, h1, h2⟩ := s.dat i d q
    exact ⟨v, h1, h2.mono (m := fun _ => False) (.of x) fun _ z => z.elim⟩
  own := fun i T q => by
    obtain ⟨v, h1, h2⟩ := s.own i T q
    exact ⟨v, h1, T.move (m := fun _ => False) h2 (.of x) (fun _ z => z.elim) fun _ _ z => z⟩
/-- a slot's things are let go -/
def Fd (F : Nat → Addr → Prop) (i : Nat) : Nat → Addr → Prop := fun j a => j ≠ i ∧ F j a
theorem hd_fd {i : Nat} : ∀ a, Hd W (Fd F i) a → Hd W F a := fun a q => q.imp id fun ⟨j, z⟩ => ⟨j, z.2⟩
/-- a name gets a value -/
theorem SA.set (s : SA C W F H σ e) {i : Nat} (hi : i ≠ 0) {v : V} {d : PyData} (hv : At C (Hd W F) H v d) : SA C W (Fd F i) H (σ.set i (some v)) (e.set i (.dat d)) where
  len := by simp [s.len]
  xt := s.xt
  tabs := s.tabs
  mh := s.mh
  om := s.om
  ro := s.ro
  known := s.known
  foot := fun j a q => s.foot j a q.2
  apart := fun j k a q1 q2 => s.apart j k a q1.2 q2.2
  lent := fun j a q1 q2 => s.lent j a q1.2 q2
  r0 := fun v q => by rw [List.getElem?_set_ne hi]; exact s.r0 v q
  dat := fun j d' q => by
    by_cases hj : i = j
    · subst hj
      have hl : i < e.length := by
        have := (List.getElem?_eq_some_iff.mp q).1
        simpa using this
      rw [List.getElem?_set_self hl] at q
      cases q
      exact ⟨v, List.getElem?_set_self (by rw [s.len]; exact hl), hv.sub fun a z => .inl (hd_fd a z)⟩
    · rw [List.getElem?_set_ne hj] at q
      obtain ⟨v', h1, h2⟩ := s.dat j d' q
      exact ⟨v', by rw [List.getElem?_set_ne hj]; exact h1, h2.sub fun a z => .inl (hd_fd a z)⟩
  own := fun j T q => by
    by_cases hj : i = j
    · subst hj
      rw [List.getElem?_set] at q
      simp at q
    · rw [List.getElem?_set_ne hj] at q
      obtain ⟨v', h1, h2⟩ := s.own j T q
      have e2 : Fd F i j = F j := funext fun a => propext ⟨fun z => z.2, fun z => ⟨fun w => hj w.symm, z⟩⟩
      rw [e2]
      exact ⟨v', by rw [List.getElem?_set_ne hj]; exact h1, T.sub h2 fun a z => .inl (hd_fd a z)⟩
/-- .. one that nothing asks for -/
theorem SA.drop (s : SA C W F H σ e) {i : Nat} (hi : i ≠ 0) {v : Option V} : SA C W (Fd F i) H (σ.set i v) (e.set i .emp) where
  len := by simp [s.len]
  xt := s.xt
  tabs := s.tabs
  mh := s.mh
  om := s.om
  ro := s.ro
  known := s.known
  foot := fun j a q => s.foot j a q.2
  apart := fun j k a q1 q2 => s.apart j k a q1.2 q2.2
  lent := fun j a q1 q2 => s.lent j a q1.2 q2
  r0 := fun v q => by rw [List.getElem?_set_ne hi]; exact s.r0 v q
  dat := fun j d' q => by
    by_cases hj : i = j
    · subst hj
      rw [List.getElem?_set] at q
      simp at q
    · rw [List.getElem?_set_ne hj] at q
      obtain ⟨v', h1, h2⟩ := s.dat j d' q
      exact ⟨v', by rw [List.getElem?_set_ne hj]; exact h1, h2.sub fun a z => .inl (hd_fd a z)⟩
  own := fun j T q => by
    by_cases hj : i = j
    · subst hj
      rw [List.getElem?_set] at q
      simp at q
    · rw [List.getElem?_set_ne hj] at q
      obtain ⟨v', h1, h2⟩ := s.own j T q
      have e2 : Fd F i j = F j := funext fun a => propext ⟨fun z => z.2, fun z => ⟨fun w => hj w.symm, z⟩⟩
      rw [e2]
      exact ⟨v', by rw [List.getElem?_set_ne hj]; exact h1, T.sub h2 fun a z => .inl (hd_fd a z)⟩
def Fs (F : Nat → Addr → Prop) (i : Nat) (S : Addr → Prop) : Nat → Addr → Prop := fun j a => (j ≠ i ∧ F j a) ∨ (j = i ∧ S a)
theorem hd_fs {i : Nat} {S : Addr → Prop} : ∀ a, Hd W (Fs F i S) a → Hd W F a ∨ S a := fun a q => by
  rcases q with q | ⟨j, ⟨_, z⟩ | ⟨_, z⟩⟩
  · exact .inl (.inl q)
  · exact .inl (.inr ⟨j, z⟩)
  · exact .inr z
theorem fs_self {i : Nat} {S : Addr → Prop} : Fs F i S i = S := funext fun a => propext ⟨fun z => z.elim (fun w => absurd rfl w.1) (·.2), fun z => .inr ⟨rfl, z⟩⟩
theorem fs_ne {i j : Nat} (h : i ≠ j) {S : Addr → Prop} : Fs F i S j = F j := funext fun a => propext ⟨fun z => z.elim (·.2) fun w => absurd w.1.symm h, fun z => .inl ⟨fun w => h w.symm, z⟩⟩
/-- a name gets a new thing of its own; H: ahead of its making -/
theorem SA.setOwn (s : SA C W F H σ e) {i : Nat} (hi : i ≠ 0) {v : V} {T : Thing} {S : Addr → Prop} (hp : ∀ a, S a → H a = Option.none) (x : Same H H2) (ht : T.P (fun a => Hd W F a ∨ S a) H2 v S) :
    SA C W (Fs F i S) H2 (σ.set i (some v)) (e.set i (.own T)) := by
  have s2 := s.same x
  have sx : ∀ a, Hd W (Fs F i S) a → Hd W F a ∨ H a = Option.none := fun a z => (hd_fs a z).imp id (hp a)
  refine ⟨by simp [s.len], s2.xt, s2.tabs, s.mh, s.om, s.ro, s.known, fun j a q => ?_, fun j k a q1 q2 => ?_, fun j a q1 q2 => q1.elim (fun w => s.lent j a w.2 q2) fun w => absurd (s.xt.free a (hp a w.2)) (s.known a (s.mh a (s.om a (s.ro a q2)))), fun v q => by rw [List.getElem?_set_ne hi]; exact s.r0 v q, fun j d q => ?_, fun j T' q => ?_⟩
  · rcases q with q | q
    · exact s2.foot j a q.2
    · exact ⟨T.known ht q.2, .inl (s.xt.free a (hp a q.2))⟩
  · rcases q1 with ⟨n1, q1⟩ | ⟨rfl, q1⟩
    · rcases q2 with ⟨n2, q2⟩ | ⟨rfl, q2⟩
      · exact s.apart j k a q1 q2
      · exact absurd (hp a q2) (s.foot j a q1).1
    · rcases q2 with ⟨n2, q2⟩ | ⟨rfl, q2⟩
      · exact absurd (hp a q1) (s.foot k a q2).1
      · rfl
  · by_cases hj : i = j
    · subst hj
      rw [List.getElem?_set] at q
      simp at q
    · rw [List.getElem?_set_ne hj] at q
      obtain ⟨v', h1, h2⟩ := s.dat j d q
      exact ⟨v', by rw [List.getElem?_set_ne hj]; exact h1, (h2.sub sx).mono (m := fun _ => False) (.of x) fun _ z => z.elim⟩
  · by_cases hj : i = j
    · subst hj
      have hl' : i < e.length := by
        have := (List.getElem?_eq_some_iff.mp q).1
        simpa using this
      rw [List.getElem?_set_self hl'] at q
      cases q
      rw [fs_self]
      exact ⟨v, List.getElem?_set_self (by rw [s.len]; exact hl'), T.sub ht fun a z => .inl (hd_fs a z)⟩
    · rw [List.getElem?_set_ne hj] at q
      obtain ⟨v', h1, h2⟩ := s.own j T' q
      rw [fs_ne hj]
      exact ⟨v', by rw [List.getElem?_set_ne hj]; exact h1, T'.move (m := fun _ => False) (T'.sub h2 sx) (.of x) (fun _ z => z.elim) fun _ _ z => z⟩
/-- the own thing in slot i is changed: from S to S', the rest as it was -/
theorem SA.put (s : SA C W F H σ e) {i : Nat} {T T' : Thing} {v : V} {S' : Addr → Prop} (he : e[i]? = some (.own T)) (hσ : σ[i]? = some (some v)) (x : Xt (F i) H H2) (hs : ∀ a, S' a → F i a ∨ H a = Option.none)
    (ht : T'.P (fun a => Hd W F a ∨ S' a) H2 v S') (tb : LamX.Tabs Tabl.T H2) : SA C W (Fs F i S') H2 σ (e.set i (.own T')) := by
  have hl := (List.getElem?_eq_some_iff.mp he).1
  have xh : Xt (Hd W F) H H2 := x.mono fun a z => .inr ⟨i, z⟩
  have sx : ∀ a, Hd W (Fs F i S') a → Hd W F a ∨ H a = Option.none := fun a z => (hd_fs a z).elim .inl fun w => (hs a w).imp (fun q => .inr ⟨i, q⟩) id
  refine ⟨by simp [s.len], ?_, tb, s.mh, s.om, s.ro, s.known, fun j a q => ?_, fun j k a q1 q2 => ?_, fun j a q1 q2 => q1.elim (fun w => s.lent j a w.2 q2) fun w => by
      rw [w.1]
      exact (hs a w.2).elim (fun y => s.lent i a y q2) fun y => absurd (s.xt.free a y) (s.known a (s.mh a (s.om a (s.ro a q2)))), s.r0, fun j d q => ?_, fun j T2 q => ?_⟩
  · refine ⟨fun a o n q nt => ?_, fun a o u q => x.frz _ _ _ (s.xt.frz _ _ _ q), fun a q => s.xt.free a (x.free a q)⟩
    refine x.keep a o (fun z => ?_) (s.xt.keep a o n q nt) nt
    rcases (s.foot i a z).2 with w | w
    · rw [w] at q; cases q
    · exact n (s.om a w)
  · rcases q with ⟨n, q⟩ | ⟨rfl, q⟩
    · exact ⟨fun z => (s.foot j a q).1 (x.free a z), (s.foot j a q).2⟩
    · exact ⟨T'.known ht q, (hs a q).elim (fun w => (s.foot j a w).2) fun w => .inl (s.xt.free a w)⟩
  · have g : ∀ j, Fs F i S' j a → F j a ∨ (j = i ∧ H a = Option.none) := fun j q => by
      rcases q with ⟨n, q⟩ | ⟨rfl, q⟩
      · exact .inl q
      · exact (hs a q).imp id fun w => ⟨rfl, w⟩
    rcases g j q1 with w1 | w1
    · rcases g k q2 with w2 | w2
      · exact s.apart j k a w1 w2
      · exact absurd w2.2 (s.foot j a w1).1
    · rcases g k q2 with w2 | w2
      · exact absurd w1.2 (s.foot k a w2).1
      · rw [w1.1, w2.1]
  · have hj : i ≠ j := fun z => by
      subst z
      rw [List.getElem?_set_self hl] at q
      cases q
    rw [List.getElem?_set_ne hj] at q
    obtain ⟨v', q1, q2⟩ := s.dat j d q
    exact ⟨v', q1, q2.step xh sx⟩
  · by_cases hj : i = j
    · subst hj
      rw [List.getElem?_set_self hl] at q
      cases q
      rw [fs_self]
      exact ⟨v, hσ, T'.sub ht fun a z => .inl (hd_fs a z)⟩
    · rw [List.getElem?_set_ne hj] at q
      obtain ⟨v', q1, q2⟩ := s.own j T2 q
      rw [fs_ne hj]
      refine ⟨v', q1, T2.sub (T2.move (T2.sub (h' := fun a => Hd W F a ∨ H a = Option.none) q2 fun _ z => z) x (fun a z => .inl (.inr ⟨i, z⟩)) fun b z w => hj (s.apart i j b w z)) fun a z => .inl (sx a z)⟩
/-- an own thing is left as data -/
theorem SA.let_ (s : SA C W F H σ e) {i : Nat} {T : Thing} {d : PyData} (he : e[i]? = some (.own T)) (hd : ∀ v, σ[i]? = some (some v) → T.P (Hd W F) H v (F i) → At C (Hd W (Fd F i)) H v d) : SA C W (Fd F i) H σ (e.set i (.dat d)) where
  len := by simp [s.len]
  xt := s.xt
  tabs := s.tabs
  mh := s.mh
  om := s.om
  ro := s.ro
  known := s.known
  foot := fun j a q => s.foot j a q.2
  apart := fun j k a q1 q2 => s.apart j k a q1.2 q2.2
  lent := fun j a q1 q2 => s.lent j a q1.2 q2
  r0 := s.r0
  dat := fun j d' q => by
    by_cases hj : i = j
    · subst hj
      rw [List.getElem?_set_self (List.getElem?_eq_some_iff.mp he).1] at q
      cases q
      obtain ⟨v, h1, h2⟩ := s.own i T he
      exact ⟨v, h1, hd v h1 h2⟩
    · rw [List.getElem?_set_ne hj] at q
      obtain ⟨v', h1, h2⟩ := s.dat j d' q
      exact ⟨v', h1, h2.sub fun a z => .inl (hd_fd a z)⟩
  own := fun j T' q => by
    by_cases hj : i = j
    · subst hj
      rw [List.getElem?_set_self (List.getElem?_eq_some_iff.mp he).1] at q
      cases q
    · rw [List.getElem?_set_ne hj] at q
      obtain ⟨v', h1, h2⟩ := s.own j T' q
      have e2 : Fd F i j = F j := funext fun a => propext ⟨fun z => z.2, fun z => ⟨fun w => hj w.symm, z⟩⟩
      rw [e2]
      exact ⟨v', h1, T'.sub h2 fun a z => .inl (hd_fd a z)⟩

/-! ### a loop's world: what stands at its start stays -/
def Wd.enter (W : Wd) (F : Nat → Addr → Prop) (H : Hp) : Wd := ⟨H, Hd W F, fun a => W.m a ∨ ∃ i, F i a, fun a => W.o a ∨ ∃ i, F i a, W.r, W.r0⟩
theorem SA.enter (s : SA C W F H σ e) : SA C (W.enter F H) F H σ e where
  len := s.len
  xt := .refl H
  tabs := s.tabs
  mh := fun a z => z.imp (s.mh a) id
  om := fun a z => z.imp (s.om a) id
  ro := fun a z => .inl (s.ro a z)
  known := fun a q => s.hdk a q
  foot := fun i a q => ⟨(s.foot i a q).1, .inr (.inr ⟨i, q⟩)⟩
  apart := s.apart
  lent := s.lent
  r0 := s.r0
  dat := fun i d q => by
    obtain ⟨v, h1, h2⟩ := s.dat i d q
    exact ⟨v, h1, h2.sub fun a z => .inl (z.elim id .inr)⟩
  own := fun i T q => by
    obtain ⟨v, h1, h2⟩ := s.own i T q
    exact ⟨v, h1, T.sub h2 fun a z => .inl (z.elim id .inr)⟩
theorem SA.leave {F' : Nat → Addr → Prop} {H' : Hp} {σ' : L2.St} {e' : List Sl} (s : SA C W F H σ e) (t : SA C (W.enter F H) F' H' σ' e') : SA C W F' H' σ' e' where
  len := t.len
  xt := ⟨fun a o n q nt => t.xt.keep a o (fun z => by
      rcases z with z | ⟨i, z⟩
      · exact n z
      · rcases (s.foot i a z).2 with w | w
        · rw [w] at q; cases q
        · exact n (s.om a w)) (s.xt.keep a o n q nt) nt, fun a o u q => t.xt.frz _ _ _ (s.xt.frz _ _ _ q), fun a q => s.xt.free a (t.xt.free a q)⟩
  tabs := t.tabs
  mh := s.mh
  om := s.om
  ro := s.ro
  known := s.known
  foot := fun i a q => ⟨(t.foot i a q).1, by
    rcases (t.foot i a q).2 with w | w | ⟨j, w⟩
    · exact .inl (s.xt.free a w)
    · exact .inr w
    · exact (s.foot j a w).2⟩
  apart := t.apart
  lent := t.lent
  r0 := t.r0
  dat := fun i d q => by
    obtain ⟨v, h1, h2⟩ := t.dat i d q
    exact ⟨v, h1, h2.sub fun a z => .inl (z.imp .inl id)⟩
  own := fun i T q => by
    obtain ⟨v, h1, h2⟩ := t.own i T q
    exact ⟨v, h1, T.sub h2 fun a z => .inl (z.imp .inl id)⟩
theorem rt_enter {F' : Nat → Addr → Prop} (s : SA C W F H σ e) : ∀ a, Rt W F' a → Rt (W.enter F H) F' a := fun a z => by
  rcases z with ⟨h1, h2⟩ | z | z
  · refine .inl ⟨.inl h1, ?_⟩
    rintro (w | ⟨i, w⟩)
    · exact h2 w
    · exact (s.foot i a w).2.elim (s.known a h1) h2
  · exact .inr (.inl z)
  · exact .inr (.inr z)
theorem rt_hd (s : SA C W F H σ e) : ∀ a, Rt W F a → Hd W F a := fun a z => z.elim (fun w => .inl w.1) fun w => w.elim (fun w => .inl (s.mh a (s.om a (s.ro a w)))) fun w => .inr ⟨0, w⟩
end
end PD
end
section
set_option Elab.async false
set_option linter.all false
set_option maxRecDepth 100000
set_option maxHeartbeats 4000000
set_option autoImplicit false
namespace PD
open PySem L2
open PySem.W (Datum Tup)
variable [Tabl]

/-- a tuple that is known for good -/
def SqF (K : PySem.W.Frag) (H : Hp) (a : Addr) (xs : List V) : Prop :=
  (∃ o, H a = some (.frz o (.tup xs))) ∨ ∃ (o : Obj) (its : Array Value) (n : Nat), K.lookup a = some o ∧ o.cls = .type "tuple" ∧ o.data = .seq its n ∧ its.size ≤ sizeLine ∧ Vals xs its.toList
theorem SqF.t {K : PySem.W.Frag} {H : Hp} {a : Addr} {xs : List V} (q : SqF K H a xs) : SqT K H a xs := q.imp .inr id
theorem SqF.xt {K : PySem.W.Frag} {m : Addr → Prop} {H H2 : Hp} (x : Xt m H H2) {a : Addr} {xs : List V} (q : SqF K H a xs) : SqF K H2 a xs := q.imp (fun ⟨o, z⟩ => ⟨o, x.frz _ _ _ z⟩) id
theorem TupA.f {K : PySem.W.Frag} {H : Hp} {a : Addr} {xs : List V} (t : TupA H a xs) : SqF K H a xs := let ⟨o, h, _⟩ := t; .inl ⟨o, h⟩
/-! ### judgements: in any state whose slots hold e -/
section
variable (C : Addr)
/-- it gives data -/
def ED {α : Type} [Rep α] (te : TE) (e : List Sl) (a : α) : Prop := ∀ (W : Wd) (F : Nat → Addr → Prop) (σ : L2.St) (H : Hp), SA C W F H σ e → ∀ Q : VK, (∀ v H2, Same H H2 → At C (Hd W F) H2 v (Rep.toD a) → Q v H2) → te σ H Q
/-- it gives a new list -/
def EF {α : Type} [Rep α] (te : TE) (e : List Sl) (as : List α) : Prop := ∀ (W : Wd) (F : Nat → Addr → Prop) (σ : L2.St) (H : Hp), SA C W F H σ e → ∀ Q : VK, (∀ p xs H2, H p = none → Same H H2 → H2 p = some (.lst xs) → xs.length ≤ 4096 →
  AtAll C (fun a => Hd W F a ∨ a = p) H2 xs (as.map Rep.toD) → Q (V.ref p) H2) → te σ H Q
/-- it gives a list that can be read; false: none of the hidden ones -/
def EL (pb : Bool) {α : Type} [Rep α] (te : TE) (e : List Sl) (as : List α) : Prop := ∀ (W : Wd) (F : Nat → Addr → Prop) (σ : L2.St) (H : Hp), SA C W F H σ e → ∀ Q : VK, (∀ p xs H2, (pb = false → ¬ Hd W F p) → Same H H2 → H2 p = some (.lst xs) → xs.length ≤ 4096 →
  AtAll C (Hd W F) H2 xs (as.map Rep.toD) → Q (V.ref p) H2) → te σ H Q
/-- a tuple -/
def EU (K : PySem.W.Frag) {α : Type} [Rep α] (te : TE) (e : List Sl) (as : List α) : Prop := ∀ (W : Wd) (F : Nat → Addr → Prop) (σ : L2.St) (H : Hp), SA C W F H σ e → ∀ Q : VK, (∀ p xs H2, Same H H2 → SqF K H2 p xs → xs.length ≤ 4096 →
  AtAll C (Hd W F) H2 xs (as.map Rep.toD) → Q (V.ref p) H2) → te σ H Q
def ET (tt : TT) (e : List Sl) (b : Bool) : Prop := ∀ (W : Wd) (F : Nat → Addr → Prop) (σ : L2.St) (H : Hp), SA C W F H σ e → ∀ Q : Bool → Hp → Prop, (∀ H2, Same H H2 → Q b H2) → tt σ H Q
def EA (ta : TA) (e : List Sl) (ds : List PyData) : Prop := ∀ (W : Wd) (F : Nat → Addr → Prop) (σ : L2.St) (H : Hp), SA C W F H σ e → ∀ Q : List V → Hp → Prop, (∀ vs H2, Same H H2 → AtAll C (Hd W F) H2 vs ds → Q vs H2) → ta σ H Q
end

section
variable {C : Addr} {pb : Bool} {e : List Sl} {ta tb te tc : TE} {tt tu : TT} {α β γ : Type} [Rep α] [Rep β] [Rep γ]
theorem same_tup {K : PySem.W.Frag} {H H2 : Hp} (x : Same H H2) {a : Addr} {xs : List V} (q : SqT K H a xs) : SqT K H2 a xs := by
  rcases q with (q | ⟨o, q⟩) | q
  · exact .inl (.inl (x.at _ _ q))
  · exact .inl (.inr ⟨o, x.at _ _ q⟩)
  · exact .inr q
theorem same_at {h : Addr → Prop} {H H2 : Hp} (x : Same H H2) {v : V} {d : PyData} (q : At C h H v d) : At C h H2 v d := q.mono (m := fun _ => False) (.of x) fun _ z => z.elim
theorem same_all {h : Addr → Prop} {H H2 : Hp} (x : Same H H2) {vs : List V} {ds : List PyData} (q : AtAll C h H vs ds) : AtAll C h H2 vs ds := q.mono (m := fun _ => False) (.of x) fun _ z => z.elim
theorem at_int {h : Addr → Prop} {H : Hp} {v : V} {i : Int} (q : At C h H v (Rep.toD i)) : v = .int i := by
  have q' : At C h H v (.int i) := q
  cases q'
  rfl
theorem at_bool {h : Addr → Prop} {H : Hp} {v : V} {b : Bool} (q : At C h H v (Rep.toD b)) : v = .bl b := by
  have q' : At C h H v (.bool b) := q
  cases q'
  rfl
theorem at_str {h : Addr → Prop} {H : Hp} {v : V} {x : Str} (q : At C h H v (Rep.toD x)) : v = .str x ∧ x.length ≤ 100000 := by
  have q' : At C h H v (.str x) := q
  cases q' with
  | str z => exact ⟨rfl, z⟩
theorem map_toD {δ : Type} [DecidableEq δ] [Datum δ] (xs : List δ) : (Rep.toD xs : PyData) = .list (xs.map fun x => Rep.toD x) := rfl
theorem at_list {δ : Type} [DecidableEq δ] [Datum δ] {h : Addr → Prop} {H : Hp} {v : V} {xs : List δ} (q : At C h H v (Rep.toD xs)) : ∃ p vs, v = V.ref p ∧ ¬ h p ∧ H p = some (.lst vs) ∧ vs.length ≤ 4096 ∧ AtAll C h H vs (xs.map fun x => Rep.toD x) := by
  have q' : At C h H v (.list (xs.map fun x => Rep.toD x)) := q
  cases q' with
  | lst n e z t => exact ⟨_, _, rfl, n, e, z, t⟩
theorem at_tup {δ : Type} [DecidableEq δ] [Datum δ] {h : Addr → Prop} {H : Hp} {v : V} {t : Tup δ} (q : At C h H v (Rep.toD t)) : ∃ p vs, v = V.ref p ∧ TupA H p vs ∧ vs.length ≤ 4096 ∧ AtAll C h H vs (t.items.map fun x => Rep.toD x) := by
  have q' : At C h H v (.tuple (t.items.map fun x => Rep.toD x)) := q
  cases q' with
  | tup e z t => exact ⟨_, _, rfl, e, z, t⟩

/-! ### names, constants -/
theorem ed_var {i : Nat} {a : α} (h : e[i]? = some (.dat (Rep.toD a))) : ED C (tVar i) e a := fun W F σ H s Q q => by
  obtain ⟨v, h1, h2⟩ := s.dat i _ h
  exact ⟨v, h1, q v H (Same.refl H) h2⟩
theorem el_own {i : Nat} {as : List α} (h : e[i]? = some (.own (LstT C (as.map Rep.toD)))) : EL C true (tVar i) e as := fun W F σ H s Q q => by
  obtain ⟨v, h1, l, xs, rfl, _, h3, h4, h5⟩ := s.own i _ h
  exact ⟨_, h1, q l xs H (fun z => nomatch z) (Same.refl H) h3 h4 h5⟩
theorem ed_int {i : Int} : ED C (tC (.int i)) e i := fun W F σ H s Q q => q _ H (Same.refl H) (.int i)
theorem ed_bl {b : Bool} : ED C (tC (.bl b)) e b := fun W F σ H s Q q => q _ H (Same.refl H) (.bl b)
theorem ed_str {x : Str} (h : x.length ≤ 100000) : ED C (tC (.str x)) e x := fun W F σ H s Q q => q _ H (Same.refl H) (.str h)

/-! ### readable lists and tuples -/
theorem EF.el {as : List α} (h : EF C te e as) : EL C pb te e as := fun W F σ H s Q q => h W F σ H s Q fun p xs H2 hp x hl hz t => q p xs H2 (fun _ => s.fresh hp) x hl hz (t.sub fun a z => .inl (.inl z))
theorem EF.ed {δ : Type} [DecidableEq δ] [Datum δ] {as : List δ} (h : EF C te e as) : ED C te e as := fun W F σ H s Q q => h W F σ H s Q fun p xs H2 hp x hl hz t => q _ H2 x (.lst (s.fresh hp) hl hz (t.sub fun a z => .inl (.inl z)))
theorem ED.el {δ : Type} [DecidableEq δ] [Datum δ] {as : List δ} (h : ED C te e as) : EL C pb te e as := fun W F σ H s Q q => h W F σ H s Q fun v H2 x t => by
  obtain ⟨p, vs, rfl, hn, h1, h2, h3⟩ := at_list t
  exact q p vs H2 (fun _ => hn) x h1 h2 h3
theorem ED.eu {K : PySem.W.Frag} {δ : Type} [DecidableEq δ] [Datum δ] {t : Tup δ} (h : ED C te e t) : EU C K te e t.items := fun W F σ H s Q q => h W F σ H s Q fun v H2 x t => by
  obtain ⟨p, vs, rfl, h1, h2, h3⟩ := at_tup t
  exact q p vs H2 x h1.f h2 h3
theorem ED.is {a b : α} (h : ED C te e a) (q : a = b) : ED C te e b := q ▸ h
theorem ET.is {a b : Bool} (h : ET C tt e a) (q : a = b) : ET C tt e b := q ▸ h
theorem EF.is {a b : List α} (h : EF C te e a) (q : a = b) : EF C te e b := q ▸ h
theorem EL.is {a b : List α} (h : EL C pb te e a) (q : a = b) : EL C pb te e b := q ▸ h

/-! ### arguments, displays -/
theorem ea_nil : EA C tNil e [] := fun W F σ H s Q q => q [] H (Same.refl H) .nil
theorem ea_cons {tr : TA} {a : α} {ds : List PyData} (h : ED C ta e a) (hr : EA C tr e ds) : EA C (tCons ta tr) e (Rep.toD a :: ds) := fun W F σ H s Q q =>
  h W F σ H s _ fun v H2 x2 a2 => hr W F σ H2 (s.same x2) _ fun vs H3 x3 a3 => q _ H3 (x2.trans x3) (.cons (same_at x3 a2) a3)
theorem ef_lst {tr : TA} {as : List α} (h : EA C tr e (as.map Rep.toD)) (hl : as.length ≤ 4096) : EF C (tLst tr) e as := fun W F σ H s Q q =>
  h W F σ H s _ fun vs H2 x2 a2 => by
    have hv : vs.length = as.length := by
      rw [a2.length, List.length_map]
    exact ⟨Nat.le_trans (by omega : vs.length ≤ 4096) (by decide), fun p hp => q p vs _ (x2.free hp) (x2.trans (same_new hp)) upd_same (by omega) (same_all (same_new hp) (a2.sub fun a z => z.imp id fun w => by rw [w]; exact hp))⟩

/-! ### operators by values -/
/-- an operation on values gives data -/
def RVD (C : Addr) (r : R2) (a : α) (b : β) (c : γ) : Prop := ∀ (h : Addr → Prop) (H : Hp) (x y : V), (∀ p, h p → H p ≠ none) → At C h H x (Rep.toD a) → At C h H y (Rep.toD b) → ∀ Q : VK, (∀ v H2, Same H H2 → At C h H2 v (Rep.toD c) → Q v H2) → r x y H Q
theorem ed_op {r : R2} {a : α} {b : β} {c : γ} (ha : ED C ta e a) (hb : ED C tb e b) (hr : RVD C r a b c) : ED C (tOp r ta tb) e c := fun W F σ H s Q q =>
  ha W F σ H s _ fun x H2 x2 a2 => hb W F σ H2 (s.same x2) _ fun y H3 x3 a3 => hr _ H3 x y ((s.same x2).same x3).hdk (same_at x3 a2) a3 Q fun v H4 x4 a4 => q v H4 ((x2.trans x3).trans x4) a4
theorem rd_add {i j : Int} : RVD C (rI0 fun i j => .int (i + j)) i j (i + j) := fun h H x y _ hx hy Q q => by
  cases at_int hx
  cases at_int hy
  exact ⟨i, j, rfl, rfl, q _ H (Same.refl H) (.int _)⟩
theorem rd_sub {i j : Int} : RVD C (rI0 fun i j => .int (i - j)) i j (i - j) := fun h H x y _ hx hy Q q => by
  cases at_int hx
  cases at_int hy
  exact ⟨i, j, rfl, rfl, q _ H (Same.refl H) (.int _)⟩
theorem rd_mul {i j : Int} (hc : CMul i j) : RVD C (rI CMul fun i j => .int (i * j)) i j (i * j) := fun h H x y _ hx hy Q q => by
  cases at_int hx
  cases at_int hy
  exact ⟨i, j, rfl, rfl, hc, q _ H (Same.refl H) (.int _)⟩
theorem rd_cmp {g : Int → Int → Bool} {i j : Int} : RVD C (rI0 fun i j => .bl (g i j)) i j (g i j) := fun h H x y _ hx hy Q q => by
  cases at_int hx
  cases at_int hy
  exact ⟨i, j, rfl, rfl, q _ H (Same.refl H) (.bl _)⟩
theorem rd_strcat {x y : Str} (hl : x.length + y.length ≤ 100000) : RVD C (fun a b H Q => ∃ i j, a = .str i ∧ b = .str j ∧ i.length + j.length ≤ sizeLine ∧ Q (.str (i ++ j)) H) x y (x ++ y) := fun h H a b _ hx hy Q q => by
  obtain ⟨rfl, _⟩ := at_str hx
  obtain ⟨rfl, _⟩ := at_str hy
  refine ⟨x, y, rfl, rfl, Nat.le_trans hl (by decide), q _ H (Same.refl H) (.str ?_)⟩
  have : (x ++ y).length = x.length + y.length := by
    show (x ++ y).cps.size = x.cps.size + y.cps.size
    exact Array.size_append
  omega

/-! ### tests -/
theorem et_B {b : Bool} (h : ED C te e b) : ET C (tB te) e b := fun W F σ H s Q q => h W F σ H s _ fun v H2 x a => ⟨b, at_bool a, q H2 x⟩
theorem et_test {b : Bool} (h : ED C te e b) : ET C (tTest te) e b := fun W F σ H s Q q => h W F σ H s _ fun v H2 x a => ⟨b, at_bool a, q H2 x⟩
theorem et_not {b : Bool} (h : ET C tt e b) : ET C (tNot tt) e (!b) := fun W F σ H s Q q => h W F σ H s _ fun H2 x => q H2 x
theorem et_and {a b : Bool} (h1 : ET C tt e a) (h2 : a = true → ET C tu e b) : ET C (tAnd tt tu) e (a && b) := fun W F σ H s Q q => h1 W F σ H s _ fun H2 x => by
  cases a with
  | true => exact iteT (h2 rfl W F σ H2 (s.same x) Q fun H3 x3 => q H3 (x.trans x3))
  | false => exact iteF (q H2 x)
theorem et_or {a b : Bool} (h1 : ET C tt e a) (h2 : a = false → ET C tu e b) : ET C (tOr tt tu) e (a || b) := fun W F σ H s Q q => h1 W F σ H s _ fun H2 x => by
  cases a with
  | true => exact iteT (q H2 x)
  | false => exact iteF (h2 rfl W F σ H2 (s.same x) Q fun H3 x3 => q H3 (x.trans x3))
theorem et_yes : ET C tYes e true := fun W F σ H s Q q => q H (Same.refl H)
theorem ed_and {a b : Bool} (h1 : ED C ta e a) (h2 : a = true → ED C tb e b) : ED C (tAndV ta tb) e (a && b) := fun W F σ H s Q q => h1 W F σ H s _ fun v H2 x t => ⟨a, at_bool t, by
  cases a with
  | true => exact iteT (h2 rfl W F σ H2 (s.same x) Q fun w H3 x3 t3 => q w H3 (x.trans x3) t3)
  | false => exact iteF (q _ H2 x (.bl false))⟩
theorem ed_or {a b : Bool} (h1 : ED C ta e a) (h2 : a = false → ED C tb e b) : ED C (tOrV ta tb) e (a || b) := fun W F σ H s Q q => h1 W F σ H s _ fun v H2 x t => ⟨a, at_bool t, by
  cases a with
  | true => exact iteT (q _ H2 x (.bl true))
  | false => exact iteF (h2 rfl W F σ H2 (s.same x) Q fun w H3 x3 t3 => q w H3 (x.trans x3) t3)⟩
theorem ed_not {a : Bool} (h : ED C ta e a) : ED C (tNotV ta) e (!a) := fun W F σ H s Q q => h W F σ H s _ fun v H2 x t => ⟨a, at_bool t, q _ H2 x (.bl _)⟩
theorem ed_if {b : Bool} {a : α} (h : ET C tt e b) (h1 : b = true → ED C ta e a) (h2 : b = false → ED C tb e a) : ED C (tIf tt ta tb) e a := fun W F σ H s Q q => h W F σ H s _ fun H2 x => by
  cases b with
  | true => exact iteT (h1 rfl W F σ H2 (s.same x) Q fun w H3 x3 t3 => q w H3 (x.trans x3) t3)
  | false => exact iteF (h2 rfl W F σ H2 (s.same x) Q fun w H3 x3 t3 => q w H3 (x.trans x3) t3)
/-- a < b < c -/
theorem ed_chain {r r' : R2} {a : α} {b : β} {c : γ} {k l : Bool} (ha : ED C ta e a) (hb : ED C tb e b) (hr : RVD C r a b k) (hc : k = true → ED C tc e c) (hr' : RVD C r' b c l) : ED C (tChain r r' ta tb tc) e (k && l) := fun W F σ H s Q q =>
  ha W F σ H s _ fun x H2 x2 a2 => hb W F σ H2 (s.same x2) _ fun y H3 x3 a3 => hr _ H3 x y ((s.same x2).same x3).hdk (same_at x3 a2) a3 _ fun z H4 x4 a4 => ⟨k, at_bool a4, by
    have x04 := (x2.trans x3).trans x4
    cases k with
    | true => exact iteT (hc rfl W F σ H4 (s.same x04) _ fun w H5 x5 a5 => hr' _ H5 y w ((s.same x04).same x5).hdk (same_at (x4.trans x5) a3) a5 Q fun v H6 x6 a6 => q v H6 ((x04.trans x5).trans x6) a6)
    | false => exact iteF (q _ H4 x04 (.bl false))⟩

/-! ### calls of built-ins by values -/
theorem ed_len_l {as : List α} {K : PySem.W.Frag} (h : EL C pb te e as) : ED C (tCB (fun xs H Q => ∃ p ys, xs = [.ref p] ∧ (SqL K H p ys ∨ SqT K H p ys) ∧ Q (.int ys.length) H) (tCons te tNil)) e (as.length : Int) := fun W F σ H s Q q =>
  h W F σ H s _ fun p xs H2 _ x hl hz t => ⟨p, xs, rfl, .inl (SqL.of hl), by
    have : xs.length = as.length := by rw [t.length, List.length_map]
    rw [this]
    exact q _ H2 x (.int _)⟩
theorem ed_len_u {as : List α} {K : PySem.W.Frag} (h : EU C K te e as) : ED C (tCB (fun xs H Q => ∃ p ys, xs = [.ref p] ∧ (SqL K H p ys ∨ SqT K H p ys) ∧ Q (.int ys.length) H) (tCons te tNil)) e (as.length : Int) := fun W F σ H s Q q =>
  h W F σ H s _ fun p xs H2 x hl hz t => ⟨p, xs, rfl, .inr hl.t, by
    have : xs.length = as.length := by rw [t.length, List.length_map]
    rw [this]
    exact q _ H2 x (.int _)⟩
theorem ed_len_s {x : Str} (h : ED C te e x) : ED C (tCB (fun xs H Q => ∃ z, xs = [.str z] ∧ z.length ≤ sizeLine ∧ Q (.int z.length) H) (tCons te tNil)) e (x.length : Int) := fun W F σ H s Q q =>
  h W F σ H s _ fun v H2 x2 t => by
    obtain ⟨rfl, hz⟩ := at_str t
    exact ⟨x, rfl, Nat.le_trans hz (by decide), q _ H2 x2 (.int _)⟩
theorem ed_min2 {i j : Int} (ha : ED C ta e i) (hb : ED C tb e j) : ED C (tCB (fun xs H Q => ∃ i j, xs = [.int i, .int j] ∧ Q (.int (if j < i then j else i)) H) (tCons ta (tCons tb tNil))) e (if j < i then j else i) := fun W F σ H s Q q =>
  ha W F σ H s _ fun x H2 x2 a2 => hb W F σ H2 (s.same x2) _ fun y H3 x3 a3 => by
    cases at_int a2
    cases at_int a3
    exact ⟨i, j, rfl, q _ H3 (x2.trans x3) (.int _)⟩
theorem ed_max2 {i j : Int} (ha : ED C ta e i) (hb : ED C tb e j) : ED C (tCB (fun xs H Q => ∃ i j, xs = [.int i, .int j] ∧ Q (.int (if j > i then j else i)) H) (tCons ta (tCons tb tNil))) e (if j > i then j else i) := fun W F σ H s Q q =>
  ha W F σ H s _ fun x H2 x2 a2 => hb W F σ H2 (s.same x2) _ fun y H3 x3 a3 => by
    cases at_int a2
    cases at_int a3
    exact ⟨i, j, rfl, q _ H3 (x2.trans x3) (.int _)⟩
theorem all_ints {h : Addr → Prop} {H : Hp} : ∀ {vs : List V} {ns : List Int}, AtAll C h H vs (ns.map Rep.toD) → vs = ns.map V.int
  | _, [], q => by
    cases q
    rfl
  | _, n :: ns, q => by
    have q' : AtAll C h H _ (Rep.toD n :: ns.map Rep.toD) := q
    cases q' with
    | cons r t => rw [at_int r, all_ints t, List.map_cons]
theorem all_bools {h : Addr → Prop} {H : Hp} : ∀ {vs : List V} {ns : List Bool}, AtAll C h H vs (ns.map Rep.toD) → vs = ns.map V.bl
  | _, [], q => by
    cases q
    rfl
  | _, n :: ns, q => by
    have q' : AtAll C h H _ (Rep.toD n :: ns.map Rep.toD) := q
    cases q' with
    | cons r t => rw [at_bool r, all_bools t, List.map_cons]
theorem all_strs {h : Addr → Prop} {H : Hp} : ∀ {vs : List V} {ns : List Str}, AtAll C h H vs (ns.map Rep.toD) → vs = ns.map V.str ∧ ∀ x ∈ ns, x.length ≤ 100000
  | _, [], q => by
    cases q
    exact ⟨rfl, fun _ z => nomatch z⟩
  | _, n :: ns, q => by
    have q' : AtAll C h H _ (Rep.toD n :: ns.map Rep.toD) := q
    cases q' with
    | cons r t =>
      obtain ⟨r1, r2⟩ := at_str r
      obtain ⟨t1, t2⟩ := all_strs t
      exact ⟨by rw [r1, t1, List.map_cons], fun x z => by
        rcases List.mem_cons.mp z with z | z
        · rw [z]; exact r2
        · exact t2 x z⟩
theorem ed_sum {ns : List Int} {K : PySem.W.Frag} (h : EL C pb te e ns) : ED C (tCB (rSum K) (tCons te tNil)) e ns.sum := fun W F σ H s Q q =>
  h W F σ H s _ fun p xs H2 _ x hl hz t => ⟨p, ns, rfl, SqL.of (by rw [hl, all_ints t]), q _ H2 x (.int _)⟩
theorem ed_any {bs : List Bool} {K : PySem.W.Frag} (h : EL C pb te e bs) : ED C (tCB (rAny K) (tCons te tNil)) e (bs.any id) := fun W F σ H s Q q =>
  h W F σ H s _ fun p xs H2 _ x hl hz t => ⟨p, bs, rfl, SqL.of (by rw [hl, all_bools t]), q _ H2 x (.bl _)⟩
theorem ed_all {bs : List Bool} {K : PySem.W.Frag} (h : EL C pb te e bs) : ED C (tCB (rAll K) (tCons te tNil)) e (bs.all id) := fun W F σ H s Q q =>
  h W F σ H s _ fun p xs H2 _ x hl hz t => ⟨p, bs, rfl, SqL.of (by rw [hl, all_bools t]), q _ H2 x (.bl _)⟩
theorem ef_list_l {as : List α} {K : PySem.W.Frag} (h : EL C pb te e as) : EF C (tCB (fun xs H Q => ∃ p ys, xs = [.ref p] ∧ (SqL K H p ys ∨ SqT K H p ys) ∧ ∀ l, H l = none → Q (.ref l) (upd H l (.lst ys))) (tCons te tNil)) e as := fun W F σ H s Q q =>
  h W F σ H s _ fun p xs H2 _ x hl hz t => ⟨p, xs, rfl, .inl (SqL.of hl), fun l hl' => q l xs _ (x.free hl') (x.trans (same_new hl')) upd_same hz (same_all (same_new hl') (t.sub fun a z => z.imp id fun w => by rw [w]; exact hl'))⟩
theorem ef_list_u {as : List α} {K : PySem.W.Frag} (h : EU C K te e as) : EF C (tCB (fun xs H Q => ∃ p ys, xs = [.ref p] ∧ (SqL K H p ys ∨ SqT K H p ys) ∧ ∀ l, H l = none → Q (.ref l) (upd H l (.lst ys))) (tCons te tNil)) e as := fun W F σ H s Q q =>
  h W F σ H s _ fun p xs H2 x hl hz t => ⟨p, xs, rfl, .inr hl.t, fun l hl' => q l xs _ (x.free hl') (x.trans (same_new hl')) upd_same hz (same_all (same_new hl') (t.sub fun a z => z.imp id fun w => by rw [w]; exact hl'))⟩
end
end PD
end
section
set_option Elab.async false
set_option linter.all false
set_option maxRecDepth 100000
set_option maxHeartbeats 4000000
set_option autoImplicit false
namespace PD
open PySem L2
open PySem.W (Datum Tup)
variable [Tabl]

/-! ### a comprehension's block: its own slots forgotten -/
def wipeE (e : List Sl) : List Nat → List Sl
  | [] => e
  | v :: vs => (wipeE e vs).set v .emp
theorem wipeE_length (e : List Sl) : ∀ vs : List Nat, (wipeE e vs).length = e.length
  | [] => rfl
  | v :: vs => by unfold wipeE; rw [List.length_set, wipeE_length e vs]
def isVal : Option Sl → Bool
  | some (.own _) => false
  | _ => true
/-- none of these slots is a thing of its own -/
def noOwn (e : List Sl) (vs : List Nat) : Bool := vs.all fun i => isVal e[i]?
theorem wipe_in {σ : L2.St} {i : Nat} : ∀ {vs : List Nat}, i ∈ vs → i < σ.length → (wipe σ vs)[i]? = some none
  | v :: vs, hi, hl => by
    unfold wipe
    by_cases hv : v = i
    · subst hv
      exact List.getElem?_set_self (by rw [wipe_length]; exact hl)
    · rw [List.getElem?_set_ne hv]
      exact wipe_in ((List.mem_cons.mp hi).resolve_left fun z => hv z.symm) hl
theorem wipe_ni {σ : L2.St} {i : Nat} : ∀ {vs : List Nat}, i ∉ vs → (wipe σ vs)[i]? = σ[i]?
  | [], _ => rfl
  | v :: vs, hi => by
    unfold wipe
    rw [List.getElem?_set_ne (fun z => hi (by simp [z]))]
    exact wipe_ni fun z => hi (List.mem_cons_of_mem _ z)
theorem wipeE_in {e : List Sl} {i : Nat} : ∀ {vs : List Nat}, i ∈ vs → i < e.length → (wipeE e vs)[i]? = some .emp
  | v :: vs, hi, hl => by
    unfold wipeE
    by_cases hv : v = i
    · subst hv
      exact List.getElem?_set_self (by rw [wipeE_length]; exact hl)
    · rw [List.getElem?_set_ne hv]
      exact wipeE_in ((List.mem_cons.mp hi).resolve_left fun z => hv z.symm) hl
theorem wipeE_ni {e : List Sl} {i : Nat} : ∀ {vs : List Nat}, i ∉ vs → (wipeE e vs)[i]? = e[i]?
  | [], _ => rfl
  | v :: vs, hi => by
    unfold wipeE
    rw [List.getElem?_set_ne (fun z => hi (by simp [z]))]
    exact wipeE_ni fun z => hi (List.mem_cons_of_mem _ z)
theorem wipeE_some {e : List Sl} {i : Nat} {vs : List Nat} {x : Sl} (hx : x ≠ .emp) (h : (wipeE e vs)[i]? = some x) : i ∉ vs ∧ e[i]? = some x := by
  by_cases hi : i ∈ vs
  · have hl : i < e.length := by
      have := (List.getElem?_eq_some_iff.mp h).1
      rwa [wipeE_length] at this
    rw [wipeE_in hi hl] at h
    cases h
    exact absurd rfl hx
  · rw [wipeE_ni hi] at h
    exact ⟨hi, h⟩
theorem noOwn_at {e : List Sl} {vs : List Nat} (h : noOwn e vs = true) {i : Nat} (hi : i ∈ vs) : isVal e[i]? = true := List.all_eq_true.mp h i hi
theorem set_none_again {σ : L2.St} {j : Nat} {x : Option V} {vs : List Nat} (hj : j ∈ vs) : wipe ((wipe σ vs).set j x) vs = wipe σ vs := by
  apply List.ext_getElem?
  intro i
  by_cases hl : i < σ.length
  · by_cases hi : i ∈ vs
    · rw [wipe_in hi (by rw [List.length_set, wipe_length]; exact hl), wipe_in hi hl]
    · rw [wipe_ni hi, wipe_ni hi, List.getElem?_set_ne (fun z => hi (by rw [← z]; exact hj)), wipe_ni hi]
  · rw [List.getElem?_eq_none (by rw [wipe_length, List.length_set, wipe_length]; omega), List.getElem?_eq_none (by rw [wipe_length]; omega)]
theorem set_none_again2 {σ : L2.St} {j k : Nat} {x y : Option V} {vs : List Nat} (hj : j ∈ vs) (hk : k ∈ vs) : wipe (((wipe σ vs).set j x).set k y) vs = wipe σ vs := by
  apply List.ext_getElem?
  intro i
  by_cases hl : i < σ.length
  · by_cases hi : i ∈ vs
    · rw [wipe_in hi (by rw [List.length_set, List.length_set, wipe_length]; exact hl), wipe_in hi hl]
    · rw [wipe_ni hi, wipe_ni hi, List.getElem?_set_ne (fun z => hi (by rw [← z]; exact hk)), List.getElem?_set_ne (fun z => hi (by rw [← z]; exact hj)), wipe_ni hi]
  · rw [List.getElem?_eq_none (by rw [wipe_length, List.length_set, List.length_set, wipe_length]; omega), List.getElem?_eq_none (by rw [wipe_length]; omega)]

/-- these slots hold these data -/
def setE (e : List Sl) (bs : List (Nat × PyData)) : List Sl := bs.foldl (fun e b => e.set b.1 (.dat b.2)) e
def setS (σ : L2.St) : List Nat → List V → L2.St
  | i :: is, v :: vs => setS (σ.set i (some v)) is vs
  | _, _ => σ
theorem wipe_set {σ : L2.St} {x : Option V} {vs : List Nat} {j : Nat} (hj : j ∈ vs) : L2.wipe (σ.set j x) vs = L2.wipe σ vs := by
  apply List.ext_getElem?
  intro i
  by_cases hl : i < σ.length
  · by_cases hi : i ∈ vs
    · rw [wipe_in hi (by rw [List.length_set]; exact hl), wipe_in hi hl]
    · rw [wipe_ni hi, wipe_ni hi, List.getElem?_set_ne (fun z => hi (by rw [← z]; exact hj))]
  · rw [List.getElem?_eq_none (by rw [wipe_length, List.length_set]; omega), List.getElem?_eq_none (by rw [wipe_length]; omega)]
theorem wipe_setS {vs : List Nat} : ∀ {is : List Nat} {us : List V} {σ : L2.St}, (∀ i ∈ is, i ∈ vs) → L2.wipe (setS σ is us) vs = L2.wipe σ vs
  | [], _, _, _ => by unfold setS; rfl
  | _ :: _, [], _, _ => by unfold setS; rfl
  | i :: is, u :: us, σ, h => by
    unfold setS
    rw [wipe_setS fun j hj => h j (List.mem_cons_of_mem _ hj), wipe_set (h i (List.mem_cons_self ..))]
theorem wipe_wipe {σ : L2.St} {vs : List Nat} : L2.wipe (L2.wipe σ vs) vs = L2.wipe σ vs := by
  apply List.ext_getElem?
  intro i
  by_cases hl : i < σ.length
  · by_cases hi : i ∈ vs
    · rw [wipe_in hi (by rw [wipe_length]; exact hl), wipe_in hi hl]
    · rw [wipe_ni hi]
  · rw [List.getElem?_eq_none (by rw [wipe_length, wipe_length]; omega), List.getElem?_eq_none (by rw [wipe_length]; omega)]

section
variable {C : Addr} {W : Wd} {F : Nat → Addr → Prop} {H H1 H2 : Hp} {σ : L2.St} {e : List Sl} {vs : List Nat}
theorem SA.wipe (s : SA C W F H σ e) (hv : noOwn e vs = true) (h0 : 0 ∉ vs) : SA C W F H (L2.wipe σ vs) (wipeE e vs) := by
  refine ⟨by rw [wipe_length, wipeE_length]; exact s.len, s.xt, s.tabs, s.mh, s.om, s.ro, s.known, s.foot, s.apart, s.lent, fun v q => by rw [wipe_ni h0]; exact s.r0 v q, fun i d q => ?_, fun i T q => ?_⟩
  · obtain ⟨hi, q'⟩ := wipeE_some (by intro z; cases z) q
    rw [wipe_ni hi]
    exact s.dat i d q'
  · obtain ⟨hi, q'⟩ := wipeE_some (by intro z; cases z) q
    rw [wipe_ni hi]
    exact s.own i T q'
/-- a name that held nothing of its own gets a value -/
theorem SA.setV (s : SA C W F H σ e) {i : Nat} (hi : i ≠ 0) (hn : isVal e[i]? = true) {v : V} {d : PyData} (hv : At C (Hd W F) H v d) : SA C W F H (σ.set i (some v)) (e.set i (.dat d)) where
  len := by simp [s.len]
  xt := s.xt
  tabs := s.tabs
  mh := s.mh
  om := s.om
  ro := s.ro
  known := s.known
  foot := s.foot
  apart := s.apart
  lent := s.lent
  r0 := fun v q => by rw [List.getElem?_set_ne hi]; exact s.r0 v q
  dat := fun j d' q => by
    by_cases hj : i = j
    · subst hj
      have hl : i < e.length := by
        have := (List.getElem?_eq_some_iff.mp q).1
        simpa using this
      rw [List.getElem?_set_self hl] at q
      cases q
      exact ⟨v, List.getElem?_set_self (by rw [s.len]; exact hl), hv⟩
    · rw [List.getElem?_set_ne hj] at q ⊢
      exact s.dat j d' q
  own := fun j T q => by
    by_cases hj : i = j
    · subst hj
      rw [List.getElem?_set] at q
      simp at q
    · rw [List.getElem?_set_ne hj] at q ⊢
      exact s.own j T q
theorem isVal_set {e : List Sl} {i j : Nat} {d : PyData} (h : isVal e[j]? = true) : isVal (e.set i (.dat d))[j]? = true := by
  by_cases hj : i = j
  · subst hj
    rw [List.getElem?_set]
    simp
    split <;> rfl
  · rw [List.getElem?_set_ne hj]
    exact h
theorem SA.setAll : ∀ {bs : List (Nat × PyData)} {us : List V} {σ : L2.St} {e : List Sl}, SA C W F H σ e → (∀ b ∈ bs, b.1 ≠ 0) → (∀ b ∈ bs, isVal e[b.1]? = true) → AtAll C (Hd W F) H us (bs.map (·.2)) → SA C W F H (setS σ (bs.map (·.1)) us) (setE e bs)
  | [], _, _, _, s, _, _, q => by
    cases q
    exact s
  | b :: bs, _, σ, e, s, h0, hn, q => by
    have q' : AtAll C (Hd W F) H _ (b.2 :: bs.map (·.2)) := q
    cases q' with
    | cons r t => exact SAll_step s h0 hn r t
where SAll_step {b : Nat × PyData} {bs : List (Nat × PyData)} {v : V} {us : List V} {σ : L2.St} {e : List Sl} (s : SA C W F H σ e) (h0 : ∀ x ∈ b :: bs, x.1 ≠ 0) (hn : ∀ x ∈ b :: bs, isVal e[x.1]? = true) (r : At C (Hd W F) H v b.2) (t : AtAll C (Hd W F) H us (bs.map (·.2))) :
    SA C W F H (setS σ ((b :: bs).map fun x : Nat × PyData => x.1) (v :: us)) (setE e (b :: bs)) :=
  SA.setAll (bs := bs) (us := us) (s.setV (h0 b (List.mem_cons_self ..)) (hn b (List.mem_cons_self ..)) r) (fun x hx => h0 x (List.mem_cons_of_mem _ hx)) (fun x hx => isVal_set (hn x (List.mem_cons_of_mem _ hx))) t
theorem isVal_wipe {vs : List Nat} (h : noOwn e vs = true) {i : Nat} (hi : i ∈ vs) : isVal (wipeE e vs)[i]? = true := by
  by_cases hl : i < e.length
  · rw [wipeE_in hi hl]; rfl
  · rw [List.getElem?_eq_none (by rw [wipeE_length]; omega)]; rfl

/-- one more address hidden: new ahead of H -/
def Wd.hide (W : Wd) (F : Nat → Addr → Prop) (H : Hp) (D : Addr) : Wd := ⟨H, fun a => Hd W F a ∨ a = D, fun a => ∃ i, F i a, fun a => ∃ i, F i a, fun _ => False, W.r0⟩
theorem hd_hide {D : Addr} : ∀ a, Hd (W.hide F H D) F a ↔ Hd W F a ∨ a = D := fun a => ⟨fun q => by
  rcases q with q | q
  · exact q
  · exact .inl (.inr q), fun q => .inl q⟩
theorem hd_hide_eq {D : Addr} : Hd (W.hide F H D) F = fun a => Hd W F a ∨ a = D := funext fun a => propext (hd_hide a)
theorem SA.hide (s : SA C W F H1 σ e) {D : Addr} (hD : H1 D = none) (x : Same H1 H) (hd : H D ≠ none) : SA C (W.hide F H D) F H σ e := by
  have s2 := s.same x
  have sx : ∀ a, Hd (W.hide F H D) F a → Hd W F a ∨ H1 a = Option.none := fun a z => ((hd_hide a).mp z).imp id fun w => by rw [w]; exact hD
  refine ⟨s.len, .refl H, s2.tabs, fun a q => .inl (.inr q), fun a q => q, fun a q => q.elim, fun a q => ?_, fun i a q => ⟨(s2.foot i a q).1, .inr ⟨i, q⟩⟩, s.apart, fun _ _ _ z => z.elim, s.r0, fun i d q => ?_, fun i T q => ?_⟩
  · rcases q with q | q
    · exact s2.hdk a q
    · rw [q]
      exact hd
  · obtain ⟨v, h1, h2⟩ := s.dat i d q
    exact ⟨v, h1, same_at x (h2.sub sx)⟩
  · obtain ⟨v, h1, h2⟩ := s.own i T q
    exact ⟨v, h1, T.move (m := fun _ => False) (T.sub h2 sx) (.of x) (fun _ z => z.elim) fun _ _ z => z⟩
end

/-! ### what is walked -/
/-- a target takes such data -/
def Gives (C : Addr) (h : Addr → Prop) (g : TG) (x : V) (H : Hp) (bs : List (Nat × PyData)) : Prop :=
  ∀ (σ : L2.St) (k : L2.St → Hp → Prop), (∀ H3 us, Same H H3 → AtAll C h H3 us (bs.map (·.2)) → k (setS σ (bs.map (·.1)) us) H3) → g x σ H k
/-- what may change while it is walked: false: all that is hidden; true: nothing -/
def Kp (pb : Bool) (h : Addr → Prop) : Addr → Prop := fun a => pb = false ∧ h a
/-- the walk gives these data, one behind the other -/
def ESrc (C : Addr) (pb : Bool) (wi : TI) (g : TG) (e : List Sl) (as : List (List (Nat × PyData))) : Prop :=
  ∀ (W : Wd) (F : Nat → Addr → Prop) (σ : L2.St) (H : Hp), SA C W F H σ e → ∀ R : It → Hp → Prop, (∀ J H1 Y G, Same H H1 → Walk J as.length G Y → as.length ≤ 4096 → (∀ H', Xt (Kp pb (Hd W F)) H1 H' → G H') →
    (∀ (i : Nat) bs, as[i]? = some bs → ∀ (h2 : Addr → Prop) H' x H'', (∀ a, h2 a → Hd W F a ∨ H1 a = Option.none) → Xt (Kp pb (Hd W F)) H1 H' → Y i H' x H'' → Same H' H'' ∧ Gives C h2 g x H'' bs) → R J H1) → wi σ H R

section
variable {C : Addr} {K : PySem.W.Frag} {e : List Sl} {tl te : TE} {tt : TT} {vs : List Nat} {j k : Nat} {α β γ : Type} [Rep α] [Rep β] [Rep γ]
theorem gives_name {h : Addr → Prop} {H : Hp} {x : V} {d : PyData} (q : At C h H x d) : Gives C h (gName j) x H [(j, d)] := fun σ k r => r H [x] (Same.refl H) (.cons q .nil)
theorem get_data {C : Addr} {h : Addr → Prop} {H : Hp} {ys : List V} {xs : List α} (t : AtAll C h H ys (xs.map Rep.toD)) {i : Nat} {y : V} (hy : ys[i]? = some y) : ∃ x, xs[i]? = some x ∧ x ∈ xs ∧ At C h H y (Rep.toD x) := by
  obtain ⟨d, h1, h2⟩ := t.get hy
  rw [List.getElem?_map] at h1
  cases hx : xs[i]? with
  | none =>
    rw [hx] at h1
    cases h1
  | some x =>
    rw [hx] at h1
    have h1' : Rep.toD x = d := Option.some.inj h1
    exact ⟨x, rfl, List.mem_of_getElem? hx, by rw [h1']; exact h2⟩
theorem get_item {C : Addr} {h : Addr → Prop} {H : Hp} {ys : List V} {xs : List α} {f : α → List (Nat × PyData)} (t : AtAll C h H ys (xs.map Rep.toD)) {i : Nat} {bs : List (Nat × PyData)} (hb : (xs.map f)[i]? = some bs) {y : V} (hy : ys[i]? = some y) : ∃ x, bs = f x ∧ At C h H y (Rep.toD x) := by
  obtain ⟨x, h1, _, h2⟩ := get_data t hy
  rw [List.getElem?_map, h1] at hb
  exact ⟨x, (Option.some.inj hb).symm, h2⟩
theorem kp_step {C : Addr} {pb : Bool} {h h2 : Addr → Prop} {H H' : Hp} {v : V} {d : PyData} (q : At C h H v d) (x : Xt (Kp pb h) H H') (k : ∀ a, h2 a → h a ∨ H a = Option.none) : At C h2 H' v d := q.step (x.mono fun _ z => z.2) k
/-- a list's items -/
theorem src_list {pb : Bool} {xs : List α} (hs : EL C pb tl e xs) : ESrc C pb (iList K tl) (gName j) e (xs.map fun x => [(j, Rep.toD x)]) := fun W F σ H s R q => hs W F σ H s _ fun p ys H1 hn x1 hl hz t => by
  have hlen : ys.length = (xs.map fun x => [(j, Rep.toD x)]).length := by rw [t.length, List.length_map, List.length_map]
  exact ⟨p, rfl, ⟨ys, SqL.of hl⟩, q _ H1 _ _ x1 (hlen ▸ walk_list) (hlen ▸ hz) (fun H' x => SqL.of (x.keep _ _ (fun z => hn z.1 z.2) hl)) fun i bs hb h2 H' x H'' k2 xx y => by
    obtain ⟨rfl, hy⟩ := y
    obtain ⟨x', rfl, a'⟩ := get_item t hb hy
    exact ⟨Same.refl _, gives_name (kp_step a' xx k2)⟩⟩
/-- a tuple's items -/
theorem src_tup {pb : Bool} {xs : List α} (hs : EU C K tl e xs) : ESrc C pb (iTup K tl) (gName j) e (xs.map fun x => [(j, Rep.toD x)]) := fun W F σ H s R q => hs W F σ H s _ fun p ys H1 x1 hl hz t => by
  have hlen : ys.length = (xs.map fun x => [(j, Rep.toD x)]).length := by rw [t.length, List.length_map, List.length_map]
  exact ⟨p, rfl, ⟨ys, hl.t⟩, q _ H1 _ _ x1 (hlen ▸ walk_tup) (hlen ▸ hz) (fun H' x => (hl.xt x).t) fun i bs hb h2 H' x H'' k2 xx y => by
    obtain ⟨rfl, hy⟩ := y
    obtain ⟨x', rfl, a'⟩ := get_item t hb hy
    exact ⟨Same.refl _, gives_name (kp_step a' xx k2)⟩⟩

/-! ### comprehensions -/
/-- between two turns: D holds what is made so far -/
def Lw (C : Addr) (h : Addr → Prop) (H1 : Hp) (D : Addr) (out : List PyData) (i : Nat) (H : Hp) : Prop :=
  Same H1 H ∧ ∃ acc : List V, H D = some (.lst acc) ∧ acc.length ≤ i ∧ AtAll C h H acc out
theorem xt_upd {m : Addr → Prop} {H : Hp} {D : Addr} {o u : HO} (hm : m D) (h : H D = some u) (hf : ∀ o' u', u ≠ .frz o' u') : Xt m H (upd H D o) := by
  refine ⟨fun a o n q _ => ?_, fun a o' u' q => ?_, fun a q => ?_⟩
  · rw [upd_ne (fun z => n (by rw [z]; exact hm))]
    exact q
  · rw [upd_ne (fun z => by rw [z, h] at q; exact hf _ _ (Option.some.inj q))]
    exact q
  · by_cases z : a = D
    · rw [z, upd_same] at q
      cases q
    · rw [upd_ne z] at q
      exact q
theorem lw_turn {W : Wd} {F : Nat → Addr → Prop} {σ2 : L2.St} {e2 : List Sl} {H0 H1 H : Hp} {D : Addr} {out : List PyData} {i : Nat} {b : Bool} {d : PyData} (hD : H1 D = none) (hi : i < 4096)
    (p : Lw C (fun a => Hd W F a ∨ a = D) H1 D out i H) (s2 : SA C (W.hide F H0 D) F H σ2 e2) (ht : ET C tt e2 b) (he : b = true → ∀ Q : VK, ∀ H, SA C (W.hide F H0 D) F H σ2 e2 → (∀ v H2, Same H H2 → At C (Hd (W.hide F H0 D) F) H2 v d → Q v H2) → te σ2 H Q) :
    tt σ2 H fun b' H3 => if b' = true then te σ2 H3 fun y H4 => ∃ acc, H4 D = some (.lst acc) ∧ acc.length < sizeLine ∧ Lw C (fun a => Hd W F a ∨ a = D) H1 D (if b then out ++ [d] else out) (i + 1) (upd H4 D (.lst (acc ++ [y]))) else Lw C (fun a => Hd W F a ∨ a = D) H1 D (if b then out ++ [d] else out) (i + 1) H3 := by
  obtain ⟨p1, acc, p2, p3, p4⟩ := p
  refine ht _ _ σ2 H s2 _ fun H3 x3 => ?_
  cases b with
  | false => exact iteF ⟨p1.trans x3, acc, x3.at _ _ p2, Nat.le_succ_of_le p3, same_all x3 p4⟩
  | true =>
    have x13 := p1.trans x3
    refine iteT (he rfl _ H3 (s2.same x3) fun v H4 x4 a4 => ?_)
    have x14 := x13.trans x4
    have hd4 : H4 D = some (.lst acc) := x4.at _ _ (x3.at _ _ p2)
    have xu : Xt (fun a => Hd W F a ∨ a = D) H4 (upd H4 D (.lst (acc ++ [v]))) := xt_upd (.inr rfl) hd4 fun _ _ z => nomatch z
    refine ⟨acc, hd4, Nat.lt_of_le_of_lt p3 (Nat.lt_trans hi (by decide)), same_upd x14 hD hd4, acc ++ [v], upd_same, ?_, ?_⟩
    · rw [List.length_append, List.length_singleton]
      omega
    · refine AtAll.mono xu (fun _ z => z) (AtAll.app (same_all (x3.trans x4) p4) (.one ?_))
      rw [← hd_hide_eq (H := H0)]
      exact a4
theorem out_next {α : Type} {xs : List α} {b : α → Bool} {f : α → β} {i : Nat} {x : α} (hx : xs[i]? = some x) :
    (((xs.take (i + 1)).filter b).map f).map Rep.toD = if b x then (((xs.take i).filter b).map f).map Rep.toD ++ [Rep.toD (f x)] else (((xs.take i).filter b).map f).map Rep.toD := by
  rw [List.take_add_one, hx]
  cases h : b x <;> simp [List.filter_append, h]
/-- [te for .. in .. if tt] -/
theorem ef_lc {wi : TI} {g : TG} {γ : Type} {xs : List γ} {enc : γ → List (Nat × PyData)} (b : γ → Bool) (f : γ → β) (hs : ESrc C true wi g e (xs.map enc)) (ht : ∀ x ∈ xs, ET C tt (setE (wipeE e vs) (enc x)) (b x)) (he : ∀ x ∈ xs, b x = true → ED C te (setE (wipeE e vs) (enc x)) (f x))
    (hv : noOwn e vs = true) (h0 : 0 ∉ vs) (hj : ∀ x, ∀ p ∈ enc x, p.1 ∈ vs) : EF C (tLc wi g tt te vs) e ((xs.filter b).map f) := fun W F σ H s Q q =>
  hs W F σ H s _ fun J H1 Y G x1 w hlen hG hY D hD => by
    have s1 := s.same x1
    have hD0 : H D = none := x1.free hD
    have wl : (xs.map enc).length = xs.length := List.length_map ..
    rw [wl] at w hlen
    refine lc_it w (fun i H => Lw C (fun a => Hd W F a ∨ a = D) H1 D ((((xs.take i).filter b).map f).map Rep.toD) i H) ⟨same_new hD, [], upd_same, Nat.zero_le _, .nil⟩ (fun i H' _ p => hG H' ((Xt.of p.1 : Xt (fun _ => False) H1 H').mono fun _ z => z.elim)) (fun i x H' H'' hi p y => ?_) (fun H' p => ?_)
    · obtain ⟨x', hx⟩ : ∃ x', xs[i]? = some x' := ⟨xs[i], List.getElem?_eq_getElem hi⟩
      have hm : x' ∈ xs := List.mem_of_getElem? hx
      obtain ⟨xx, gv⟩ := hY i (enc x') (by rw [List.getElem?_map, hx] <;> rfl) (fun a => Hd W F a ∨ a = D) H' x H'' (fun a z => z.imp id fun w => by rw [w]; exact hD) ((Xt.of p.1 : Xt (fun _ => False) H1 H').mono fun _ z => z.elim) y
      refine gv _ _ fun H3 us x3 t3 => ⟨?_, ?_⟩
      · refine (wipe_setS fun i hi => ?_).trans wipe_wipe
        obtain ⟨p, hp, rfl⟩ := List.mem_map.mp hi
        exact hj x' p hp
      · have p3 : Lw C (fun a => Hd W F a ∨ a = D) H1 D ((((xs.take i).filter b).map f).map Rep.toD) i H3 := by
          obtain ⟨p1, acc, p2, p4, p5⟩ := p
          exact ⟨(p1.trans xx).trans x3, acc, x3.at _ _ (xx.at _ _ p2), p4, same_all (xx.trans x3) p5⟩
        have hd3 : H3 D ≠ none := by
          obtain ⟨_, acc, p2, _⟩ := p3
          rw [p2]
          exact fun z => nomatch z
        have s3 : SA C (W.hide F H3 D) F H3 (setS (L2.wipe σ vs) ((enc x').map (·.1)) us) (setE (wipeE e vs) (enc x')) := by
          refine SA.setAll ((s1.wipe hv h0).hide hD p3.1 hd3) (fun p hp z => h0 (by rw [← z]; exact hj x' p hp)) (fun p hp => isVal_wipe hv (hj x' p hp)) ?_
          rw [hd_hide_eq]
          exact t3
        have key := lw_turn (b := b x') (d := Rep.toD (f x')) hD (by omega) p3 s3 (ht x' hm) (fun hb Q H s q => he x' hm hb _ _ _ H s Q q)
        rw [← out_next hx] at key
        exact key
    · obtain ⟨p1, acc, p2, p3, p4⟩ := p
      refine q D acc H' hD0 (x1.trans p1) p2 (by omega) ?_
      rw [List.take_length] at p4
      exact p4
end
end PD
end
section
set_option Elab.async false
set_option linter.all false
set_option maxRecDepth 100000
set_option maxHeartbeats 4000000
set_option autoImplicit false
namespace PD
open PySem L2
open PySem.W (Datum Tup)
variable [Tabl]

mutual
theorem dp_same {K : PySem.W.Frag} {H H2 : Hp} (x : Same H H2) : ∀ {v : V} {d : PyData}, Dp K H v d → Dp K H2 v d
  | _, _, .non => .non
  | _, _, .bl b => .bl b
  | _, _, .int i => .int i
  | _, _, .str z => .str z
  | _, _, .lst q t => .lst (x.seq q) (dps_same x t)
  | _, _, .tup q t => .tup (same_tup x q) (dps_same x t)
theorem dps_same {K : PySem.W.Frag} {H H2 : Hp} (x : Same H H2) : ∀ {vs : List V} {ds : List PyData}, DpAll K H vs ds → DpAll K H2 vs ds
  | _, _, .nil => .nil
  | _, _, .cons r t => .cons (dp_same x r) (dps_same x t)
end

/-! ### rules by values: == != in, not in of plain data; tuples whose objects are known -/
def rEqP (K : PySem.W.Frag) (neg : Bool) : R2 := fun x y H Q => ∃ d e, Dp K H x d ∧ Dp K H y e ∧ d.plain = true ∧ e.plain = true ∧ d.depth ≤ 50 ∧ Q (.bl (if neg then !PyData.eqv d e else PyData.eqv d e)) H
def rInP (K : PySem.W.Frag) (neg : Bool) : R2 := fun x y H Q => ∃ (p : Addr) (xs : List V) (d : PyData) (ds : List PyData), y = V.ref p ∧ (SqL K H p xs ∨ SqT K H p xs) ∧ Dp K H x d ∧ DpAll K H xs ds ∧ d.plain = true ∧ PyData.plainAll ds = true ∧ d.depth ≤ 50 ∧
  Q (.bl (if neg then !ds.any fun z => PyData.eqv z d else ds.any fun z => PyData.eqv z d)) H
section
variable {X : Cx}
theorem op_eqP (hu : X.A.units + 64 < cLine) : OpR X (compareOp .Eq) (rEqP X.K false) := by
  intro pins s σ H x y v u Q I rx ry h
  obtain ⟨d, e, hd, he, pd, pe, hk, q⟩ := h
  obtain ⟨as, r1⟩ := Dp.reads I d x v hd rx
  obtain ⟨bs, r2⟩ := Dp.reads I e y u he ry
  exact SeqAt.eq_plain r1 r2 pd pe (by have := Nat.min_le_left d.depth e.depth; omega) ⟨.bl _, H, I, rfl, q⟩
theorem op_neP (hu : X.A.units + 64 < cLine) : OpR X (compareOp .NotEq) (rEqP X.K true) := by
  intro pins s σ H x y v u Q I rx ry h
  obtain ⟨d, e, hd, he, pd, pe, hk, q⟩ := h
  obtain ⟨as, r1⟩ := Dp.reads I d x v hd rx
  obtain ⟨bs, r2⟩ := Dp.reads I e y u he ry
  exact SeqAt.ne_plain r1 r2 pd pe (by have := Nat.min_le_left d.depth e.depth; omega) ⟨.bl _, H, I, rfl, q⟩
theorem op_inP (hu : X.A.units + 64 < cLine) : OpR X (compareOp .In) (rInP X.K false) := by
  intro pins s σ H x y v u Q I rx ry h
  obtain ⟨p, xs, d, ds, rfl, hp, hd, hds, pd, pds, hk, q⟩ := h
  obtain ⟨as, r1⟩ := Dp.reads I d x v hd rx
  rcases hp with hp | hp
  · obtain ⟨bs, r2⟩ := Dp.reads I (.list ds) _ u (.lst hp hds) ry
    exact SeqAt.in_list_data r2 r1 pds pd (by have := Nat.min_le_right (PyData.depthAll ds) d.depth; omega) ⟨.bl _, H, I, rfl, q⟩
  · obtain ⟨bs, r2⟩ := Dp.reads I (.tuple ds) _ u (.tup hp hds) ry
    exact SeqAt.in_tuple_data r2 r1 pds pd (by have := Nat.min_le_right (PyData.depthAll ds) d.depth; omega) ⟨.bl _, H, I, rfl, q⟩
theorem op_niP (hu : X.A.units + 64 < cLine) : OpR X (compareOp .NotIn) (rInP X.K true) := by
  intro pins s σ H x y v u Q I rx ry h
  obtain ⟨p, xs, d, ds, rfl, hp, hd, hds, pd, pds, hk, q⟩ := h
  obtain ⟨as, r1⟩ := Dp.reads I d x v hd rx
  rcases hp with hp | hp
  · obtain ⟨bs, r2⟩ := Dp.reads I (.list ds) _ u (.lst hp hds) ry
    exact SeqAt.notIn_list_data r2 r1 pds pd (by have := Nat.min_le_right (PyData.depthAll ds) d.depth; omega) ⟨.bl _, H, I, rfl, q⟩
  · obtain ⟨bs, r2⟩ := Dp.reads I (.tuple ds) _ u (.tup hp hds) ry
    exact SeqAt.notIn_tuple_data r2 r1 pds pd (by have := Nat.min_le_right (PyData.depthAll ds) d.depth; omega) ⟨.bl _, H, I, rfl, q⟩
/-- (a, b, ..): its object is known -/
def tTupF (t : TA) : TE := fun σ H Q => t σ H fun xs H1 => xs.length ≤ sizeLine ∧ ∀ p o, Pl o → H1 p = none → Q (V.ref p) (upd H1 p (.frz o (.tup xs)))
theorem pe_tupF {es : List Expr} {t : TA} {x1 : Nat} {pos : Pos} (h : PA X es t) : PE X (.Tuple es x1 pos) (tTupF t) := by
  refine ⟨fun pins s σ H Q I hq => ?_⟩
  refine wpAny_Tuple_spliced (thn (h.run pos pins s σ H _ I hq) fun us s1 ⟨xs, H1, I1, r, z, q⟩ => ⟨by rw [← r.length]; exact z, ?_⟩)
  have hf : H1 s1.heap.objs.size = none := I1.hok.fresh (Nat.le_refl _)
  have I2 := I1.laid (t' := s1.toks) (o := .frz { cls := .type "tuple", data := .seq us.toArray } (.tup xs)) (h' := s1.heap.push { cls := .type "tuple", data := .seq us.toArray }) (fun b u e => Heap.get?_push_of_some _ e) (Nat.le_refl _)
    ⟨Heap.get?_push_size _ rfl, z, us, r, ⟨_, Heap.get?_push_size _ rfl, rfl, _, rfl⟩⟩
  exact ⟨V.ref s1.heap.objs.size, _, I2, rfl, q _ _ ⟨rfl, rfl⟩ hf⟩
/-- tuple(list) -/
theorem cr_tupF : CallR X (.type "tuple") (fun xs H Q => ∃ p ys, xs = [V.ref p] ∧ ((SqL X.K H p ys ∧ ∀ l o, Pl o → H l = none → Q (V.ref l) (upd H l (.frz o (.tup ys)))) ∨ (SqT X.K H p ys ∧ Q (V.ref p) H))) := by
  intro pins s σ H xs us Q I r h
  obtain ⟨p, ys, rfl, h⟩ := h
  obtain ⟨u, rfl, rx⟩ := vals1 r
  cases rx
  rcases h with ⟨hq, q⟩ | ⟨hq, q⟩
  · obtain ⟨its, r', pl, hz⟩ := I.list hq
    have hlen := r'.length
    refine call_tuple_list pl.isList (fun h' kp => ?_) (by simp only [List.size_toArray] <;> omega)
    have I1 : Inv X pins σ H { s with heap := h' } := I.kept (t' := s.toks) kp
    have I2 := I1.laid (t' := s.toks) (o := .frz { cls := .type "tuple", data := .seq its.toArray } (.tup ys)) (h' := h'.push { cls := .type "tuple", data := .seq its.toArray }) (fun b o e => Heap.get?_push_of_some _ e) (Nat.le_refl _)
      ⟨Heap.get?_push_size _ rfl, hz, its, r', ⟨_, Heap.get?_push_size _ rfl, rfl, _, rfl⟩⟩
    exact ⟨V.ref h'.objs.size, _, I2, rfl, q _ _ ⟨rfl, rfl⟩ (I1.hok.fresh (Nat.le_refl _))⟩
  · obtain ⟨its, r', pl, hz⟩ := I.tuple hq
    exact call_tuple_same pl ⟨V.ref p, H, I, rfl, q⟩
/-- t.m(..), t a tuple whose object is known -/
def tTM (r : V → List V → Hp → VK → Prop) (to : TE) (t : TA) : TE := fun σ H Q => to σ H fun x H1 => (∃ p ys, x = V.ref p ∧ TupA H1 p ys) ∧ t σ H1 fun xs H2 => r x xs H2 Q
theorem pe_tm {o e : Expr} {es : List Expr} {to : TE} {t : TA} {name : Str} {apos cpos : Pos} {id : String} {r : V → List V → Hp → VK → Prop} (slot : Slot "tuple" name id) (hty : typeOf (.builtin id) = pure (.type "method_descriptor")) (hm : MtR X id r) (ho : PE X o to) (ha : PA X (e :: es) t)
    (hb : attributeBase o name X.env (eval o X.env) = eval o X.env := by rfl)
    (hf : ((backTo cpos (starEach (e :: es) X.env)).all (fun x => !x.1) && (backToKw cpos (keywordEach [] X.env)).all (fun x => x.1.isSome) && decide ((e :: es).length + ([] : List Keyword).length + (if ([] : List Keyword).isEmpty then 0 else 1) < 30)) = true := by rfl)
    (hl : (apos.endLine == cpos.line) = true := by rfl) (hs : starEach (e :: es) X.env = (false, eval e X.env) :: starEach es X.env := by rfl) (hp : (backTo cpos (starEach es X.env)).any (·.1) = false := by rfl) :
    PE X (.Call (.Attribute o name apos) (e :: es) [] cpos) (tTM r to t) := by
  refine ⟨fun pins s σ H Q I h => wpAny_Call_method_late hb hf hl rfl (thn (ho.run pins s σ H _ I h) fun v s1 ⟨x, H1, I1, r1, ⟨p, ys, ex, o, eo, od⟩, q1⟩ => ?_)⟩
  subst ex
  cases r1
  obtain ⟨eg, _, its, rv, o', ho', hc', n, hd'⟩ := I1.hok p _ eo
  rw [eg] at ho'
  cases ho'
  refine ⟨"tuple", id, PySem.F.plainAttrs_tuple, slot, hty, ⟨o, eg, hc'⟩, fun a z => by cases z; exact ⟨o, eg, od.1⟩, ?_⟩
  have hA := ha.run cpos pins s1 σ H1 _ I1 q1
  rw [hs] at hA ⊢
  refine Calls.callWith_builtin (by show (false || (backTo cpos (starEach es X.env)).any (·.1)) = false; rw [hp] <;> rfl) (Calls.evalArgs_plain ?_)
  exact thn hA fun us s2 ⟨vs, H2, I2, r2, q2⟩ => hm pins s2 σ H2 (V.ref p) vs _ us Q I2 rfl r2 q2
end
end PD
end
section
set_option Elab.async false
set_option linter.all false
set_option maxRecDepth 100000
set_option maxHeartbeats 4000000
set_option autoImplicit false
namespace PD
open PySem L2
open PySem.W (Datum Tup)
variable [Tabl]

/-! ### tuples whose objects are known: cuts, sums -/
def cutL {α : Type} (xs : List α) (lo hi : Option Int) : List α := (xs.drop (HT.sIx xs.length 0 lo)).take (HT.sIx xs.length xs.length hi - HT.sIx xs.length 0 lo)
theorem cutL_map {α β : Type} (f : α → β) (xs : List α) (lo hi : Option Int) : cutL (xs.map f) lo hi = (cutL xs lo hi).map f := by
  unfold cutL
  rw [List.length_map, List.map_take, List.map_drop]
theorem cutL_len {α : Type} (xs : List α) (lo hi : Option Int) : (cutL xs lo hi).length ≤ xs.length := by
  unfold cutL
  rw [List.length_take, List.length_drop]
  omega
theorem cutL_from {α : Type} {xs : List α} {i : Int} (h : 0 ≤ i) : cutL xs (some i) none = xs.drop i.toNat := by
  obtain ⟨n, rfl⟩ : ∃ n : Nat, i = n := ⟨i.toNat, by omega⟩
  unfold cutL
  rw [HT.sIx_nat, HT.sIx_none, Int.toNat_natCast]
  by_cases hn : n ≤ xs.length
  · rw [Nat.min_eq_left hn, List.take_of_length_le (by rw [List.length_drop]; omega)]
  · rw [Nat.min_eq_right (by omega), List.drop_eq_nil_of_le (Nat.le_refl _), List.drop_eq_nil_of_le (by omega), List.take_nil]
theorem cutL_to {α : Type} {xs : List α} {i : Int} (h : 0 ≤ i) : cutL xs none (some i) = xs.take i.toNat := by
  obtain ⟨n, rfl⟩ : ∃ n : Nat, i = n := ⟨i.toNat, by omega⟩
  unfold cutL
  rw [HT.sIx_nat, HT.sIx_none, Int.toNat_natCast, List.drop_zero, Nat.sub_zero]
  by_cases hn : n ≤ xs.length
  · rw [Nat.min_eq_left hn]
  · rw [Nat.min_eq_right (by omega), List.take_of_length_le (Nat.le_refl _), List.take_of_length_le (by omega)]
def rSlF (K : PySem.W.Frag) : V → Option Int → Option Int → Hp → VK → Prop := fun x lo hi H Q => ∃ a xs, x = .ref a ∧ SqT K H a xs ∧
  (cutL xs lo hi = xs → Q (.ref a) H) ∧ ∀ p o, Pl o → H p = none → Q (.ref p) (upd H p (.frz o (.tup (cutL xs lo hi))))
def rCatF (K : PySem.W.Frag) : R2 := fun x y H Q => ∃ a b xs ys, x = .ref a ∧ y = .ref b ∧ SqT K H a xs ∧ SqT K H b ys ∧ xs.length + ys.length ≤ sizeLine ∧
  (xs = [] → Q (.ref b) H) ∧ (ys = [] → Q (.ref a) H) ∧ ∀ p o, Pl o → H p = none → Q (.ref p) (upd H p (.frz o (.tup (xs ++ ys))))
section
variable {X : Cx}
theorem sl_tupF : SlR X (rSlF X.K) := by
  intro pins s σ H x v vl vu lo hi sl Q I rx hs pl pu h
  obtain ⟨a, xs, rfl, hx, q1, q2⟩ := h
  by_cases hw : HT.sIx xs.length 0 lo = 0 ∧ HT.sIx xs.length xs.length hi = xs.length
  · refine sl_tupA pins s σ H _ v vl vu lo hi sl Q I rx hs pl pu ⟨a, xs, rfl, hx, fun _ => q1 ?_, fun z => absurd hw z⟩
    unfold cutL
    rw [hw.1, hw.2, List.drop_zero, Nat.sub_zero, List.take_length]
  · cases rx
    obtain ⟨its, r, ht, hz⟩ := I.tuple hx
    have hlen : its.toArray.size = xs.length := by rw [List.size_toArray]; exact r.length.symm
    refine ⟨"tuple", _, PyProof.Rows.slot_tuple_getitem.lookup, ht.typeIs, ?_⟩
    refine HT.getItem_tuple_cut ht hs pl pu (by rw [hlen]; exact hw) ?_ (by rw [hlen]; exact hz)
    rw [hlen]
    have hf : H s.heap.objs.size = none := I.hok.fresh (Nat.le_refl _)
    refine ⟨.ref s.heap.objs.size, _, I.laid (t' := s.toks) (o := .frz { cls := .type "tuple", data := .seq ((its.drop (HT.sIx xs.length 0 lo)).take (HT.sIx xs.length xs.length hi - HT.sIx xs.length 0 lo)).toArray } (.tup (cutL xs lo hi))) (fun b ob q => Heap.get?_push_of_some _ q) (Nat.le_refl _) ?_, rfl, q2 _ _ ⟨rfl, rfl⟩ hf⟩
    exact ⟨Heap.get?_push_size _ rfl, Nat.le_trans (cutL_len xs lo hi) hz, _, (r.drop (HT.sIx xs.length 0 lo)).take (HT.sIx xs.length xs.length hi - HT.sIx xs.length 0 lo), PyProof.Rows.IsTup.new _ _⟩
theorem op_catF : OpR X (binaryOp .Add) (rCatF X.K) := by
  intro pins s σ H x y v u Q I rx ry h
  obtain ⟨a, b, xs, ys, rfl, rfl, ha, hb, hz, q0, q1, q2⟩ := h
  by_cases hx : xs = []
  · exact op_catA pins s σ H _ _ v u Q I rx ry ⟨a, b, xs, ys, rfl, rfl, ha, hb, hz, q0, fun z => absurd hx z, fun z => absurd hx z⟩
  by_cases hy : ys = []
  · exact op_catA pins s σ H _ _ v u Q I rx ry ⟨a, b, xs, ys, rfl, rfl, ha, hb, hz, q0, fun _ => q1, fun _ z => absurd hy z⟩
  cases rx
  cases ry
  obtain ⟨its, r1, p1, _⟩ := I.tuple ha
  obtain ⟨its2, r2, p2, _⟩ := I.tuple hb
  refine HT.cat_tup p1 p2 (fun z => hx (r1.nil_iff.mp z)) (fun z => absurd (r2.nil_iff.mp z) hy) (fun z => ?_) (by rw [← r1.length, ← r2.length]; exact hz)
  have hf : H s.heap.objs.size = none := I.hok.fresh (Nat.le_refl _)
  refine ⟨.ref s.heap.objs.size, _, I.laid (t' := s.toks) (o := .frz { cls := .type "tuple", data := .seq (its ++ its2).toArray } (.tup (xs ++ ys))) (fun b ob q => Heap.get?_push_of_some _ q) (Nat.le_refl _) ?_, rfl, q2 _ _ ⟨rfl, rfl⟩ hf⟩
  exact ⟨Heap.get?_push_size _ rfl, by rw [List.length_append]; exact hz, _, r1.append r2, PyProof.Rows.IsTup.new _ _⟩
end

/-! ### what reads as data -/
/-- it gives what reads as data for now -/
def ER (C : Addr) (K : PySem.W.Frag) {α : Type} [Rep α] (te : TE) (e : List Sl) (a : α) : Prop := ∀ (W : Wd) (F : Nat → Addr → Prop) (σ : L2.St) (H : Hp), SA C W F H σ e → ∀ Q : VK, (∀ v H2, Same H H2 → Dp K H2 v (Rep.toD a) → Q v H2) → te σ H Q
def EO (C : Addr) (to : TO) (e : List Sl) (i : Option Int) : Prop := ∀ (W : Wd) (F : Nat → Addr → Prop) (σ : L2.St) (H : Hp), SA C W F H σ e → ∀ Q : Option Int → Hp → Prop, (∀ H2, Same H H2 → Q i H2) → to σ H Q
section
variable {C : Addr} {K : PySem.W.Frag} {pb : Bool} {e : List Sl} {ta tb te tc : TE} {α β γ : Type} [DecidableEq α] [Datum α] [DecidableEq β] [Datum β]
theorem rep_plain (a : α) : (Rep.toD a).plain = true := Datum.plain a
theorem ED.er {a : α} (h : ED C te e a) : ER C K te e a := fun W F σ H s Q q => h W F σ H s Q fun v H2 x t => q v H2 x (t.dp (Datum.plain a))
theorem EL.er {as : List α} (h : EL C pb te e as) : ER C K te e as := fun W F σ H s Q q => h W F σ H s _ fun p xs H2 _ x hl hz t => q _ H2 x (show Dp K H2 _ (.list (as.map Rep.toD)) from .lst (SqL.of hl) (t.dp (PySem.W.plainAll_map as)))
theorem EU.er {as : List α} (h : EU C K te e as) : ER C K te e (Tup.mk as) := fun W F σ H s Q q => h W F σ H s _ fun p xs H2 x hl hz t => q _ H2 x (show Dp K H2 _ (.tuple (as.map Rep.toD)) from .tup hl.t (t.dp (PySem.W.plainAll_map as)))
theorem ed_eq {a b : α} (ha : ER C K ta e a) (hb : ER C K tb e b) (hd : Datum.depth α ≤ 50 := by decide) : ED C (tOp (rEqP K false) ta tb) e (decide (a = b)) := fun W F σ H s Q q =>
  ha W F σ H s _ fun x H2 x2 a2 => hb W F σ H2 (s.same x2) _ fun y H3 x3 a3 => ⟨_, _, dp_same x3 a2, a3, rep_plain a, rep_plain b, Nat.le_trans (Datum.depth_le a) hd, by
    have e1 : PyData.eqv (Rep.toD a) (Rep.toD b) = decide (a = b) := Datum.eqv a b
    show Q (.bl (PyData.eqv (Rep.toD a) (Rep.toD b))) H3
    rw [e1]
    exact q _ H3 (x2.trans x3) (.bl _)⟩
theorem ed_ne {a b : α} (ha : ER C K ta e a) (hb : ER C K tb e b) (hd : Datum.depth α ≤ 50 := by decide) : ED C (tOp (rEqP K true) ta tb) e (decide (a ≠ b)) := fun W F σ H s Q q =>
  ha W F σ H s _ fun x H2 x2 a2 => hb W F σ H2 (s.same x2) _ fun y H3 x3 a3 => ⟨_, _, dp_same x3 a2, a3, rep_plain a, rep_plain b, Nat.le_trans (Datum.depth_le a) hd, by
    have e1 : PyData.eqv (Rep.toD a) (Rep.toD b) = decide (a = b) := Datum.eqv a b
    show Q (.bl (!PyData.eqv (Rep.toD a) (Rep.toD b))) H3
    rw [e1, ← decide_not]
    exact q _ H3 (x2.trans x3) (.bl _)⟩
theorem any_mem (as : List α) (a : α) : ((as.map Rep.toD).any fun z => PyData.eqv z (Rep.toD a)) = decide (a ∈ as) := by
  rw [List.any_map]
  induction as with
  | nil => simp
  | cons x r ih =>
    rw [List.any_cons, ih]
    have e1 : PyData.eqv (Rep.toD x) (Rep.toD a) = decide (x = a) := Datum.eqv x a
    show (PyData.eqv (Rep.toD x) (Rep.toD a) || decide (a ∈ r)) = _
    rw [e1, ← Bool.decide_or]
    exact decide_eq_decide.mpr (by rw [List.mem_cons]; exact ⟨fun z => z.imp Eq.symm id, fun z => z.imp Eq.symm id⟩)
theorem ed_inL {a : α} {as : List α} (ha : ER C K ta e a) (hb : EL C pb tb e as) (hd : Datum.depth α ≤ 50 := by decide) : ED C (tOp (rInP K false) ta tb) e (decide (a ∈ as)) := fun W F σ H s Q q =>
  ha W F σ H s _ fun x H2 x2 a2 => hb W F σ H2 (s.same x2) _ fun p xs H3 _ x3 hl hz t => ⟨p, xs, _, _, rfl, .inl (SqL.of hl), dp_same x3 a2, t.dp (PySem.W.plainAll_map as), rep_plain a, PySem.W.plainAll_map as, Nat.le_trans (Datum.depth_le a) hd, by
    show Q (.bl _) H3
    rw [any_mem]
    exact q _ H3 (x2.trans x3) (.bl _)⟩
theorem ed_inU {a : α} {as : List α} (ha : ER C K ta e a) (hb : EU C K tb e as) (hd : Datum.depth α ≤ 50 := by decide) : ED C (tOp (rInP K false) ta tb) e (decide (a ∈ as)) := fun W F σ H s Q q =>
  ha W F σ H s _ fun x H2 x2 a2 => hb W F σ H2 (s.same x2) _ fun p xs H3 x3 hl hz t => ⟨p, xs, _, _, rfl, .inr hl.t, dp_same x3 a2, t.dp (PySem.W.plainAll_map as), rep_plain a, PySem.W.plainAll_map as, Nat.le_trans (Datum.depth_le a) hd, by
    show Q (.bl _) H3
    rw [any_mem]
    exact q _ H3 (x2.trans x3) (.bl _)⟩
theorem ed_niL {a : α} {as : List α} (ha : ER C K ta e a) (hb : EL C pb tb e as) (hd : Datum.depth α ≤ 50 := by decide) : ED C (tOp (rInP K true) ta tb) e (decide (a ∉ as)) := fun W F σ H s Q q =>
  ha W F σ H s _ fun x H2 x2 a2 => hb W F σ H2 (s.same x2) _ fun p xs H3 _ x3 hl hz t => ⟨p, xs, _, _, rfl, .inl (SqL.of hl), dp_same x3 a2, t.dp (PySem.W.plainAll_map as), rep_plain a, PySem.W.plainAll_map as, Nat.le_trans (Datum.depth_le a) hd, by
    show Q (.bl (!_)) H3
    rw [any_mem, ← decide_not]
    exact q _ H3 (x2.trans x3) (.bl _)⟩
theorem ed_niU {a : α} {as : List α} (ha : ER C K ta e a) (hb : EU C K tb e as) (hd : Datum.depth α ≤ 50 := by decide) : ED C (tOp (rInP K true) ta tb) e (decide (a ∉ as)) := fun W F σ H s Q q =>
  ha W F σ H s _ fun x H2 x2 a2 => hb W F σ H2 (s.same x2) _ fun p xs H3 x3 hl hz t => ⟨p, xs, _, _, rfl, .inr hl.t, dp_same x3 a2, t.dp (PySem.W.plainAll_map as), rep_plain a, PySem.W.plainAll_map as, Nat.le_trans (Datum.depth_le a) hd, by
    show Q (.bl (!_)) H3
    rw [any_mem, ← decide_not]
    exact q _ H3 (x2.trans x3) (.bl _)⟩

/-! ### tuples made -/
theorem frz_new {H : Hp} {p : Addr} {o : Obj} {xs : List V} (hd : Pl o) : TupA (upd H p (.frz o (.tup xs))) p xs := ⟨o, upd_same, hd⟩
/-- (a, b, ..) of one kind -/
theorem ed_tups {t : TA} {as : List α} (h : EA C t e (as.map Rep.toD)) (hl : as.length ≤ 4096) : ED C (tTupF t) e (Tup.mk as) := fun W F σ H s Q q => h W F σ H s _ fun vs H2 x t => by
  have hv : vs.length = as.length := by rw [t.length, List.length_map]
  exact ⟨Nat.le_trans (by omega : vs.length ≤ 4096) (by decide), fun p o ho hp => q _ _ (x.trans (same_new hp)) (show At C _ _ _ (.tuple (as.map Rep.toD)) from .tup (frz_new ho) (by omega) (same_all (same_new hp) t))⟩
theorem ed_pair {a : α} {b : β} (ha : ED C ta e a) (hb : ED C tb e b) : ED C (tTupF (tCons ta (tCons tb tNil))) e (a, b) := fun W F σ H s Q q =>
  ea_cons ha (ea_cons hb ea_nil) W F σ H s _ fun vs H2 x t => by
    have hv : vs.length = 2 := t.length
    exact ⟨by rw [hv]; decide, fun p o ho hp => q _ _ (x.trans (same_new hp)) (show At C _ _ _ (.tuple [Rep.toD a, Rep.toD b]) from .tup (frz_new ho) (by omega) (same_all (same_new hp) t))⟩
/-- tuple(a list) -/
theorem ed_tupL {as : List α} (h : EL C pb te e as) : ED C (tCB (fun xs H Q => ∃ p ys, xs = [V.ref p] ∧ ((SqL K H p ys ∧ ∀ l o, Pl o → H l = none → Q (V.ref l) (upd H l (.frz o (.tup ys)))) ∨ (SqT K H p ys ∧ Q (V.ref p) H))) (tCons te tNil)) e (Tup.mk as) := fun W F σ H s Q q =>
  h W F σ H s _ fun p xs H2 _ x hl hz t => ⟨p, xs, rfl, .inl ⟨SqL.of hl, fun l o ho hl' => q _ _ (x.trans (same_new hl')) (show At C _ _ _ (.tuple (as.map Rep.toD)) from .tup (frz_new ho) hz (same_all (same_new hl') t))⟩⟩
/-- tuple(a tuple): the same -/
theorem ed_tupU {a : Tup α} (h : ED C te e a) : ED C (tCB (fun xs H Q => ∃ p ys, xs = [V.ref p] ∧ ((SqL K H p ys ∧ ∀ l o, Pl o → H l = none → Q (V.ref l) (upd H l (.frz o (.tup ys)))) ∨ (SqT K H p ys ∧ Q (V.ref p) H))) (tCons te tNil)) e a := fun W F σ H s Q q =>
  h W F σ H s _ fun v H2 x t => by
    obtain ⟨p, vs, rfl, h1, h2, h3⟩ := at_tup t
    exact ⟨p, vs, rfl, .inr ⟨h1.sq, q _ H2 x t⟩⟩

/-! ### a[i], a[i:j], a + b -/
theorem at_atI {h : Addr → Prop} {H : Hp} {xs : List V} {as : List α} (t : AtAll C h H xs (as.map Rep.toD)) {i : Int} {a : α} (ha : atI as i = some a) : ∃ v, atI xs i = some v ∧ At C h H v (Rep.toD a) := by
  have hl : xs.length = as.length := by rw [t.length, List.length_map]
  unfold atI at ha ⊢
  rw [hl]
  cases hj : ixN as.length i with
  | none =>
    rw [hj] at ha
    cases ha
  | some j =>
    rw [hj] at ha
    obtain ⟨v, h1, h2⟩ := t.get' (i := j) (d := Rep.toD a) (by rw [List.getElem?_map, show as[j]? = some a from ha] <;> rfl)
    exact ⟨v, h1, h2⟩
theorem ed_ixL {as : List α} {i : Int} {a : α} (ha : EL C pb ta e as) (hi : ED C tb e i) (h : atI as i = some a) : ED C (tOp (rIxL K) ta tb) e a := fun W F σ H s Q q =>
  ha W F σ H s _ fun p xs H2 hn x2 hl hz t => hi W F σ H2 (s.same x2) _ fun y H3 x3 a3 => by
    cases at_int a3
    obtain ⟨v, h1, h2⟩ := at_atI (same_all x3 t) h
    exact ⟨p, xs, i, v, rfl, rfl, SqL.of (x3.at _ _ hl), h1, q v H3 (x2.trans x3) h2⟩
theorem ed_ixU {as : List α} {i : Int} {a : α} (ha : EU C K ta e as) (hi : ED C tb e i) (h : atI as i = some a) : ED C (tOp (rIxT K) ta tb) e a := fun W F σ H s Q q =>
  ha W F σ H s _ fun p xs H2 x2 hl hz t => hi W F σ H2 (s.same x2) _ fun y H3 x3 a3 => by
    cases at_int a3
    obtain ⟨v, h1, h2⟩ := at_atI (same_all x3 t) h
    exact ⟨p, xs, i, v, rfl, rfl, (hl.xt (m := fun _ => False) (.of x3)).t, h1, q v H3 (x2.trans x3) h2⟩
/-- p[0], p[1] of a pair -/
theorem ed_fst {a : α} {b : β} (ha : ED C ta e (a, b)) : ED C (tOp (rIxT K) ta (tC (.int 0))) e a := fun W F σ H s Q q => ha W F σ H s _ fun v H2 x t => by
  have t' : At C (Hd W F) H2 v (.tuple [Rep.toD a, Rep.toD b]) := t
  cases t' with
  | tup e z t => cases t with
    | cons r t => cases t with
      | cons r2 t => cases t with
        | nil => exact ⟨_, _, 0, _, rfl, rfl, e.sq, rfl, q _ H2 x r⟩
theorem ed_snd {a : α} {b : β} (ha : ED C ta e (a, b)) : ED C (tOp (rIxT K) ta (tC (.int 1))) e b := fun W F σ H s Q q => ha W F σ H s _ fun v H2 x t => by
  have t' : At C (Hd W F) H2 v (.tuple [Rep.toD a, Rep.toD b]) := t
  cases t' with
  | tup e z t => cases t with
    | cons r t => cases t with
      | cons r2 t => cases t with
        | nil => exact ⟨_, _, 1, _, rfl, rfl, e.sq, rfl, q _ H2 x r2⟩
theorem eo_none : EO C tNoPart e none := fun W F σ H s Q q => q H (Same.refl H)
theorem eo_some {i : Int} (h : ED C te e i) : EO C (tPart te) e (some i) := fun W F σ H s Q q => h W F σ H s _ fun v H2 x t => ⟨i, at_int t, q H2 x⟩
theorem cut_at {h : Addr → Prop} {H : Hp} {xs : List V} {as : List α} {lo hi : Option Int} (t : AtAll C h H xs (as.map Rep.toD)) : AtAll C h H (cutL xs lo hi) ((cutL as lo hi).map Rep.toD) := by
  have hl : xs.length = as.length := by rw [t.length, List.length_map]
  rw [← cutL_map]
  unfold cutL
  rw [hl, List.length_map]
  exact (t.drop _).take _
theorem ed_cutU {tl th : TO} {a : Tup α} {lo hi : Option Int} (ha : ED C ta e a) (hl : EO C tl e lo) (hh : EO C th e hi) : ED C (tSl (rSlF K) ta tl th) e (Tup.mk (cutL a.items lo hi)) := fun W F σ H s Q q =>
  ha W F σ H s _ fun v H2 x2 t2 => by
    obtain ⟨p, vs, rfl, h1, h2, h3⟩ := at_tup t2
    exact hl W F σ H2 (s.same x2) _ fun H3 x3 => hh W F σ H3 ((s.same x2).same x3) _ fun H4 x4 => by
      have x24 := x3.trans x4
      obtain ⟨o, ho, hd⟩ := h1
      have h1' : TupA H4 p vs := ⟨o, x24.at _ _ ho, hd⟩
      refine ⟨p, vs, rfl, h1'.sq, fun ec => ?_, fun l o ho hl => ?_⟩
      · refine q _ H4 (x2.trans x24) (show At C _ _ _ (.tuple ((cutL a.items lo hi).map Rep.toD)) from .tup h1' h2 ?_)
        have c := cut_at (lo := lo) (hi := hi) (same_all x24 h3)
        rw [ec] at c
        exact c
      · exact q _ _ ((x2.trans x24).trans (same_new hl)) (show At C _ _ _ (.tuple ((cutL a.items lo hi).map Rep.toD)) from .tup (frz_new ho) (Nat.le_trans (cutL_len ..) h2) (cut_at (same_all (same_new hl) (same_all x24 h3))))
theorem ef_cutL {tl th : TO} {as : List α} {lo hi : Option Int} (ha : EL C pb ta e as) (hl : EO C tl e lo) (hh : EO C th e hi) : EF C (tSl (rSlL K) ta tl th) e (cutL as lo hi) := fun W F σ H s Q q =>
  ha W F σ H s _ fun p xs H2 hn x2 hp hz t => hl W F σ H2 (s.same x2) _ fun H3 x3 => hh W F σ H3 ((s.same x2).same x3) _ fun H4 x4 => by
    have x24 := x3.trans x4
    refine ⟨p, xs, rfl, SqL.of (x24.at _ _ hp), fun l hl => ?_⟩
    have hl0 : H l = none := (x2.trans x24).free hl
    exact q l _ _ hl0 ((x2.trans x24).trans (same_new hl)) upd_same (Nat.le_trans (cutL_len xs lo hi) hz) (same_all (same_new hl) ((cut_at (same_all x24 t)).sub fun a z => z.imp id fun w => by rw [w]; exact hl))
end
end PD
end
section
set_option Elab.async false
set_option linter.all false
set_option maxRecDepth 100000
set_option maxHeartbeats 4000000
set_option autoImplicit false
namespace PD
open PySem L2
open PySem.W (Datum Tup)
variable [Tabl]

/-! ### promises -/
/-- a def of data: from ds it tells data of R, wherever G ds R -/
def spD (C : Addr) (G : List PyData → (PyData → Prop) → Prop) : Sp := fun vs H Q _ => ∃ (h : Addr → Prop) (ds : List PyData) (R : PyData → Prop), (∀ a, h a → H a ≠ none) ∧ LamX.Tabs Tabl.T H ∧ AtAll C h H vs ds ∧ G ds R ∧ ∀ v d H2, R d → Same H H2 → At C h H2 v d → Q v H2
/-- a def whose first argument is a thing that it may change -/
def spO (C : Addr) (G : Thing → List PyData → (PyData → Thing → Prop) → Prop) : Sp := fun vs H Q _ => ∃ (v0 : V) (vs' : List V) (h S : Addr → Prop) (T : Thing) (ds : List PyData) (R : PyData → Thing → Prop), vs = v0 :: vs' ∧ (∀ a, h a → H a ≠ none) ∧ LamX.Tabs Tabl.T H ∧ (∀ a, S a → h a) ∧ T.P h H v0 S ∧ AtAll C h H vs' ds ∧ G T ds R ∧
  ∀ v d T' S' H2, R d T' → Xt S H H2 → LamX.Tabs Tabl.T H2 → (∀ a, S' a → S a ∨ H a = none) → T'.P (fun a => h a ∨ S' a) H2 v0 S' → At C (fun a => h a ∨ S' a) H2 v d → Q v H2

/-! ### what may change something -/
def EG (C : Addr) {α : Type} [Rep α] (te : TE) (e : List Sl) (P : α → List Sl → Prop) : Prop := ∀ (W : Wd) (F : Nat → Addr → Prop) (σ : L2.St) (H : Hp), SA C W F H σ e → ∀ Q : VK,
  (∀ a e' v F' H', P a e' → SA C W F' H' σ e' → Xt (Hd W F) H H' → (∀ b, Hd W F' b → Hd W F b ∨ H b = none) → At C (Hd W F') H' v (Rep.toD a) → Q v H') → te σ H Q
def EGA (C : Addr) (ta : TA) (e : List Sl) (P : List PyData → List Sl → Prop) : Prop := ∀ (W : Wd) (F : Nat → Addr → Prop) (σ : L2.St) (H : Hp), SA C W F H σ e → ∀ Q : List V → Hp → Prop,
  (∀ ds e' vs F' H', P ds e' → SA C W F' H' σ e' → Xt (Hd W F) H H' → (∀ b, Hd W F' b → Hd W F b ∨ H b = none) → AtAll C (Hd W F') H' vs ds → Q vs H') → ta σ H Q
def EGT (C : Addr) (tt : TT) (e : List Sl) (P : Bool → List Sl → Prop) : Prop := ∀ (W : Wd) (F : Nat → Addr → Prop) (σ : L2.St) (H : Hp), SA C W F H σ e → ∀ Q : Bool → Hp → Prop,
  (∀ b e' F' H', P b e' → SA C W F' H' σ e' → Xt (Hd W F) H H' → (∀ b, Hd W F' b → Hd W F b ∨ H b = none) → Q b H') → tt σ H Q
/-- statements: they end in an env of N, or tell data of R -/
def ES (C : Addr) (ts : TS) (e : List Sl) (N : List Sl → Prop) (R : PyData → List Sl → Prop) : Prop := ∀ (W : Wd) (F : Nat → Addr → Prop) (σ : L2.St) (H : Hp), SA C W F H σ e → ∀ D : Ends,
  (∀ e' F' σ' H', N e' → SA C W F' H' σ' e' → D.nx σ' H') → (∀ v d e' F' σ' H', R d e' → SA C W F' H' σ' e' → At C (Rt W F') H' v d → D.rt v H') → ts D σ H

section
variable {C : Addr} {W : Wd} {F F' F2 : Nat → Addr → Prop} {H H' H2 : Hp} {σ : L2.St} {e : List Sl}
theorem hid_trans (x : Xt (Hd W F) H H') (k : ∀ b, Hd W F' b → Hd W F b ∨ H b = none) (k2 : ∀ b, Hd W F2 b → Hd W F' b ∨ H' b = none) : ∀ b, Hd W F2 b → Hd W F b ∨ H b = none := fun b z => (k2 b z).elim (k b) fun w => .inr (x.free b w)
theorem xt_trans (x : Xt (Hd W F) H H') (k : ∀ b, Hd W F' b → Hd W F b ∨ H b = none) (y : Xt (Hd W F') H' H2) : Xt (Hd W F) H H2 :=
  ⟨fun a o n q nt => y.keep a o (fun z => (k a z).elim n fun w => by rw [w] at q; cases q) (x.keep a o n q nt) nt, fun a o u q => y.frz _ _ _ (x.frz _ _ _ q), fun a q => x.free a (y.free a q)⟩
theorem xt_same (x : Xt (Hd W F) H H') (y : Same H' H2) : Xt (Hd W F) H H2 := x.trans ((Xt.of y : Xt (fun _ => False) H' H2).mono fun _ z => z.elim)
theorem hid_put {i : Nat} {S' : Addr → Prop} (hs : ∀ a, S' a → F i a ∨ H a = none) : ∀ b, Hd W (Fs F i S') b → Hd W F b ∨ H b = none := fun b z => (hd_fs b z).elim .inl fun w => (hs b w).imp (fun q => .inr ⟨i, q⟩) id
end

section
variable {C : Addr} {K : PySem.W.Frag} {e : List Sl} {te ta tb : TE} {tt : TT} {t : TA} {α β γ : Type} [Rep α] [Rep β] [Rep γ]
theorem ED.eg {a : α} (h : ED C te e a) : EG C te e fun x e' => x = a ∧ e' = e := fun W F σ H s Q q => h W F σ H s Q fun v H2 x t => q a e v F H2 ⟨rfl, rfl⟩ (s.same x) ((Xt.of x : Xt (fun _ => False) H H2).mono fun _ z => z.elim) (fun _ z => .inl z) t
theorem EG.mono {P P' : α → List Sl → Prop} (h : EG C te e P) (k : ∀ a e', P a e' → P' a e') : EG C te e P' := fun W F σ H s Q q => h W F σ H s Q fun a e' v F' H' p => q a e' v F' H' (k a e' p)
theorem EA.ega {ds : List PyData} (h : EA C t e ds) : EGA C t e fun x e' => x = ds ∧ e' = e := fun W F σ H s Q q => h W F σ H s Q fun v H2 x t => q ds e v F H2 ⟨rfl, rfl⟩ (s.same x) ((Xt.of x : Xt (fun _ => False) H H2).mono fun _ z => z.elim) (fun _ z => .inl z) t
theorem ET.egt {b : Bool} (h : ET C tt e b) : EGT C tt e fun x e' => x = b ∧ e' = e := fun W F σ H s Q q => h W F σ H s Q fun H2 x => q b e F H2 ⟨rfl, rfl⟩ (s.same x) ((Xt.of x : Xt (fun _ => False) H H2).mono fun _ z => z.elim) (fun _ z => .inl z)
/-- arguments, one behind the other -/
theorem ega_cons {P1 : α → List Sl → Prop} {P2 : α → List Sl → List PyData → List Sl → Prop} (h1 : EG C ta e P1) (h2 : ∀ a e', P1 a e' → EGA C t e' (P2 a e')) : EGA C (tCons ta t) e fun ds e'' => ∃ a e' ds', P1 a e' ∧ P2 a e' ds' e'' ∧ ds = Rep.toD a :: ds' := fun W F σ H s Q q =>
  h1 W F σ H s _ fun a e' v F' H' p s' x k a' => h2 a e' p W F' σ H' s' _ fun ds e'' vs F2 H2 p2 s2 x2 k2 t2 => q _ _ _ F2 H2 ⟨a, e', ds, p, p2, rfl⟩ s2 (xt_trans x k x2) (hid_trans x k k2) (.cons (a'.step x2 k2) t2)
/-- a def of data is called -/
theorem ed_call {G : List PyData → (PyData → Prop) → Prop} {ds : List PyData} {a : α} (h : EA C t e ds) (g : G ds fun d => d = Rep.toD a) : ED C (tCall (spD C G) [] C8.E0 t) e a := fun W F σ H s Q q => h W F σ H s _ fun vs H2 x t2 => by
  refine ⟨Hd W F, ds, _, (s.same x).hdk, (s.same x).tabs, by rw [List.append_nil]; exact t2, g, fun v d H3 r x3 a3 => ?_⟩
  subst r
  exact q v H3 (x.trans x3) a3
theorem eg_callD {G : List PyData → (PyData → Prop) → Prop} {P : List PyData → List Sl → Prop} {R : List PyData → PyData → Prop} {P' : α → List Sl → Prop} (h : EGA C t e P) (g : ∀ ds e', P ds e' → G ds (R ds)) (k : ∀ ds e' d, P ds e' → R ds d → ∃ a, d = Rep.toD a ∧ P' a e') : EG C (tCall (spD C G) [] C8.E0 t) e P' := fun W F σ H s Q q => h W F σ H s _ fun ds e' vs F' H' p s' x kk t2 => by
  refine ⟨Hd W F', ds, _, s'.hdk, s'.tabs, by rw [List.append_nil]; exact t2, g ds e' p, fun v d H3 r x3 a3 => ?_⟩
  obtain ⟨a, rfl, pa⟩ := k ds e' d p r
  exact q a e' v F' H3 pa (s'.same x3) (xt_same x x3) kk a3
/-- a def that may change its first argument, the thing in slot i -/
theorem eg_callO {G : Thing → List PyData → (PyData → Thing → Prop) → Prop} {i : Nat} {P : List PyData → List Sl → Prop} {P' : α → List Sl → Prop} (hi : ∃ T, e[i]? = some (.own T)) (h : EGA C t e P)
    (g : ∀ ds e', P ds e' → ∃ T, e'[i]? = some (.own T) ∧ ∃ R, G T ds R ∧ ∀ d T', R d T' → ∃ a, d = Rep.toD a ∧ P' a (e'.set i (.own T'))) : EG C (tCall (spO C G) [] C8.E0 (tCons (tVar i) t)) e P' := fun W F σ H s Q q => by
  obtain ⟨T0, he0⟩ := hi
  obtain ⟨v0, hv0, _⟩ := s.own i T0 he0
  refine ⟨v0, hv0, h W F σ H s _ fun ds e' vs F' H' p s' x kk t2 => ?_⟩
  obtain ⟨T, he, R, gT, k⟩ := g ds e' p
  obtain ⟨v1, hv1, tp⟩ := s'.own i T he
  rw [hv0] at hv1
  cases hv1
  refine ⟨v0, vs, Hd W F', F' i, T, ds, R, by rw [List.append_nil], s'.hdk, s'.tabs, fun a z => .inr ⟨i, z⟩, tp, t2, gT, fun v d T' S' H3 r x3 tb k3 t3 a3 => ?_⟩
  obtain ⟨a, rfl, pa⟩ := k d T' r
  have s3 := s'.put he hv0 x3 k3 t3 tb
  have kh : ∀ b, Hd W (Fs F' i S') b → Hd W F' b ∨ H' b = none := hid_put k3
  refine q a _ v _ H3 pa s3 (xt_trans x kk (x3.mono fun a z => .inr ⟨i, z⟩)) (hid_trans x kk kh) (a3.sub fun a z => .inl (hd_fs a z))
theorem eg_op {r : R2} {P1 : α → List Sl → Prop} {P2 : α → List Sl → β → List Sl → Prop} {P : γ → List Sl → Prop} (ha : EG C ta e P1) (hb : ∀ a e', P1 a e' → EG C tb e' (P2 a e')) (hr : ∀ a e' b e'', P1 a e' → P2 a e' b e'' → ∃ c, RVD C r a b c ∧ P c e'') : EG C (tOp r ta tb) e P := fun W F σ H s Q q =>
  ha W F σ H s _ fun a e' v F' H' p s' x k a' => hb a e' p W F' σ H' s' _ fun b e'' w F2 H2 p2 s2 x2 k2 b2 => by
    obtain ⟨c, hc, pc⟩ := hr a e' b e'' p p2
    exact hc (Hd W F2) H2 v w s2.hdk (a'.step x2 k2) b2 Q fun u H3 x3 a3 => q c e'' u F2 H3 pc (s2.same x3) (xt_same (xt_trans x k x2) x3) (hid_trans x k k2) a3
theorem egt_B {P : Bool → List Sl → Prop} (h : EG C te e P) : EGT C (tB te) e P := fun W F σ H s Q q => h W F σ H s _ fun b e' v F' H' p s' x k a => ⟨b, at_bool a, q b e' F' H' p s' x k⟩

/-! ### statements -/
variable {ts tu : TS} {N N1 N' : List Sl → Prop} {R R' : PyData → List Sl → Prop}
theorem ES.mono (h : ES C ts e N R) (hn : ∀ e', N e' → N' e') (hr : ∀ d e', R d e' → R' d e') : ES C ts e N' R' := fun W F σ H s D qn qr => h W F σ H s D (fun e' F' σ' H' n => qn e' F' σ' H' (hn e' n)) fun v d e' F' σ' H' r => qr v d e' F' σ' H' (hr d e' r)
theorem es_nil (h : N e) : ES C tNext e N R := fun W F σ H s D qn _ => qn e F σ H h s
theorem es_seq (h1 : ES C ts e N1 R) (h2 : ∀ e', N1 e' → ES C tu e' N R) : ES C (tSeq ts tu) e N R := fun W F σ H s D qn qr => h1 W F σ H s _ (fun e' F' σ' H' n s' => h2 e' n W F' σ' H' s' D qn qr) qr
theorem es_seq1 {e1 : List Sl} (h1 : ES C ts e (fun e' => e' = e1) R) (h2 : ES C tu e1 N R) : ES C (tSeq ts tu) e N R := es_seq h1 fun e' n => by rw [n]; exact h2
/-- i = te -/
theorem es_set {i : Nat} {a : α} (hi : i ≠ 0) (h : ED C te e a) : ES C (tAsg te (gName i)) e (fun e' => e' = e.set i (.dat (Rep.toD a))) R := fun W F σ H s D qn _ => h W F σ H s _ fun v H2 x t => qn _ _ _ _ rfl ((s.same x).set hi t)
theorem es_setG {i : Nat} {P : α → List Sl → Prop} (hi : i ≠ 0) (h : EG C te e P) (k : ∀ a e', P a e' → N (e'.set i (.dat (Rep.toD a)))) : ES C (tAsg te (gName i)) e N R := fun W F σ H s D qn _ => h W F σ H s _ fun a e' v F' H' p s' x kk t => qn _ _ _ _ (k a e' p) (s'.set hi t)
/-- .. a new list: its own -/
theorem es_setF {i : Nat} {as : List α} (hi : i ≠ 0) (h : EF C te e as) : ES C (tAsg te (gName i)) e (fun e' => e' = e.set i (.own (LstT C (as.map Rep.toD)))) R := fun W F σ H s D qn _ => h W F σ H s _ fun p xs H2 hp x hl hz t =>
  qn _ _ _ _ rfl (s.setOwn hi (S := fun b => b = p) (fun a z => by rw [z]; exact hp) x ⟨p, xs, rfl, rfl, hl, hz, t⟩)
theorem es_ret {a : α} (h : ED C te e a) (hr : R (Rep.toD a) e) : ES C (tRet te) e N R := fun W F σ H s D _ qr => h W F σ H s _ fun v H2 x t => qr v _ e F σ H2 hr (s.same x) (t.sub fun b z => .inl (rt_hd s b z))
theorem es_retG {P : α → List Sl → Prop} (h : EG C te e P) (hr : ∀ a e', P a e' → R (Rep.toD a) e') : ES C (tRet te) e N R := fun W F σ H s D _ qr => h W F σ H s _ fun a e' v F' H' p s' x k t => qr v _ e' F' σ H' (hr a e' p) s' (t.sub fun b z => .inl (rt_hd s' b z))
theorem es_retN (hr : R .none e) : ES C tRetN e N R := fun W F σ H s D _ qr => qr .non .none e F σ H hr s .non
/-- a list of its own is told -/
theorem es_retO {i : Nat} {ds : List PyData} (hi : i ≠ 0) (h : e[i]? = some (.own (LstT C ds))) (hr : R (.list ds) e) : ES C (tRet (tVar i)) e N R := fun W F σ H s D _ qr => by
  obtain ⟨v, h1, l, xs, rfl, h2, h3, h4, h5⟩ := s.own i _ h
  have fl : F i l := by rw [h2]
  refine ⟨_, h1, qr _ _ e F σ H hr s (.lst (fun z => ?_) h3 h4 (h5.sub fun b z => .inl (rt_hd s b z)))⟩
  rcases z with ⟨z1, z2⟩ | z | z
  · exact (s.foot i l fl).2.elim (s.known l z1) z2
  · exact hi (s.lent i l fl z)
  · exact hi (s.apart i 0 l fl z)
theorem es_if {b : Bool} (h : ET C tt e b) (h1 : b = true → ES C ts e N R) (h2 : b = false → ES C tu e N R) : ES C (tIfS tt ts tu) e N R := fun W F σ H s D qn qr => h W F σ H s _ fun H2 x => by
  cases b with
  | true => exact iteT (h1 rfl W F σ H2 (s.same x) D qn qr)
  | false => exact iteF (h2 rfl W F σ H2 (s.same x) D qn qr)
theorem es_ifG {P : Bool → List Sl → Prop} (h : EGT C tt e P) (h1 : ∀ e', P true e' → ES C ts e' N R) (h2 : ∀ e', P false e' → ES C tu e' N R) : ES C (tIfS tt ts tu) e N R := fun W F σ H s D qn qr => h W F σ H s _ fun b e' F' H' p s' x k => by
  cases b with
  | true => exact iteT (h1 e' p W F' σ H' s' D qn qr)
  | false => exact iteF (h2 e' p W F' σ H' s' D qn qr)
/-- te alone -/
theorem es_drop {a : α} (h : ED C te e a) : ES C (tDrop te) e (fun e' => e' = e) R := fun W F σ H s D qn _ => h W F σ H s _ fun v H2 x t => qn e F σ H2 rfl (s.same x)
theorem es_dropG {P : α → List Sl → Prop} (h : EG C te e P) (k : ∀ a e', P a e' → N e') : ES C (tDrop te) e N R := fun W F σ H s D qn _ => h W F σ H s _ fun a e' v F' H' p s' x kk t => qn e' F' σ H' (k a e' p) s'

/-! ### loops -/
theorem as_data {bs : List (Nat × PyData)} : ∀ {us : List V} {σ : L2.St} {e : List Sl} {F : Nat → Addr → Prop} {W : Wd} {H : Hp}, SA C W F H σ e → (∀ b ∈ bs, b.1 ≠ 0) → (∀ b ∈ bs, isVal e[b.1]? = true) → AtAll C (Hd W F) H us (bs.map (·.2)) → SA C W F H (setS σ (bs.map (·.1)) us) (setE e bs) := fun s h0 hn q => SA.setAll s h0 hn q
/-- for .. in ..: the env by the turn's number -/
theorem es_for {wi : TI} {g : TG} {δ : Type} {xs : List δ} {enc : δ → List (Nat × PyData)} (I : Nat → List Sl → Prop) (hs : ESrc C false wi g e (xs.map enc)) (h0 : I 0 e)
    (hb : ∀ (i : Nat) x e', xs[i]? = some x → I i e' → (∀ b ∈ enc x, isVal e'[b.1]? = true) ∧ ES C ts (setE e' (enc x)) (I (i + 1)) R) (hj : ∀ x, ∀ b ∈ enc x, b.1 ≠ 0) (hd : ∀ e', I xs.length e' → N e') : ES C (tFor wi g ts) e N R := fun W F σ H s D qn qr =>
  hs W F σ H s _ fun J H1 Y G x1 w _ hG hY => by
    have s1 := s.same x1
    have wl : (xs.map enc).length = xs.length := List.length_map ..
    rw [wl] at w
    refine for_it w (fun i σ' H' => ∃ e' F', I i e' ∧ SA C (W.enter F H1) F' H' σ' e') ⟨e, F, h0, s1.enter⟩ (fun i σ' H' _ ⟨e', F', _, s'⟩ => hG H' (s'.xt.mono fun a z => ⟨rfl, z.imp (s.mh a) id⟩)) (fun i x σ' H' H'' hi p y => ?_) (fun σ' H' ⟨e', F', p, s'⟩ => qn e' F' σ' H' (hd e' p) (s1.leave s'))
    obtain ⟨e', F', p, s'⟩ := p
    obtain ⟨x', hx⟩ : ∃ x', xs[i]? = some x' := ⟨xs[i], List.getElem?_eq_getElem hi⟩
    have xx : Xt (Kp false (Hd W F)) H1 H' := s'.xt.mono fun a z => ⟨rfl, z.imp (s.mh a) id⟩
    have kk : ∀ a, Hd (W.enter F H1) F' a → Hd W F a ∨ H1 a = none := fun a z => by
      rcases z with z | ⟨j, z⟩
      · exact .inl z
      · rcases (s'.foot j a z).2 with w | w | ⟨k, w⟩
        · exact .inr w
        · exact .inl (.inl (s.mh a (s.om a w)))
        · exact .inl (.inr ⟨k, w⟩)
    obtain ⟨x3, gv⟩ := hY i (enc x') (by rw [List.getElem?_map, hx] <;> rfl) (Hd (W.enter F H1) F') H' x H'' kk xx y
    refine gv _ _ fun H3 us x4 t4 => ?_
    obtain ⟨hv, hES⟩ := hb i x' e' hx p
    refine hES (W.enter F H1) F' _ H3 (SA.setAll ((s'.same x3).same x4) (hj x') hv t4) _ (fun e2 F2 σ2 H2 n s2 => ⟨e2, F2, n, s2⟩) (fun v d e2 F2 σ2 H2 r s2 a2 => qr v d e2 F2 σ2 H2 r (s1.leave s2) (a2.sub fun b z => .inl (rt_enter s1 b z)))
end
end PD
end
section
set_option Elab.async false
set_option linter.all false
set_option maxRecDepth 100000
set_option maxHeartbeats 4000000
set_option autoImplicit false
namespace PD
open PySem L2
open PySem.W (Datum Tup)
variable [Tabl]

def startE (N : List Str) (ds : List PyData) : List Sl := ds.map .dat ++ List.replicate (N.length - ds.length) .emp
def startO (N : List Str) (T : Thing) (ds : List PyData) : List Sl := .own T :: (ds.map .dat ++ List.replicate (N.length - (ds.length + 1)) .emp)
section
variable {C : Addr} {h S : Addr → Prop} {H : Hp} {N : List Str} {vs : List V} {ds : List PyData}
theorem start_dat (t : AtAll C h H vs ds) (i : Nat) (d : PyData) (k : (ds.map Sl.dat ++ List.replicate (N.length - ds.length) Sl.emp)[i]? = some (.dat d)) : ∃ v, (vs.map some ++ List.replicate (N.length - vs.length) none)[i]? = some (some v) ∧ At C h H v d := by
  have hl := t.length
  by_cases hi : i < ds.length
  · rw [List.getElem?_append_left (by rw [List.length_map]; exact hi), List.getElem?_map] at k
    cases hd : ds[i]? with
    | none =>
      rw [hd] at k
      cases k
    | some d' =>
      rw [hd] at k
      cases k
      obtain ⟨v, h1, h2⟩ := t.get' hd
      exact ⟨v, by rw [List.getElem?_append_left (by rw [List.length_map, hl]; exact hi), List.getElem?_map, h1] <;> rfl, h2⟩
  · rw [List.getElem?_append_right (by rw [List.length_map]; omega), List.getElem?_replicate] at k
    split at k
    · cases k
    · cases k
theorem start_noOwn (i : Nat) (T : Thing) : (ds.map Sl.dat ++ List.replicate (N.length - ds.length) Sl.emp)[i]? ≠ some (.own T) := fun k => by
  by_cases hi : i < ds.length
  · rw [List.getElem?_append_left (by rw [List.length_map]; exact hi), List.getElem?_map] at k
    cases hd : ds[i]? with
    | none =>
      rw [hd] at k
      cases k
    | some d' =>
      rw [hd] at k
      cases k
  · rw [List.getElem?_append_right (by rw [List.length_map]; omega), List.getElem?_replicate] at k
    split at k
    · cases k
    · cases k
def W0 (H : Hp) (h : Addr → Prop) : Wd := ⟨H, h, fun _ => False, fun _ => False, fun _ => False, none⟩
def F0 : Nat → Addr → Prop := fun _ _ => False
theorem hd_W0 : ∀ a, Hd (W0 H h) F0 a → h a := fun a z => z.elim id fun ⟨_, w⟩ => w.elim
theorem sa_start (known : ∀ a, h a → H a ≠ none) (tb : LamX.Tabs Tabl.T H) (t : AtAll C h H vs ds) : SA C (W0 H h) F0 H (L2.start N vs) (startE N ds) where
  len := by
    have := t.length
    unfold L2.start startE
    simp [this]
  xt := .refl H
  tabs := tb
  mh := fun _ z => z.elim
  om := fun _ z => z.elim
  ro := fun _ z => z.elim
  known := known
  foot := fun _ _ z => z.elim
  apart := fun _ _ _ z => z.elim
  lent := fun _ _ z => z.elim
  r0 := fun _ z => nomatch z
  dat := fun i d k => by
    obtain ⟨v, h1, h2⟩ := start_dat (N := N) t i d k
    exact ⟨v, h1, h2.sub fun a z => .inl (hd_W0 a z)⟩
  own := fun i T k => absurd k (start_noOwn i T)
def WO (H : Hp) (h S : Addr → Prop) (v : V) : Wd := ⟨H, h, S, S, S, some v⟩
def FO (S : Addr → Prop) : Nat → Addr → Prop := fun i a => i = 0 ∧ S a
theorem hd_WO (hs : ∀ a, S a → h a) {v : V} : ∀ a, Hd (WO H h S v) (FO S) a → h a := fun a z => z.elim id fun ⟨_, w⟩ => hs a w.2
theorem sa_startO (known : ∀ a, h a → H a ≠ none) (tb : LamX.Tabs Tabl.T H) (hs : ∀ a, S a → h a) {v0 : V} {T : Thing} (tp : T.P h H v0 S) (t : AtAll C h H vs ds) : SA C (WO H h S v0) (FO S) H (L2.start N (v0 :: vs)) (startO N T ds) where
  len := by
    have := t.length
    unfold L2.start startO
    simp [this]
  xt := .refl H
  tabs := tb
  mh := hs
  om := fun _ z => z
  ro := fun _ z => z
  known := known
  foot := fun _ a z => ⟨known a (hs a z.2), .inr z.2⟩
  apart := fun _ _ _ z w => z.1.trans w.1.symm
  lent := fun _ _ z _ => z.1
  r0 := fun _ z => by cases z; rfl
  dat := fun i d k => by
    cases i with
    | zero => cases k
    | succ i =>
      have hl := t.length
      have e1 : N.length - (ds.length + 1) = (N.tail).length - ds.length := by rw [List.length_tail]; omega
      have e2 : N.length - (v0 :: vs).length = (N.tail).length - vs.length := by rw [List.length_tail, List.length_cons]; omega
      have k' : (ds.map Sl.dat ++ List.replicate (N.tail.length - ds.length) Sl.emp)[i]? = some (.dat d) := by rw [← e1]; exact k
      obtain ⟨v, h1, h2⟩ := start_dat (N := N.tail) t i d k'
      refine ⟨v, ?_, h2.sub fun a z => .inl (hd_WO hs a z)⟩
      show ((v0 :: vs).map some ++ List.replicate (N.length - (v0 :: vs).length) none)[i + 1]? = _
      rw [e2]
      exact h1
  own := fun i T' k => by
    cases i with
    | zero =>
      cases k
      refine ⟨v0, rfl, ?_⟩
      have e1 : FO S 0 = S := funext fun a => propext ⟨fun z => z.2, fun z => ⟨rfl, z⟩⟩
      rw [e1]
      exact T.sub tp fun a z => .inl (hd_WO hs a z)
    | succ i =>
      have e1 : N.length - (ds.length + 1) = (N.tail).length - ds.length := by rw [List.length_tail]; omega
      exact absurd (show (ds.map Sl.dat ++ List.replicate (N.tail.length - ds.length) Sl.emp)[i]? = some (.own T') by rw [← e1]; exact k) (start_noOwn (N := N.tail) i T')
end

section
variable {C : Addr} {G : List PyData → (PyData → Prop) → Prop} {GO : Thing → List PyData → (PyData → Thing → Prop) → Prop} {t : TS} {N : List Str} {H : Hp} {vs : List V} {Q : VK} {E : XK}
/-- the body keeps the promise -/
theorem run_D (h : ∀ ds R, G ds R → ES C t (startE N ds) (fun _ => R .none) fun d _ => R d) (p : spD C G vs H Q E) : t { nx := fun _ H' => Q .non H', rt := Q } (L2.start N vs) H := by
  obtain ⟨hh, ds, R, known, tb, at_, g, q⟩ := p
  refine h ds R g (W0 H hh) F0 (L2.start N vs) H (sa_start known tb at_) _ (fun e' F' σ' H' r s => q .non .none H' r (s.xt.same s.tabs) .non) fun v d e' F' σ' H' r s a => q v d H' r (s.xt.same s.tabs) (a.sub fun b z => .inl (.inl ⟨z, fun w => w⟩))
theorem run_O (h : ∀ T ds R, GO T ds R → ES C t (startO N T ds) (fun e' => ∃ T', e'[0]? = some (.own T') ∧ R .none T') fun d e' => ∃ T', e'[0]? = some (.own T') ∧ R d T') (p : spO C GO vs H Q E) : t { nx := fun _ H' => Q .non H', rt := Q } (L2.start N vs) H := by
  obtain ⟨v0, vs', hh, S, T, ds, R, rfl, known, tb, hs, tp, at_, g, q⟩ := p
  have fin : ∀ {v d e' F' σ' H'}, (∃ T', e'[0]? = some (.own T') ∧ R d T') → SA C (WO H hh S v0) F' H' σ' e' → At C (Rt (WO H hh S v0) F') H' v d → Q v H' := fun {v d e' F' σ' H'} r s a => by
    obtain ⟨T', h0, r⟩ := r
    obtain ⟨v1, h1, tp'⟩ := s.own 0 T' h0
    have h2 := s.r0 v0 rfl
    rw [h1] at h2
    cases h2
    refine q v d T' (F' 0) H' r s.xt s.tabs (fun a z => ?_) (T'.sub tp' fun a z => .inl (z.elim .inl fun w => .inr ⟨0, w⟩)) (a.sub fun b z => .inl ?_)
    · exact (s.foot 0 a z).2.elim .inr .inl
    · rcases z with z | z
      · by_cases w : S b
        · exact .inr (.inl w)
        · exact .inl ⟨z, w⟩
      · exact .inr (.inr z)
  exact h T ds R g (WO H hh S v0) (FO S) (L2.start N (v0 :: vs')) H (sa_startO known tb hs tp at_) _ (fun e' F' σ' H' r s => fin (v := .non) (d := .none) r s .non) fun v d e' F' σ' H' r s a => fin r s a
end

section
open C8 PySem.Spec PyProof.Rows
variable {P : Program} {w : World} {K : PySem.W.Frag} {mg : Str → Option Value} {base : Heap} {C : Addr}
theorem spD_len {G : List PyData → (PyData → Prop) → Prop} {n : Nat} (hG : ∀ ds R, G ds R → ds.length = n) : ∀ vs H Q E, spD C G vs H Q E → vs.length = n := fun vs H Q E ⟨_, ds, R, _, _, t, g, _⟩ => t.length.trans (hG ds R g)
theorem spO_len {G : Thing → List PyData → (PyData → Thing → Prop) → Prop} {n : Nat} (hG : ∀ T ds R, G T ds R → ds.length + 1 = n) : ∀ vs H Q E, spO C G vs H Q E → vs.length = n := fun vs H Q E ⟨_, _, _, _, T, ds, R, e, _, _, _, _, t, g, _⟩ => by
  rw [e, List.length_cons, t.length]
  exact hG T ds R g
/-- a def of data, by its body -/
theorem cal_D {x : Str} {st : Stmt} {f : Addr} {fd : FuncData} {N ps : List Str} {k : Nat} {G : List PyData → (PyData → Prop) → Prop} (Fn : Def K mg x st f fd) (b : Binds K fd ps []) (S : FnScope N ps (fnScope st)) (hG : ∀ ds R, G ds R → ds.length = ps.length)
    (body : ∀ (cdv : Value) (A : Around) (outer : List Env) (s : Shared) (H : Hp) (E : XK), Room k (A.deeper (envOfC x (fnScope st) s.heap.objs.size f cdv)) → ∃ t, PSs (cxOf C8.CX0 P w K mg base N x (fnScope st) f cdv A outer s H E).nox (fnBody st) t ∧
      ∀ ds R, G ds R → ES C t (startE N ds) (fun _ => R .none) fun d _ => R d) : Cal P w K mg base (k + 1) x (spD C G) [] := by
  refine cal0 Fn b .nil S (spD_len hG) fun cdv A outer s H vs Q E hr p => ?_
  obtain ⟨t, h1, h2⟩ := body cdv A outer s H E hr
  exact ⟨t, h1, run_D h2 p⟩
/-- a def that may change its first argument -/
theorem cal_O {x : Str} {st : Stmt} {f : Addr} {fd : FuncData} {N ps : List Str} {k : Nat} {G : Thing → List PyData → (PyData → Thing → Prop) → Prop} (Fn : Def K mg x st f fd) (b : Binds K fd ps []) (S : FnScope N ps (fnScope st)) (hG : ∀ T ds R, G T ds R → ds.length + 1 = ps.length)
    (body : ∀ (cdv : Value) (A : Around) (outer : List Env) (s : Shared) (H : Hp) (E : XK), Room k (A.deeper (envOfC x (fnScope st) s.heap.objs.size f cdv)) → ∃ t, PSs (cxOf C8.CX0 P w K mg base N x (fnScope st) f cdv A outer s H E).nox (fnBody st) t ∧
      ∀ T ds R, G T ds R → ES C t (startO N T ds) (fun e' => ∃ T', e'[0]? = some (.own T') ∧ R .none T') fun d e' => ∃ T', e'[0]? = some (.own T') ∧ R d T') : Cal P w K mg base (k + 1) x (spO C G) [] := by
  refine cal0 Fn b .nil S (spO_len hG) fun cdv A outer s H vs Q E hr p => ?_
  obtain ⟨t, h1, h2⟩ := body cdv A outer s H E hr
  exact ⟨t, h1, run_O h2 p⟩
/-- .. a method -/
theorem met_O {m qual : Str} {Cl : Addr} {st : Stmt} {f : Addr} {fd : FuncData} {N ps : List Str} {k : Nat} {G : Thing → List PyData → (PyData → Thing → Prop) → Prop} (c : Cls K Cl) (me : Meth K Cl m f) (Fn : C8.Fun K m qual st f fd) (b : Binds K fd ps []) (S : FnScope N ps (fnScope st)) (hG : ∀ T ds R, G T ds R → ds.length + 1 = ps.length)
    (body : ∀ (cdv : Value) (A : Around) (outer : List Env) (s : Shared) (H : Hp) (E : XK), Room k (A.deeper (envOfC qual (fnScope st) s.heap.objs.size f cdv)) → ∃ t, PSs (cxOf C8.CX0 P w K mg base N qual (fnScope st) f cdv A outer s H E).nox (fnBody st) t ∧
      ∀ T ds R, G T ds R → ES C t (startO N T ds) (fun e' => ∃ T', e'[0]? = some (.own T') ∧ R .none T') fun d e' => ∃ T', e'[0]? = some (.own T') ∧ R d T') : Met P w K mg base (k + 1) Cl m (spO C G) [] := by
  refine met0 c me Fn b S (spO_len hG) fun cdv A outer s H vs Q E hr p => ?_
  obtain ⟨t, h1, h2⟩ := body cdv A outer s H E hr
  exact ⟨t, h1, run_O h2 p⟩
end
end PD
end
section
set_option Elab.async false
set_option linter.all false
set_option maxRecDepth 100000
set_option maxHeartbeats 4000000
set_option autoImplicit false
namespace PD
open PySem L2
open PySem.W (Datum Tup)
variable [Tabl]

section
variable {C : Addr} {K : PySem.W.Frag} {pb : Bool} {e : List Sl} {te ta tb : TE} {tt : TT} {t : TA} {α β γ : Type} [Rep α] [Rep β] [Rep γ] {N : List Sl → Prop} {R : PyData → List Sl → Prop}

/-! ### lists of one's own -/
theorem erase_map {δ ε : Type} (f : δ → ε) : ∀ (xs : List δ) (n : Nat), (xs.map f).eraseIdx n = (xs.eraseIdx n).map f
  | [], _ => rfl
  | _ :: _, 0 => rfl
  | x :: xs, n + 1 => by
    show f x :: (xs.map f).eraseIdx n = f x :: (xs.eraseIdx n).map f
    rw [erase_map f xs n]
/-- .., the list changed to ys -/
theorem put_list {W : Wd} {F : Nat → Addr → Prop} {H : Hp} {σ : L2.St} {i : Nat} {ds ds' : List PyData} {l : Addr} {xs ys : List V} (s : SA C W F H σ e) (he : e[i]? = some (.own (LstT C ds))) (hσ : σ[i]? = some (some (V.ref l))) (hF : F i = fun b => b = l) (hl : H l = some (.lst xs)) (hz : ys.length ≤ 4096) (ha : AtAll C (Hd W F) H ys ds') :
    ∃ F', SA C W F' (upd H l (.lst ys)) σ (e.set i (.own (LstT C ds'))) ∧ Xt (Hd W F) H (upd H l (.lst ys)) ∧ (∀ b, Hd W F' b → Hd W F b ∨ H b = none) ∧ (∀ b, Hd W F' b → Hd W F b) := by
  have x : Xt (F i) H (upd H l (.lst ys)) := xt_upd (by rw [hF]) hl fun _ _ z => nomatch z
  have xh : Xt (Hd W F) H (upd H l (.lst ys)) := x.mono fun a z => .inr ⟨i, z⟩
  have hm : ∀ b, Hd W (Fs F i fun b => b = l) b → Hd W F b := fun b z => (hd_fs b z).elim id fun w => .inr ⟨i, by rw [hF]; exact w⟩
  refine ⟨Fs F i fun b => b = l, s.put he hσ x (fun a z => .inl (by rw [hF]; exact z)) ⟨l, ys, rfl, rfl, upd_same, hz, ?_⟩ (tabs_upd s.tabs hl), xh, fun b z => .inl (hm b z), hm⟩
  exact (ha.mono xh fun _ z => z).sub fun a z => .inl (z.elim id fun w => .inr ⟨i, by rw [hF]; exact w⟩)
/-- i.append(te) -/
theorem eg_append {i : Nat} {ds : List PyData} {a : α} (he : e[i]? = some (.own (LstT C ds))) (h : ED C te e a) (hl : ds.length < 4096) : EG C (tBM K "list" rAppend (tVar i) (tCons te tNil)) e fun (_ : Unit) e' => e' = e.set i (.own (LstT C (ds ++ [Rep.toD a]))) := fun W F σ H s Q q => by
  obtain ⟨v, hv, l, xs, rfl, hF, hL, hz, ha⟩ := s.own i _ he
  refine ⟨_, hv, ⟨.inl ⟨rfl, xs, SqL.of hL⟩, h W F σ H s _ fun w H2 x t2 => ?_⟩⟩
  have hx : xs.length = ds.length := ha.length
  refine ⟨l, xs, w, rfl, rfl, x.at _ _ hL, Nat.lt_of_lt_of_le (by omega : xs.length < 4096) (by decide), ?_⟩
  obtain ⟨F', s', xx, kk, kk2⟩ := put_list (s.same x) he hv hF (x.at _ _ hL) (ys := xs ++ [w]) (by rw [List.length_append, List.length_singleton]; omega) ((same_all x ha).app (.one t2))
  exact q () _ _ F' _ rfl s' (Xt.trans ((Xt.of x : Xt (fun _ => False) H H2).mono fun _ z => z.elim) xx) (fun b z => .inl (kk2 b z)) .non
/-- .. that may change more: the list as it stands then -/
theorem eg_appendG {i : Nat} {ds : List PyData} {P : α → List Sl → Prop} {P' : Unit → List Sl → Prop} (he : ∃ ds0, e[i]? = some (.own (LstT C ds0))) (h : EG C te e P) (k : ∀ a e', P a e' → ∃ ds, e'[i]? = some (.own (LstT C ds)) ∧ ds.length < 4096 ∧ P' () (e'.set i (.own (LstT C (ds ++ [Rep.toD a]))))) :
    EG C (tBM K "list" rAppend (tVar i) (tCons te tNil)) e P' := fun W F σ H s Q q => by
  obtain ⟨ds0, he⟩ := he
  obtain ⟨v, hv, l, xs, rfl, hF, hL, hz, ha⟩ := s.own i _ he
  refine ⟨_, hv, ⟨.inl ⟨rfl, xs, SqL.of hL⟩, h W F σ H s _ fun a e' w F1 H2 p s1 x kk1 t2 => ?_⟩⟩
  obtain ⟨ds1, he1, hlen, p'⟩ := k a e' p
  obtain ⟨v1, hv1, l1, xs1, rfl, hF1, hL1, hz1, ha1⟩ := s1.own i _ he1
  rw [hv] at hv1
  cases hv1
  have hx : xs1.length = ds1.length := ha1.length
  refine ⟨l, xs1, w, rfl, rfl, hL1, Nat.lt_of_lt_of_le (by omega : xs1.length < 4096) (by decide), ?_⟩
  obtain ⟨F', s', xx, kk, kk2⟩ := put_list s1 he1 hv hF1 hL1 (ys := xs1 ++ [w]) (by rw [List.length_append, List.length_singleton]; omega) (ha1.app (.one t2))
  exact q () _ _ F' _ p' s' (xt_trans x kk1 xx) (fun b z => kk1 b (kk2 b z)) .non
/-- i.extend(a list) -/
theorem eg_extend {i : Nat} {ds : List PyData} {as : List α} (he : e[i]? = some (.own (LstT C ds))) (h : EL C pb te e as) (hl : ds.length + as.length ≤ 4096) : EG C (tBM K "list" rExtend (tVar i) (tCons te tNil)) e fun (_ : Unit) e' => e' = e.set i (.own (LstT C (ds ++ as.map Rep.toD))) := fun W F σ H s Q q => by
  obtain ⟨v, hv, l, xs, rfl, hF, hL, hz, ha⟩ := s.own i _ he
  refine ⟨_, hv, ⟨.inl ⟨rfl, xs, SqL.of hL⟩, h W F σ H s _ fun p ys H2 _ x hp hz2 t2 => ?_⟩⟩
  have hx : xs.length = ds.length := ha.length
  have hy : ys.length = as.length := by rw [t2.length, List.length_map]
  refine ⟨l, p, xs, ys, rfl, rfl, x.at _ _ hL, hp, Nat.le_trans (by omega : xs.length + ys.length ≤ 4096) (by decide), ?_⟩
  obtain ⟨F', s', xx, kk, kk2⟩ := put_list (s.same x) he hv hF (x.at _ _ hL) (ys := xs ++ ys) (by rw [List.length_append]; omega) ((same_all x ha).app t2)
  exact q () _ _ F' _ rfl s' (Xt.trans ((Xt.of x : Xt (fun _ => False) H H2).mono fun _ z => z.elim) xx) (fun b z => .inl (kk2 b z)) .non
/-- i.pop() -/
theorem eg_pop {i : Nat} {as : List α} {a : α} (he : e[i]? = some (.own (LstT C ((as ++ [a]).map Rep.toD)))) : EG C (tBM0 K "list" rPop (tVar i)) e fun b e' => b = a ∧ e' = e.set i (.own (LstT C (as.map Rep.toD))) := fun W F σ H s Q q => by
  obtain ⟨v, hv, l, xs, rfl, hF, hL, hz, ha⟩ := s.own i _ he
  rw [List.map_append, List.map_cons, List.map_nil] at ha
  obtain ⟨ys, y, rfl, hy, hb⟩ : ∃ ys y, xs = ys ++ [y] ∧ AtAll C (Hd W F) H ys (as.map Rep.toD) ∧ At C (Hd W F) H y (Rep.toD a) := by
    have hlen : xs.length = as.length + 1 := by rw [ha.length]; simp
    have ht := ha.take as.length
    have hd := ha.drop as.length
    rw [List.take_left' (by simp)] at ht
    rw [List.drop_left' (by simp)] at hd
    cases hq : xs.drop as.length with
    | nil =>
      rw [hq] at hd
      cases hd
    | cons y r =>
      rw [hq] at hd
      cases hd with
      | cons h1 h2 =>
        cases h2
        exact ⟨xs.take as.length, y, by rw [← hq, List.take_append_drop], ht, h1⟩
  refine ⟨_, hv, ⟨.inl ⟨rfl, _, SqL.of hL⟩, l, ys ++ [y], y, rfl, rfl, hL, by simp, ?_⟩⟩
  rw [List.dropLast_concat]
  obtain ⟨F', s', xx, kk, kk2⟩ := put_list s (ds' := as.map Rep.toD) he hv hF hL (ys := ys) (by rw [List.length_append] at hz; omega) hy
  exact q a _ _ F' _ ⟨rfl, rfl⟩ s' xx kk ((hb.mono xx fun _ z => z).sub fun a z => .inl (kk2 a z))
/-- i.pop(te) -/
theorem eg_popAt {i : Nat} {P : Int → List Sl → Prop} {P' : α → List Sl → Prop} (he : ∃ ds0, e[i]? = some (.own (LstT C ds0))) (h : EG C te e P)
    (k : ∀ j e', P j e' → ∃ (as : List α) (n : Nat) (a : α), e'[i]? = some (.own (LstT C (as.map Rep.toD))) ∧ j = (n : Int) ∧ as[n]? = some a ∧ P' a (e'.set i (.own (LstT C ((as.eraseIdx n).map Rep.toD))))) :
    EG C (tBM K "list" rPopAt (tVar i) (tCons te tNil)) e P' := fun W F σ H s Q q => by
  obtain ⟨ds0, he⟩ := he
  obtain ⟨v, hv, l, xs, rfl, hF, hL, hz, ha⟩ := s.own i _ he
  refine ⟨_, hv, ⟨.inl ⟨rfl, xs, SqL.of hL⟩, h W F σ H s _ fun j e' w F1 H2 p s1 x kk1 t2 => ?_⟩⟩
  obtain ⟨as, n, a, he1, rfl, hn, p'⟩ := k j e' p
  obtain ⟨v1, hv1, l1, xs1, rfl, hF1, hL1, hz1, ha1⟩ := s1.own i _ he1
  rw [hv] at hv1
  cases hv1
  cases at_int t2
  have hx : xs1.length = as.length := by rw [ha1.length, List.length_map]
  have hlt : n < as.length := (List.getElem?_eq_some_iff.mp hn).1
  obtain ⟨y, hy, hb⟩ := ha1.get' (i := n) (d := Rep.toD a) (by rw [List.getElem?_map, hn] <;> rfl)
  have he2 : seqIndex? (n : Int) xs1.length = some n := (ixN_seq (n := xs1.length) (i := (n : Int)) (j := n) (by
    unfold ixN
    rw [if_pos (by omega), if_pos (by omega), Int.toNat_natCast])).1
  refine ⟨l, xs1, (n : Int), n, y, rfl, rfl, hL1, by omega, by omega, he2, hy, ?_⟩
  obtain ⟨F', s', xx, kk, kk2⟩ := put_list s1 (ds' := (as.eraseIdx n).map Rep.toD) he1 hv hF1 hL1 (ys := xs1.eraseIdx n) (Nat.le_trans (List.length_eraseIdx_le ..) hz1) (by
    have := ha1.erase n
    rw [erase_map] at this
    exact this)
  exact q a _ _ F' _ p' s' (xt_trans x kk1 xx) (fun b z => kk1 b (kk2 b z)) ((hb.mono xx fun _ z => z).sub fun a z => .inl (kk2 a z))

/-! ### lists of one's own as arguments of defs that only read, and tell no list -/
/-- arguments that are read alone -/
def EA0 (C : Addr) (ta : TA) (e : List Sl) (ds : List PyData) : Prop := ∀ (W : Wd) (F : Nat → Addr → Prop) (σ : L2.St) (H : Hp), SA C W F H σ e → ∀ Q : List V → Hp → Prop, (∀ vs H2, Same H H2 → AtAll C (fun _ => False) H2 vs ds → Q vs H2) → ta σ H Q
theorem EA.ea0 {ds : List PyData} (h : EA C t e ds) : EA0 C t e ds := fun W F σ H s Q q => h W F σ H s Q fun vs H2 x t => q vs H2 x (t.sub fun _ z => z.elim)
theorem ea0_cons {tr : TA} {a : α} {ds : List PyData} (h : ED C ta e a) (hr : EA0 C tr e ds) : EA0 C (tCons ta tr) e (Rep.toD a :: ds) := fun W F σ H s Q q =>
  h W F σ H s _ fun v H2 x2 a2 => hr W F σ H2 (s.same x2) _ fun vs H3 x3 a3 => q _ H3 (x2.trans x3) (.cons (same_at x3 (a2.sub fun _ z => z.elim)) a3)
theorem ea0_own {tr : TA} {i : Nat} {ds0 ds : List PyData} (h : e[i]? = some (.own (LstT C ds0))) (hr : EA0 C tr e ds) : EA0 C (tCons (tVar i) tr) e (.list ds0 :: ds) := fun W F σ H s Q q => by
  obtain ⟨v, hv, l, xs, rfl, hF, hL, hz, ha⟩ := s.own i _ h
  exact ⟨_, hv, hr W F σ H s _ fun vs H3 x3 a3 => q _ H3 x3 (.cons (.lst (fun z => z) (x3.at _ _ hL) hz (same_all x3 (ha.sub fun _ z => z.elim))) a3)⟩
mutual
theorem At.nol {h h' : Addr → Prop} {H : Hp} : ∀ {v : V} {d : PyData}, At C h H v d → nolist d = true → At C h' H v d
  | _, _, .non, _ => .non
  | _, _, .bl b, _ => .bl b
  | _, _, .int i, _ => .int i
  | _, _, .str z, _ => .str z
  | _, _, .lst n e z t, p => nomatch (show nolist (.list _) = true from p)
  | _, _, .tup e z t, p => .tup e z (AtAll.nol t p)
  | _, _, .shf .., p => nomatch (show nolist (.dict _) = true from p)
theorem AtAll.nol {h h' : Addr → Prop} {H : Hp} : ∀ {vs : List V} {ds : List PyData}, AtAll C h H vs ds → nolist.nolistAll ds = true → AtAll C h' H vs ds
  | _, _, .nil, _ => .nil
  | _, _, .cons r t, p => by
    have p' := p
    simp only [nolist.nolistAll, Bool.and_eq_true] at p'
    exact .cons (At.nol r p'.1) (AtAll.nol t p'.2)
end
theorem ed_call0 {G : List PyData → (PyData → Prop) → Prop} {ds : List PyData} {a : α} (h : EA0 C t e ds) (g : G ds fun d => d = Rep.toD a) (n : nolist (Rep.toD a) = true) : ED C (tCall (spD C G) [] C8.E0 t) e a := fun W F σ H s Q q => h W F σ H s _ fun vs H2 x t2 => by
  refine ⟨fun _ => False, ds, _, fun _ z => z.elim, (s.same x).tabs, by rw [List.append_nil]; exact t2, g, fun v d H3 r x3 a3 => ?_⟩
  subst r
  exact q v H3 (x.trans x3) (a3.nol n)

/-! ### what is walked: ranges, texts -/
theorem src_range1 {j : Nat} {i : Int} (h : EA C t e [.int i]) (h0 : 0 ≤ i) (hi : i ≤ 4096) : ESrc C pb (iRng1 t) (gName j) e ((List.range i.toNat).map fun (k : Nat) => [(j, PyData.int (k : Int))]) := fun W F σ H s R q => h W F σ H s _ fun vs H1 x t1 => by
  cases t1 with
  | cons r t1 =>
    cases t1
    cases r
    refine ⟨i, rfl, by omega, by omega, q _ H1 _ _ x (by rw [List.length_map, List.length_range]; exact walk_range) (by rw [List.length_map, List.length_range]; omega) (fun _ _ => trivial) fun k bs hb h2 H' y H'' _ _ yy => ?_⟩
    obtain ⟨rfl, rfl⟩ := yy
    rw [List.getElem?_map] at hb
    cases hk : (List.range i.toNat)[k]? with
    | none =>
      rw [hk] at hb
      cases hb
    | some k' =>
      rw [hk] at hb
      have e1 : k' = k := by
        have := (List.getElem?_eq_some_iff.mp hk).2
        rw [List.getElem_range] at this
        exact this.symm
      subst e1
      cases hb
      refine ⟨Same.refl _, gives_name ?_⟩
      show At C h2 H'' (V.int (0 + (k' : Int))) _
      rw [Int.zero_add]
      exact .int _
theorem src_str {j : Nat} {x : Str} (h : ED C te e x) (hl : x.length ≤ 4096) : ESrc C pb (iStr te) (gName j) e (x.cps.toList.map fun c => [(j, PyData.str ⟨#[c]⟩)]) := fun W F σ H s R q => h W F σ H s _ fun v H1 x1 t1 => by
  obtain ⟨rfl, hz⟩ := at_str t1
  refine ⟨x, rfl, q _ H1 _ _ x1 (by rw [List.length_map, Array.length_toList]; exact walk_str) (by rw [List.length_map, Array.length_toList]; exact hl) (fun _ _ => trivial) fun k bs hb h2 H' y H'' _ _ yy => ?_⟩
  obtain ⟨rfl, c, hc, rfl⟩ := yy
  rw [List.getElem?_map, Array.getElem?_toList, hc] at hb
  cases hb
  exact ⟨Same.refl _, gives_name (.str (by show (1 : Nat) ≤ 100000; decide))⟩
/-! ### texts -/
theorem ed_ixS {x : Str} {i : Int} {c : Nat} (ha : ED C ta e x) (hi : ED C tb e i) (h : atI x.cps.toList i = some c) : ED C (tOp rIxS ta tb) e (⟨#[c]⟩ : Str) := fun W F σ H s Q q => ha W F σ H s _ fun v H2 x2 a2 => hi W F σ H2 (s.same x2) _ fun y H3 x3 a3 => by
  obtain ⟨rfl, hz⟩ := at_str a2
  cases at_int a3
  exact ⟨x, i, c, rfl, rfl, Nat.le_trans hz (by decide), h, q _ H3 (x2.trans x3) (.str (by show (1 : Nat) ≤ 100000; decide))⟩
theorem rd_inSign {c : Nat} {z : Str} : RVD C (fun x y H Q => ∃ (c : Nat) (z : Str), x = .str ⟨#[c]⟩ ∧ y = .str z ∧ Q (.bl (decide (c ∈ z.cps.toList))) H) (⟨#[c]⟩ : Str) z (decide (c ∈ z.cps.toList)) := fun h H x y _ hx hy Q q => by
  obtain ⟨rfl, _⟩ := at_str hx
  obtain ⟨rfl, _⟩ := at_str hy
  exact ⟨c, z, rfl, rfl, q _ H (Same.refl H) (.bl _)⟩
theorem rd_notInSign {c : Nat} {z : Str} : RVD C (fun x y H Q => ∃ (c : Nat) (z : Str), x = .str ⟨#[c]⟩ ∧ y = .str z ∧ Q (.bl (!decide (c ∈ z.cps.toList))) H) (⟨#[c]⟩ : Str) z (!decide (c ∈ z.cps.toList)) := fun h H x y _ hx hy Q q => by
  obtain ⟨rfl, _⟩ := at_str hx
  obtain ⟨rfl, _⟩ := at_str hy
  exact ⟨c, z, rfl, rfl, q _ H (Same.refl H) (.bl _)⟩
theorem rd_isB {a b : Bool} : RVD C rIsB a b (decide (a = b)) := fun h H x y _ hx hy Q q => by
  cases at_bool hx
  cases at_bool hy
  exact ⟨a, b, rfl, rfl, q _ H (Same.refl H) (.bl _)⟩
theorem rd_notB {a b : Bool} : RVD C rNotB a b (!decide (a = b)) := fun h H x y _ hx hy Q q => by
  cases at_bool hx
  cases at_bool hy
  exact ⟨a, b, rfl, rfl, q _ H (Same.refl H) (.bl _)⟩

/-! ### lists joined -/
theorem ef_cat {pa : Bool} {as bs : List α} (ha : EL C pa ta e as) (hb : EL C pb tb e bs) (hl : as.length + bs.length ≤ 4096) : EF C (tOp rCat ta tb) e (as ++ bs) := fun W F σ H s Q q => ha W F σ H s _ fun p xs H2 _ x2 hp hz t2 => hb W F σ H2 (s.same x2) _ fun r ys H3 _ x3 hr hz2 t3 => by
  have h1 : xs.length = as.length := by rw [t2.length, List.length_map]
  have h2 : ys.length = bs.length := by rw [t3.length, List.length_map]
  refine ⟨p, r, xs, ys, rfl, rfl, x3.at _ _ hp, hr, Nat.le_trans (by omega : xs.length + ys.length ≤ 4096) (by decide), fun l hl => ?_⟩
  refine q l _ _ ((x2.trans x3).free hl) ((x2.trans x3).trans (same_new hl)) upd_same (by rw [List.length_append]; omega) ?_
  rw [List.map_append]
  exact same_all (same_new hl) (((same_all x3 t2).app t3).sub fun a z => z.imp id fun w => by rw [w]; exact hl)
theorem ed_catU {α : Type} [DecidableEq α] [Datum α] {a b : Tup α} (ha : ED C ta e a) (hb : ED C tb e b) (hl : a.items.length + b.items.length ≤ 4096) : ED C (tOp (rCatF K) ta tb) e (Tup.mk (a.items ++ b.items)) := fun W F σ H s Q q => ha W F σ H s _ fun v H2 x2 t2 => hb W F σ H2 (s.same x2) _ fun u H3 x3 t3 => by
  obtain ⟨p, xs, rfl, p1, p2, p3⟩ := at_tup t2
  obtain ⟨r, ys, rfl, r1, r2, r3⟩ := at_tup t3
  have h1 : xs.length = a.items.length := by rw [p3.length, List.length_map]
  have h2 : ys.length = b.items.length := by rw [r3.length, List.length_map]
  have p1' : TupA H3 p xs := let ⟨o, ho, hd⟩ := p1; ⟨o, x3.at _ _ ho, hd⟩
  refine ⟨p, r, xs, ys, rfl, rfl, p1'.sq, r1.sq, Nat.le_trans (by omega : xs.length + ys.length ≤ 4096) (by decide), fun z => ?_, fun z => ?_, fun l o ho hl => ?_⟩
  · refine q _ H3 (x2.trans x3) (show At C _ _ _ (.tuple ((a.items ++ b.items).map Rep.toD)) from .tup r1 r2 ?_)
    have za : a.items = [] := List.length_eq_zero_iff.mp (by rw [← h1, z]; rfl)
    rw [za, List.nil_append]
    exact r3
  · refine q _ H3 (x2.trans x3) (show At C _ _ _ (.tuple ((a.items ++ b.items).map Rep.toD)) from .tup p1' p2 ?_)
    have za : b.items = [] := List.length_eq_zero_iff.mp (by rw [← h2, z]; rfl)
    rw [za, List.append_nil]
    exact same_all x3 p3
  · refine q _ _ ((x2.trans x3).trans (same_new hl)) (show At C _ _ _ (.tuple ((a.items ++ b.items).map Rep.toD)) from .tup (frz_new ho) (by rw [List.length_append]; omega) ?_)
    rw [List.map_append]
    exact same_all (same_new hl) ((same_all x3 p3).app r3)

/-! ### isinstance -/
/-- the class of a value that is data -/
def tyOf : PyData → Option String
  | .none => some "NoneType"
  | .bool _ => some "bool"
  | .int _ => some "int"
  | .str _ => some "str"
  | .list _ => some "list"
  | .tuple _ => some "tuple"
  | _ => none
theorem at_ty {h : Addr → Prop} {H : Hp} {v : V} {d : PyData} {n : String} (q : At C h H v d) (e : tyOf d = some n) : TyX K H v (.type n) := by
  cases q with
  | non => cases e; exact .base .non
  | bl b => cases e; exact .base (.bl b)
  | int i => cases e; exact .base (.int i)
  | str _ => cases e; exact .base (.str _)
  | lst _ e1 => cases e; exact .base (.lst e1)
  | tup t => cases e; obtain ⟨o, ho, _⟩ := t; exact .fTuple ho
  | shf => cases e
theorem ed_isi {a : α} {n m : String} {b : Bool} (h : ED C te e a) (hn : tyOf (Rep.toD a) = some n) (hk : PySem.W.kitOne K (.type n) (.type m) = some b) : ED C (tCB (rIsi K) (tCons te (tCons (tC (.ty m)) tNil))) e b := fun W F σ H s Q q => h W F σ H s _ fun v H2 x t =>
  ⟨v, .ty m, .type n, .type m, b, rfl, .ty m, at_ty t hn, hk, q _ H2 x (.bl b)⟩
end
end PD
end
section
set_option Elab.async false
set_option linter.all false
set_option maxRecDepth 100000
set_option maxHeartbeats 4000000
set_option autoImplicit false
namespace PD
open PySem L2
open PySem.W (Datum Tup)
variable [Tabl]

/-! ### built-ins by their names -/
theorem bb_len : bootBuiltins "len" = some (.builtin "len") := by decide +kernel
theorem bb_min : bootBuiltins "min" = some (.builtin "min") := by decide +kernel
theorem bb_max : bootBuiltins "max" = some (.builtin "max") := by decide +kernel
theorem bb_sum : bootBuiltins "sum" = some (.builtin "sum") := by decide +kernel
theorem bb_any : bootBuiltins "any" = some (.builtin "any") := by decide +kernel
theorem bb_all : bootBuiltins "all" = some (.builtin "all") := by decide +kernel
theorem bb_sorted : bootBuiltins "sorted" = some (.builtin "sorted") := by decide +kernel
theorem bb_abs : bootBuiltins "abs" = some (.builtin "abs") := by decide +kernel
theorem bb_isinstance : bootBuiltins "isinstance" = some (.builtin "isinstance") := by decide +kernel
theorem bb_tuple : bootBuiltins "tuple" = some (.type "tuple") := by decide +kernel
theorem bb_list : bootBuiltins "list" = some (.type "list") := by decide +kernel
theorem bb_dict : bootBuiltins "dict" = some (.type "dict") := by decide +kernel
theorem bb_set : bootBuiltins "set" = some (.type "set") := by decide +kernel
theorem bb_int : bootBuiltins "int" = some (.type "int") := by decide +kernel
theorem bb_str : bootBuiltins "str" = some (.type "str") := by decide +kernel
theorem bb_range : bootBuiltins "range" = some (.type "range") := by decide +kernel
theorem bb_enumerate : bootBuiltins "enumerate" = some (.type "enumerate") := by decide +kernel
theorem bb_bool : bootBuiltins "bool" = some (.type "bool") := by decide +kernel
/-! ### names of relations -/
abbrev rSCat : R2 := fun x y H Q => ∃ i j, x = .str i ∧ y = .str j ∧ i.length + j.length ≤ sizeLine ∧ Q (.str (i ++ j)) H
abbrev rLenS : List V → Hp → VK → Prop := fun xs H Q => ∃ z, xs = [.str z] ∧ z.length ≤ sizeLine ∧ Q (.int z.length) H
abbrev rLenQ (K : PySem.W.Frag) : List V → Hp → VK → Prop := fun xs H Q => ∃ p ys, xs = [.ref p] ∧ (SqL K H p ys ∨ SqT K H p ys) ∧ Q (.int ys.length) H
abbrev rMin2 : List V → Hp → VK → Prop := fun xs H Q => ∃ i j, xs = [.int i, .int j] ∧ Q (.int (if j < i then j else i)) H
abbrev rMax2 : List V → Hp → VK → Prop := fun xs H Q => ∃ i j, xs = [.int i, .int j] ∧ Q (.int (if j > i then j else i)) H
abbrev rTupF (K : PySem.W.Frag) : List V → Hp → VK → Prop := fun xs H Q => ∃ p ys, xs = [V.ref p] ∧ ((SqL K H p ys ∧ ∀ l o, Pl o → H l = none → Q (V.ref l) (upd H l (.frz o (.tup ys)))) ∨ (SqT K H p ys ∧ Q (V.ref p) H))
abbrev rListQ (K : PySem.W.Frag) : List V → Hp → VK → Prop := fun xs H Q => ∃ p ys, xs = [.ref p] ∧ (SqL K H p ys ∨ SqT K H p ys) ∧ ∀ l, H l = none → Q (.ref l) (upd H l (.lst ys))
abbrev rSg : R2 := fun x y H Q => ∃ (c : Nat) (z : Str), x = .str ⟨#[c]⟩ ∧ y = .str z ∧ Q (.bl (decide (c ∈ z.cps.toList))) H
abbrev rSgN : R2 := fun x y H Q => ∃ (c : Nat) (z : Str), x = .str ⟨#[c]⟩ ∧ y = .str z ∧ Q (.bl (!decide (c ∈ z.cps.toList))) H

section
variable {X : Cx} {x : Str} {pos : Pos}
theorem op_sCat : OpR X (binaryOp .Add) rSCat := op_add_str
theorem pe_gI {i : Int} (hg : Gl X x) (h : ∃ t, X.mg x = some (.int i t)) (hd : (x == ("__debug__" : Str)) = false := by decide) : PE X (.Name x pos) (tC (.int i)) := by
  obtain ⟨t, ht⟩ := h
  exact pe_glob hg ht ⟨t, rfl⟩ hd
theorem pe_gS {i : Str} (hg : Gl X x) (h : ∃ t, X.mg x = some (.str i t)) (hd : (x == ("__debug__" : Str)) = false := by decide) : PE X (.Name x pos) (tC (.str i)) := by
  obtain ⟨t, ht⟩ := h
  exact pe_glob hg ht ⟨t, rfl⟩ hd
theorem pg_pair2 {a b : Str} {k : Nat} {p1 p2 : Pos} {i j : Nat} (hc : X.calm = true) (hN : X.N.Nodup) (hi : X.N[i]? = some a) (hj : X.N[j]? = some b) (ha : Loc X.env.scope a) (hb : Loc X.env.scope b)
    (hf : X.fn a = true ∨ X.env.scope.names.lookup a = some .local := by first | exact .inl rfl | exact .inr rfl) (hf2 : X.fn b = true ∨ X.env.scope.names.lookup b = some .local := by first | exact .inl rfl | exact .inr rfl) :
    PG X (.Tuple [.Name a p1, .Name b p2] k pos) (gTup X.K 2 (gCons (gName i) (gCons (gName j) gNil))) := pg_tup hc (pgs_cons (pg_name hN hi ha hf) (pgs_cons (pg_name hN hj hb hf2) pgs_nil))
end

/-! ### shelves -/
structure Sh where
  text : Str
  copies : Tup Str
  places : Tup (Str × Tup Int)
instance : Rep Sh := ⟨fun s => .dict [(Rep.toD s.text, .tuple [Rep.toD s.copies, Rep.toD s.places])]⟩
/-- what the text's class Shelf is -/
structure Shf (P : Program) (w : World) (K : PySem.W.Frag) (mg : Str → Option Value) (base : Heap) (C : Addr) : Prop where
  cl : Cls K C
  ins : C8.InsC K C
  nm : mg "Shelf" = some (.ref C)
  copies : ∃ (p g : Addr) (fd : FuncData), PropOf K C "copies" p g ∧ FnOk P w K mg base C8.CX0 1 g fd ["self"] (getSp C "own_copies") ∧ Binds K fd ["self"] []
section
variable {X : Cx} {C : Addr} {o : Expr} {ta : TE} {pos : Pos}
theorem pe_copies {k : Nat} (S : Shf X.prog X.w X.K X.mg X.base C) (hr : Room (k + 2) X.A) (ho : PE X o ta) (hab : attributeBase o "copies" X.env (eval o X.env) = eval o X.env := by rfl) : PE X (.Attribute o "copies" pos) (tProp C (getSp C "own_copies") [] C8.E0 ta) := by
  obtain ⟨p, g, fd, h1, h2, h3⟩ := S.copies
  exact pe_prop ho S.cl h1 h2 (hr.mono (by omega)) h3 .nil C8.pass0 hab
end
section
variable {C : Addr} {K : PySem.W.Frag} {pb : Bool} {e : List Sl} {te ta tb : TE} {tt : TT} {t : TA} {wi : TI} {g : TG} {vs : List Nat} {j : Nat} {α β γ : Type} [Rep α] [Rep β] [Rep γ]
theorem ed_copies {s : Sh} (h : ED C ta e s) : ED C (tProp C (getSp C "own_copies") [] C8.E0 ta) e s.copies := fun W F σ H hs Q q => h W F σ H hs _ fun v H2 x t => by
  have t' : At C (Hd W F) H2 v (.dict [(Rep.toD s.text, .tuple [Rep.toD s.copies, Rep.toD s.places])]) := t
  cases t' with
  | shf n e1 t1 t2 t3 => exact ⟨_, _, _, rfl, e1, _, _, _, _, rfl, e1, rfl, q _ H2 x t2⟩
theorem ed_non : ED C (tC .non) e () := fun W F σ H s Q q => q _ H (Same.refl H) .non
theorem ed_ite {b : Bool} {a : α} (h : ET C tt e b) (h1 : b = true → ED C ta e a) (h2 : b = false → ED C tb e a) : ED C (tIf tt ta tb) e a := ed_if h h1 h2
theorem ed_len_p {α β : Type} [DecidableEq α] [Datum α] [DecidableEq β] [Datum β] {a : α} {b : β} (h : ED C te e (a, b)) : ED C (tCB (rLenQ K) (tCons te tNil)) e (2 : Int) := fun W F σ H s Q q => h W F σ H s _ fun v H2 x t => by
  have t' : At C (Hd W F) H2 v (.tuple [Rep.toD a, Rep.toD b]) := t
  cases t' with
  | tup e z t =>
    have hl := t.length
    exact ⟨_, _, rfl, .inr e.sq, by rw [hl]; exact q _ H2 x (.int _)⟩
theorem rd_sCat {x y : Str} (hl : x.length + y.length ≤ 100000) : RVD C rSCat x y (x ++ y) := rd_strcat hl

/-! ### comprehensions by their forms -/
theorem ef_filter {xs : List γ} {b : γ → Bool} (hs : ESrc C true wi (gName j) e (xs.map fun x => [(j, Rep.toD x)])) (ht : ∀ x ∈ xs, ET C tt ((wipeE e vs).set j (.dat (Rep.toD x))) (b x)) (hv : noOwn e vs = true := by rfl) (h0 : 0 ∉ vs := by decide) (hj : j ∈ vs := by decide) (hlt : decide (j < e.length) = true := by rfl) :
    EF C (tLc wi (gName j) tt (tVar j) vs) e (xs.filter b) := by
  have h : EF C (tLc wi (gName j) tt (tVar j) vs) e ((xs.filter b).map id) := ef_lc b id hs ht (fun x hx _ W F σ H s Q q => by
    exact ed_var (by
      show ((wipeE e vs).set j (.dat (Rep.toD x)))[j]? = _
      rw [List.getElem?_set_self (by rw [wipeE_length]; exact of_decide_eq_true hlt)] <;> rfl) W F σ H s Q q) hv h0 fun x p hp => by
    rw [List.mem_singleton.mp hp]
    exact hj
  rw [List.map_id] at h
  exact h
theorem ef_map {xs : List γ} {f : γ → β} (hs : ESrc C true wi (gName j) e (xs.map fun x => [(j, Rep.toD x)])) (he : ∀ x ∈ xs, ED C te ((wipeE e vs).set j (.dat (Rep.toD x))) (f x)) (hv : noOwn e vs = true := by rfl) (h0 : 0 ∉ vs := by decide) (hj : j ∈ vs := by decide) :
    EF C (tLc wi (gName j) tYes te vs) e (xs.map f) := by
  have h : EF C (tLc wi (gName j) tYes te vs) e ((xs.filter fun _ => true).map f) := ef_lc (fun _ => true) f hs (fun x _ => et_yes) (fun x hx _ => he x hx) hv h0 fun x p hp => by
    rw [List.mem_singleton.mp hp]
    exact hj
  rw [List.filter_eq_self.mpr fun _ _ => rfl] at h
  exact h
theorem ef_both {xs : List γ} {b : γ → Bool} {f : γ → β} (hs : ESrc C true wi (gName j) e (xs.map fun x => [(j, Rep.toD x)])) (ht : ∀ x ∈ xs, ET C tt ((wipeE e vs).set j (.dat (Rep.toD x))) (b x)) (he : ∀ x ∈ xs, b x = true → ED C te ((wipeE e vs).set j (.dat (Rep.toD x))) (f x)) (hv : noOwn e vs = true := by rfl) (h0 : 0 ∉ vs := by decide) (hj : j ∈ vs := by decide) :
    EF C (tLc wi (gName j) tt te vs) e ((xs.filter b).map f) := ef_lc b f hs ht he hv h0 fun x p hp => by
    rw [List.mem_singleton.mp hp]
    exact hj
end
end PD
end
section
set_option Elab.async false
set_option linter.all false
set_option maxRecDepth 100000
set_option maxHeartbeats 4000000
set_option autoImplicit false
/-! enumerate(a tuple) -/
namespace PD
open PySem PySem.Spec PyProof.Rows L2
open PySem.W (Datum Tup)
variable [Tabl]

section
variable {prog : Program} {w : World} {A : Around} {E : Value → Shared → Prop} {s : Shared}
theorem nextOf_tup_item {it t : Addr} {i : Nat} {items : Array Value} {x : Value} {Q : Value → Shared → Prop} (hit : IsTupIter s.heap it t i) (ht : IsTup s.heap t items) (hx : items[i]? = some x)
    (hQ : ∀ h', IsTupIter h' it t (i + 1) → Heap.SameBut it s.heap h' → Q x { s with heap := h' }) : wpAny (model prog w) A (Builtin.SmallTypes.nextOf (.ref it)) Q E s := by
  unfold Builtin.SmallTypes.nextOf
  refine wpAny_bind (special_tup_item hit ht hx fun h' a b => ?_)
  exact wpAny_pure (hQ h' a b)
theorem nextOf_tup_end {it t : Addr} {i : Nat} {items : Array Value} {Q : Value → Shared → Prop} (hh : A.handled = none) (hit : IsTupIter s.heap it t i) (ht : IsTup s.heap t items) (hx : items[i]? = none)
    (hE : ∀ e h', Heap.ExtBut it s.heap h' → (∃ o, h'.get? e = some o ∧ o.cls = .type "StopIteration") → E (.ref e) { s with heap := h' }) : wpAny (model prog w) A (Builtin.SmallTypes.nextOf (.ref it)) Q E s := by
  unfold Builtin.SmallTypes.nextOf
  refine wpAny_bind (special_tup_end hh hit ht hx fun e h' a b => ?_)
  obtain ⟨c, o, vs, rfl, h1, h2, _⟩ := a
  exact hE c h' b ⟨o, h1, h2⟩
end
theorem draws_tup {prog : Program} {w : World} {A : Around} (hh : A.handled = none) (it t : Addr) (hne : t ≠ it) (items : Array Value) :
    Draws prog w A it [it, t] items.size (fun i v => items[i]? = some v) (fun i h => IsTupIter h it t i ∧ IsTup h t items) where
  live := fun _ _ st => let ⟨o, ho, _⟩ := st.1; ⟨o, ho⟩
  frame := fun _ _ _ st hk => ⟨let ⟨o, ho, r⟩ := st.1; ⟨o, hk it (by simp) o ho, r⟩, let ⟨o, ho, r⟩ := st.2; ⟨o, hk t (by simp) o ho, r⟩⟩
  item := fun i s Q E hi st hQ => by
    refine nextOf_tup_item st.1 st.2 (x := items[i]) (by simp [hi]) fun h' hit' hs' => ?_
    exact hQ _ h' s.toks (by simp [hi]) ⟨hit', let ⟨o, ho, r⟩ := st.2; ⟨o, hs'.extBut t o hne ho, r⟩⟩ hs'
  done := fun s Q E st hE => nextOf_tup_end hh st.1 st.2 (by simp) fun e h' b c => hE h' e b c

section
variable {prog : Program} {w : World} {A : Around} {E : Value → Shared → Prop} {s : Shared}
set_option maxHeartbeats 4000000 in
theorem meets_enumerate_newT (t : Addr) (items : Array Value) (n : Nat) (dct : Option Addr) (sl : Array (Option Value)) :
    Meets (Builtin.«enumerate.__new__» ⟨[.type "enumerate", .ref t], []⟩) (fun _ R s => s.heap.get? t = some { cls := .type "tuple", dict := dct, data := .seq items n, slots := sl } ∧
      R (.ok (.ret (.ref (s.heap.push { cls := .type "tuple_iterator", data := .fields #[.ref t, .int 0 0] }).objs.size)))
        { s with heap := (s.heap.push { cls := .type "tuple_iterator", data := .fields #[.ref t, .int 0 0] }).push { cls := .type "enumerate", data := .fields #[.none, .bool false, .ref s.heap.objs.size, rawInt 0, .none, .none] } }) :=
  .of_wp fun prog w A R s h => by
    obtain ⟨hp, g, d, tk, os⟩ := s; obtain ⟨hl, h⟩ := h
    have hsub := sub_enumerate
    have hL : Heap.IsTuple (Shared.heap ⟨hp, g, d, tk, os⟩) t items := ⟨_, hl, rfl, n, rfl⟩
    wp_walk using wpAny_loadPart' hl
    refine wpAny_stack_any fun st => wpAny_pure ?_
    split
    · rename_i c _ _ _ _ _
      cases (c == Value.type "enumerate")
      · wp_walk using wpAny_loadPart' hl, wpAny_pyIter_tuple hL
        exact ⟨_, rfl, h⟩
      · wp_walk using wpAny_loadPart' hl, wpAny_pyIter_tuple hL
        exact ⟨_, rfl, h⟩
    · wp_walk using wpAny_loadPart' hl, wpAny_pyIter_tuple hL
      exact ⟨_, rfl, h⟩
theorem call_enumerate_tup {t : Addr} {items : Array Value} {Q : Value → Shared → Prop} (hL : IsTup s.heap t items)
    (h : ∀ h', IsEnum h' (s.heap.objs.size + 1) s.heap.objs.size 0 .none → IsTupIter h' s.heap.objs.size t 0 → h'.objs.size = s.heap.objs.size + 2 →
      (∀ b o, s.heap.get? b = some o → h'.get? b = some o) → Q (.ref (s.heap.objs.size + 1)) { s with heap := h' }) :
    wpAny (model prog w) A (call (.type "enumerate") [.ref t]) Q E s := by
  obtain ⟨⟨c, dct, dt, sl⟩, hl, hc, n, hd⟩ := hL
  replace hc : c = .type "tuple" := hc
  replace hd : dt = .seq items n := hd
  subst hc hd
  refine callType_new F.called_enumerate (by decide) (F.typeCall_enumerate_1 _) (F.newCall_enumerate_1 _) (fun obj => F.args_object_init_2 obj _) F.entry_enumerate_new
    (meets_enumerate_newT t items n dct sl) ⟨hl, ?_⟩
  have hz : (s.heap.push { cls := .type "tuple_iterator", data := .fields #[.ref t, .int 0 0] }).objs.size = s.heap.objs.size + 1 := Heap.size_push ..
  show _ ∧ _
  rw [hz]
  have he : IsEnum ((s.heap.push { cls := .type "tuple_iterator", data := .fields #[.ref t, .int 0 0] }).push
      { cls := .type "enumerate", data := .fields #[.none, .bool false, .ref s.heap.objs.size, rawInt 0, .none, .none] }) (s.heap.objs.size + 1) s.heap.objs.size 0 .none := by
    have := Heap.get?_push_size (s.heap.push { cls := .type "tuple_iterator", data := .fields #[.ref t, .int 0 0] })
      (o := { cls := .type "enumerate", data := .fields #[.none, .bool false, .ref s.heap.objs.size, rawInt 0, .none, .none] }) rfl
    rw [hz] at this; exact this
  refine ⟨⟨_, he, rfl⟩, h _ he ⟨_, Heap.get?_push_of_some _ (Heap.get?_push_size _ rfl), rfl, rfl⟩ (by rw [Heap.size_push, hz]) fun b o x => Heap.get?_push_of_some _ (Heap.get?_push_of_some _ x)⟩
end

section
variable {prog : Program} {w : World} {A : Around} {E : Value → Shared → Prop} {s : Shared}
theorem enum_tup_end {e it t : Addr} {i : Nat} {items : Array Value} {old : Value} {Q : Option Value → Shared → Prop} (hh : A.handled = none)
    (he : IsEnum s.heap e it i old) (hit : IsTupIter s.heap it t i) (ht : IsTup s.heap t items) (hx : items[i]? = none)
    (hQ : ∀ h', Heap.ExtBut it s.heap h' → Q none { s with heap := h' }) : wpAny (model prog w) A (pyNext (.ref e)) Q E s := by
  have hT : s.TypeIs (.ref e) "enumerate" := ⟨_, he, rfl⟩
  unfold pyNext
  refine wpAny_bind (wpAny_attempt (wpAny_callSpecial?_slot (name := Str.ofString "__next__") hT F.slot_enumerate_next
    (wpAny_call_entry F.slot_enumerate_next hT F.entry_enumerate_next ?_ (F.args_enumerate_next_1 _))))
  show wpAny _ _ (field (.ref e) 2 >>= _) _ _ _
  refine wpAny_bind (wpAny_field he rfl (x := .ref it) rfl ?_)
  refine wpAny_bind (nextOf_tup_end hh hit ht hx fun a h' he' hx' => ?_)
  obtain ⟨o, ho, hc⟩ := hx'
  refine wpAny_bind (wpAny_isInstance (T := "StopIteration") (b := true) ⟨o, ho, hc⟩ isSubtype_stop ?_)
  exact wpAny_pure (hQ _ he')
end
/-- the tuple at a, each item in a new pair -/
def Iet (K : PySem.W.Frag) (a : Addr) : It :=
  ⟨fun i H => ∃ (xs : List V) (x : V), SqT K H a xs ∧ xs[i]? = some x, fun i H v H' => ∃ T x, v = .ref T ∧ H T = none ∧ H' = upd H T (.tup [.int (i : Nat), x]) ∧ ∀ xs, SqT K H a xs → xs[i]? = some x, fun i H => ∃ xs : List V, SqT K H a xs ∧ xs.length ≤ i⟩
theorem tupIter_at {h h' : Heap} {it a : Addr} {i : Nat} (x : IsTupIter h it a i) (k : ∀ o, h.get? it = some o → h'.get? it = some o) : IsTupIter h' it a i := let ⟨o, ho, r⟩ := x; ⟨o, k o ho, r⟩
theorem turn_enumT {P : Program} {w : World} {K : PySem.W.Frag} {elts : List Expr} {kk : Nat} {tpos : Pos} (a e it : Addr) :
    Turn P w K (.Tuple elts kk tpos) (Iet K a) [e, it] e (fun i h => (∃ old, IsEnum h e it ((i : Nat) : Int) old) ∧ IsTupIter h it a i ∧ e ≠ it) where
  mem := by simp
  obj := fun i h st b hb => by
    obtain ⟨⟨old, he⟩, ⟨o, ho, hc, hd⟩, _⟩ := st
    have e' : b = e ∨ b = it := by simpa using hb
    rcases e' with z | z
    · rw [z]; exact ⟨_, he, fun v q => nomatch q⟩
    · rw [z]; exact ⟨o, ho, fun v q => by rw [hd] at q; cases q⟩
  keep := fun i h h' st k => let ⟨⟨old, he⟩, hi, hne⟩ := st; ⟨⟨old, k e (by simp) _ he⟩, tupIter_at hi fun o q => k it (by simp) o q, hne⟩
  item := by
    intro X hP hw hK hc i pins s σ H E I hf st hg
    subst hP hw hK
    obtain ⟨⟨old, he⟩, hit, hne⟩ := st
    obtain ⟨xs, x, hq, hx⟩ := hg
    obtain ⟨its, rv, p, hz⟩ := I.tuple hq
    obtain ⟨u, hu, ru⟩ := rv.get hx
    have hel : e < s.heap.objs.size := Heap.lt_size he
    have hil : it < s.heap.objs.size := by obtain ⟨_, q, _⟩ := hit; exact Heap.lt_size q
    have hai : a ≠ it := fun z => by
      obtain ⟨o1, q1, c1, _⟩ := hit
      obtain ⟨o2, q2, c2, _⟩ := p
      rw [z, q1] at q2
      cases q2
      rw [c1] at c2
      exact absurd (Value.type.inj c2) (by decide)
    have hae : e ≠ a := fun z => by
      obtain ⟨o2, q2, c2, _⟩ := p
      rw [← z, he] at q2
      cases q2
      exact absurd (Value.type.inj c2) (by decide)
    have hlen : i < its.toArray.size := by
      have := (List.getElem?_eq_some_iff.mp hu).1
      simpa using this
    refine wpAny_pyNext_enum_itemD (draws_tup (A := X.A.in1) (show X.A.in1.handled = none from I.ok.hd hc) it a hai its.toArray) he ⟨hit, p⟩ hlen hne (by simp [hne, hae]) fun v h' tk hv ho st' hT hsz hk => ?_
    have hvu : v = u := by
      have : its[i]? = some v := by simpa using hv
      rw [hu] at this
      exact (Option.some.inj this).symm
    subst hvu
    obtain ⟨hit', p'⟩ := st'
    refine ⟨_, rfl, wpAny_letOwnedTupleGo_enum (s := { s with heap := h', toks := tk + 1 }) ho fun h'' he' sb => ?_⟩
    have hT2 : h''.get? s.heap.objs.size = some { cls := .type "tuple", data := .seq #[.int i tk, v] } := (sb.2 _ (Nat.ne_of_gt hel)).trans hT
    have new : ObjOk X.prog X.w (upd H s.heap.objs.size (.tup [.int (i : Nat), x])) h'' s.heap.objs.size (.tup [.int (i : Nat), x]) :=
      ⟨by show 2 ≤ sizeLine; decide, [.int i tk, v], .cons ⟨_, rfl⟩ (.cons ru .nil), ⟨_, hT2, rfl, _, rfl⟩⟩
    have I1 : Inv X pins σ (upd H s.heap.objs.size (.tup [.int (i : Nat), x])) { s with heap := h'', toks := tk + 1 } :=
      I.turnedNew (ch := [e, it]) (fun b ob hb q => (sb.2 b (fun z => hb (by simp [z]))).trans (hk b ob (fun z => hb (by simp [z])) (fun z => hb (by simp [z])) q)) hf (Nat.le_refl _) new
    refine ⟨.ref s.heap.objs.size, _, I1, rfl, ⟨_, x, rfl, I.hok.fresh (Nat.le_refl _), rfl, fun ys hy => by rw [I.tuple_inj hy hq]; exact hx⟩, ⟨⟨v, ?_⟩, tupIter_at hit' fun o q => (sb.2 it (Ne.symm hne)).trans q, hne⟩, fun b hb => ?_⟩
    · have e1 : ((i + 1 : Nat) : Int) = (i : Int) + 1 := by omega
      rw [e1]; exact he'
    · have hb' : b < s.heap.objs.size := by
        have e' : b = e ∨ b = it := by simpa using hb
        rcases e' with z | z
        · rw [z]; exact hel
        · rw [z]; exact hil
      rw [upd_ne (Nat.ne_of_lt hb')]
      exact (hf b hb).1
  done := by
    intro X hP hw hK hc i pins s σ H E I hf st hg
    subst hP hw hK
    obtain ⟨⟨old, he⟩, hit, hne⟩ := st
    obtain ⟨xs, hq, hx⟩ := hg
    obtain ⟨its, rv, p, hz⟩ := I.tuple hq
    obtain ⟨f0, f1, f2, f3, f4, f5⟩ := hf it (by simp)
    have hl := rv.length
    exact enum_tup_end (I.ok.hd hc) he hit p (by simp; omega) fun h' eb => ⟨rfl, I.turned (t' := s.toks) (fun b o hb q => eb b o hb q) f0 f1 f3 f4 f5⟩
  self := fun A i s Q E st h => let ⟨⟨_, he⟩, _⟩ := st; wpAny_pyIter_enum he h

def iEnumT (K : PySem.W.Frag) (ta : TA) : TI := fun σ H R => ta σ H fun vs H1 => ∃ a xs, vs = [.ref a] ∧ SqT K H1 a xs ∧ R (Iet K a) H1
theorem pi_enumT {X : Cx} {e : Expr} {ta : TA} {p pos tpos : Pos} {elts : List Expr} {kk : Nat} (hg : Gl X "enumerate") (hm : X.mg "enumerate" = none) (ha : PA X [e] ta) (hs : starEach [e] X.env = [(false, eval e X.env)] := by rfl) :
    PI X (.Tuple elts kk tpos) (.Call (.Name "enumerate" p) [e] [] pos) (iEnumT X.K ta) := by
  refine ⟨fun pins s σ H R I h => ?_⟩
  refine Call_ (ld_blt I hg hm boot_enumerate (PyProof.Rows.callWith_type1 (thn (ha.run pos pins s σ H _ I h) fun us s1 ⟨vs, H1, I1, r1, q1⟩ => ?_) hs rfl))
  obtain ⟨a, xs, ex, hq, q⟩ := q1
  subst ex
  cases r1 with
  | cons r rr =>
    cases rr
    cases r
    obtain ⟨its, rv, p', hz⟩ := I1.tuple hq
    refine call_enumerate_tup p' fun h' he hit hsz hk => wpAny_pyIter_enum he ?_
    have I2 : Inv X pins σ H1 { s1 with heap := h' } := I1.kept (t' := s1.toks) hk
    refine ⟨s1.heap.objs.size + 1, [s1.heap.objs.size + 1, s1.heap.objs.size], _, _, H1, rfl, I2, turn_enumT a (s1.heap.objs.size + 1) s1.heap.objs.size, ⟨⟨.none, he⟩, hit, Nat.succ_ne_self _⟩, fun b hb => ?_, q⟩
    have e' : b = s1.heap.objs.size + 1 ∨ b = s1.heap.objs.size := by simpa using hb
    have hle : s1.heap.objs.size ≤ b := by
      rcases e' with z | z
      · rw [z]; exact Nat.le_add_right _ _
      · rw [z]; exact Nat.le_refl _
    exact I1.fpOk hle (I1.hok.fresh hle)
theorem walk_enumT {K : PySem.W.Frag} {a : Addr} {xs : List V} : Walk (Iet K a) xs.length (fun H => SqT K H a xs) (YPair (fun i => some (.int (i : Nat))) (fun i => xs[i]?)) := by
  refine ⟨fun i _ hi q => ⟨xs, xs[i], q, by simp [hi]⟩, fun _ q => ⟨xs, q, Nat.le_refl _⟩, fun i H v H' _ q y => ?_⟩
  obtain ⟨T, x, h1, h2, h3, h4⟩ := y
  exact ⟨T, .int (i : Nat), x, h1, h2, h3, rfl, h4 xs q⟩

section
variable {C : Addr} {K : PySem.W.Frag} {pb : Bool} {e : List Sl} {te ta tb : TE} {i j : Nat} {α β : Type} [Rep α] [Rep β]
/-- a pair just made is taken apart -/
theorem gives_pair {h : Addr → Prop} {H : Hp} {v x y : V} {T : Addr} {d d' : PyData} (hv : v = .ref T) (hT : H T = some (.tup [x, y])) (q : AtAll C h H [x, y] [d, d']) : Gives C h (gTup K 2 (gCons (gName i) (gCons (gName j) gNil))) v H [(i, d), (j, d')] := fun σ k r => by
  subst hv
  exact ⟨T, [x, y], rfl, SqT.of hT, rfl, x, [y], rfl, y, [], rfl, rfl, r H [x, y] (Same.refl H) q⟩
def encE (i j : Nat) (p : Nat × α) : List (Nat × PyData) := [(i, .int (p.1 : Int)), (j, Rep.toD p.2)]
theorem enum_item {xs : List α} {k : Nat} {bs : List (Nat × PyData)} (hb : ((xs.zipIdx.map fun p => (p.2, p.1)).map (encE i j))[k]? = some bs) : ∃ x, xs[k]? = some x ∧ bs = [(i, .int (k : Int)), (j, Rep.toD x)] := by
  rw [List.getElem?_map, List.getElem?_map, List.getElem?_zipIdx] at hb
  cases hx : xs[k]? with
  | none =>
    rw [hx] at hb
    cases hb
  | some x =>
    rw [hx] at hb
    refine ⟨x, rfl, ?_⟩
    have := (Option.some.inj hb).symm
    simpa [encE] using this
/-- the numbered items -/
def nums (xs : List α) : List (Nat × α) := xs.zipIdx.map fun p => (p.2, p.1)
theorem src_enumL {xs : List α} {tl : TE} (hs : EL C pb tl e xs) : ESrc C pb (iEnum K (tCons tl tNil)) (gTup K 2 (gCons (gName i) (gCons (gName j) gNil))) e ((nums xs).map (encE i j)) := fun W F σ H s R q => hs W F σ H s _ fun p ys H1 hn x1 hl hz t => by
  have hlen : ys.length = ((nums xs).map (encE i j)).length := by rw [t.length, List.length_map, List.length_map, nums, List.length_map, List.length_zipIdx]
  refine ⟨p, ys, rfl, SqL.of hl, q _ H1 _ _ x1 (hlen ▸ walk_enum) (hlen ▸ hz) (fun H' x => SqL.of (x.keep _ _ (fun z => hn z.1 z.2) hl)) fun k bs hb h2 H' x H'' k2 xx y => ?_⟩
  obtain ⟨T, a, b, rfl, hT, rfl, ha, hy⟩ := y
  obtain ⟨x', hx', rfl⟩ := enum_item hb
  cases ha
  obtain ⟨x2, hx2, _, ax⟩ := get_data t hy
  rw [hx'] at hx2
  cases hx2
  exact ⟨same_new hT, gives_pair rfl upd_same (.cons (.int _) (.cons (same_at (same_new hT) (kp_step ax xx k2)) .nil))⟩
theorem src_enumU {xs : List α} {tl : TE} (hs : EU C K tl e xs) : ESrc C pb (iEnumT K (tCons tl tNil)) (gTup K 2 (gCons (gName i) (gCons (gName j) gNil))) e ((nums xs).map (encE i j)) := fun W F σ H s R q => hs W F σ H s _ fun p ys H1 x1 hl hz t => by
  have hlen : ys.length = ((nums xs).map (encE i j)).length := by rw [t.length, List.length_map, List.length_map, nums, List.length_map, List.length_zipIdx]
  refine ⟨p, ys, rfl, hl.t, q _ H1 _ _ x1 (hlen ▸ walk_enumT) (hlen ▸ hz) (fun H' x => (hl.xt x).t) fun k bs hb h2 H' x H'' k2 xx y => ?_⟩
  obtain ⟨T, a, b, rfl, hT, rfl, ha, hy⟩ := y
  obtain ⟨x', hx', rfl⟩ := enum_item hb
  cases ha
  obtain ⟨x2, hx2, _, ax⟩ := get_data t hy
  rw [hx'] at hx2
  cases hx2
  exact ⟨same_new hT, gives_pair rfl upd_same (.cons (.int _) (.cons (same_at (same_new hT) (kp_step ax xx k2)) .nil))⟩
end
end PD
end
section
set_option Elab.async false
set_option linter.all false
set_option maxRecDepth 100000
set_option maxHeartbeats 4000000
set_option autoImplicit false
namespace PD
open PySem PySem.Spec PyProof.Rows L2
open PySem.W (Datum Tup)
variable [Tabl]

/-! ### xs.extend(a tuple) -/
def rExtU : V → List V → Hp → VK → Prop := fun x vs H Q => ∃ l b xs zs, x = .ref l ∧ vs = [.ref b] ∧ H l = some (.lst xs) ∧ TupA H b zs ∧ xs.length + zs.length ≤ sizeLine ∧ Q .non (upd H l (.lst (xs ++ zs)))
section
variable {X : Cx}
theorem mt_extU : MtM X "list.extend" rExtU := by
  intro pins s σ H x vs v us Q I rx rv h
  obtain ⟨l, b, xs, zs, rfl, rfl, hH, ⟨ob, hB, pl1, pl2⟩, hz, q⟩ := h
  cases rx
  obtain ⟨u, rfl, ru⟩ := rv.one
  cases ru
  obtain ⟨z, its, n, r, hl, e⟩ := I.lstM hH
  obtain ⟨eg, z2, its2, r2, o2, ho2, hc2, n2, hd2⟩ := I.hok b _ hB
  rw [eg] at ho2
  cases ho2
  have e2 : s.heap.get? b = some { cls := .type "tuple", dict := none, data := .seq its2.toArray n2, slots := #[] } := by
    rw [eg]
    obtain ⟨c, d, da, sl⟩ := ob
    simp only at pl1 pl2 hc2 hd2
    rw [pl1, pl2, hc2, hd2]
  have h2 := r2.length
  have hsz : its.toArray.size + its2.toArray.size ≤ sizeLine := by rw [List.size_toArray, List.size_toArray]; omega
  have hlong : ¬ (!its.toArray.isEmpty && Builtin.List.listTooLong (its.toArray.size + its2.toArray.size)) = true := by
    rw [notLongL hsz, Bool.and_false]
    exact Bool.false_ne_true
  refine call_meets F.slot_list_extend ⟨_, e, rfl⟩ F.entry_list_extend (F.args_list_extend_2 _ _)
    (AutoSeq1.list_extend_list_tuple_0 l its.toArray n b its2.toArray n2 hlong (by rw [List.size_toArray]; omega) (by omega)) ⟨e, e2, ?_⟩
  refine ⟨.non, _, I.lset (its' := its ++ its2) hH e (by simp) (r.append r2) ?_, rfl, q⟩
  rw [List.length_append]
  omega
/-! ### t.index(x) -/
def rIdxT (K : PySem.W.Frag) (α : Type) [DecidableEq α] [Datum α] : V → List V → Hp → VK → Prop := fun x xs H Q => ∃ (p : Addr) (ys : List V) (as : List α) (a : α) (y : V), x = .ref p ∧ xs = [y] ∧ SqT K H p ys ∧ DpAll K H ys (as.map Rep.toD) ∧ Dp K H y (Rep.toD a) ∧ a ∈ as ∧ Q (.int ((as.idxOf a : Nat) : Int)) H
theorem mt_idxT {α : Type} [DecidableEq α] [Datum α] (hu : X.A.units + 64 < cLine) (hd : Datum.depth α ≤ 50) : MtR X "tuple.index" (rIdxT X.K α) := by
  intro pins s σ H x xs v us Q I rx rs h
  obtain ⟨p, ys, as, a, y, rfl, rfl, hq, hds, hy, ha, q⟩ := h
  cases rx
  obtain ⟨u, rfl, ru⟩ := rs.one
  obtain ⟨bs, r1⟩ := Dp.reads I (Rep.toD a) y u hy ru
  obtain ⟨its, rv, pl, hz⟩ := I.tuple hq
  obtain ⟨bs', r2⟩ := Dp.readsAll I (as.map Rep.toD) _ its hds rv
  exact PySem.W.index_tuple_datum (xs := as) (x := a) pl ⟨bs', r2⟩ ⟨bs, r1⟩ (by omega) ha ⟨.int _, H, I.tok _, ⟨_, rfl⟩, q⟩
end

/-! ### isinstance(x, the class at C) -/
def rIsC (C : Addr) : List V → Hp → VK → Prop := fun xs H Q => ∃ a dx fs, xs = [.ref a, .ref C] ∧ H a = some (.ins C dx fs) ∧ Q (.bl true) H

/-! ### a list or a tuple -/
structure Sq (α : Type) where
  tup : Bool
  items : List α
instance {α : Type} [Rep α] : Rep (Sq α) := ⟨fun s => if s.tup then .tuple (s.items.map Rep.toD) else .list (s.items.map Rep.toD)⟩
def iSeq (K : PySem.W.Frag) (te : TE) : TI := fun σ H R => iList K te σ H R ∨ iTup K te σ H R
theorem pi_seq {X : Cx} {tg e : Expr} {te : TE} (he : PE X e te) : PI X tg e (iSeq X.K te) := ⟨fun pins s σ H R I h => h.elim (fun h => (pi_list he).run pins s σ H R I h) fun h => (pi_tup he).run pins s σ H R I h⟩

section
variable {C : Addr} {K : PySem.W.Frag} {pb : Bool} {e : List Sl} {te ta tb : TE} {t : TA} {j : Nat} {α β : Type} [DecidableEq α] [Datum α]
theorem ED.sqL {as : List α} (h : ED C te e as) : ED C te e (Sq.mk false as) := h
theorem ED.sqU {a : Tup α} (h : ED C te e a) : ED C te e (Sq.mk true a.items) := h
theorem src_seq {s : Sq α} (h : ED C te e s) : ESrc C pb (iSeq K te) (gName j) e (s.items.map fun x => [(j, Rep.toD x)]) := by
  obtain ⟨b, as⟩ := s
  cases b with
  | false =>
    have h' : ED C te e as := h
    exact fun W F σ H s R q => .inl (src_list (K := K) h'.el W F σ H s R q)
  | true =>
    have h' : ED C te e (Tup.mk as) := h
    exact fun W F σ H s R q => .inr (src_tup (K := K) h'.eu W F σ H s R q)
theorem ed_isC {s : Sh} (h : ED C ta e s) : ED C (tCB (rIsC C) (tCons ta (tCons (tC (.ref C)) tNil))) e true := fun W F σ H hs Q q => h W F σ H hs _ fun v H2 x t => by
  have t' : At C (Hd W F) H2 v (.dict [(Rep.toD s.text, .tuple [Rep.toD s.copies, Rep.toD s.places])]) := t
  cases t' with
  | shf n e1 t1 t2 t3 => exact ⟨_, _, _, rfl, e1, q _ H2 x (.bl true)⟩
theorem ed_index {a : Tup α} {x : α} (ha : ED C ta e a) (hx : ED C tb e x) (hm : x ∈ a.items) : ED C (tTM (rIdxT K α) ta (tCons tb tNil)) e ((a.items.idxOf x : Nat) : Int) := fun W F σ H s Q q => ha W F σ H s _ fun v H2 x2 t2 => by
  obtain ⟨p, vs, rfl, h1, h2, h3⟩ := at_tup t2
  refine ⟨⟨p, vs, rfl, h1⟩, hx W F σ H2 (s.same x2) _ fun y H3 x3 t3 => ?_⟩
  exact ⟨p, vs, a.items, x, y, rfl, rfl, same_tup x3 h1.sq, dps_same x3 (h3.dp (PySem.W.plainAll_map a.items)), t3.dp (Datum.plain x), hm, q _ H3 (x2.trans x3) (.int _)⟩
theorem eg_extU {i : Nat} {ds : List PyData} {a : Tup α} (he : e[i]? = some (.own (LstT C ds))) (h : ED C te e a) (hl : ds.length + a.items.length ≤ 4096) : EG C (tBM K "list" rExtU (tVar i) (tCons te tNil)) e fun (_ : Unit) e' => e' = e.set i (.own (LstT C (ds ++ a.items.map Rep.toD))) := fun W F σ H s Q q => by
  obtain ⟨v, hv, l, xs, rfl, hF, hL, hz, ha⟩ := s.own i _ he
  refine ⟨_, hv, ⟨.inl ⟨rfl, xs, SqL.of hL⟩, h W F σ H s _ fun w H2 x t2 => ?_⟩⟩
  obtain ⟨p, ys, rfl, h1, h2, h3⟩ := at_tup t2
  have hx : xs.length = ds.length := ha.length
  have hy : ys.length = a.items.length := by rw [h3.length, List.length_map]
  refine ⟨l, p, xs, ys, rfl, rfl, x.at _ _ hL, h1, Nat.le_trans (by omega : xs.length + ys.length ≤ 4096) (by decide), ?_⟩
  obtain ⟨F', s', xx, kk, kk2⟩ := put_list (s.same x) he hv hF (x.at _ _ hL) (ys := xs ++ ys) (by rw [List.length_append]; omega) ((same_all x ha).app h3)
  exact q () _ _ F' _ rfl s' (Xt.trans ((Xt.of x : Xt (fun _ => False) H H2).mono fun _ z => z.elim) xx) (fun b z => .inl (kk2 b z)) .non
end
end PD
end
section
set_option Elab.async false
set_option linter.all false
set_option maxRecDepth 100000
set_option maxHeartbeats 4000000
set_option autoImplicit false
namespace PD
open PySem PySem.Spec PyProof.Rows L2
open PySem.W (Datum Tup)
variable [Tabl]

/-! ### data as keys -/
mutual
def nk : PyData → NestedKey
  | .none => .none
  | .bool b => .num (if b = true then 1 else 0)
  | .int i => .num i
  | .str x => .text x
  | .tuple ds => .tup (nks ds)
  | _ => .none
def nks : List PyData → List NestedKey
  | [] => []
  | d :: ds => nk d :: nks ds
end
mutual
def keyable : PyData → Bool
  | .none => true
  | .bool _ => true
  | .int _ => true
  | .str _ => true
  | .tuple ds => keyables ds
  | _ => false
def keyables : List PyData → Bool
  | [] => true
  | d :: ds => keyable d && keyables ds
end
mutual
theorem reads_nk {h : Heap} : ∀ {d : PyData} {v : Value} {as : List Addr}, Reads h v d as → keyable d = true → NestedIs h (nk d) v
  | .none, _, _, r, _ => by cases r; exact .none
  | .bool b, _, _, r, _ => by cases r; exact .bool rfl
  | .int i, _, _, r, _ => by cases r; exact .int _ _
  | .str x, _, _, r, _ => by cases r; exact .text _ _
  | .tuple ds, _, _, r, k => by
    cases r with
    | tuple ho hc hd ha => exact .tup ho hc hd (reads_nks ha k)
  | .list _, _, _, _, k => nomatch (show false = true from k)
  | .dict _, _, _, _, k => nomatch (show false = true from k)
theorem reads_nks {h : Heap} : ∀ {ds : List PyData} {vs : List Value} {as : List Addr}, ReadsAll h vs ds as → keyables ds = true → NestedAll h (nks ds) vs
  | [], _, _, r, _ => by cases r; exact .nil
  | d :: ds, _, _, r, k => by
    have k' : (keyable d && keyables ds) = true := k
    rw [Bool.and_eq_true] at k'
    cases r with
    | cons r1 r2 => exact .cons (reads_nk r1 k'.1) (reads_nks r2 k'.2)
end
/-- a type whose values are keys -/
class KeyD (α : Type) [DecidableEq α] [Datum α] : Prop where
  able : ∀ a : α, keyable (Rep.toD a) = true
  inj : ∀ a b : α, nk (Rep.toD a) = nk (Rep.toD b) → a = b
  dep : ∀ a : α, (nk (Rep.toD a)).depth ≤ Datum.depth α
instance : KeyD Int := ⟨fun _ => rfl, fun a b h => by
  have h' : NestedKey.num a = NestedKey.num b := h
  cases h'
  rfl, fun _ => Nat.le_refl _⟩
instance : KeyD Str := ⟨fun _ => rfl, fun a b h => by
  have h' : NestedKey.text a = NestedKey.text b := h
  cases h'
  rfl, fun _ => Nat.le_refl _⟩
section
variable {α β : Type} [DecidableEq α] [Datum α] [KeyD α] [DecidableEq β] [Datum β] [KeyD β]
theorem ables : ∀ xs : List α, keyables (xs.map fun x => Rep.toD x) = true
  | [] => rfl
  | x :: xs => by
    show (keyable (Rep.toD x) && keyables (xs.map fun x => Rep.toD x)) = true
    rw [KeyD.able x, ables xs]
    rfl
theorem nks_inj : ∀ xs ys : List α, nks (xs.map fun x => Rep.toD x) = nks (ys.map fun x => Rep.toD x) → xs = ys
  | [], [], _ => rfl
  | [], _ :: _, h => nomatch (show [] = _ :: _ from h)
  | _ :: _, [], h => nomatch (show _ :: _ = [] from h)
  | x :: xs, y :: ys, h => by
    have h' : nk (Rep.toD x) :: nks (xs.map fun x => Rep.toD x) = nk (Rep.toD y) :: nks (ys.map fun x => Rep.toD x) := h
    injection h' with h1 h2
    rw [KeyD.inj _ _ h1, nks_inj xs ys h2]
theorem nks_dep : ∀ xs : List α, NestedKey.depthAll (nks (xs.map fun x => Rep.toD x)) ≤ Datum.depth α
  | [] => Nat.zero_le _
  | x :: xs => Nat.max_le.mpr ⟨KeyD.dep x, nks_dep xs⟩
instance : KeyD (Tup α) := ⟨fun t => ables t.items, fun a b h => by
  have h' : NestedKey.tup (nks (a.items.map fun x => Rep.toD x)) = NestedKey.tup (nks (b.items.map fun x => Rep.toD x)) := h
  injection h' with h1
  cases a
  cases b
  exact congrArg Tup.mk (nks_inj _ _ h1), fun t => Nat.succ_le_succ (nks_dep t.items)⟩
instance : KeyD (α × β) := ⟨fun p => by
  show (keyable (Rep.toD p.1) && (keyable (Rep.toD p.2) && true)) = true
  rw [KeyD.able, KeyD.able]
  rfl, fun a b h => by
  have h' : NestedKey.tup [nk (Rep.toD a.1), nk (Rep.toD a.2)] = NestedKey.tup [nk (Rep.toD b.1), nk (Rep.toD b.2)] := h
  injection h' with h1
  injection h1 with h2 h3
  injection h3 with h4 _
  exact Prod.ext (KeyD.inj _ _ h2) (KeyD.inj _ _ h4), fun p => by
  show max (nk (Rep.toD p.1)).depth (max (nk (Rep.toD p.2)).depth 0) + 1 ≤ max (Datum.depth α) (Datum.depth β) + 1
  have h1 := KeyD.dep p.1
  have h2 := KeyD.dep p.2
  omega⟩
end

/-! ### dicts with such keys -/
abbrev Row := NestedKey × Addr × Value
def RawD (P : Program) (w : World) (h : Heap) (d : Addr) (xs : List Row) : Prop :=
  (d == sysModules) = false ∧ xs.length ≤ sizeLine ∧ ∃ o es ep, h.get? d = some o ∧ o.ExactDict ∧ o.data = .dict es ep ∧ es.toList = xs.map (entryOfKey (nestedKind P w)) ∧ (xs.map (·.1)).Nodup
def RowR (r : NestedKey × Addr × V) (x : Row) : Prop := r.1 = x.1 ∧ r.2.1 = x.2.1 ∧ RelV r.2.2 x.2.2
def DctO (P : Program) (w : World) (d : Addr) (rows : List (NestedKey × Addr × V)) : HO := .ext fun h => ∃ xs, Paired RowR rows xs ∧ RawD P w h d xs
theorem dctO_ok {P : Program} {w : World} {H : Hp} {h : Heap} {d : Addr} {rows : List (NestedKey × Addr × V)} {xs : List Row} (r : Paired RowR rows xs) (raw : RawD P w h d xs) : ObjOk P w H h d (DctO P w d rows) := by
  obtain ⟨h1, h2, o, es, ep, ho, z⟩ := id raw
  exact ⟨⟨xs, r, raw⟩, ⟨o, ho⟩, fun a b ⟨ys, q1, q2, q3, o, es, ep, ho, z⟩ k => ⟨ys, q1, q2, q3, o, es, ep, k o ho, z⟩⟩
theorem dctO_at {P : Program} {w : World} {H : Hp} {h : Heap} {d : Addr} {rows : List (NestedKey × Addr × V)} (x : ObjOk P w H h d (DctO P w d rows)) : ∃ xs, Paired RowR rows xs ∧ RawD P w h d xs := x.1
theorem paired_app {α β : Type} {R : α → β → Prop} : ∀ {a : List α} {b : List β} {c : List α} {d : List β}, Paired R a b → Paired R c d → Paired R (a ++ c) (b ++ d)
  | _, _, _, _, .nil, q => q
  | _, _, _, _, .cons r t, q => .cons r (paired_app t q)
/-- a row put in: a key that is there keeps its own tuple, and its place -/
def putR (acc : List (NestedKey × Addr × V)) (r : NestedKey × Addr × V) : List (NestedKey × Addr × V) :=
  if acc.any (fun x => decide (x.1 = r.1)) then acc.map fun x => if x.1 = r.1 then (x.1, x.2.1, r.2.2) else x else acc ++ [r]
theorem paired_find {acc : List (NestedKey × Addr × V)} {xs : List Row} (p : Paired RowR acc xs) (k : NestedKey) : acc.any (fun x => decide (x.1 = k)) = (atKey xs k).isSome := by
  induction p with
  | nil => rfl
  | @cons a b as bs r t ih =>
    rw [List.any_cons, ih]
    unfold atKey
    rw [List.find?_cons]
    by_cases h : b.1 = k
    · simp [r.1, h]
    · simp [r.1, h]
theorem paired_put {acc : List (NestedKey × Addr × V)} {xs : List Row} (p : Paired RowR acc xs) {r : NestedKey × Addr × V} {x : Row} (q : RowR r x) : Paired RowR (putR acc r) (storedH xs x.1 x.2.1 x.2.2) := by
  unfold putR
  rw [paired_find p r.1, q.1]
  cases h : atKey xs x.1 with
  | none =>
    rw [storedH_new h]
    exact paired_app p (.cons q .nil)
  | some y =>
    rw [storedH_old h]
    show Paired RowR (acc.map _) _
    clear h
    induction p with
    | nil => exact .nil
    | @cons a b as bs r' t ih =>
      rw [List.map_cons, List.map_cons]
      refine .cons ?_ ih
      unfold putAt
      rw [r'.1]
      by_cases hk : b.1 = x.1
      · rw [if_pos hk, if_pos hk]
        exact ⟨rfl, r'.2.1, q.2.2⟩
      · rw [if_neg hk, if_neg hk]
        exact r'

/-! ### dict(a list of pairs) -/
section
variable {prog : Program} {w : World} {A : Around} {E : Value → Shared → Prop}
theorem dof {s : Shared} {d : Addr} {xs : List Row} (raw : RawD prog w s.heap d xs) (h : ∀ x ∈ xs, (nestedKind prog w).is s.heap x.1 x.2.1) : s.heap.DictOfH (nestedKind prog w) d xs := by
  obtain ⟨_, _, o, es, ep, h1, h2, h3, h4, h5⟩ := raw
  exact ⟨o, es, ep, h1, h2, h3, h4, h, h5⟩
theorem of_dof {h : Heap} {d : Addr} {xs : List Row} (hd : (d == sysModules) = false) (hl : xs.length ≤ sizeLine) (x : h.DictOfH (nestedKind prog w) d xs) : RawD prog w h d xs := by
  obtain ⟨o, es, ep, h1, h2, h3, h4, _, h5⟩ := x
  exact ⟨hd, hl, o, es, ep, h1, h2, h3, h4, h5⟩
theorem stored_len (xs : List Row) (k : NestedKey) (a : Addr) (v : Value) : (storedH xs k a v).length ≤ xs.length + 1 := by
  cases h : atKey xs k with
  | none => rw [storedH_new h, List.length_append]; exact Nat.le_refl _
  | some y => rw [storedH_old h, List.length_map]; omega
/-- seqs stand as they stood -/
def SeqKept (h h' : Heap) : Prop := ∀ a o vs n, h.get? a = some o → o.data = .seq vs n → h'.get? a = some o
theorem is_kept {h h' : Heap} (k : SeqKept h h') {x : NestedKey} {a : Addr} (q : (nestedKind prog w).is h x a) : (nestedKind prog w).is h' x a := ⟨NestedIs.at k _ _ q.1, q.2⟩
theorem dof_kept {h h' : Heap} {d : Addr} {xs : List Row} (k : SeqKept h h') (kd : ∀ o, h.get? d = some o → h'.get? d = some o) (x : h.DictOfH (nestedKind prog w) d xs) : h'.DictOfH (nestedKind prog w) d xs := by
  obtain ⟨o, es, ep, h1, h2, h3, h4, h5, h6⟩ := x
  exact ⟨o, es, ep, kd o h1, h2, h3, h4, fun x hx => is_kept (prog := prog) (w := w) k (h5 x hx), h6⟩
def mergeH (acc : List Row) (rest : List Row) : List Row := rest.foldl (fun acc x => storedH acc x.1 x.2.1 x.2.2) acc
theorem upd_nested {R : Result → Shared → Prop} {S I l : Addr} {items : Array Value} {res : Value} (hh : A.handled = none) (hu : A.units + 9 < cLine) (hlI : l ≠ I) (hSI : S ≠ I) (hSl : S ≠ l) :
    ∀ (rest : List Row) (i : Nat) (acc : List Row) (ix : Int) (t : Tok) (s : Shared), items.size = i + rest.length → acc.length + rest.length ≤ sizeLine →
      (∀ (j : Nat) (q : Row), rest[j]? = some q → ∃ b : Addr, items[i + j]? = some (.ref b) ∧ b ≠ S ∧ b ≠ I ∧ IsTup s.heap b #[.ref q.2.1, q.2.2] ∧ (nestedKind prog w).is s.heap q.1 q.2.1) →
      s.heap.IsListIter I l i → s.heap.IsList l items → s.heap.DictOfH (nestedKind prog w) S acc →
      (∀ h' tk, h'.DictOfH (nestedKind prog w) S (mergeH acc rest) → (∀ b o, b ≠ S → b ≠ I → s.heap.get? b = some o → h'.get? b = some o) → R (.ok (.ret res)) { s with heap := h', toks := tk }) →
      codeAny (model prog w) A (.builtin "dict.update.loop" ⟨[.ref S, .ref I, .int ix t, res], []⟩) R s
  | [], i, acc, ix, t, s, hsz, hln, ht, hit, hl, hm, hR => by
    refine codeAny_builtin ud_entry ?_
    rw [Around.under_plainId ud_plain _]
    show wpAny _ A.in1 (pyNext (.ref I) >>= _) _ _ s
    refine wpAny_bind (wpAny_pyNext_list_end (A := A.in1) hh hit hl (Array.getElem?_eq_none (Nat.le_of_eq hsz)) fun h' he => ?_)
    show wpAny _ A.in1 (Builtin.Dict.addKeywords S [] >>= _) _ _ _
    refine wpAny_bind (wpAny_pure (wpAny_pure ?_))
    refine hR h' s.toks (dof_kept (fun a o vs n e hd => he a o (fun z => ?_) e) (fun o e => he S o hSI e) hm) fun b o _ hb e => he b o hb e
    obtain ⟨oi, hoi, _, hdi⟩ := hit
    rw [z, hoi] at e
    cases e
    rw [hdi] at hd
    cases hd
  | q :: rest, i, acc, ix, t, s, hsz, hln, ht, hit, hl, hm, hR => by
    obtain ⟨b, hb, hbS, hbI, htup, hk⟩ := ht 0 q rfl
    rw [List.length_cons] at hsz hln
    refine codeAny_builtin ud_entry ?_
    rw [Around.under_plainId ud_plain _]
    show wpAny _ A.in1 (pyNext (.ref I) >>= _) _ _ s
    refine wpAny_bind (wpAny_pyNext_list_item (x := .ref b) hit hl (by simpa using hb) fun h1 hit1 hs1 => ?_)
    have k1 : SeqKept s.heap h1 := fun a o vs n e hd => hs1.extBut a o (fun z => by
      obtain ⟨oi, hoi, _, hdi⟩ := hit
      rw [z, hoi] at e
      cases e
      rw [hdi] at hd
      cases hd) e
    have ht1 : IsTup h1 b #[.ref q.2.1, q.2.2] := htup.extBut hs1.extBut hbI
    have hl1 : h1.IsList l items := hl.extBut hs1.extBut hlI
    have hm1 : h1.DictOfH (nestedKind prog w) S acc := dof_kept k1 (fun o e => hs1.extBut S o hSI e) hm
    obtain ⟨o, ho, hc, n, hd⟩ := id ht1
    show wpAny _ A.in1 (holding [Value.ref b] _ >>= _) _ _ _
    refine wpAny_bind (wpAny_holding ?_)
    refine wpAny_bind (wpAny_tryCatch ?_)
    unfold Builtin.Dict.pairItems
    refine wpAny_bind (wpAny_typeOf (T := "tuple") ⟨o, ho, hc⟩ ?_)
    rw [if_pos (by first | decide | rfl | simp)]
    refine wpAny_bind (wpAny_seqItems ho hd (wpAny_pure ?_))
    show wpAny _ A.in1 (holding [.ref q.2.1, q.2.2] (dictSet S (.ref q.2.1) q.2.2)) _ _ _
    refine wpAny_holding (wpAny_dictSet_heap (knd := nestedKind prog w) (k := q.1) (show A.units + 1 + 8 < cLine by omega) (is_kept (prog := prog) (w := w) k1 hk) hm1 (fun h2 hm2 hs2 => ?_) (by omega))
    have k2 : SeqKept h1 h2 := fun a o vs n e hd => (hs2.2 a (fun z => by
      obtain ⟨od, es, ep, hod, _, hdd, _⟩ := hm1
      rw [z, hod] at e
      cases e
      rw [hdd] at hd
      cases hd)).trans e
    refine wpAny_pure ⟨plainId_quiet ud_plain _, upd_nested (items := items) hh hu hlI hSI hSl rest (i + 1) (storedH acc q.1 q.2.1 q.2.2) (ix + 1) 0 _ (show items.size = i + 1 + rest.length by omega) ?_ (fun j q' e => ?_) ?_ ?_ hm2 fun h' tk hd' k => ?_⟩
    · have z := stored_len acc q.1 q.2.1 q.2.2
      omega
    · obtain ⟨b', hb', hbS', hbI', htup', hk'⟩ := ht (j + 1) q' (by simpa using e)
      refine ⟨b', ?_, hbS', hbI', (htup'.extBut hs1.extBut hbI').extBut hs2.extBut hbS', is_kept (prog := prog) (w := w) k2 (is_kept (prog := prog) (w := w) k1 hk')⟩
      rw [show i + 1 + j = i + (j + 1) by omega]
      exact hb'
    · exact hit1.at fun o' e => hs2.extBut I o' (Ne.symm hSI) e
    · exact hl1.extBut hs2.extBut (Ne.symm hSl)
    · exact hR h' tk hd' fun c oc h3 h4 e => k c oc h3 h4 (hs2.extBut c oc h3 (hs1.extBut c oc h4 e))
end

section
variable {prog : Program} {w : World} {A : Around} {E : Value → Shared → Prop}
theorem call_dict_nested {s : Shared} {l : Addr} {ol : Obj} {items : Array Value} {n : Nat} {rest : List Row} {Q : Value → Shared → Prop} (hh : A.handled = none) (hu : A.units + 16 < cLine) (hl : s.heap.get? l = some ol) (hc : ol.cls = .type "list") (hd : ol.dict = none)
    (hdat : ol.data = .seq items n) (hsz : items.size = rest.length) (hln : rest.length ≤ sizeLine)
    (ht : ∀ (j : Nat) (q : Row), rest[j]? = some q → ∃ b : Addr, items[j]? = some (.ref b) ∧ IsTup s.heap b #[.ref q.2.1, q.2.2] ∧ (nestedKind prog w).is s.heap q.1 q.2.1)
    (h : ∀ h' tk, h'.DictOfH (nestedKind prog w) s.heap.objs.size (mergeH [] rest) → (∀ b o, s.heap.get? b = some o → h'.get? b = some o) → Q (.ref s.heap.objs.size) { s with heap := h', toks := tk }) :
    wpAny (model prog w) A (call (.type "dict") [.ref l]) Q E s := by
  refine callType_codes (Q₁ := fun obj s₁ => obj = .ref s.heap.objs.size ∧ s₁ = { s with heap := s.heap.push { cls := .type "dict", data := .dict #[] } }) PySem.F.kt_called_dict (PySem.F.kt_typeCall_dict_1 _) PySem.F.entry_dict_init (kt_code_dict_new _ ⟨rfl, rfl⟩) ?_
  rintro obj s₁ ⟨rfl, rfl⟩
  have hnew : (s.heap.push { cls := .type "dict", data := .dict #[] }).DictOfH (nestedKind prog w) s.heap.objs.size [] := Heap.DictOfH.new s.heap
  have k0 : ∀ b o, s.heap.get? b = some o → (s.heap.push { cls := .type "dict", data := .dict #[] }).get? b = some o := fun b o e => Heap.get?_push_of_some _ e
  refine ⟨Heap.DictOfH.typeIs hnew, PySem.F.args_dict_init_2 _ _, ?_⟩
  unfold Builtin.«dict.__init__»
  refine wpAny_bind ?_
  unfold Builtin.Dict.selfAndRest
  refine wpAny_bind (wpAny_notOrdered_dict (Heap.DictOfH.typeIs hnew) ?_)
  show wpAny _ _ (pure (s.heap.objs.size, [Value.ref l])) _ _ _
  refine wpAny_pure ?_
  show wpAny _ _ (Builtin.Dict.updateFrom "dict.__init__" s.heap.objs.size (.ref l) [] .none) _ _ _
  unfold Builtin.Dict.updateFrom
  refine wpAny_bind (wpAny_typeOf (T := "list") ⟨ol, k0 _ _ hl, hc⟩ ?_)
  rw [if_pos (by first | decide | rfl | simp)]
  refine wpAny_bind (miss_list (k0 _ _ hl) hc hdat hd hh fun h1 tk1 hk1 => ?_)
  rw [if_pos (show (none : Option Value).isNone = true from rfl)]
  refine wpAny_bind (wpAny_rule ?_)
  have hl1 : h1.IsList l items := ⟨ol, hk1 _ _ (k0 _ _ hl), hc, n, hdat⟩
  have hS1 : s.heap.objs.size < h1.objs.size := by
    have e : (s.heap.push { cls := .type "dict", data := .dict #[] }).get? s.heap.objs.size = some { cls := .type "dict", data := .dict #[] } := Heap.get?_push_size _ rfl
    exact Heap.lt_size (hk1 _ _ e)
  refine wpAny_bind (wpAny_pyIter_list hl1 ?_)
  have k2 : ∀ b o, h1.get? b = some o → (h1.push { cls := .type "list_iterator", data := .fields #[.ref l, .int 0 0] }).get? b = some o := fun b o e => Heap.get?_push_of_some _ e
  have hlt : l < s.heap.objs.size := Heap.lt_size hl
  have k3 : ∀ b o, s.heap.get? b = some o → (h1.push { cls := .type "list_iterator", data := .fields #[.ref l, .int 0 0] }).get? b = some o := fun b o e => k2 b o (hk1 b o (k0 b o e))
  have key := upd_nested (prog := prog) (w := w) (A := A.in1) (R := wants (fun r s₂ => r = .none ∧ Q (.ref s.heap.objs.size) s₂) E) (S := s.heap.objs.size) (I := h1.objs.size) (l := l) (items := items) (res := Value.none) hh (show A.units + 1 + 9 < cLine by omega)
    (Nat.ne_of_lt (Nat.lt_trans hlt hS1)) (Nat.ne_of_lt hS1) (Nat.ne_of_gt hlt) rest 0 [] 0 0
    { s with heap := h1.push { cls := .type "list_iterator", data := .fields #[.ref l, .int 0 0] }, toks := tk1 } (by rw [hsz, Nat.zero_add]) (by rw [List.length_nil, Nat.zero_add]; exact hln)
    (fun j q e => by
      obtain ⟨b, e1, e2, e3⟩ := ht j q e
      have hb : b < s.heap.objs.size := e2.lt
      exact ⟨b, by rw [Nat.zero_add]; exact e1, Nat.ne_of_lt hb, Nat.ne_of_lt (Nat.lt_trans hb hS1), e2.keeps k3, is_kept (prog := prog) (w := w) (fun a o vs n e _ => k3 a o e) e3⟩)
    ⟨_, Heap.get?_push_size _ rfl, rfl, rfl⟩ (hl1.at fun o e => k2 _ _ e) (dof_kept (fun a o vs n e _ => k2 a o (hk1 a o e)) (fun o e => k2 _ o (hk1 _ o e)) hnew)
    (fun h' tk hd' k => ⟨rfl, h h' tk hd' fun b o e => k b o (Nat.ne_of_lt (Heap.lt_size e)) (Nat.ne_of_lt (Nat.lt_trans (Heap.lt_size e) hS1)) (k3 b o e)⟩)
  first
    | exact wpAny_pure ⟨plainId_quiet ud_plain _, key⟩
    | exact wpAny_bind (wpAny_pure (wpAny_pure ⟨plainId_quiet ud_plain _, key⟩))
end

/-- a pair of a key and a value, ready for a row -/
def RowAt (K : PySem.W.Frag) (H : Hp) (p : Addr) (r : NestedKey × Addr × V) : Prop := SqT K H p [.ref r.2.1, r.2.2] ∧ r.1.depth ≤ 8 ∧ ∃ d, Dp K H (.ref r.2.1) d ∧ keyable d = true ∧ nk d = r.1
def rDictN (K : PySem.W.Frag) (P : Program) (w : World) : List V → Hp → VK → Prop := fun xs H Q => ∃ (a : Addr) (ps : List Addr) (rows : List (NestedKey × Addr × V)), xs = [.ref a] ∧ SqL K H a (ps.map V.ref) ∧ Paired (RowAt K H) ps rows ∧
  ∀ d o, H d = none → Q (.ref d) (upd H d (.frz o (DctO P w d (rows.foldl putR []))))
section
variable {X : Cx}
theorem rows_of {pins : List (Addr × Obj)} {σ : L2.St} {H : Hp} {s : Shared} (I : L2.Inv X pins σ H s) : ∀ {ps : List Addr} {rows : List (NestedKey × Addr × V)}, Paired (RowAt X.K H) ps rows →
    ∃ rest : List Row, Paired RowR rows rest ∧ rest.length = ps.length ∧ ∀ (j : Nat) (q : Row), rest[j]? = some q → ∃ b : Addr, (ps.map Value.ref)[j]? = some (.ref b) ∧ IsTup s.heap b #[.ref q.2.1, q.2.2] ∧ (nestedKind X.prog X.w).is s.heap q.1 q.2.1
  | _, _, .nil => ⟨[], .nil, rfl, fun j q e => by simp at e⟩
  | p :: ps, r :: rows, .cons h t => by
    obtain ⟨rest, h1, h2, h3⟩ := rows_of I t
    obtain ⟨hp, hd, d, q1, q2, q3⟩ := h
    obtain ⟨its, rv, pl, hz⟩ := I.tuple hp
    obtain ⟨u1, u2, rfl, r1, r2⟩ := vals2 rv
    cases r1
    obtain ⟨as, rd⟩ := Dp.reads I d _ (.ref r.2.1) q1 rfl
    refine ⟨(r.1, r.2.1, u2) :: rest, .cons ⟨rfl, rfl, r2⟩ h1, by rw [List.length_cons, List.length_cons, h2], fun j q e => ?_⟩
    cases j with
    | zero =>
      cases e
      exact ⟨p, rfl, pl, by rw [← q3]; exact reads_nk rd q2, hd⟩
    | succ j =>
      obtain ⟨b, e1, e2⟩ := h3 j q e
      exact ⟨b, e1, e2⟩
theorem merge_rows {rows : List (NestedKey × Addr × V)} {rest : List Row} (p : Paired RowR rows rest) : ∀ {acc : List (NestedKey × Addr × V)} {xs : List Row}, Paired RowR acc xs → Paired RowR (rows.foldl putR acc) (mergeH xs rest) := by
  induction p with
  | nil => exact fun q => q
  | cons r t ih => exact fun q => ih (paired_put q r)
theorem merge_len : ∀ (rest xs : List Row), (mergeH xs rest).length ≤ xs.length + rest.length
  | [], xs => Nat.le_refl _
  | x :: rest, xs => by
    have h1 := merge_len rest (storedH xs x.1 x.2.1 x.2.2)
    have h2 := stored_len xs x.1 x.2.1 x.2.2
    show (mergeH (storedH xs x.1 x.2.1 x.2.2) rest).length ≤ xs.length + (rest.length + 1)
    omega
theorem cr_dictN (hc : X.calm = true) (hu : X.A.units + 64 < cLine) : CallR X (.type "dict") (rDictN X.K X.prog X.w) := by
  intro pins s σ H xs us Q I r q
  obtain ⟨a, ps, rows, rfl, hq, hp, q⟩ := q
  obtain ⟨u, rfl, rx⟩ := vals1 r
  cases rx
  obtain ⟨its, rv, pl, hz⟩ := I.list hq
  have ei := refs_at rv
  subst ei
  rw [List.length_map] at hz
  obtain ⟨rest, h1, h2, h3⟩ := rows_of I hp
  obtain ⟨ol, n, ho, hcl, hdn, hdat⟩ := pl
  refine call_dict_nested (rest := rest) (I.ok.hd hc) (by omega) ho hcl hdn hdat (by simp [h2]) (by rw [h2]; exact hz) (fun j q' e => ?_) fun h' tk hd' k => ?_
  · obtain ⟨b, e1, e2, e3⟩ := h3 j q' e
    exact ⟨b, by simpa using e1, e2, e3⟩
  · have hm : (s.heap.objs.size == sysModules) = false := beq_eq_false_iff_ne.mpr (Nat.ne_of_gt I.big)
    have hlen := merge_len rest []
    obtain ⟨od, es, ep, hod, hdr⟩ := id hd'
    exact ⟨.ref s.heap.objs.size, _, I.laid (t' := tk) (o := .frz od _) k (Nat.le_refl _) ⟨hod, dctO_ok (merge_rows h1 .nil) (of_dof hm (by rw [List.length_nil] at hlen; omega) hd')⟩, rfl, q _ _ (I.hok.fresh (Nat.le_refl _))⟩
end

/-! ### a dict that is never changed, as a thing -/
section
variable {α β : Type} [DecidableEq α] [Datum α] [KeyD α] [DecidableEq β] [Datum β]
def DctT (C : Addr) (P : Program) (w : World) (kvs : List (α × β)) : Thing where
  P h H v S := ∃ (d : Addr) (o : Obj) (rows : List (NestedKey × Addr × V)), v = V.ref d ∧ S = (fun _ => False) ∧ H d = some (.frz o (DctO P w d rows)) ∧ rows.map (·.1) = kvs.map (fun p => nk (Rep.toD p.1)) ∧
    AtAll C h H (rows.map fun r => V.ref r.2.1) (kvs.map fun p => Rep.toD p.1) ∧ AtAll C h H (rows.map fun r => r.2.2) (kvs.map fun p => Rep.toD p.2) ∧ kvs.length ≤ 4096
  known := fun ⟨_, _, _, _, e, _⟩ z => by subst e; exact z.elim
  move := fun ⟨d, o, rows, e1, e2, e3, e4, e5, e6, e7⟩ x k _ => ⟨d, o, rows, e1, e2, x.frz _ _ _ e3, e4, e5.mono x k, e6.mono x k, e7⟩
  sub := fun ⟨d, o, rows, e1, e2, e3, e4, e5, e6, e7⟩ k => ⟨d, o, rows, e1, e2, e3, e4, e5.sub k, e6.sub k, e7⟩
def putD (acc : List (α × β)) (p : α × β) : List (α × β) := if acc.any (fun x => decide (x.1 = p.1)) then acc.map fun x => if x.1 = p.1 then (x.1, p.2) else x else acc ++ [p]
def dictOf (ps : List (α × β)) : List (α × β) := ps.foldl putD []
/-- a row and its pair -/
def RowOf (C : Addr) (h : Addr → Prop) (H : Hp) (r : NestedKey × Addr × V) (p : α × β) : Prop := r.1 = nk (Rep.toD p.1) ∧ At C h H (V.ref r.2.1) (Rep.toD p.1) ∧ At C h H r.2.2 (Rep.toD p.2)
theorem rowOf_any {C : Addr} {h : Addr → Prop} {H : Hp} {rows : List (NestedKey × Addr × V)} {kvs : List (α × β)} (q : Paired (RowOf C h H) rows kvs) {k : NestedKey} {a : α} (hk : k = nk (Rep.toD a)) : (rows.any fun x => decide (x.1 = k)) = kvs.any fun x => decide (x.1 = a) := by
  induction q with
  | nil => rfl
  | cons r t ih =>
    rw [List.any_cons, List.any_cons, ih, r.1, hk]
    congr 1
    exact decide_eq_decide.mpr ⟨fun e => KeyD.inj _ _ e, fun e => by rw [e]⟩
theorem rowOf_put {C : Addr} {h : Addr → Prop} {H : Hp} {rows : List (NestedKey × Addr × V)} {kvs : List (α × β)} (q : Paired (RowOf C h H) rows kvs) {r : NestedKey × Addr × V} {p : α × β} (rp : RowOf C h H r p) : Paired (RowOf C h H) (putR rows r) (putD kvs p) := by
  unfold putR putD
  rw [rowOf_any q rp.1]
  by_cases hb : (kvs.any fun x => decide (x.1 = p.1)) = true
  · rw [if_pos hb, if_pos hb]
    clear hb
    induction q with
    | nil => exact .nil
    | @cons a b as bs r' t ih =>
      rw [List.map_cons, List.map_cons]
      refine .cons ?_ ih
      by_cases hk : b.1 = p.1
      · rw [if_pos hk, if_pos (by rw [r'.1, rp.1, hk])]
        exact ⟨r'.1, r'.2.1, rp.2.2⟩
      · rw [if_neg hk, if_neg (by rw [r'.1, rp.1]; exact fun e => hk (KeyD.inj _ _ e))]
        exact r'
  · rw [if_neg hb, if_neg hb]
    exact paired_app q (.cons rp .nil)
theorem rowOf_fold {C : Addr} {h : Addr → Prop} {H : Hp} {rows : List (NestedKey × Addr × V)} {ps : List (α × β)} (q : Paired (RowOf C h H) rows ps) : ∀ {acc : List (NestedKey × Addr × V)} {kvs : List (α × β)}, Paired (RowOf C h H) acc kvs → Paired (RowOf C h H) (rows.foldl putR acc) (ps.foldl putD kvs) := by
  induction q with
  | nil => exact fun q => q
  | cons r t ih => exact fun q => ih (rowOf_put q r)
theorem rowOf_parts {C : Addr} {h : Addr → Prop} {H : Hp} {rows : List (NestedKey × Addr × V)} {kvs : List (α × β)} (q : Paired (RowOf C h H) rows kvs) : rows.map (·.1) = kvs.map (fun p => nk (Rep.toD p.1)) ∧ AtAll C h H (rows.map fun r => V.ref r.2.1) (kvs.map fun p => Rep.toD p.1) ∧ AtAll C h H (rows.map fun r => r.2.2) (kvs.map fun p => Rep.toD p.2) := by
  induction q with
  | nil => exact ⟨rfl, .nil, .nil⟩
  | cons r t ih => exact ⟨by rw [List.map_cons, List.map_cons, r.1, ih.1], .cons r.2.1 ih.2.1, .cons r.2.2 ih.2.2⟩
theorem of_parts {C : Addr} {h : Addr → Prop} {H : Hp} : ∀ {rows : List (NestedKey × Addr × V)} {kvs : List (α × β)}, rows.map (·.1) = kvs.map (fun p => nk (Rep.toD p.1)) → AtAll C h H (rows.map fun r => V.ref r.2.1) (kvs.map fun p => Rep.toD p.1) → AtAll C h H (rows.map fun r => r.2.2) (kvs.map fun p => Rep.toD p.2) → Paired (RowOf C h H) rows kvs
  | [], [], _, _, _ => .nil
  | [], _ :: _, e, _, _ => nomatch e
  | _ :: _, [], e, _, _ => nomatch e
  | r :: rows, p :: kvs, e, q1, q2 => by
    rw [List.map_cons, List.map_cons] at e q1 q2
    injection e with e1 e2
    cases q1 with
    | cons a1 a2 => cases q2 with
      | cons b1 b2 => exact .cons ⟨e1, a1, b1⟩ (of_parts e2 a2 b2)
theorem putD_len (acc : List (α × β)) (p : α × β) : (putD acc p).length ≤ acc.length + 1 := by
  unfold putD
  by_cases hb : (acc.any fun x => decide (x.1 = p.1)) = true
  · rw [if_pos hb, List.length_map]; omega
  · rw [if_neg hb, List.length_append]; exact Nat.le_refl _
theorem foldD_len : ∀ (ps acc : List (α × β)), (ps.foldl putD acc).length ≤ acc.length + ps.length
  | [], acc => Nat.le_refl _
  | p :: ps, acc => by
    have h1 := foldD_len ps (putD acc p)
    have h2 := putD_len acc p
    rw [List.foldl_cons, List.length_cons]
    omega
theorem dictOf_len (ps : List (α × β)) : (dictOf ps).length ≤ ps.length := by
  have := foldD_len ps []
  rw [List.length_nil] at this
  unfold dictOf
  omega
end

/-- it gives a new thing -/
def EH (C : Addr) (te : TE) (e : List Sl) (T : Thing) : Prop := ∀ (W : Wd) (F : Nat → Addr → Prop) (σ : L2.St) (H : Hp), SA C W F H σ e → ∀ Q : VK, (∀ v H2 S, (∀ a, S a → H a = none) → Same H H2 → T.P (fun a => Hd W F a ∨ S a) H2 v S → Q v H2) → te σ H Q
section
variable {C : Addr} {K : PySem.W.Frag} {P : Program} {w : World} {pb : Bool} {e : List Sl} {te : TE} {R : PyData → List Sl → Prop} {α β γ : Type} [DecidableEq α] [Datum α] [KeyD α] [DecidableEq β] [Datum β] [DecidableEq γ] [Datum γ]
theorem es_setH {i : Nat} {T : Thing} (hi : i ≠ 0) (h : EH C te e T) : ES C (tAsg te (gName i)) e (fun e' => e' = e.set i (.own T)) R := fun W F σ H s D qn _ => h W F σ H s _ fun v H2 S hS x t => qn _ _ _ _ rfl (s.setOwn hi hS x t)
/-- pairs as rows -/
theorem pairs_rows {h : Addr → Prop} {H : Hp} (hk : ∀ a : α, ∃ ds, Rep.toD a = PyData.tuple ds) (hd : Datum.depth α ≤ 8) : ∀ {ys : List V} {ps : List (α × β)}, AtAll C h H ys (ps.map fun p => Rep.toD p) →
    ∃ (qs : List Addr) (rows : List (NestedKey × Addr × V)), ys = qs.map V.ref ∧ Paired (RowAt K H) qs rows ∧ Paired (RowOf C h H) rows ps
  | _, [], t => by
    cases t
    exact ⟨[], [], rfl, .nil, .nil⟩
  | _, p :: ps, t => by
    have t' : AtAll C h H _ (.tuple [Rep.toD p.1, Rep.toD p.2] :: ps.map fun p => Rep.toD p) := t
    cases t' with
    | cons r t2 =>
      obtain ⟨qs, rows, rfl, h1, h2⟩ := pairs_rows hk hd t2
      cases r with
      | @tup a xs ds e1 z q => cases q with
        | @cons u _ _ _ q1 q => cases q with
          | @cons u2 _ _ _ q2 q =>
            cases q
            obtain ⟨ds, e2⟩ := hk p.1
            have ka : ∃ b : Addr, u = V.ref b := by
              have q1' : At C h H u (.tuple ds) := by rw [← e2]; exact q1
              cases q1'
              exact ⟨_, rfl⟩
            obtain ⟨b, rfl⟩ := ka
            refine ⟨a :: qs, (nk (Rep.toD p.1), b, u2) :: rows, rfl, .cons ⟨e1.sq, Nat.le_trans (KeyD.dep p.1) hd, Rep.toD p.1, q1.dp (Datum.plain p.1), KeyD.able p.1, rfl⟩ h1, .cons ⟨rfl, q1, q2⟩ h2⟩
/-- dict(a list of pairs), the keys tuples -/
theorem eh_dict {ps : List (Tup γ × β)} [KeyD γ] (h : EL C pb te e ps) (hd : Datum.depth (Tup γ) ≤ 8 := by decide) : EH C (tCB (rDictN K P w) (tCons te tNil)) e (DctT C P w (dictOf ps)) := fun W F σ H s Q q => h W F σ H s _ fun p ys H2 _ x hl hz t => by
  obtain ⟨qs, rows, rfl, h1, h2⟩ := pairs_rows (K := K) (fun a => ⟨_, rfl⟩) hd t
  have hlen : ps.length ≤ 4096 := by
    have := t.length.trans (List.length_map ..)
    omega
  refine ⟨p, qs, rows, rfl, SqL.of hl, h1, fun d o hd => ?_⟩
  have x2 : Same H2 (upd H2 d (.frz o (DctO P w d (rows.foldl putR [])))) := same_new hd
  have h3 := rowOf_fold h2 (acc := []) (kvs := []) .nil
  obtain ⟨g1, g2, g3⟩ := rowOf_parts h3
  refine q _ _ (fun _ => False) (fun _ z => z.elim) (x.trans x2) ⟨d, o, _, rfl, rfl, upd_same, g1, (same_all x2 g2).sub fun a z => .inl (z.elim id fun w => w.elim), (same_all x2 g3).sub fun a z => .inl (z.elim id fun w => w.elim), Nat.le_trans (dictOf_len ps) hlen⟩
end
end PD
end
section
set_option Elab.async false
set_option linter.all false
set_option maxRecDepth 100000
set_option maxHeartbeats 4000000
set_option autoImplicit false
namespace PD
open PySem PySem.Spec PyProof.Rows L2
open PySem.W (Datum Tup)
variable [Tabl]

/-! ### d[k] -/
def KeyAt (K : PySem.W.Frag) (H : Hp) (b : Addr) (k : NestedKey) : Prop := k.depth ≤ 8 ∧ ∃ d, Dp K H (.ref b) d ∧ keyable d = true ∧ nk d = k
def rIxN (K : PySem.W.Frag) (P : Program) (w : World) : R2 := fun x y H Q => ∃ (d b : Addr) (o : Obj) (rows : List (NestedKey × Addr × V)) (k : NestedKey) (r : NestedKey × Addr × V), x = .ref d ∧ y = .ref b ∧ H d = some (.frz o (DctO P w d rows)) ∧ (∀ r ∈ rows, KeyAt K H r.2.1 r.1) ∧ KeyAt K H b k ∧
  (rows.find? fun r => decide (r.1 = k)) = some r ∧ Q r.2.2 H
theorem paired_mem {α β : Type} {R : α → β → Prop} {as : List α} {bs : List β} (p : Paired R as bs) : ∀ b ∈ bs, ∃ a ∈ as, R a b := by
  induction p with
  | nil => exact fun _ h => nomatch h
  | cons r t ih =>
    intro b hb
    rcases List.mem_cons.mp hb with e | hb
    · rw [e]
      exact ⟨_, List.mem_cons_self .., r⟩
    · obtain ⟨a, ha, q⟩ := ih b hb
      exact ⟨a, List.mem_cons_of_mem _ ha, q⟩
theorem paired_find2 {rows : List (NestedKey × Addr × V)} {xs : List Row} (p : Paired RowR rows xs) {k : NestedKey} {r : NestedKey × Addr × V} (h : (rows.find? fun r => decide (r.1 = k)) = some r) : ∃ y, atKey xs k = some y ∧ RelV r.2.2 y.2 := by
  induction p with
  | nil => cases h
  | @cons a b as bs r' t ih =>
    unfold atKey
    rw [List.find?_cons] at h ⊢
    by_cases hk : a.1 = k
    · rw [decide_eq_true hk] at h
      cases h
      rw [decide_eq_true (by rw [← r'.1]; exact hk)]
      exact ⟨b.2, rfl, r'.2.2⟩
    · rw [decide_eq_false hk] at h
      rw [decide_eq_false (by rw [← r'.1]; exact hk)]
      exact ih h
section
variable {X : Cx}
theorem is_of {pins : List (Addr × Obj)} {σ : L2.St} {H : Hp} {s : Shared} (I : L2.Inv X pins σ H s) {b : Addr} {k : NestedKey} (q : KeyAt X.K H b k) : (nestedKind X.prog X.w).is s.heap k b := by
  obtain ⟨h1, d, h2, h3, h4⟩ := q
  obtain ⟨as, rd⟩ := Dp.reads I d _ (.ref b) h2 rfl
  exact ⟨by rw [← h4]; exact reads_nk rd h3, h1⟩
/-- the dict as it stands -/
theorem dct_of {pins : List (Addr × Obj)} {σ : L2.St} {H : Hp} {s : Shared} (I : L2.Inv X pins σ H s) {d : Addr} {o : Obj} {rows : List (NestedKey × Addr × V)} (hd : H d = some (.frz o (DctO X.prog X.w d rows))) :
    s.heap.get? d = some o ∧ ∃ xs, Paired RowR rows xs ∧ RawD X.prog X.w s.heap d xs := by
  obtain ⟨h1, h2, _⟩ := I.hok d _ hd
  exact ⟨h1, h2⟩
theorem ix_dctN (hu : X.A.units + 64 < cLine) : IxR X (rIxN X.K X.prog X.w) := by
  intro value slice pins s σ H x y v u Q I rx ry h hs
  obtain ⟨d, b, o, rows, k, r, rfl, rfl, hd, hks, hk, hf, q⟩ := h
  cases rx
  cases ry
  obtain ⟨hg, xs, pr, raw⟩ := dct_of I hd
  have hm : s.heap.DictOfH (nestedKind X.prog X.w) d xs := dof raw fun x hx => by
    obtain ⟨a, ha, e1, e2, _⟩ := paired_mem pr x hx
    rw [← e1, ← e2]
    exact is_of I (hks a ha)
  obtain ⟨y, hy, rv⟩ := paired_find2 pr hf
  exact subscriptTail_builtinR (x := y.2) hm.typeIs slot_dict_getitem.lookup
    (wpAny_getItem_heap (Q := fun r' s' => r' = y.2 ∧ EP X pins σ Q r' s') (show X.A.units + 1 + 8 < cLine by omega) (is_of I hk) hm hy ⟨rfl, r.2.2, H, I.tok _, rv, q⟩) hs
end

/-! ### the keys, walked -/
def Itkn (P : Program) (w : World) (d : Addr) (o : Obj) (rows : List (NestedKey × Addr × V)) : It :=
  ⟨fun i H => H d = some (.frz o (DctO P w d rows)) ∧ i < rows.length, fun i H x H' => H' = H ∧ ∃ r, rows[i]? = some r ∧ x = .ref r.2.1, fun i H => H d = some (.frz o (DctO P w d rows)) ∧ rows.length ≤ i⟩
theorem raw_ent {P : Program} {w : World} {h : Heap} {d : Addr} {rows : List (NestedKey × Addr × V)} {xs : List Row} {o : Obj} (pr : Paired RowR rows xs) (raw : RawD P w h d xs) (ho : h.get? d = some o) :
    (d == sysModules) = false ∧ o.ExactDict ∧ ∃ (es : Array DictEntry) (ep : Nat), o.data = .dict es ep ∧ es.size = rows.length ∧ ∀ (i : Nat) (r : NestedKey × Addr × V), rows[i]? = some r → ∃ en : DictEntry, es[i]? = some en ∧ en.key = .ref r.2.1 := by
  obtain ⟨h1, h2, o', es, ep, ho', hx, hdt, he, hn⟩ := raw
  rw [ho] at ho'
  cases ho'
  have l2 : rows.length = xs.length := Paired.length pr
  refine ⟨h1, hx, es, ep, hdt, by rw [size_of_entries he, l2], fun i r hr => ?_⟩
  obtain ⟨x, hx1, hx2⟩ : ∃ x, xs[i]? = some x ∧ RowR r x := by
    clear he hn h2
    induction pr generalizing i with
    | nil => cases hr
    | cons q t ih =>
      cases i with
      | zero =>
        cases hr
        exact ⟨_, rfl, q⟩
      | succ i => exact ih (by simpa using l2) i hr
  refine ⟨entryOfKey (nestedKind P w) x, ?_, ?_⟩
  · rw [entry_at he i, hx1] <;> rfl
  · show Value.ref x.2.1 = Value.ref r.2.1
    rw [hx2.2.1]
theorem turn_keysN {P : Program} {w : World} {K : PySem.W.Frag} {tg : Expr} {d : Addr} {o : Obj} {es : Array DictEntry} {ep : Nat} {rows : List (NestedKey × Addr × V)} (it : Addr) (hod : o.data = .dict es ep) : Turn P w K tg (Itkn P w d o rows) [it] it (fun i h => h.IsKeyIter it d i rows.length ep) where
  mem := by simp
  obj := fun i h st b hb => by
    have e : b = it := by simpa using hb
    subst e
    obtain ⟨oi, e, c, dd⟩ := st
    exact ⟨oi, e, fun v z => by rw [dd] at z; cases z⟩
  keep := fun i h h' st k => st.at fun oi e => k it (by simp) oi e
  item := by
    intro X hP hw hK hc i pins s σ H E I hf st hg
    subst hP hw hK
    obtain ⟨hd, hi⟩ := hg
    obtain ⟨f0, f1, f2, f3, f4, f5⟩ := hf it (by simp)
    obtain ⟨hgd, xs, pr, raw⟩ := dct_of I hd
    obtain ⟨hs, hx, es', ep', hdt, hsz, ent⟩ := raw_ent pr raw hgd
    obtain ⟨rfl, rfl⟩ := dict_ep hod hdt
    obtain ⟨r, hr⟩ : ∃ p, rows[i]? = some p := ⟨rows[i], List.getElem?_eq_getElem hi⟩
    obtain ⟨en, hen, hkey⟩ := ent i r hr
    refine next_key_item st hgd hdt hsz hen fun h' st' sb => ?_
    have I1 : L2.Inv X pins σ H { s with heap := h' } := I.turned (t' := s.toks) (fun b ob hb e => (sb.2 b hb).trans e) f0 f1 f3 f4 f5
    obtain ⟨oi, e, c, dd⟩ := id st'
    exact ⟨en.key, rfl, go_of (s := { s with heap := h' }) e c dd (by decide) ⟨.ref r.2.1, H, I1, hkey, ⟨rfl, r, hr, rfl⟩, st', fun b hb => (hf b hb).1⟩⟩
  done := by
    intro X hP hw hK hc i pins s σ H E I hf st hg
    subst hP hw hK
    obtain ⟨hd, hi⟩ := hg
    obtain ⟨f0, f1, f2, f3, f4, f5⟩ := hf it (by simp)
    obtain ⟨hgd, xs, pr, raw⟩ := dct_of I hd
    obtain ⟨hs, hx, es', ep', hdt, hsz, ent⟩ := raw_ent pr raw hgd
    obtain ⟨rfl, rfl⟩ := dict_ep hod hdt
    exact next_key_end (I.ok.hd hc) st hgd hdt hsz hi fun h' eb => ⟨rfl, I.turned (t' := s.toks) (fun b ob hb e => eb b ob hb e) f0 f1 f3 f4 f5⟩
  self := fun A i s Q E st h => by
    refine wpAny_pyIter_slot st.typeIs F.slot_dict_keyiterator_iter (wpAny_call_entry F.slot_dict_keyiterator_iter st.typeIs F.entry_dict_keyiterator_iter ?_ (F.args_dict_keyiterator_iter_1 _))
    show wpAny _ _ (ret (.ref it)) _ _ s
    exact wpAny_pure ⟨_, rfl, "dict_keyiterator", _, st.typeIs, F.slot_dict_keyiterator_next.lookup, h⟩
def iKeysN (P : Program) (w : World) (td : TE) : TI := fun σ H R => td σ H fun x H1 => ∃ d o rows, x = .ref d ∧ H1 d = some (.frz o (DctO P w d rows)) ∧ R (Itkn P w d o rows) H1
theorem pi_keysN {X : Cx} {tg e : Expr} {td : TE} (he : PE X e td) : PI X tg e (iKeysN X.prog X.w td) := by
  refine ⟨fun pins s σ H R I h => ?_⟩
  refine thn (he.run pins s σ H _ I h) fun u s1 ⟨x, H1, I1, rx, d, o, rows, ex, hd, q⟩ => ?_
  subst ex
  obtain rfl : u = Value.ref d := rx
  obtain ⟨hgd, xs, pr, raw⟩ := dct_of I1 hd
  obtain ⟨hs, hx, es, ep, hdt, hsz, ent⟩ := raw_ent pr raw hgd
  refine iter_keys hs hgd hx hdt (pi_one (tk := s1.toks) I1 _ (turn_keysN _ hdt) ⟨_, Heap.get?_push_size _ rfl, rfl, ?_⟩ q)
  rw [hsz] <;> rfl
theorem walk_keysN {P : Program} {w : World} {d : Addr} {o : Obj} {rows : List (NestedKey × Addr × V)} : Walk (Itkn P w d o rows) rows.length (fun H => H d = some (.frz o (DctO P w d rows))) (fun i H x H' => H' = H ∧ ∃ r, rows[i]? = some r ∧ x = .ref r.2.1) :=
  ⟨fun _ _ hi q => ⟨q, hi⟩, fun _ q => ⟨q, Nat.le_refl _⟩, fun _ _ _ _ _ _ y => y⟩

section
variable {C : Addr} {K : PySem.W.Frag} {P : Program} {w : World} {pb : Bool} {e : List Sl} {te : TE} {i j : Nat} {α β : Type} [DecidableEq α] [Datum α] [KeyD α] [DecidableEq β] [Datum β]
theorem src_dct {kvs : List (α × β)} (h : e[i]? = some (.own (DctT C P w kvs))) : ESrc C pb (iKeysN P w (tVar i)) (gName j) e ((kvs.map (·.1)).map fun x => [(j, Rep.toD x)]) := fun W F σ H s R q => by
  obtain ⟨v, hv, d, o, rows, rfl, hF, hd, e4, e5, e6, e7⟩ := s.own i _ h
  have hlen : rows.length = ((kvs.map (·.1)).map fun x => [(j, Rep.toD x)]).length := by
    have := congrArg List.length e4
    simpa using this
  refine ⟨_, hv, d, o, rows, rfl, hd, q _ H _ _ (Same.refl H) (hlen ▸ walk_keysN) (by simpa using e7) (fun H' x => x.frz _ _ _ hd) fun k bs hb h2 H' x H'' k2 xx y => ?_⟩
  obtain ⟨rfl, r, hr, rfl⟩ := y
  refine ⟨Same.refl _, ?_⟩
  rw [List.getElem?_map, List.getElem?_map] at hb
  cases hk : kvs[k]? with
  | none =>
    rw [hk] at hb
    cases hb
  | some p =>
    rw [hk] at hb
    cases hb
    obtain ⟨d', h1, h2'⟩ := e5.get (i := k) (v := V.ref r.2.1) (by rw [List.getElem?_map, hr] <;> rfl)
    rw [List.getElem?_map, hk] at h1
    cases h1
    exact gives_name (kp_step h2' xx k2)
theorem rows_key {h : Addr → Prop} {H : Hp} {rows : List (NestedKey × Addr × V)} {kvs : List (α × β)} (q : Paired (RowOf C h H) rows kvs) (hd : Datum.depth α ≤ 8) : ∀ r ∈ rows, KeyAt K H r.2.1 r.1 := by
  induction q with
  | nil => exact fun _ h => nomatch h
  | @cons a p as bs r t ih =>
    intro x hx
    rcases List.mem_cons.mp hx with ex | hx
    · rw [ex, r.1]
      exact ⟨Nat.le_trans (KeyD.dep p.1) hd, Rep.toD p.1, r.2.1.dp (Datum.plain p.1), KeyD.able p.1, rfl⟩
    · exact ih x hx
theorem rows_find {h : Addr → Prop} {H : Hp} {rows : List (NestedKey × Addr × V)} {kvs : List (α × β)} (q : Paired (RowOf C h H) rows kvs) {a : α} {p : α × β} (hf : (kvs.find? fun p => decide (p.1 = a)) = some p) : ∃ r, (rows.find? fun r => decide (r.1 = nk (Rep.toD a))) = some r ∧ At C h H r.2.2 (Rep.toD p.2) := by
  induction q with
  | nil => cases hf
  | @cons r p' as bs rr t ih =>
    rw [List.find?_cons] at hf ⊢
    by_cases hk : p'.1 = a
    · rw [decide_eq_true hk] at hf
      cases hf
      rw [decide_eq_true (by rw [rr.1, hk])]
      exact ⟨r, rfl, rr.2.2⟩
    · rw [decide_eq_false hk] at hf
      rw [decide_eq_false (by rw [rr.1]; exact fun z => hk (KeyD.inj _ _ z))]
      exact ih hf
theorem ed_ixN {γ : Type} [DecidableEq γ] [Datum γ] [KeyD γ] {kvs : List (Tup γ × β)} {a : Tup γ} {b : β} (h : e[i]? = some (.own (DctT C P w kvs))) (ha : ED C te e a) (hf : (kvs.find? fun p => decide (p.1 = a)) = some (a, b)) (hd : Datum.depth (Tup γ) ≤ 8 := by decide) : ED C (tOp (rIxN K P w) (tVar i) te) e b := fun W F σ H s Q q => by
  obtain ⟨v, hv, d, o, rows, rfl, hF, hd', e4, e5, e6, e7⟩ := s.own i _ h
  refine ⟨_, hv, ha W F σ H s _ fun y H3 x3 a3 => ?_⟩
  obtain ⟨p, vs, rfl, h1, h2, h3⟩ := at_tup a3
  have pr := of_parts e4 (same_all x3 e5) (same_all x3 e6)
  obtain ⟨r, hr, ar⟩ := rows_find pr hf
  exact ⟨d, p, o, rows, nk (Rep.toD a), r, rfl, rfl, x3.at _ _ hd', rows_key pr hd, ⟨Nat.le_trans (KeyD.dep a) hd, Rep.toD a, a3.dp (Datum.plain a), KeyD.able a, rfl⟩, hr, q _ H3 x3 (ar.sub fun a z => .inl z)⟩
end
end PD
end
section
set_option Elab.async false
set_option linter.all false
set_option maxRecDepth 100000
set_option maxHeartbeats 4000000
set_option autoImplicit false
namespace PD
open PySem PySem.Spec PyProof.Rows L2
open PySem.W (Datum Tup)
open LamX (CodeO Tabs TabS TabB)
variable [Tabl]

/-! ### a lambda: its object, its call -/
def LamO (f : Addr) (F : NdefX.NF) (body : Expr) : HO := .ext fun h => ∃ pm ctv : Value, h.get? f = some (PySem.W.kla_obj "<lambda>" F.qual F.params body F.scope F.cl pm F.c ctv)
section
variable {X : Cx} {pins : List (Addr × Obj)} {σ : L2.St} {H : Hp} {s : Shared} {f : Addr} {F : NdefX.NF} {body : Expr} {N ps fr : List Str} {ws : List (Option V)} {k : Nat} {tb : TE} {vs : List V} {us : List Value} {Q : VK}
theorem call_lam {A' : Around} {E' : Value → Shared → Prop} (I : L2.Inv X pins σ H s) (e0 : Env0 X.prog X.w X.K X.mg X.base A' X.stack s H) (S : NdefX.NScope N ps fr F.scope) (hf : H f = some (LamO f F body)) (hc : H F.c = some (CodeO F.c F.qual))
    (hb : ∀ (pm ctv : Value) (us : List Value), us.length = ps.length → bindArgs (PySem.W.kla_fn "<lambda>" F.qual F.params body F.scope F.cl pm (.ref F.c) ctv) ⟨us, []⟩ = pure (ps.zip us)) (C : NdefX.CellsAt F.cl fr ws s.heap H) (hr : Room (k + 1) A')
    (hbody : Room k (A'.deeper (NdefX.envF F f s.heap.objs.size)) → PE (NdefX.ncx C8.CX0 X.prog X.w X.K X.mg X.base N F f A' X.stack s H C8.E0) body tb) (r : Vals vs us) (hl : vs.length = ps.length) (h : tb (NdefX.startF N vs ws) H Q) :
    wpAny (model X.prog X.w) A' (call (.ref f) us) (fun u s' => CE X.stack X.prog X.w H s Q u s') E' s := by
  obtain ⟨⟨pm, ctv, ho⟩, _, _⟩ := I.hok f _ hf
  obtain ⟨⟨oc, vs', t, hoc, hdc, hvc⟩, _, _⟩ := I.hok F.c _ hc
  have lim : s.heap.NoLimit := e0.mod.nolimit.keeps fun b o e => (e0.bs b o e).1
  refine wpAny_call (codeAny_mono (R := CR C8.CX0 X.stack X.prog X.w H s Q C8.E0) ?_ fun r s' hq => ?_)
  · refine PySem.W.kla_callFunE hr.depth ho rfl S.co S.gen rfl ⟨F.c, oc, vs', t, rfl, hoc, hdc, hvc⟩ ?_
    rw [hb pm ctv us (by rw [← r.length]; exact hl)]
    refine wpAny_pure (wpAny_newFunctionEnv S.nocell (fun ⟨n, _⟩ hy => S.par n (List.of_mem_zip hy).1) (fun h₁ hns hsb => ⟨lim.fresh _ hsb, ?_⟩) S.kind)
    show codeAny _ _ (.expr body (NdefX.envF F f s.heap.objs.size)) _ _
    have kp : ∀ b o, s.heap.get? b = some o → h₁.get? b = some o := fun b o e => hsb.extBut b o (Nat.ne_of_lt (Heap.lt_size e)) (Heap.get?_push_of_some _ e)
    have J : L2.Inv (NdefX.ncx C8.CX0 X.prog X.w X.K X.mg X.base N F f A' X.stack s H C8.E0) [] (NdefX.startF N vs ws) H { s with heap := h₁, toks := s.toks + (ps.zip us).length } := NdefX.inv_startN S hr.hd e0 hl r C hns kp
    refine PySem.W.kla_codeExpr (wpAny_mono ((hbody (hr.deeper _)).run [] _ _ H Q J h) (fun v s' hq => ?_) fun e s' hq => hq)
    obtain ⟨w', H', J', rv, q⟩ := hq
    exact ⟨w', H', J'.os, J'.bare, J'.base, J'.hok, rv, q⟩
  · cases r with
    | error e => exact False.elim hq
    | ok fl =>
      cases fl with
      | ret u => exact hq
      | next => exact False.elim hq
      | brk => exact False.elim hq
      | cont => exact False.elim hq
end

/-! ### list.sort(key=f), f a def of the running program -/
/-- the value is the key (i, [j, ..]): known for good -/
def KeyR (H : Hp) (u : Value) (k : Int × List Int) : Prop := ∃ (t l : Addr) (o ol : Obj), u = .ref t ∧ H t = some (.frz o (.tup [.int k.1, .ref l])) ∧ H l = some (.frz ol (.lst (k.2.map V.int)))
def keyD (k : Int × List Int) : PyData := .tuple [.int k.1, .list (k.2.map PyData.int)]
theorem KeyR.mono {H H' : Hp} (x : Same H H') {u : Value} {k : Int × List Int} (q : KeyR H u k) : KeyR H' u k := by
  obtain ⟨t, l, o, ol, h1, h2, h3⟩ := q
  exact ⟨t, l, o, ol, h1, x.at _ _ h2, x.at _ _ h3⟩
theorem dp_ints {K : PySem.W.Frag} {H : Hp} : ∀ js : List Int, DpAll K H (js.map V.int) (js.map PyData.int)
  | [] => .nil
  | j :: js => .cons (.int j) (dp_ints js)
theorem alike_keyD (k k' : Int × List Int) : PySem.W.alike (keyD k) (keyD k') = true := by
  unfold keyD
  simp [PySem.W.alike, PySem.W.alikeAll, PySem.W.alike_ints]
theorem all_keyD {kz : List (Int × List Int)} : PySem.W.AllAlike (kz.map keyD) := PySem.W.AllAlike.of alike_keyD
theorem sortable_keyD {kz : List (Int × List Int)} : PySem.W.Sortable (kz.map keyD) := PySem.W.Sortable.tuples fun k => ⟨_, _, rfl⟩
theorem depth_keyD (k : Int × List Int) : (keyD k).depth ≤ 2 := by
  unfold keyD
  simp [PyData.depth, PyData.depthAll, PySem.W.depth_ints]
section
variable {X : Cx} {pins : List (Addr × Obj)} {σ : L2.St} {H : Hp} {s : Shared} {a kS f : Addr}
theorem KeyR.reads (I : L2.Inv X pins σ H s) {u : Value} {k : Int × List Int} (q : KeyR H u k) : ∃ as, Reads s.heap u (keyD k) as := by
  obtain ⟨t, l, o, ol, rfl, h2, h3⟩ := q
  exact Dp.reads I (keyD k) (.ref t) (.ref t) (.tup (.inl (.inr ⟨o, h2⟩)) (.cons (.int k.1) (.cons (.lst (.inl (.inr ⟨ol, h3⟩)) (dp_ints k.2)) .nil))) rfl
/-- what a call of f at x must give -/
def TurnU (X : Cx) (pins : List (Addr × Obj)) (σ : L2.St) (H' : Hp) (s' : Shared) (k : Int × List Int) (u : Value) (s'' : Shared) : Prop :=
  ∃ H'', L2.Inv X pins σ H'' s'' ∧ Same H' H'' ∧ KeyR H'' u k ∧ ∀ b o, FpOk X pins H' b → s'.heap.get? b = some o → s''.heap.get? b = some o ∧ FpOk X pins H'' b
theorem fp_turn {h' : Heap} {t' : Nat} {b : Addr} (I : L2.Inv X pins σ H s) (fp : FpOk X pins H b) (k : ∀ c o, c ≠ b → s.heap.get? c = some o → h'.get? c = some o) : L2.Inv X pins σ H { s with heap := h', toks := t' } :=
  I.turned k fp.1 fp.2.1 fp.2.2.2.1 fp.2.2.2.2.1 fp.2.2.2.2.2
theorem keyU_rest {e1 : Nat} {vs : List Value} {kz : List (Int × List Int)} {P : PySem.Fin → Shared → Prop} {E : Value → Shared → Prop} (I : L2.Inv X pins σ H s) (fk : FpOk X pins H kS) (fa : FpOk X pins H a) (nk : s.heap.get? kS = some (seqObj "list" #[] 0)) (na : s.heap.get? a = some (seqObj "list" #[] e1)) (hka : kS ≠ a)
    (hlen : kz.length = vs.length) (hZ : vs.length ≤ sizeLine) (hu : X.A.units + 64 < cLine)
    (turn : ∀ (i : Nat) (v : Value) (k : Int × List Int), vs[i]? = some v → kz[i]? = some k → ∀ (H' : Hp) (s' : Shared), L2.Inv X pins σ H' s' → Same H H' → wpAny (model X.prog X.w) X.A.in1.in1 (call (.ref f) [v]) (TurnU X pins σ H' s' k) (fun _ _ => False) s')
    (h : ∀ H' s' out c h' tk, L2.Inv X pins σ H' s' → Same H H' → FpOk X pins H' kS → FpOk X pins H' a → (∀ b o, b ≠ a → b ≠ kS → s'.heap.get? b = some o → h'.get? b = some o) → h'.get? a = some (seqObj "list" (List.toArray out) c) → PySem.W.KeyedOut false (kz.map keyD) vs out → P (.done (.ret .none)) { s' with heap := h', toks := tk }) :
    wpAny (model X.prog X.w) X.A.in1.in1 (ksk_rest a (.ref f) false vs.toArray e1 (.ref kS)) P E s := by
  unfold ksk_rest
  refine wpAny_bind (wpAny_rule ?_)
  first
    | rw [List.forIn_toArray]
    | (rw [← Array.forIn_toList]; simp only [List.toList_toArray])
    | rw [← Array.forIn_toList]
  refine wpAny_bind (ksk_fold (fun i s' => ∃ H' kA e, L2.Inv X pins σ H' s' ∧ Same H H' ∧ FpOk X pins H' kS ∧ FpOk X pins H' a ∧ s'.heap.get? kS = some (seqObj "list" kA e) ∧ s'.heap.get? a = some (seqObj "list" #[] e1) ∧ PySem.W.EachIs (fun v k => KeyR H' v k) kA.toList (kz.take i)) vs 0 s
    ⟨H, #[], 0, I, Same.refl H, fk, fa, nk, na, by rw [List.take_zero]; exact PySem.W.EachIs.nil⟩ ?step ?done)
  case step =>
    rintro j x s' hx ⟨H', kA, e, I', sm, fk', fa', nk', na', hk⟩
    simp only [Nat.zero_add] at hk ⊢
    have hj : j < vs.length := (List.getElem?_eq_some_iff.mp hx).1
    obtain ⟨k, hkj⟩ : ∃ k, kz[j]? = some k := ⟨_, List.getElem?_eq_getElem (by omega)⟩
    have hz : kA.size ≤ vs.length := by
      have h1 := hk.length
      rw [Array.length_toList, List.length_take] at h1
      omega
    refine wpAny_bind (wpAny_attempt (wpAny_mono (turn j x k hx hkj H' s' I' sm) (fun v s'' he => ?_) fun _ _ hF => hF.elim))
    obtain ⟨H'', I2, sm2, hr, kept⟩ := he
    try dsimp only
    obtain ⟨nk2, fk2⟩ := kept kS _ fk' nk'
    obtain ⟨na2, fa2⟩ := kept a _ fa' na'
    obtain ⟨c2, hc2⟩ : ∃ c2, (s''.heap.update kS (Obj.mapSeq (·.push v))).get? kS = some (seqObj "list" (kA.push v) c2) := ⟨_, get?_update_seq nk2 (·.push v)⟩
    have s1 := Heap.SameBut.update s''.heap kS (Obj.mapSeq (·.push v))
    have ek : kz.take (j + 1) = kz.take j ++ [k] := by rw [List.take_add_one, hkj]; simp
    have ea : (kA.push v).toList = kA.toList ++ [v] := by simp
    refine wpAny_bind (listUpdate_at nk2 rfl ?_ (Nat.le_trans hz hZ) (Nat.le_trans (Nat.le_of_eq (Array.size_push ..)) (Nat.succ_le_succ (Nat.le_trans hz hZ))))
    refine wpAny_pure ⟨rfl, H'', kA.push v, c2, fp_turn (t' := s''.toks) I2 fk2 (fun c o hc e => (s1.2 c hc).trans e), sm.trans sm2, fk2, fa2, hc2, (s1.2 a hka.symm).trans na2, ?_⟩
    rw [ea, ek]
    exact PySem.W.each_snoc (R := fun (v : Value) (k : Int × List Int) => KeyR H'' v k) hr (hk.mono fun u d q => q.mono sm2)
  case done =>
    rintro s' ⟨H', kA, e, I', sm, fk', fa', nk', na', hk⟩
    have e3 : kz.take (0 + vs.length) = kz := List.take_of_length_le (by omega)
    rw [e3] at hk
    have hk' : PySem.W.EachIs (fun v k => ∃ as, Reads s'.heap v k as) kA.toList (kz.map keyD) := PySem.W.each_map keyD (hk.mono fun v k q => q.reads I')
    have hsz : kA.size = vs.length := by
      have h1 := hk.length
      rw [Array.length_toList] at h1
      omega
    try dsimp only
    refine wpAny_bind (listItems_at nk' rfl ?_)
    have hid : ∀ {b : Addr} {o : Obj}, b ≠ kS → s'.heap.get? b = some o → (PySem.W.hideAll s'.heap [kS]).get? b = some o := fun {b o} hb e => PySem.W.hideAll_get [kS] e (by simp [hb])
    have hid2 : ∀ {b : Addr} {o : Obj}, (PySem.W.hideAll s'.heap [kS]).get? b = some o → s'.heap.get? b = some o := fun {b o} e => PySem.W.of_hideAll [kS] e
    exact PySem.W.keyH_end (A := X.A.in1.in1) (κ := PySem.W.dataKind s'.heap (kz.map keyD)) (h₁ := PySem.W.hideAll s'.heap [kS]) (fun b o _ e => hid2 e) (PySem.W.hideAll_none [kS] (by simp)) nk' na' hka
      (PySem.W.SortsAt.data hk' all_keyD sortable_keyD (fun d hd => by
        obtain ⟨k, _, rfl⟩ := List.mem_map.mp hd
        have := depth_keyD k
        show X.A.units + 1 + 1 + (keyD k).depth < cLine
        omega)) hsz hZ fun h3 tk3 c k3 n3 => h H' s' _ c h3 tk3 I' sm fk' fa' (fun b o hb hk e => k3 b o hb (hid hk e)) n3 ⟨s'.heap, kA.toList, all_keyD, rfl, hk'⟩
abbrev Itm := V × (Int × List Int)
abbrev sortK (its : List Itm) : List Itm := its.mergeSort (PySem.W.dataLe false fun b => keyD b.2)
theorem vals_each : ∀ {its : List Itm} {vs : List Value}, Vals (its.map (·.1)) vs → PySem.W.EachIs (fun (v : Value) (b : Itm) => L2.RelV b.1 v) vs its
  | [], _, r => by
    cases r
    exact .nil
  | b :: its, _, r => by
    have r' : Vals (b.1 :: its.map (·.1)) _ := r
    cases r' with
    | cons r1 r2 => exact .cons r1 (vals_each r2)
theorem each_vals : ∀ {its : List Itm} {vs : List Value}, PySem.W.EachIs (fun (v : Value) (b : Itm) => L2.RelV b.1 v) vs its → Vals (its.map (·.1)) vs
  | _, _, .nil => .nil
  | _, _, .cons r t => .cons r (each_vals t)
/-- list.sort(key=f) of a list that nobody tracks; then it is tracked -/
theorem keyU_tree {n : Nat} {vs : List Value} {its : List Itm} {P : PySem.Fin → Shared → Prop} {E : Value → Shared → Prop} (I : L2.Inv X pins σ H s) (fa : FpOk X pins H a) (ho : s.heap.get? a = some (seqObj "list" vs.toArray n)) (rv : Vals (its.map (·.1)) vs) (hZ : vs.length ≤ sizeLine) (hu : X.A.units + 64 < cLine)
    (turn : ∀ (i : Nat) (v : Value) (b : Itm), vs[i]? = some v → its[i]? = some b → ∀ (H' : Hp) (s' : Shared), L2.Inv X pins σ H' s' → Same H H' → wpAny (model X.prog X.w) X.A.in1.in1 (call (.ref f) [v]) (TurnU X pins σ H' s' b.2) (fun _ _ => False) s')
    (h : ∀ H' s', L2.Inv X pins σ (upd H' a (.lst ((sortK its).map (·.1)))) s' → Same H H' → H' a = none → P (.done (.ret .none)) s') :
    wpAny (model X.prog X.w) X.A.in1.in1 (ksk_tree a (.ref f) false) P E s := by
  have ha : a < s.heap.objs.size := Heap.lt_size ho
  have hl : its.length = vs.length := by rw [← rv.length, List.length_map]
  obtain ⟨e1, ho1⟩ : ∃ e1, (s.heap.update a (Obj.mapSeq fun _ => (#[] : Array Value))).get? a = some (seqObj "list" #[] e1) := ⟨_, get?_update_seq ho fun _ => #[]⟩
  have hkS : ((s.heap.update a (Obj.mapSeq fun _ => (#[] : Array Value))).push (seqObj "tuple" vs.toArray 0)).objs.size = s.heap.objs.size + 1 := by rw [size_push', Heap.size_update]
  unfold ksk_tree
  refine wpAny_bind (listItems_at ho rfl ?_)
  refine wpAny_bind (listUpdate_at ho rfl ?_ (by rw [List.size_toArray]; exact hZ) (Nat.zero_le _))
  refine wpAny_bind (seqEpoch_at ho1 rfl ?_)
  refine wpAny_bind (wpAny_newTuple ?_ (by show vs.length ≤ _; exact hZ))
  refine wpAny_bind (wpAny_newList ?_ (Nat.zero_le _))
  refine wpAny_holding ?_
  have fk : FpOk X pins H ((s.heap.update a (Obj.mapSeq fun _ => (#[] : Array Value))).push (seqObj "tuple" vs.toArray 0)).objs.size := I.fpOk (by rw [hkS]; exact Nat.le_succ _) (I.hok.fresh (by rw [hkS]; exact Nat.le_succ _))
  have I3 := fp_turn (t' := s.toks) (h' := ((s.heap.update a (Obj.mapSeq fun _ => (#[] : Array Value))).push (seqObj "tuple" vs.toArray 0)).push (seqObj "list" #[] 0)) I fa fun b o hb q => PySem.W.sortingHeap_old hb q
  refine keyU_rest (kz := its.map (·.2)) I3 fk fa (Heap.get?_push_size _ rfl) (Heap.get?_push_of_some _ (Heap.get?_push_of_some _ ho1)) (by rw [hkS]; exact Nat.ne_of_gt (Nat.lt_succ_of_lt ha)) (by rw [List.length_map]; exact hl) hZ hu (fun i v k hv hk H' s' I' sm => ?_) fun H' s' out c h' tk I' sm fk' fa' kp na ko => ?_
  · rw [List.getElem?_map] at hk
    cases hb : its[i]? with
    | none =>
      rw [hb] at hk
      cases hk
    | some b =>
      rw [hb] at hk
      cases hk
      exact turn i v b hv hb H' s' I' sm
  · rw [List.map_map] at ko
    have eo := PySem.W.keyedOut_each (R := fun (v : Value) (b : Itm) => L2.RelV b.1 v) (k := fun b : Itm => keyD b.2) ko (vals_each rv)
    have ro := each_vals eo
    have ol : out.length = vs.length := PySem.W.KeyedOut.length ko (by rw [List.length_map]; exact hl)
    have nin : ∀ {b : Addr} {u : HO}, H' b = some u → b ≠ a ∧ b ≠ ((s.heap.update a (Obj.mapSeq fun _ => (#[] : Array Value))).push (seqObj "tuple" vs.toArray 0)).objs.size := fun {b u} e => ⟨fun z => (by rw [z, fa'.1] at e; cases e), fun z => (by rw [z, fk'.1] at e; cases e)⟩
    have un : Un (frs X.stack) [a, ((s.heap.update a (Obj.mapSeq fun _ => (#[] : Array Value))).push (seqObj "tuple" vs.toArray 0)).objs.size] H' (upd H' a (.lst ((sortK its).map (·.1)))) s'.heap h' := by
      refine ⟨fun b o e _ _ hx => kp b o (fun z => hx (by simp [z])) (fun z => hx (by rw [z]; simp)) e, fun b o e _ _ hx => ⟨o.slots, kp b o (fun z => hx (by simp [z])) (fun z => hx (by rw [z]; simp)) e⟩, fun b o _ n hx => by rw [upd_ne (fun z => hx (by simp [z]))]; exact n, fun b o e hx => ⟨o, kp b o (fun z => hx (by simp [z])) (fun z => hx (by rw [z]; simp)) e⟩, fun b xs e => ?_, fun b o u e => ?_, fun b ps e => ⟨#[], ?_⟩⟩
      · rw [upd_ne (nin e).1]; exact e
      · rw [upd_ne (nin e).1]; exact e
      · rw [upd_ne (nin e).1, e]; simp
    have hok : HOk X.prog X.w (upd H' a (.lst ((sortK its).map (·.1)))) h' := fun b u e => by
      by_cases hb : b = a
      · subst hb
        rw [upd_same] at e
        cases e
        exact ⟨by rw [ro.length, ol]; exact hZ, out, c, ro, na⟩
      · rw [upd_ne hb] at e
        refine (I'.hok b u e).stay (fun d ud hd eu => ?_) (fun d hd => ?_) fun d xs hd => ?_
        · have : H' d ≠ none := by
            rcases hd with z | z
            · rw [z, e]; exact fun q => nomatch q
            · rw [z]; exact fun q => nomatch q
          exact kp d ud (fun z => this (by rw [z]; exact fa'.1)) (fun z => this (by rw [z]; exact fk'.1)) eu
        · rw [upd_ne (nin hd).1]; exact hd
        · rw [upd_ne (nin hd).1]; exact hd
    refine h H' _ (I'.call (g' := s'.gens) (d' := s'.drawn) (t' := tk) un hok I'.bare fun b hb => ?_) sm fa'.1
    have hb' : b = a ∨ b = ((s.heap.update a (Obj.mapSeq fun _ => (#[] : Array Value))).push (seqObj "tuple" vs.toArray 0)).objs.size := by simpa using hb
    rcases hb' with z | z
    · rw [z]; exact ⟨fa'.2.2.2.1, fa'.2.1, fa'.2.2.2.2.1, fa'.2.2.2.2.2⟩
    · rw [z]; exact ⟨fk'.2.2.2.1, fk'.2.1, fk'.2.2.2.2.1, fk'.2.2.2.2.2⟩
end
end PD
end
section
set_option Elab.async false
set_option linter.all false
set_option maxRecDepth 100000
set_option maxHeartbeats 4000000
set_option autoImplicit false
namespace PD
open PySem PySem.Spec PyProof.Rows L2
open PySem.W (Datum Tup)
open LamX (CodeO Tabs TabS TabB)
variable [Tabl]

/-! ### a lambda is made -/
def tLamE (mk : Addr → NdefX.NF) (body : Expr) : TE := fun _ H Q => Tabs Tabl.T H ∧ ∀ f c' H1, Same H H1 → H f = none → H1 f = some (LamO f (mk c') body) → H1 c' = some (CodeO c' (mk c').qual) → Q (.ref f) H1
section
variable {X : Cx} {params : Arguments} {body : Expr} {scope : Scope} {lpos : Pos} {c P0 : Addr}
def lamF (X : Cx) (params : Arguments) (scope : Scope) (c' : Addr) : NdefX.NF := ⟨"<lambda>", X.env.qual ++ "<lambda>", params, [], scope, cloFrom X.env.cells scope.names [], c'⟩
theorem pe_lamE (TB : TabB X.base X.mg c P0) (hcode : X.env.code = .ref c) (hm : (P0, X.env.qual ++ "<lambda>") ∈ Tabl.T) (hu : ∀ p ∈ Tabl.T, p.1 = P0 → p.2 = X.env.qual ++ "<lambda>") (hdef : defaultsOf params X.env = ([], []))
    (hsc : ∀ y ∈ scope.names, y.2 = .free → X.env.scope.names.lookup y.1 = some .cell ∨ X.env.scope.names.lookup y.1 = some .free) : PE X (.Lambda params body scope lpos) (tLamE (lamF X params scope) body) := by
  refine ⟨fun pins s σ H Q I ⟨hT, q⟩ => ?_⟩
  have hfree : ∀ y ∈ scope.names, y.2 = .free → ∃ c, X.env.cells.lookup y.1 = some c := fun y hy e => (hsc y hy e).elim (fun z => I.ok.has _ (.inl z)) fun z => I.ok.has _ (.inr z)
  obtain ⟨ps, hP, ht, ha⟩ := hT _ hm
  refine PySem.W.kla_eval hdef ?_
  have bP : s.heap.BuiltinsAt X.mg P0 := TB.bm.keeps I.bk
  have hP' : s.heap.get? P0 = some { cls := .none, data := .fields ps } := I.hok P0 _ hP
  -- the object is laid, and known from now on
  have fin : ∀ {H1 : Hp} {h' : Heap} {tk : Nat} {c' : Addr} {pm ctv : Value}, L2.Inv X pins σ H1 { s with heap := h', toks := tk } → Same H H1 → H1 c' = some (CodeO c' (X.env.qual ++ "<lambda>")) → s.heap.objs.size ≤ h'.objs.size →
      EP X pins σ Q (.ref h'.objs.size) { s with heap := h'.push (PySem.W.kla_obj "<lambda>" (X.env.qual ++ "<lambda>") params body scope (cloFrom X.env.cells scope.names []) pm c' ctv), toks := tk } := fun {H1 h' tk c' pm ctv} I1 sm hc hz => by
    have hf1 : H1 h'.objs.size = none := I1.hok.fresh (Nat.le_refl _)
    have ho : (h'.push (PySem.W.kla_obj "<lambda>" (X.env.qual ++ "<lambda>") params body scope (cloFrom X.env.cells scope.names []) pm c' ctv)).get? h'.objs.size = some (PySem.W.kla_obj "<lambda>" (X.env.qual ++ "<lambda>") params body scope (cloFrom X.env.cells scope.names []) pm c' ctv) := Heap.get?_push_size _ rfl
    have I2 := I1.laid (t' := tk) (a := h'.objs.size) (o := LamO h'.objs.size (lamF X params scope c') body) (h' := h'.push (PySem.W.kla_obj "<lambda>" (X.env.qual ++ "<lambda>") params body scope (cloFrom X.env.cells scope.names []) pm c' ctv)) (fun b u e => Heap.get?_push_of_some _ e) (Nat.le_refl _)
      ⟨⟨pm, ctv, ho⟩, ⟨_, ho⟩, fun h1 h2 ⟨p1, p2, z⟩ st => ⟨p1, p2, st _ z⟩⟩
    exact ⟨.ref h'.objs.size, _, I2, rfl, q _ c' _ (sm.trans (same_new hf1)) (I.hok.fresh hz) upd_same (by rw [upd_ne (fun z => by rw [← z, hc] at hf1; cases hf1)]; exact hc)⟩
  cases hc : codeAmong lpos ps.toList with
  | none =>
    refine PySem.W.kla_makeFunction (mg := X.mg) (c := c) (P := P0) (ps := ps) (closure_ok hfree) I.ok.glob (I.mod.glob.keeps I.bk) hcode (TB.code.keeps I.bk) hP' ht hc TB.gP bP fun c' ctv h' tk hx hge hlt hrec htb => ?_
    obtain ⟨c2, oc, vs, t, e2, hoc, hd, hv⟩ := hrec
    cases e2
    have nC : H c' = none := I.hok.fresh hge
    have I1 := LamX.inv_table (t' := tk) (more := #[rawInt lpos.line, rawInt lpos.col, .ref c']) (h' := h') I hP hx htb hge ⟨oc, vs, t, hoc, hd, hv⟩
    have keep : ∀ b o, H b = some o → (∀ ps, o ≠ .tbl ps) → upd (upd H P0 (.tbl (ps ++ #[rawInt lpos.line, rawInt lpos.col, .ref c']))) c' (CodeO c' (X.env.qual ++ "<lambda>")) b = some o := fun b o e n => by
      rw [upd_ne (ne_of_none e nC), upd_ne (fun z => n ps (Option.some.inj (e.symm.trans (by rw [z]; exact hP))))]
      exact e
    have eL : (ps ++ #[rawInt lpos.line, rawInt lpos.col, .ref c']).toList = ps.toList ++ [rawInt lpos.line, rawInt lpos.col, .ref c'] := by simp
    refine fin I1 ⟨keep, fun {b} e => ?_, fun hT => fun p hp => ?_⟩ upd_same (Nat.le_trans hge (Nat.le_of_lt hlt))
    · by_cases h1 : b = c'
      · rw [h1, upd_same] at e
        cases e
      · rw [upd_ne h1] at e
        by_cases h2 : b = P0
        · rw [h2, upd_same] at e
          cases e
        · rw [upd_ne h2] at e
          exact e
    · by_cases hb : p.1 = P0
      · rw [hu p hp hb, hb]
        refine ⟨_, by rw [upd_ne (ne_of_none hP nC), upd_same], by rw [eL]; exact PySem.TriplesOk_snoc _ _ _ _ ht, fun p' cv hcv => ?_⟩
        rw [eL] at hcv
        rcases LamX.among_app _ ht hcv with z | z
        · obtain ⟨c0, e1, e2⟩ := ha p' cv z
          exact ⟨c0, e1, keep _ _ e2 LamX.codeO_ne⟩
        · exact ⟨c', z, upd_same⟩
      · obtain ⟨ps', a1, a2, a3⟩ := hT p hp
        refine ⟨ps', by rw [upd_ne (ne_of_none a1 nC), upd_ne hb]; exact a1, a2, fun p' cv hcv => ?_⟩
        obtain ⟨c0, e1, e2⟩ := a3 p' cv hcv
        exact ⟨c0, e1, keep _ _ e2 LamX.codeO_ne⟩
  | some cv =>
    obtain ⟨c', e, hco⟩ := ha lpos cv hc
    subst e
    refine PySem.W.kla_makeFunctionHit (mg := X.mg) (c := c) (P := P0) (ps := ps) (closure_ok hfree) I.ok.glob (I.mod.glob.keeps I.bk) hcode (TB.code.keeps I.bk) hP' ht hc bP fun ctv h' tk hx hsz => ?_
    exact fin (I.kept (t' := tk) hx) (Same.refl H) hco hsz
end

/-! ### sorted(d, key = lambda ..) -/
/-- it gives the key k, made anew -/
def KeyV (H2 : Hp) (k : Int × List Int) : VK := fun v H3 => Same H2 H3 ∧ ∃ t l o, v = V.ref t ∧ H3 t = some (.frz o (.tup [.int k.1, .ref l])) ∧ H2 l = none ∧ H3 l = some (.lst (k.2.map V.int))
theorem vals_rows : ∀ rows : List (NestedKey × Addr × V), Vals (rows.map fun r => V.ref r.2.1) (rows.map fun r => Value.ref r.2.1)
  | [] => .nil
  | _ :: rs => .cons rfl (vals_rows rs)
def tSortLam (P : Program) (w : World) (Nl : List Str) (js : List Nat) (td tb : TE) : TE := fun σ H Q => td σ H fun x H1 => ∃ (d : Addr) (o : Obj) (rows : List (NestedKey × Addr × V)) (its : List Itm), x = .ref d ∧ H1 d = some (.frz o (DctO P w d rows)) ∧ rows.length ≤ 4096 ∧ Tabs Tabl.T H1 ∧ its.map (·.1) = rows.map (fun r => V.ref r.2.1) ∧
  (∀ b ∈ its, ∀ H2, Same H1 H2 → tb (NdefX.startF Nl [b.1] (js.map (NdefX.slotAt σ))) H2 (KeyV H2 b.2)) ∧
  ∀ p H2, Same H1 H2 → H1 p = none → H2 p = some (.lst ((sortK its).map (·.1))) → Q (.ref p) H2
section
variable {X : Cx} {d body : Expr} {params : Arguments} {scope : Scope} {lpos kpos p pos : Pos} {c P0 : Addr} {td tb : TE} {Nl fr : List Str} {y0 : Str} {js : List Nat} {k : Nat}
theorem pe_sortLam (hcalm : X.calm = true) (hr : Room (k + 4) X.A) (TB : TabB X.base X.mg c P0) (hcode : X.env.code = .ref c) (hm : (P0, X.env.qual ++ "<lambda>") ∈ Tabl.T) (hu : ∀ p ∈ Tabl.T, p.1 = P0 → p.2 = X.env.qual ++ "<lambda>") (hdef : defaultsOf params X.env = ([], []))
    (S : NdefX.NScope Nl [y0] fr scope) (hsc : ∀ y ∈ scope.names, y.2 = .free → X.env.scope.names.lookup y.1 = some .cell ∨ X.env.scope.names.lookup y.1 = some .free) (hfr : ∀ y ∈ fr, (y, NameKind.free) ∈ scope.names) (hjs : js.map (fun j => X.N[j]?) = fr.map some)
    (hb : ∀ (c' : Addr) (pm ctv : Value) (us : List Value), us.length = 1 → bindArgs (PySem.W.kla_fn "<lambda>" (X.env.qual ++ "<lambda>") params body scope (cloFrom X.env.cells scope.names []) pm (.ref c') ctv) ⟨us, []⟩ = pure ([y0].zip us))
    (hg : Gl X "sorted") (hmS : X.mg "sorted" = none) (hd : PE X d td)
    (hbody : ∀ (f c' : Addr) (A' : Around) (s : Shared) (H : Hp), Room k (A'.deeper (NdefX.envF (lamF X params scope c') f s.heap.objs.size)) → PE (NdefX.ncx C8.CX0 X.prog X.w X.K X.mg X.base Nl (lamF X params scope c') f A' X.stack s H C8.E0) body tb)
    (hst : starEach [d] X.env = (false, eval d X.env) :: starEach [] X.env := by rfl) (he : backTo pos (starEach [d] X.env) = (false, eval d X.env) :: backTo pos (starEach [] X.env) := by rfl) (hpl : (backTo pos (starEach [d] X.env)).any (·.1) = false := by rfl)
    (hall : (backToKw pos (keywordEach [⟨some "key", .Lambda params body scope lpos, kpos⟩] X.env)).all (·.1.isSome) = true := by rfl) (hnone : (backToKw pos (keywordEach [⟨some "key", .Lambda params body scope lpos, kpos⟩] X.env)).any (·.1.isNone) = false := by rfl) (hks : (backToKw pos (keywordEach [⟨some "key", .Lambda params body scope lpos, kpos⟩] X.env)).filterMap (·.1) = [("key" : Str)] := by rfl) :
    PE X (.Call (.Name "sorted" p) [d] [⟨some "key", .Lambda params body scope lpos, kpos⟩] pos) (tSortLam X.prog X.w Nl js td tb) := by
  refine ⟨fun pins s σ H Q I h => ?_⟩
  refine wpAny_Call_Name_kw (ld_blt I hg hmS bb_sorted ?_ (by decide) (by decide))
  refine PyProof.Rows.callWith_kw (thn ((pa_cons hd pa_nil hst).run pos pins s σ H (fun vs H1 => match vs with
    | [x] => ∃ (d : Addr) (o : Obj) (rows : List (NestedKey × Addr × V)) (its : List Itm), x = .ref d ∧ H1 d = some (.frz o (DctO X.prog X.w d rows)) ∧ rows.length ≤ 4096 ∧ Tabs Tabl.T H1 ∧ its.map (·.1) = rows.map (fun r => V.ref r.2.1) ∧
      (∀ b ∈ its, ∀ H2, Same H1 H2 → tb (NdefX.startF Nl [b.1] (js.map (NdefX.slotAt σ))) H2 (KeyV H2 b.2)) ∧
      ∀ p H2, Same H1 H2 → H1 p = none → H2 p = some (.lst ((sortK its).map (·.1))) → Q (.ref p) H2
    | _ => False) I h) fun us s1 ⟨vs, H1, I1, r1, q1⟩ => ?_) he hpl hall hnone
  · match vs, r1, q1 with
    | [x], r1, ⟨d', o, rows, its, ex, hd1, hlen, hT, hits, hkey, q⟩ =>
      subst ex
      obtain ⟨u, rfl, ru⟩ := vals1 r1
      cases ru
      refine thn ((pk_cons (pe_lamE TB hcode hm hu hdef hsc) pk_nil).run pos pins s1 σ H1 (fun zs H2 => ∃ f c', zs = [V.ref f] ∧ Same H1 H2 ∧ H2 f = some (LamO f (lamF X params scope c') body) ∧ H2 c' = some (CodeO c' (X.env.qual ++ "<lambda>"))) I1 ⟨hT, fun f c' H2 sm hf hf2 hc2 => ⟨f, c', rfl, sm, hf2, hc2⟩⟩) fun ws s2 ⟨zs, H2, I2, r2, f, c', ez, sm, hf2, hc2⟩ => ?_
      subst ez
      obtain ⟨u, rfl, ru⟩ := vals1 r2
      cases ru
      rw [hks]
      show wpAny (model X.prog X.w) X.A (call (.builtin "sorted") [.ref d'] [(Str.ofString "key", .ref f)]) (EP X pins σ Q) X.xe s2
      have hd2 : H2 d' = some (.frz o (DctO X.prog X.w d' rows)) := sm.at _ _ hd1
      obtain ⟨hgd, xs, pr, raw⟩ := dct_of I2 hd2
      obtain ⟨hs, hx, es, ep, hdt, hsz, ent⟩ := raw_ent pr raw hgd
      have hz : es.size ≤ sizeLine := by rw [hsz]; exact Nat.le_trans hlen (by decide)
      refine call_function_entry_kw kind_sorted plain_sorted entry_sorted (ksk_s1 _ _) ?_
      unfold Builtin.«sorted»
      refine wpAny_bind (m := checkCount "sorted" 1 1 _) (wpAny_pure ?_)
      refine wpAny_bind (PySem.W.kdu_collect (A := X.A.in1) (kdl_raw hs hx hdt) (I2.ok.hd hcalm) hgd hz fun h' tk acc hk hacc => ?_)
      have hal : acc.toList.length = rows.length := by rw [Array.length_toList, hacc.1, hsz]
      have ea : acc.toList = rows.map fun r => Value.ref r.2.1 := by
        apply List.ext_getElem?
        intro j
        rw [List.getElem?_map]
        cases hj : acc.toList[j]? with
        | none =>
          rw [List.getElem?_eq_none (by have := List.getElem?_eq_none_iff.mp hj; omega)]
          rfl
        | some v =>
          obtain ⟨en, hen, hv⟩ := hacc.2 j v (by rw [← Array.getElem?_toList]; exact hj)
          have hlt : j < rows.length := by have := (List.getElem?_eq_some_iff.mp hj).1; omega
          obtain ⟨en2, hen2, hkey2⟩ := ent j rows[j] (List.getElem?_eq_getElem hlt)
          rw [hen] at hen2
          cases hen2
          rw [List.getElem?_eq_getElem hlt, hv, hkey2]
          rfl
      have I3 : L2.Inv X pins σ H2 { s2 with heap := h', toks := tk } := I2.kept hk
      refine wpAny_bind (wpAny_newList ?_ (by rw [hal]; exact Nat.le_trans hlen (by decide)))
      have hoL : (h'.push (seqObj "list" acc.toList.toArray 0)).get? h'.objs.size = some (seqObj "list" acc.toList.toArray 0) := Heap.get?_push_size _ rfl
      show wpAny _ _ _ _ _ { s2 with heap := h'.push (seqObj "list" acc.toList.toArray 0), toks := tk }
      have I4 : L2.Inv X pins σ H2 { s2 with heap := h'.push (seqObj "list" acc.toList.toArray 0), toks := tk } := I3.kept (t' := tk) fun b ob e => Heap.get?_push_of_some _ e
      have fa : FpOk X pins H2 h'.objs.size := I3.fpOk (Nat.le_refl _) (I3.hok.fresh (Nat.le_refl _))
      refine wpAny_bind (wpAny_holding (wpAny_call_entry_kw PyProof.Rows.slot_list_sort ⟨_, hoL, rfl⟩ PyProof.Rows.entry_list_sort ?body (ksk_l1 _ _)))
      case body =>
        rw [ksk_t1]
        refine keyU_tree (its := its) I4 fa hoL ?vals (by rw [hal]; exact Nat.le_trans hlen (by decide)) hr.units ?turn fun H' s' I' sm' hna => ?fin
        case vals =>
          rw [ea, hits]
          exact vals_rows rows
        case fin =>
          refine ⟨_, rfl, wpAny_pure ⟨_, rfl, ?_⟩⟩
          have nA : H1 h'.objs.size = none := sm.free (sm'.free hna)
          refine ⟨.ref h'.objs.size, _, I', rfl, q h'.objs.size _ ⟨fun b ob e n => ?_, fun {b} e => ?_, fun hT' => ?_⟩ nA upd_same⟩
          · rw [upd_ne (fun z => by rw [z, nA] at e; cases e)]
            exact sm'.keep b ob (sm.keep b ob e n) n
          · by_cases z : b = h'.objs.size
            · rw [z, upd_same] at e
              cases e
            · rw [upd_ne z] at e
              exact sm.free (sm'.free e)
          · exact (sm'.tabs (sm.tabs hT')).ext fun b ob e => by
              rw [upd_ne (fun z => by rw [z, hna] at e; cases e)]
              exact e
        case turn =>
          intro i v b hv hb' H' s' I5 sm5
          have hb1 : (its.map (·.1))[i]? = some b.1 := by rw [List.getElem?_map, hb'] <;> rfl
          rw [hits, List.getElem?_map] at hb1
          cases hr' : rows[i]? with
          | none =>
            rw [hr'] at hb1
            cases hb1
          | some r =>
            rw [hr'] at hb1
            have hb2 : V.ref r.2.1 = b.1 := Option.some.inj hb1
            have hrm : b ∈ its := List.mem_of_getElem? hb'
            rw [ea, List.getElem?_map, hr'] at hv
            cases hv
            have sm15 := sm.trans sm5
            have e0 : Env0 X.prog X.w X.K X.mg X.base X.A.in1.in1 X.stack s' H' := I5.env0.in1.in1
            have hn1 : ∀ c q (ps : Array Value), CodeO c q ≠ .tbl ps := fun c q ps => LamX.codeO_ne ps
            have hn2 : ∀ (ps : Array Value), LamO f (lamF X params scope c') body ≠ .tbl ps := fun ps z => by
              unfold LamO at z
              cases z
            refine wpAny_mono (call_lam (k := k) (ps := [y0]) (N := Nl) I5 e0 S (sm5.keep _ _ hf2 hn2) (sm5.keep _ _ hc2 (hn1 _ _)) (hb c') (NdefX.cells_of I5 (NdefX.Caps.made I5.ok hsc hfr hjs)) ?_ (hbody f c' _ s' H') (vs := [b.1]) (us := [Value.ref r.2.1]) (.cons (by rw [← hb2]; rfl) .nil) rfl (hkey b hrm H' sm15)) (fun u s'' ce => ?_) fun _ _ x => x
            · exact (hr.mono (by omega : (k + 1) + 1 + 1 ≤ k + 4)).in1.in1
            · obtain ⟨v', H'', os, bare, un, hok, rv, smv, t, l, ot, rfl, ht, hl0, hl⟩ := ce
              cases rv
              have I6 := I5.call' os un hok bare (ch := []) (fun b z => absurd z (by simp))
              obtain ⟨od, I7⟩ := I6.lock hl trivial
              have htl : t ≠ l := fun z => by rw [z, hl] at ht; cases ht
              refine ⟨_, I7, same_upd smv hl0 hl, ⟨t, l, ot, od, rfl, by rw [upd_ne htl]; exact ht, upd_same⟩, fun b ob fp e => ?_⟩
              have nfs : b ∉ frs X.stack := fun z => (List.mem_cons.mp (I5.stkSub b z)).elim fp.2.1 fp.2.2.1
              have hb0 : H'' b = none := un.free b ob e fp.1 (by simp)
              exact ⟨un.keep b ob e fp.1 nfs (by simp), by rw [upd_ne (fun z => by rw [z, hl] at hb0; cases hb0)]; exact hb0, fp.2⟩
end

/-! ### .., as data -/
def leK {α : Type} (key : α → Int × List Int) : α → α → Bool := PySem.W.dataLe false fun a => keyD (key a)
def sortBy {α : Type} (key : α → Int × List Int) (xs : List α) : List α := xs.mergeSort (leK key)
theorem atAll_of {C : Addr} {h : Addr → Prop} {H : Hp} {α : Type} [Rep α] : ∀ {zs : List (V × α)}, (∀ z ∈ zs, At C h H z.1 (Rep.toD z.2)) → AtAll C h H (zs.map (·.1)) ((zs.map (·.2)).map Rep.toD)
  | [], _ => .nil
  | z :: zs, q => .cons (q z (List.mem_cons_self ..)) (atAll_of fun y hy => q y (List.mem_cons_of_mem _ hy))
theorem zip_at {C : Addr} {h : Addr → Prop} {H : Hp} {α : Type} [Rep α] : ∀ {us : List V} {as : List α}, AtAll C h H us (as.map Rep.toD) → ∀ z ∈ us.zip as, At C h H z.1 (Rep.toD z.2) ∧ z.2 ∈ as
  | [], _, _, z, hz => by simp at hz
  | _ :: _, [], t, z, hz => by cases t
  | u :: us, a :: as, t, z, hz => by
    have t' : AtAll C h H (u :: us) (Rep.toD a :: as.map Rep.toD) := t
    cases t' with
    | cons r t2 =>
      rw [List.zip_cons_cons] at hz
      rcases List.mem_cons.mp hz with e1 | hz
      · rw [e1]; exact ⟨r, List.mem_cons_self ..⟩
      · obtain ⟨h1, h2⟩ := zip_at t2 z hz
        exact ⟨h1, List.mem_cons_of_mem _ h2⟩
theorem sort_zip {α : Type} (key : α → Int × List Int) (zs : List (V × α)) : (sortK (zs.map fun z => (z.1, key z.2))).map (·.1) = (zs.mergeSort (PySem.W.dataLe false fun z => keyD (key z.2))).map (·.1) ∧ sortBy key (zs.map (·.2)) = (zs.mergeSort (PySem.W.dataLe false fun z => keyD (key z.2))).map (·.2) := by
  constructor
  · have h := List.map_mergeSort (r := PySem.W.dataLe false fun z : V × α => keyD (key z.2)) (s := PySem.W.dataLe false fun b : Itm => keyD b.2) (f := fun z : V × α => ((z.1, key z.2) : Itm)) (l := zs) (fun a _ b _ => rfl)
    show ((zs.map fun z => ((z.1, key z.2) : Itm)).mergeSort _).map _ = _
    rw [← h, List.map_map]
    rfl
  · have h := List.map_mergeSort (r := PySem.W.dataLe false fun z : V × α => keyD (key z.2)) (s := leK key) (f := fun z : V × α => z.2) (l := zs) (fun a _ b _ => rfl)
    exact h.symm
section
variable {C : Addr} {K : PySem.W.Frag} {P : Program} {w : World} {e : List Sl} {ta tb : TE} {i : Nat} {js : List Nat} {Nl : List Str} {β γ : Type} [DecidableEq β] [Datum β] [DecidableEq γ] [Datum γ] [KeyD γ]
theorem key_val {n : Int} {ks : List Int} (ha : ED C ta e n) (hb : EF C tb e ks) : ∀ (W : Wd) (F : Nat → Addr → Prop) (σ : L2.St) (H : Hp), SA C W F H σ e → (tTupF (tCons ta (tCons tb tNil))) σ H (KeyV H (n, ks)) := fun W F σ H s =>
  ha W F σ H s _ fun v H2 x2 a2 => hb W F σ H2 (s.same x2) _ fun p xs H3 hp x3 hl hz t => ⟨by show 2 ≤ sizeLine; decide, fun q o ho hq => by
    cases at_int a2
    have hpq : p ≠ q := fun z => by rw [z, hq] at hl; cases hl
    exact ⟨(x2.trans x3).trans (same_new hq), q, p, o, rfl, upd_same, x2.free hp, by rw [upd_ne hpq, hl, all_ints t]⟩⟩
theorem ef_sortLam {kvs : List (Tup γ × β)} (key : Tup γ → Int × List Int) (h : e[i]? = some (.own (DctT C P w kvs)))
    (hkey : ∀ (W : Wd) (F : Nat → Addr → Prop) (σ : L2.St) (H H2 : Hp) (v : V) (a : Tup γ), SA C W F H σ e → a ∈ kvs.map (·.1) → Same H H2 → At C (Hd W F) H2 v (Rep.toD a) → tb (NdefX.startF Nl [v] (js.map (NdefX.slotAt σ))) H2 (KeyV H2 (key a))) :
    EF C (tSortLam P w Nl js (tVar i) tb) e (sortBy key (kvs.map (·.1))) := fun W F σ H s Q q => by
  obtain ⟨v, hv, d, o, rows, rfl, hF, hd, e4, e5, e6, e7⟩ := s.own i _ h
  have hlen : rows.length = kvs.length := by simpa using congrArg List.length e4
  have hz : ∀ z ∈ (rows.map fun r => V.ref r.2.1).zip (kvs.map (·.1)), At C (Hd W F) H z.1 (Rep.toD z.2) ∧ z.2 ∈ kvs.map (·.1) := zip_at (by rw [List.map_map]; exact e5)
  generalize hzs : (rows.map fun r => V.ref r.2.1).zip (kvs.map (·.1)) = zs at hz
  have z1 : zs.map (·.1) = rows.map fun r => V.ref r.2.1 := by rw [← hzs, List.map_fst_zip (by rw [List.length_map, List.length_map]; omega)]
  have z2 : zs.map (·.2) = kvs.map (·.1) := by rw [← hzs, List.map_snd_zip (by rw [List.length_map, List.length_map]; omega)]
  obtain ⟨s1, s2⟩ := sort_zip key zs
  refine ⟨_, hv, d, o, rows, zs.map fun z => (z.1, key z.2), rfl, hd, by omega, s.tabs, by rw [List.map_map, ← z1]; rfl, fun b hb H2 x => ?_, fun p H2 x hp hl => ?_⟩
  · obtain ⟨z, hz', rfl⟩ := List.mem_map.mp hb
    exact hkey W F σ H H2 z.1 z.2 s (hz z hz').2 x (same_at x (hz z hz').1)
  · rw [s1] at hl
    have hperm := List.mergeSort_perm zs (PySem.W.dataLe false fun z => keyD (key z.2))
    refine q p _ H2 hp x hl ?_ ?_
    · rw [List.length_map, hperm.length_eq, ← hzs, List.length_zip, List.length_map, List.length_map]
      omega
    · rw [← z2, s2]
      exact same_all x ((atAll_of fun z hz' => (hz z (hperm.mem_iff.mp hz')).1).sub fun a z => z.imp id fun w => by rw [w]; exact hp)
end
end PD
end
section
set_option Elab.async false
set_option linter.all false
set_option maxRecDepth 100000
set_option maxHeartbeats 4000000
set_option autoImplicit false
namespace PD
open PySem PySem.Spec PyProof.Rows L2
open PySem.W (Datum Tup)
variable [Tabl]

/-! ### sorted(a list of data) -/
def rSortD (K : PySem.W.Frag) (α : Type) [DecidableEq α] [Datum α] : List V → Hp → VK → Prop := fun vs H Q => ∃ (a : Addr) (its : List (V × α)), vs = [V.ref a] ∧ SqL K H a (its.map (·.1)) ∧ (∀ z ∈ its, Dp K H z.1 (Rep.toD z.2)) ∧
  PySem.W.AllAlike (its.map fun z => Rep.toD z.2) ∧ PySem.W.Sortable (its.map fun z => Rep.toD z.2) ∧ ∀ p, H p = none → Q (.ref p) (upd H p (.lst ((its.mergeSort (PySem.W.dataLe false fun z => Rep.toD z.2)).map (·.1))))
theorem vals_eachD {α : Type} : ∀ {its : List (V × α)} {vs : List Value}, Vals (its.map (·.1)) vs → PySem.W.EachIs (fun (v : Value) (z : V × α) => L2.RelV z.1 v) vs its
  | [], _, r => by
    cases r
    exact .nil
  | b :: its, _, r => by
    have r' : Vals (b.1 :: its.map (·.1)) _ := r
    cases r' with
    | cons r1 r2 => exact .cons r1 (vals_eachD r2)
theorem each_valsD {α : Type} : ∀ {its : List (V × α)} {vs : List Value}, PySem.W.EachIs (fun (v : Value) (b : V × α) => L2.RelV b.1 v) vs its → Vals (its.map (·.1)) vs
  | _, _, .nil => .nil
  | _, _, .cons r t => .cons r (each_valsD t)
theorem each_and {α β : Type} {R S : α → β → Prop} : ∀ {as : List α} {bs : List β}, PySem.W.EachIs R as bs → (∀ a b, b ∈ bs → R a b → S a b) → PySem.W.EachIs S as bs
  | _, _, .nil, _ => .nil
  | _, _, .cons r t, h => .cons (h _ _ (List.mem_cons_self ..) r) (each_and t fun a b hb => h a b (List.mem_cons_of_mem _ hb))
theorem cr_sortD {X : Cx} {α : Type} [DecidableEq α] [Datum α] (hd : Datum.depth α ≤ 50) (hu : X.A.units + 64 < cLine) : CallR X (.builtin "sorted") (rSortD X.K α) := by
  intro pins s σ H vs us Q I r h
  obtain ⟨a, its, rfl, hs, hdp, hal, hso, q⟩ := h
  obtain ⟨u, rfl, ru⟩ := vals1 r
  cases ru
  obtain ⟨vals, rv, pl, hz⟩ := I.list hs
  have hl : its.length = vals.length := by rw [← rv.length, List.length_map]
  have e := vals_eachD rv
  have er : PySem.W.EachIs (fun (v : Value) (z : V × α) => ∃ as, Reads s.heap v (Rep.toD z.2) as) vals its := each_and e fun v z hz' rz => Dp.reads I _ _ v (hdp z hz') rz
  rw [List.length_map] at hz
  refine PySem.W.sorted_data (R := fun (v : Value) (z : V × α) => L2.RelV z.1 v) (enc := fun z : V × α => Rep.toD z.2) pl.isList e er hal hso hz (fun b hb => by have := Datum.depth_le b.2; show X.A.units + 2 + (Datum.toD b.2).depth < cLine; omega) fun out ho eo => ?_
  obtain ⟨c, hc⟩ := sortedAll_at s.heap vals out.toArray
  have ro := each_valsD eo
  have hf : H (s.heap.objs.size + 1) = none := I.hok.fresh (Nat.le_succ _)
  exact ⟨.ref (s.heap.objs.size + 1), _, I.laid (t' := s.toks) (fun b o e => sortedAll_old e) (Nat.le_succ _) (show ObjOk X.prog X.w _ _ _ (.lst _) from ⟨by rw [ro.length, ho]; exact hz, out, c, ro, hc⟩), rfl, q _ hf⟩

section
variable {C : Addr} {K : PySem.W.Frag} {pb : Bool} {e : List Sl} {te : TE} {α : Type} [DecidableEq α] [Datum α]
/-- the list, sorted -/
def sortD (xs : List α) : List α := xs.mergeSort (PySem.W.dataLe false fun x => Rep.toD x)
theorem ef_sortD {xs : List α} (h : EL C pb te e xs) (hal : PySem.W.AllAlike (xs.map fun x => Rep.toD x)) (hso : PySem.W.Sortable (xs.map fun x => Rep.toD x)) : EF C (tCB (rSortD K α) (tCons te tNil)) e (sortD xs) := fun W F σ H s Q q => h W F σ H s _ fun p ys H2 _ x hl hz t => by
  have hlen : ys.length = xs.length := t.length.trans (List.length_map ..)
  have hz' := zip_at t
  generalize hzs : ys.zip xs = zs at hz'
  have z1 : zs.map (·.1) = ys := by rw [← hzs, List.map_fst_zip (by omega)]
  have z2 : zs.map (·.2) = xs := by rw [← hzs, List.map_snd_zip (by omega)]
  have z3 : (zs.map fun z => Rep.toD z.2) = xs.map fun x => Rep.toD x := by rw [← z2, List.map_map] <;> rfl
  refine ⟨p, zs, rfl, SqL.of (by rw [z1]; exact hl), fun z hz => (hz' z hz).1.dp (Datum.plain z.2), by rw [z3]; exact hal, by rw [z3]; exact hso, fun l hl' => ?_⟩
  have hperm := List.mergeSort_perm zs (PySem.W.dataLe false fun z : V × α => Rep.toD z.2)
  have hs2 : sortD xs = (zs.mergeSort (PySem.W.dataLe false fun z : V × α => Rep.toD z.2)).map (·.2) := by
    rw [← z2]
    exact (List.map_mergeSort (r := PySem.W.dataLe false fun z : V × α => Rep.toD z.2) (s := PySem.W.dataLe false fun x : α => Rep.toD x) (f := fun z : V × α => z.2) (l := zs) (fun a _ b _ => rfl)).symm
  refine q l _ _ (x.free hl') (x.trans (same_new hl')) upd_same (by rw [List.length_map, hperm.length_eq, ← hzs, List.length_zip]; omega) ?_
  rw [hs2]
  exact same_all (same_new hl') ((atAll_of fun z hz => (hz' z (hperm.mem_iff.mp hz)).1).sub fun a z => z.imp id fun w => by rw [w]; exact hl')
end
end PD
end
section
set_option Elab.async false
set_option linter.all false
set_option maxRecDepth 100000
set_option maxHeartbeats 4000000
set_option autoImplicit false
namespace PD
open PySem PySem.Spec PyProof.Rows L2

/-! ### keys of whole numbers, nested -/
mutual
def numK : NestedKey → Bool
  | .none => true
  | .num _ => true
  | .text _ => false
  | .tup ks => numKs ks
def numKs : List NestedKey → Bool
  | [] => true
  | k :: ks => numK k && numKs ks
end
/-- at a stands the key k -/
structure KIs (P : Program) (w : World) (h : Heap) (k : NestedKey) (a : Addr) : Prop where
  is : (nestedKind P w).is h k a
  num : numK k = true
abbrev kh (w : World) (k : NestedKey) : Int := NestedKey.hash w k
section
variable {P : Program} {w : World}
def ClsNo (P : Program) (w : World) (n : Nat) (s : Shared) (v : Value) : Prop := ∀ (A : Around) (E : Value → Shared → Prop) (Q : Bool → Shared → Prop), Q false s → wpAny (model P w) A (ofAClassStatement n v) Q E s
def HashVal (P : Program) (w : World) (n : Nat) (s : Shared) (v : Value) : Prop := ∀ (A : Around) (E : Value → Shared → Prop) (Q : Bool → Shared → Prop), Q true s → wpAny (model P w) A (hashByValue n v) Q E s
theorem clsNo_val {n : Nat} {s : Shared} {v : Value} (h : ∀ a, v ≠ .ref a) : ClsNo P w n s v := fun A E Q q => by
  have e : ofAClassStatement n v = pure false := by
    cases v <;> first | exact absurd rfl (h _) | (cases n <;> rfl)
  rw [e]
  exact wpAny_pure q
theorem clsNo_tup {n : Nat} {s : Shared} {a : Addr} {o : Obj} {vs : Array Value} {m : Nat} (ho : s.heap.get? a = some o) (hc : o.cls = .type "tuple") (hd : o.data = .seq vs m) (hq : ∀ v ∈ vs.toList, ClsNo P w n s v) : ClsNo P w (n + 1) s (.ref a) := fun A E Q q => by
  unfold ofAClassStatement
  refine wpAny_bind (wpAny_typeOf (T := "tuple") ⟨o, ho, hc⟩ ?_)
  dsimp only
  rw [if_pos (show (("tuple" : String) == "tuple") = true by decide)]
  refine wpAny_bind ?_
  try refine wpAny_pure ?_
  try simp only [Bool.not_true, Bool.false_eq_true, if_false]
  refine wpAny_bind (wpAny_seqItems ho hd ?_)
  dsimp only
  refine wpAny_bind ?_
  show wpAny _ _ (forIn vs _ _) _ _ s
  rw [← Array.forIn_toList]
  refine wpAny_forIn_list _ (fun rest r s' => r.1 = none ∧ s' = s ∧ ∀ v ∈ rest, ClsNo P w n s v) _ ?_ ?_ _ _ ⟨rfl, rfl, hq⟩
  · rintro v rest r s' ⟨hr, rfl, all⟩
    refine wpAny_bind (all v List.mem_cons_self _ _ _ ?_)
    simp only [Bool.false_eq_true, if_false]
    exact wpAny_pure ⟨rfl, rfl, fun u hu => all u (List.mem_cons_of_mem _ hu)⟩
  · rintro ⟨r1, r2⟩ s' ⟨hr, rfl, _⟩
    simp only at hr
    subst hr
    exact wpAny_pure q
theorem hashVal_tup {n : Nat} {s : Shared} {a : Addr} {o : Obj} {vs : Array Value} {m : Nat} (ho : s.heap.get? a = some o) (hc : o.cls = .type "tuple") (hd : o.data = .seq vs m) (hq : ∀ v ∈ vs.toList, HashVal P w n s v) : HashVal P w (n + 1) s (.ref a) := fun A E Q q => by
  unfold hashByValue
  refine wpAny_bind (wpAny_specialOf (T := "tuple") ⟨o, ho, hc⟩ F.slot_tuple_hash.lookup ?_)
  show wpAny _ _ (seqItems? (.ref a) >>= _) _ _ s
  refine wpAny_bind (wpAny_seqItems ho hd ?_)
  refine wpAny_bind ?_
  show wpAny _ _ (forIn vs _ _) _ _ s
  rw [← Array.forIn_toList]
  refine wpAny_forIn_list _ (fun rest r s' => r.1 = none ∧ s' = s ∧ ∀ v ∈ rest, HashVal P w n s v) _ ?_ ?_ _ _ ⟨rfl, rfl, hq⟩
  · rintro v rest r s' ⟨hr, rfl, all⟩
    refine wpAny_bind (all v List.mem_cons_self _ _ _ ?_)
    simp only [Bool.not_true, Bool.false_eq_true, if_false]
    exact wpAny_pure ⟨rfl, rfl, fun u hu => all u (List.mem_cons_of_mem _ hu)⟩
  · rintro ⟨r1, r2⟩ s' ⟨hr, rfl, _⟩
    simp only at hr
    subst hr
    exact wpAny_pure q
theorem hashVal_val {n : Nat} {s : Shared} {v : Value} (h : hashByValue n v = pure true) : HashVal P w n s v := fun A E Q q => by
  rw [h]
  exact wpAny_pure q
mutual
theorem clsNo_key : ∀ (k : NestedKey) (v : Value) (n : Nat) (s : Shared), NestedIs s.heap k v → k.depth ≤ n → ClsNo P w n s v
  | .none, _, n, s, x, _ => by cases x; exact clsNo_val fun a => nofun
  | .num i, _, n, s, x, _ => by cases x <;> exact clsNo_val fun a => nofun
  | .text y, _, n, s, x, _ => by cases x; exact clsNo_val fun a => nofun
  | .tup ks, _, n, s, x, hn => by
    cases x with
    | tup hg hc hd hk =>
      simp only [NestedKey.depth] at hn
      cases n with
      | zero => omega
      | succ n => exact clsNo_tup hg hc hd (clsNo_keys ks _ n s hk (by omega))
theorem clsNo_keys : ∀ (ks : List NestedKey) (vs : List Value) (n : Nat) (s : Shared), NestedAll s.heap ks vs → NestedKey.depthAll ks ≤ n → ∀ v ∈ vs, ClsNo P w n s v
  | [], _, n, s, x, _, v, hv => by cases x; cases hv
  | k :: ks, _, n, s, x, hn, v, hv => by
    cases x with
    | cons x1 x2 =>
      simp only [NestedKey.depthAll] at hn
      rcases List.mem_cons.mp hv with e | hv
      · rw [e]; exact clsNo_key k _ n s x1 (by omega)
      · exact clsNo_keys ks _ n s x2 (by omega) v hv
end
mutual
theorem hashVal_key : ∀ (k : NestedKey) (v : Value) (n : Nat) (s : Shared), NestedIs s.heap k v → k.depth ≤ n → numK k = true → HashVal P w n s v
  | .none, _, n, s, x, _, _ => by cases x; exact hashVal_val (by cases n <;> rfl)
  | .num i, _, n, s, x, _, _ => by cases x <;> exact hashVal_val (by cases n <;> rfl)
  | .text y, _, n, s, x, _, hz => by cases hz
  | .tup ks, _, n, s, x, hn, hz => by
    cases x with
    | tup hg hc hd hk =>
      simp only [NestedKey.depth] at hn
      cases n with
      | zero => omega
      | succ n => exact hashVal_tup hg hc hd (hashVal_keys ks _ n s hk (by omega) hz)
theorem hashVal_keys : ∀ (ks : List NestedKey) (vs : List Value) (n : Nat) (s : Shared), NestedAll s.heap ks vs → NestedKey.depthAll ks ≤ n → numKs ks = true → ∀ v ∈ vs, HashVal P w n s v
  | [], _, n, s, x, _, _, v, hv => by cases x; cases hv
  | k :: ks, _, n, s, x, hn, hz, v, hv => by
    have hz' : (numK k && numKs ks) = true := hz
    rw [Bool.and_eq_true] at hz'
    cases x with
    | cons x1 x2 =>
      simp only [NestedKey.depthAll] at hn
      rcases List.mem_cons.mp hv with e | hv
      · rw [e]; exact hashVal_key k _ n s x1 (by omega) hz'.1
      · exact hashVal_keys ks _ n s x2 (by omega) hz'.2 v hv
end
theorem KIs.stay {h h' : Heap} {k : NestedKey} {a : Addr} (x : KIs P w h k a) (hk : SeqKept h h') : KIs P w h' k a := ⟨⟨NestedIs.at hk _ _ x.is.1, x.is.2⟩, x.num⟩
end

section
variable {P : Program} {w : World} {A : Around} {E : Value → Shared → Prop} {s : Shared}
theorem KIs.cls {k : NestedKey} {a : Addr} (x : KIs P w s.heap k a) {Q : Bool → Shared → Prop} (q : Q false s) : wpAny (model P w) A (ofAClassStatement 8 (.ref a)) Q E s := clsNo_key k _ 8 s x.is.1 x.is.2 A E Q q
theorem KIs.byVal {k : NestedKey} {a : Addr} (x : KIs P w s.heap k a) {Q : Bool → Shared → Prop} (q : Q true s) : wpAny (model P w) A (hashByValue 8 (.ref a)) Q E s := hashVal_key k _ 8 s x.is.1 x.is.2 x.num A E Q q
theorem KIs.unseen {k : NestedKey} {a : Addr} (x : KIs P w s.heap k a) {ys : List Value} (hy : ∀ y ∈ ys, ∃ k' b, y = Value.ref b ∧ KIs P w s.heap k' b) {Q : Bool → Shared → Prop} (q : Q false s) : wpAny (model P w) A (searchCouldBeSeen (.ref a) ys) Q E s := by
  unfold searchCouldBeSeen
  refine wpAny_bind ?_
  refine wpAny_forIn_list _ (fun rest r s' => r.1 = none ∧ s' = s ∧ ∀ y ∈ rest, ∃ k' b, y = Value.ref b ∧ KIs P w s.heap k' b) _ ?_ ?_ _ _ ⟨rfl, rfl, hy⟩
  · rintro v rest r s' ⟨hr, rfl, all⟩
    obtain ⟨k', b, rfl, xb⟩ := all v List.mem_cons_self
    have all' : ∀ y ∈ rest, ∃ k' b, y = Value.ref b ∧ KIs P w s'.heap k' b := fun u hu => all u (List.mem_cons_of_mem _ hu)
    dsimp only
    by_cases hv : (a == b || (carriedByValue (.ref a) && carriedByValue (.ref b))) = true
    · exact wp_if_pos hv (wpAny_pure ⟨rfl, rfl, all'⟩)
    · refine wp_if_neg hv ?_
      refine wpAny_bind ((nestedKind P w).quiet x.is ?_)
      simp only [Bool.not_true, Bool.false_eq_true, if_false]
      refine wpAny_bind ((nestedKind P w).quiet xb.is ?_)
      simp only [Bool.not_true, Bool.false_eq_true, if_false]
      refine wpAny_bind (x.cls ?_)
      simp only [Bool.false_eq_true, if_false]
      refine wpAny_bind (xb.cls ?_)
      simp only [Bool.false_eq_true, if_false]
      exact wpAny_pure ⟨rfl, rfl, all'⟩
  · rintro ⟨r1, r2⟩ s' ⟨hr, rfl, _⟩
    simp only at hr
    subst hr
    exact wpAny_pure q
end

/-! ### a set of such keys -/
abbrev KRow := Addr × NestedKey
def kRows (w : World) (L : List KRow) : List (Int × Value) := L.map fun p => (kh w p.2, Value.ref p.1)
/-- the set at a has the keys of L, laid in the table t -/
structure SetN (P : Program) (w : World) (h : Heap) (a : Addr) (L : List KRow) (es : Array (Int × Value)) (ep : Nat) (t : SetTable) : Prop where
  ob : ∃ o, h.get? a = some o ∧ o.ExactSet ∧ o.data = .set es ep t
  rows : es.toList = kRows w L
  tab : TabOk t (L.map fun p => kh w p.2)
  nd : (L.map (·.2)).Nodup
  key : ∀ p ∈ L, KIs P w h p.2 p.1
  plain : t.plain = true
  led : w.params.followText "set-order" = true ∨ t.led = true
  room : L.length * 5 < t.mask * 3
  few : L.length < 64
theorem kRows_len {w : World} {L : List KRow} {es : Array (Int × Value)} (r : es.toList = kRows w L) : es.size = L.length := by
  have h := congrArg List.length r
  unfold kRows at h
  rwa [Array.length_toList, List.length_map] at h
theorem kRows_get {w : World} {L : List KRow} {es : Array (Int × Value)} (r : es.toList = kRows w L) {i : Nat} {p : KRow} (h : L[i]? = some p) : es[i]? = some (kh w p.2, Value.ref p.1) := by
  rw [← Array.getElem?_toList, r]
  unfold kRows
  rw [List.getElem?_map, h] <;> rfl
theorem fits_of {t : SetTable} {n : Nat} (h1 : t.place.size = n) (h2 : t.dummies = #[]) (h3 : n ≤ t.mask) : t.fits n = true := by
  unfold SetTable.fits SetTable.fill
  rw [h2, Bool.and_eq_true, beq_iff_eq, decide_eq_true_eq]
  exact ⟨h1, by show t.place.size + 0 ≤ t.mask; omega⟩
section
variable {P : Program} {w : World} {A : Around} {E : Value → Shared → Prop} {s : Shared} {a : Addr} {L : List KRow} {es : Array (Int × Value)} {ep : Nat} {t : SetTable}
theorem SetN.size (R : SetN P w s.heap a L es ep t) : es.size = L.length := kRows_len R.rows
theorem SetN.fits (R : SetN P w s.heap a L es ep t) : t.fits es.size = true := by
  have h1 := R.tab.sz
  rw [List.length_map] at h1
  have h3 := R.room
  have h4 := R.size
  exact fits_of (by omega) R.tab.dm (by omega)
theorem SetN.stays (R : SetN P w s.heap a L es ep t) : ¬ t.gaveWay = true := by
  unfold SetTable.gaveWay
  rw [mask_odd R.tab.mok]
  decide
/-- the probe's start on the way of a hash -/
abbrev base (t : SetTable) (h : Int) : SetTable.Probe := runAt t.mask (SetTable.bits h % (t.mask + 1)) (SetTable.bits h)
theorem no_dummy (m : Nat) : ∀ (n : Nat) (p : SetTable.Probe), p.dummy = none → (nth m p n).dummy = none
  | 0, _, h => h
  | n + 1, p, h => no_dummy m n (adv m p) (by unfold adv; split <;> exact h)
/-- the search, from step c of the way on: K is the first free step -/
theorem find_on (R : SetN P w s.heap a L es ep t) {x : Addr} {k : NestedKey} (hx : KIs P w s.heap k x) (hu : (nestedKind P w).room A) {K : Nat} (hK1 : K < 10 * SetTable.turns t.mask)
    (hK : way t.mask (kh w k) K ∉ t.place.toList) (hK2 : ∀ c, c < K → way t.mask (kh w k) c ∈ t.place.toList) {Q : SetFound → Shared → Prop}
    (yes : k ∈ L.map (·.2) → Q (.there none) s) (no : k ∉ L.map (·.2) → Q (.free (way t.mask (kh w k) K) false) s) :
    ∀ (f c : Nat) (stand : Option SetTable.Probe), stand.getD (t.probeStart (kh w k)) = nth t.mask (base t (kh w k)) c → c ≤ K → K - c < f →
      (∀ (i : Nat) p, L[i]? = some p → p.2 = k → ∃ c', c ≤ c' ∧ c' < K ∧ t.place.toList[i]? = some (way t.mask (kh w k) c')) →
      wpAny (model P w) A (setSearchFrom a (.ref x) (kh w k) true f stand) Q E s := by
  obtain ⟨o, ho, hex, hd⟩ := R.ob
  intro f
  induction f with
  | zero => intro c stand _ _ z; exact absurd z (Nat.not_lt_zero _)
  | succ f ih =>
    intro c stand hst hc hf ahead
    have jAt : ∀ q, nth t.mask (nth t.mask (base t (kh w k)) c) q = nth t.mask (base t (kh w k)) (c + q) := fun q => (nth_add t.mask c _ q).symm
    have jWay : ∀ q, (nth t.mask (nth t.mask (base t (kh w k)) c) q).j = way t.mask (kh w k) (c + q) := fun q => congrArg SetTable.Probe.j (jAt q)
    have hashOf : ∀ (i : Nat) p, L[i]? = some p → (es[i]?.map (·.1)).getD 0 = kh w p.2 := fun i p hp => by rw [kRows_get R.rows hp] <;> rfl
    rw [setSearchFrom_succ]
    refine wpAny_bind (wpAny_setState_of ho hd R.fits ?_)
    dsimp only
    refine wp_if_neg R.stays ?_
    try refine wpAny_bind (wpAny_pure ?_)
    have met := go_spec t R.tab.ris R.tab.dm (fun i => (es[i]?.map (·.1)).getD 0) (kh w k) (10 * SetTable.turns t.mask) (K - c) _ (no_dummy t.mask c (base t (kh w k)) rfl) (by omega)
      (fun q hq => by rw [jWay]; exact hK2 (c + q) (by omega)) (by rw [jWay, show c + (K - c) = K by omega]; exact hK)
    rcases met with ⟨q, i, hq, hi, hh, skip, hpr⟩ | ⟨skip, hpr⟩
    · -- step c + q holds an entry with this hash
      rw [show t.probe (fun i => (es[i]?.map (·.1)).getD 0) (kh w k) (stand.getD (t.probeStart (kh w k))) = some (.candidate (way t.mask (kh w k) (c + q)) i (nth t.mask (base t (kh w k)) (c + (q + 1)))) by rw [hst, ← jWay, ← jAt]; exact hpr]
      dsimp only
      rw [jWay] at hi
      have hlt : i < L.length := by
        have h1 := (List.getElem?_eq_some_iff.mp hi).1
        have h2 := R.tab.sz
        rw [List.length_map] at h2
        rw [Array.length_toList] at h1
        omega
      obtain ⟨p, hp⟩ : ∃ p, L[i]? = some p := ⟨_, List.getElem?_eq_getElem hlt⟩
      have hm := List.mem_of_getElem? hp
      have slot : t.slot (way t.mask (kh w k) (c + q)) = .live i := slot_live R.tab.ris hi
      have rest : wpAny (model P w) A (searchRest a (.ref x) (kh w k) true f es t (way t.mask (kh w k) (c + q)) i (nth t.mask (base t (kh w k)) (c + (q + 1)))) Q E s := by
        unfold searchRest
        rw [kRows_get R.rows hp]
        dsimp only
        refine wpAny_bind (wpAny_holding ((nestedKind P w).eqBool hu (R.key p hm).is hx.is ?_))
        refine wpAny_bind (wpAny_setState_of ho hd R.fits ?_)
        dsimp only
        by_cases same : p.2 = k
        · exact wp_if_pos (by simp [same]) (wpAny_pure (yes (List.mem_map.mpr ⟨p, hm, same⟩)))
        · refine wp_if_neg (by simp [same]) ?_
          try refine wpAny_bind (wpAny_pure ?_)
          rw [sameMem]
          dsimp only
          simp only [if_true, slot, kRows_get R.rows hp]
          refine wpAny_bind (wpAny_isSame_ref_self (wpAny_bind (wpAny_pure ?_)))
          simp only [if_true]
          refine wp_if_neg (by simp [same]) (ih (c + (q + 1)) _ rfl (by omega) (by omega) fun i0 p0 h0 e0 => ?_)
          obtain ⟨c', a1, a2, a3⟩ := ahead i0 p0 h0 e0
          refine ⟨c', ?_, a2, a3⟩
          rcases Nat.lt_trichotomy c' (c + q) with z | z | z
          · exact absurd ((hashOf i0 p0 h0).trans (congrArg (kh w) e0)) (skip (c' - c) i0 (by omega) (by rw [jWay, show c + (c' - c) = c' by omega]; exact a3))
          · rw [z] at a3
            have s2 := slot_live R.tab.ris a3
            rw [slot] at s2
            injection s2 with s2
            rw [← s2, hp] at h0
            cases h0
            exact absurd e0 same
          · omega
      by_cases hl : t.led = true
      · refine wp_if_neg (by simp [hl]) ?_
        try refine wpAny_bind (wpAny_pure ?_)
        exact rest
      · refine wp_if_pos (by simp [hl]) ?_
        refine wpAny_bind (hx.unseen (fun y hy => ?_) ?_)
        · obtain ⟨e, he, rfl⟩ := List.mem_map.mp hy
          have he' : e ∈ es.toList := (by simpa using he : e ∈ es ∧ e.1 = kh w k).1 |> (by simpa using ·)
          rw [R.rows] at he'
          obtain ⟨p2, hp2, rfl⟩ := List.mem_map.mp he'
          exact ⟨p2.2, p2.1, rfl, R.key p2 hp2⟩
        · refine wp_if_neg (by decide) ?_
          try refine wpAny_bind (wpAny_pure ?_)
          exact rest
    · -- none: the free step
      rw [show t.probe (fun i => (es[i]?.map (·.1)).getD 0) (kh w k) (stand.getD (t.probeStart (kh w k))) = some (.empty (way t.mask (kh w k) K) none) by
        rw [hst, show way t.mask (kh w k) K = (nth t.mask (nth t.mask (base t (kh w k)) c) (K - c)).j by rw [jWay, show c + (K - c) = K by omega]]
        exact hpr]
      dsimp only
      refine wpAny_pure (no fun hm => ?_)
      obtain ⟨p0, h0, e0⟩ := List.mem_map.mp hm
      obtain ⟨i0, hi0⟩ := List.getElem?_of_mem h0
      obtain ⟨c', a1, a2, a3⟩ := ahead i0 p0 hi0 e0
      exact skip (c' - c) i0 (by omega) (by rw [jWay, show c + (c' - c) = c' by omega]; exact a3) ((hashOf i0 p0 hi0).trans (congrArg (kh w) e0))
theorem find_key (R : SetN P w s.heap a L es ep t) {x : Addr} {k : NestedKey} (hx : KIs P w s.heap k x) (hu : (nestedKind P w).room A) {Q : SetFound → Shared → Prop} (yes : k ∈ L.map (·.2) → Q (.there none) s)
    (no : ∀ K, k ∉ L.map (·.2) → way t.mask (kh w k) K ∉ t.place.toList → (∀ c, c < K → way t.mask (kh w k) c ∈ t.place.toList) → Q (.free (way t.mask (kh w k) K) false) s) :
    wpAny (model P w) A (setSearch a (.ref x) (kh w k) true) Q E s := by
  have hroom := R.room
  obtain ⟨K, hK1, hK, hK2⟩ := R.tab.first (by rw [List.length_map]; omega) (kh w k)
  have hK3 : K < 100000 := by
    have : 10 * SetTable.turns t.mask ≤ 1420 := by
      unfold SetTable.turns
      rcases R.tab.mok with e | e | e <;> omega
    omega
  unfold setSearch
  refine find_on R hx hu hK1 hK hK2 yes (fun hn => no K hn hK hK2) 100000 0 none rfl (Nat.zero_le _) (by omega) fun i p hp e => ?_
  have hlt : i < t.place.toList.length := by
    have h1 := (List.getElem?_eq_some_iff.mp hp).1
    have h2 := R.tab.sz
    rw [List.length_map] at h2
    rw [Array.length_toList]
    omega
  have hj := List.getElem?_eq_getElem hlt
  obtain ⟨c, hc, e2⟩ := R.tab.before hK (by rw [List.getElem?_map, hp, ← e] <;> rfl) hj
  exact ⟨c, Nat.zero_le _, hc, by rw [hj, e2]⟩
end
end PD
end
section
set_option Elab.async false
set_option linter.all false
set_option maxRecDepth 100000
set_option maxHeartbeats 4000000
set_option autoImplicit false
namespace PD
open PySem PySem.Spec PyProof.Rows L2

/-! ### a key is put into the set -/
theorem seq_notset {h h' : Heap} {a : Addr} {o : Obj} {es : Array (Int × Value)} {ep : Nat} {t : SetTable} (ho : h.get? a = some o) (hd : o.data = .set es ep t) (sb : Heap.SameBut a h h') : SeqKept h h' := fun b ob vs n hb hv =>
  (sb.2 b fun z => by rw [z, ho] at hb; cases hb; rw [hd] at hv; cases hv).trans hb
theorem filter_get {α : Type} : ∀ (L : List α) (n : Nat), n ≤ L.length → (List.range n).filterMap (fun i => L[i]?) = L.take n
  | L, 0, _ => rfl
  | L, n + 1, h => by
    rw [List.range_succ, List.filterMap_append, filter_get L n (Nat.le_of_lt h), List.take_succ, List.getElem?_eq_getElem h, List.filterMap_cons_some (List.getElem?_eq_getElem h)] <;> rfl
/-- the rows in another order -/
theorem rows_order {w : World} {L : List KRow} {es : Array (Int × Value)} (r : es.toList = kRows w L) {order : Array Nat} (hp : order.toList.Perm (List.range L.length)) :
    ∃ L', (order.filterMap (es[·]?)).toList = kRows w L' ∧ L'.Perm L ∧ (L'.map fun p => kh w p.2) = order.toList.map fun i => (es.map (·.1)).getD i 0 := by
  have each : ∀ l : List Nat, (∀ i ∈ l, i < L.length) → l.filterMap (fun i => es[i]?) = kRows w (l.filterMap fun i => L[i]?) ∧ ((l.filterMap fun i => L[i]?).map fun p => kh w p.2) = l.map fun i => (es.map (·.1)).getD i 0 := by
    intro l
    induction l with
    | nil => exact fun _ => ⟨rfl, rfl⟩
    | cons i l ih =>
      intro hl
      obtain ⟨e1, e2⟩ := ih fun j hj => hl j (List.mem_cons_of_mem _ hj)
      have hL := List.getElem?_eq_getElem (hl i List.mem_cons_self)
      have hE := kRows_get r hL
      rw [List.filterMap_cons_some hE, List.filterMap_cons_some hL, List.map_cons, List.map_cons, e1, e2]
      refine ⟨rfl, ?_⟩
      congr 1
      rw [Array.getD_eq_getD_getElem?, Array.getElem?_map, hE] <;> rfl
  obtain ⟨e1, e2⟩ := each order.toList fun i hi => List.mem_range.mp (hp.mem_iff.mp hi)
  refine ⟨_, by rw [Array.toList_filterMap]; exact e1, ?_, e2⟩
  have h := hp.filterMap fun i => L[i]?
  rwa [filter_get L L.length (Nat.le_refl _), List.take_length] at h
section
variable {P : Program} {w : World} {A : Around} {E : Value → Shared → Prop} {s : Shared} {a : Addr} {L : List KRow} {es : Array (Int × Value)} {ep : Nat} {t : SetTable}
theorem relay_key {o : Obj} (ho : s.heap.get? a = some o) (hex : o.ExactSet) (hd : o.data = .set es ep t) (r : es.toList = kRows w L) (T : TabOk t (L.map fun p => kh w p.2)) (hfl : L.length ≤ t.mask)
    (nd : (L.map (·.2)).Nodup) (hk : ∀ p ∈ L, KIs P w s.heap p.2 p.1) (pl : t.plain = true) (ld : w.params.followText "set-order" = true ∨ t.led = true) (few : L.length < 64) {wanted M : Nat} (hw : SetTable.sizeAbove wanted - 1 = M) (hM : MaskOk M)
    (hw2 : SetTable.sizeAbove wanted ≤ 128) (hn : L.length * 5 < M * 3) {Q : Unit → Shared → Prop} (q : ∀ h' L' es' ep' t', Heap.SameBut a s.heap h' → SetN P w h' a L' es' ep' t' → L'.Perm L → Q () { s with heap := h' }) :
    wpAny (model P w) A (setRelay a wanted) Q E s := by
  have hsz := kRows_len r
  have hps := T.sz
  rw [List.length_map] at hps
  obtain ⟨t', order, e, hp, T', em, el, epl, _⟩ := relaid_ok t (hs := es.map (·.1)) (wanted := wanted) hw hM (by rw [Array.size_map, hsz]; omega)
  rw [Array.size_map, hsz] at hp
  obtain ⟨L', r1, r2, r3⟩ := rows_order r hp
  have hs2 := kRows_len r1
  rw [r2.length_eq] at hs2
  rw [setRelay_eq]
  refine wpAny_bind (wpAny_setState_of ho hd (fits_of (by omega) T.dm (by omega)) ?_)
  dsimp only
  refine wp_if_neg (by rw [sizeLine_eq]; omega) ?_
  try refine wpAny_bind (wpAny_pure ?_)
  rw [e]
  dsimp only
  refine wpAny_bind (wp_if_neg (by rw [hs2, hsz]; simp) ?_)
  try refine wpAny_bind (wpAny_pure ?_)
  refine wpAny_pure ?_
  dsimp only
  refine wpAny_storeSet_of ho hd ?_ (by rw [hs2, sizeLine_eq]; omega)
  have sb : Heap.SameBut a s.heap (s.heap.update a (Obj.putSet (order.filterMap (es[·]?)) t')) := Heap.SameBut.update ..
  exact q _ L' _ (ep + 1) t' sb ⟨⟨_, store_at ho hd, ⟨hex.1, hex.2.1, hex.2.2⟩, rfl⟩, r1, by rw [r3]; exact T', (r2.map (·.2)).nodup_iff.mpr nd, fun p hp' => (hk p (r2.mem_iff.mp hp')).stay (seq_notset ho hd sb), epl.trans pl,
    ld.imp id fun z => el.trans z, by rw [r2.length_eq, em]; exact hn, by rw [r2.length_eq]; exact few⟩ r2
theorem add_key (R : SetN P w s.heap a L es ep t) {x : Addr} {k : NestedKey} (hx : KIs P w s.heap k x) (hu : (nestedKind P w).room A) (few : L.length + 1 < 64) {Q : Bool → Shared → Prop}
    (q : ∀ b h' L' es' ep' t', Heap.SameBut a s.heap h' → SetN P w h' a L' es' ep' t' → (k ∈ L.map (·.2) → L' = L) → (k ∉ L.map (·.2) → L'.Perm ((x, k) :: L)) → Q b { s with heap := h' }) :
    wpAny (model P w) A (setAddHashed a (.ref x) (kh w k)) Q E s := by
  obtain ⟨o, ho, hex, hd⟩ := R.ob
  have hsz := R.size
  have hroom := R.room
  unfold setAddHashed
  refine wpAny_holding ?_
  rw [show (100000 : Nat) = 99999 + 1 from rfl, setAddHashedIn_succ]
  refine wpAny_bind (wpAny_setState_of ho hd R.fits ?_)
  dsimp only
  refine wp_if_neg (by simp [byScan, Value.scannable]) ?_
  try refine wpAny_bind (wpAny_pure ?_)
  refine wpAny_bind (find_key R hx hu (fun hm => wpAny_pure (q false s.heap L es ep t (Heap.SameBut.refl a s.heap) R (fun _ => rfl) fun z => absurd hm z)) fun K hm hK hb => ?_)
  dsimp only
  refine wpAny_bind (wpAny_setState_of ho hd R.fits ?_)
  dsimp only
  obtain ⟨b1, _, b3, b4, b5, b6, _, _, b9⟩ := R.tab.put hK hb
  generalize hpt : t.put (way t.mask (kh w k) K) = pt at b1 b3 b4 b5 b6 b9 ⊢
  obtain ⟨t1, p⟩ := pt
  dsimp only at b1 b3 b4 b5 b6 b9 ⊢
  subst b1
  have pl1 : t1.plain = true := b6.trans R.plain
  first
    | (refine wpAny_bind (wp_if_pos pl1 (hx.byVal ?_)))
    | refine wp_if_pos pl1 (wpAny_bind (hx.byVal ?_))
  simp only [if_true]
  generalize hpp : SetTable.below t.place (way t.mask (kh w k) K) = p at b3 ⊢
  -- the rows with the new one
  have pm := put_perm L p (x, k)
  have hin : (SetTable.insertAt es p (kh w k, Value.ref x)).toList = kRows w (L.take p ++ (x, k) :: L.drop p) := by
    rw [SetTable.toList_insertAt, R.rows]
    unfold kRows
    rw [List.map_append, List.map_cons, List.map_take, List.map_drop]
  have T1 : TabOk t1 ((L.take p ++ (x, k) :: L.drop p).map fun p => kh w p.2) := by
    rw [List.map_append, List.map_cons, List.map_take, List.map_drop]
    exact b3
  have hlen := pm.length_eq
  rw [List.length_cons] at hlen
  have nd1 : ((L.take p ++ (x, k) :: L.drop p).map (·.2)).Nodup := (pm.map (·.2)).nodup_iff.mpr (by rw [List.map_cons]; exact List.nodup_cons.mpr ⟨hm, R.nd⟩)
  have hes := kRows_len hin
  generalize SetTable.insertAt es p (kh w k, Value.ref x) = es1 at hin hes ⊢
  generalize L.take p ++ (x, k) :: L.drop p = L1 at pm hlen T1 nd1 hin hes
  refine wpAny_bind (wpAny_storeSet_of ho hd ?_ (by rw [hes, sizeLine_eq]; omega))
  have sb : Heap.SameBut a s.heap (s.heap.update a (Obj.putSet es1 t1)) := Heap.SameBut.update ..
  have ho1 := store_at (es' := es1) (t' := t1) ho hd
  generalize s.heap.update a (Obj.putSet es1 t1) = h1 at sb ho1 ⊢
  have hk1 : ∀ p ∈ L1, KIs P w h1 p.2 p.1 := fun p hp => (List.mem_cons.mp (pm.mem_iff.mp hp)).elim (fun e => by rw [e]; exact hx.stay (seq_notset ho hd sb)) fun z => (R.key p z).stay (seq_notset ho hd sb)
  have ld1 : w.params.followText "set-order" = true ∨ t1.led = true := R.led.imp id fun z => b5.trans z
  have full : t1.tooFull = true ↔ (L.length + 1) * 5 ≥ t.mask * 3 := by
    unfold SetTable.tooFull
    rw [decide_eq_true_eq, b9, List.length_map, b4]
  by_cases hf : t1.tooFull = true
  · first
      | (refine wpAny_bind (wp_if_pos (by simp [hf]) ?_))
      | refine wp_if_pos (by simp [hf]) (wpAny_bind ?_)
    have hfull := full.mp hf
    have wide : ∃ M, SetTable.sizeAbove (SetTable.grown (es.size + 1)) - 1 = M ∧ MaskOk M ∧ SetTable.sizeAbove (SetTable.grown (es.size + 1)) ≤ 128 ∧ (L.length + 1) * 5 < M * 3 := by
      rw [hsz]
      rcases R.tab.mok with e | e | e
      · have e2 : L.length = 4 := by rw [e] at hfull hroom; omega
        exact ⟨31, by rw [e2, size_20], .inr (.inl rfl), by rw [e2, size_20]; decide, by omega⟩
      · have e2 : L.length = 18 := by rw [e] at hfull hroom; omega
        exact ⟨127, by rw [e2, size_76], .inr (.inr rfl), by rw [e2, size_76]; decide, by omega⟩
      · rw [e] at hfull; omega
    obtain ⟨M, w1, w2, w3, w4⟩ := wide
    refine relay_key (s := { s with heap := h1 }) ho1 ⟨hex.1, hex.2.1, hex.2.2⟩ rfl hin T1 (by rw [b4]; omega) nd1 hk1 pl1 ld1 (by omega) w1 w2 w3 (by rw [hlen]; exact w4) ?_
    intro h2 L2 es2 ep2 t2 sb2 R2 pm2
    exact wpAny_pure (q true h2 L2 es2 ep2 t2 (sb.trans sb2) R2 (fun z => absurd z hm) fun _ => pm2.trans pm)
  · first
      | refine wp_if_neg (by simp [hf]) ?_
      | (refine wpAny_bind (wp_if_neg (by simp [hf]) (wpAny_pure ?_)))
    have hroom1 : ¬ (L.length + 1) * 5 ≥ t.mask * 3 := fun z => hf (full.mpr z)
    exact wpAny_pure (q true h1 L1 es1 (ep + 1) t1 sb ⟨⟨_, ho1, ⟨hex.1, hex.2.1, hex.2.2⟩, rfl⟩, hin, T1, nd1, hk1, pl1, ld1, by rw [hlen, b4]; omega, by omega⟩ (fun z => absurd z hm) fun _ => pm)
end

/-! ### set(a list of keys) -/
/-- what the set has got of the first i -/
structure Got (ks : List KRow) (i : Nat) (L : List KRow) : Prop where
  sub : ∀ p ∈ L, p ∈ ks.take i
  all : ∀ p ∈ ks.take i, p.2 ∈ L.map (·.2)
  len : L.length ≤ i
theorem Got.next {ks L L' : List KRow} {i : Nat} {x : KRow} (g : Got ks i L) (h : ks[i]? = some x) (c1 : x.2 ∈ L.map (·.2) → L' = L) (c2 : x.2 ∉ L.map (·.2) → L'.Perm (x :: L)) : Got ks (i + 1) L' := by
  have e : ks.take (i + 1) = ks.take i ++ [x] := by rw [List.take_succ, h] <;> rfl
  by_cases hm : x.2 ∈ L.map (·.2)
  · rw [c1 hm]
    refine ⟨fun p hp => by rw [e]; exact List.mem_append_left _ (g.sub p hp), fun p hp => ?_, Nat.le_succ_of_le g.len⟩
    rw [e] at hp
    exact (List.mem_append.mp hp).elim (g.all p) fun z => by rw [List.mem_singleton.mp z]; exact hm
  · have pm := c2 hm
    refine ⟨fun p hp => ?_, fun p hp => ?_, by rw [pm.length_eq, List.length_cons]; exact Nat.succ_le_succ g.len⟩
    · rw [e]
      exact (List.mem_cons.mp (pm.mem_iff.mp hp)).elim (fun z => by rw [z]; exact List.mem_append_right _ List.mem_cons_self) fun z => List.mem_append_left _ (g.sub p z)
    · rw [(pm.map (·.2)).mem_iff, List.map_cons]
      rw [e] at hp
      exact (List.mem_append.mp hp).elim (fun z => List.mem_cons_of_mem _ (g.all p z)) fun z => by rw [List.mem_singleton.mp z]; exact List.mem_cons_self
end PD
end
section
set_option Elab.async false
set_option linter.all false
set_option maxRecDepth 100000
set_option maxHeartbeats 4000000
set_option autoImplicit false
namespace PD
open PySem PySem.Spec PyProof.Rows L2
section
variable {P : Program} {w : World} {A : Around} {E : Value → Shared → Prop} {s : Shared}
theorem SetN.keep {h h' : Heap} {a : Addr} {L : List KRow} {es : Array (Int × Value)} {ep : Nat} {t : SetTable} (R : SetN P w h a L es ep t) (ha : ∀ o, h.get? a = some o → h'.get? a = some o) (hk : ∀ p ∈ L, KIs P w h' p.2 p.1) : SetN P w h' a L es ep t := by
  obtain ⟨o, ho, r⟩ := R.ob
  exact ⟨⟨o, ha o ho, r⟩, R.rows, R.tab, R.nd, hk, R.plain, R.led, R.room, R.few⟩
abbrev setNew (w : World) : Obj := { cls := .type "set", dict := none, data := .set #[] 0 (.fresh 0 0 (!w.params.followText "set-order")) }
theorem setN_new {h : Heap} {a : Addr} (ho : h.get? a = some (setNew w)) : SetN P w h a [] #[] 0 (.fresh 0 0 (!w.params.followText "set-order")) where
  ob := ⟨_, ho, ⟨rfl, rfl, rfl⟩, rfl⟩
  rows := rfl
  tab := ⟨List.Pairwise.nil, rfl, rfl, .inl rfl, fun x hx => (by cases hx), fun i h j hi => (by simp at hi)⟩
  nd := List.nodup_nil
  key := fun p hp => (by cases hp)
  plain := rfl
  led := by
    show _ ∨ (!w.params.followText "set-order") = true
    cases w.params.followText "set-order"
    · exact .inr rfl
    · exact .inl rfl
  room := show 0 * 5 < 7 * 3 by decide
  few := show 0 < 64 by decide
def SeqHeap (h : Heap) (ks : List KRow) : Prop := ∀ h', (∀ b o, h.get? b = some o → h'.get? b = some o) → ∀ p ∈ ks, KIs P w h' p.2 p.1
theorem update_keys {I : Addr} {fp wr : List Addr} {G : Array GenState → Array GenState → Prop} {n : Nat} {Pv : Nat → Value → Prop} {St : Nat → Shared → Prop} {R : Result → Shared → Prop} (W : WalksS P w A.in1 I fp wr G n Pv St) (S : Addr) (hSf : S ∉ fp)
    (ks : List KRow) (hn : n = ks.length) (few : ks.length < 64) (hval : ∀ i v, Pv i v → ∃ p, ks[i]? = some p ∧ v = .ref p.1) (h0 : Heap) (hk : ∀ p ∈ ks, KIs P w h0 p.2 p.1) (hS0 : h0.get? S = none) (hw0 : ∀ b ∈ wr, h0.get? b = none)
    (hu : (nestedKind P w).room A.in1) : ∀ (m i : Nat) (s : Shared), n - i = m → i ≤ n → St i s → (∀ b o, h0.get? b = some o → s.heap.get? b = some o) → (∃ L es ep t, SetN P w s.heap S L es ep t ∧ Got ks i L) →
      (∀ s' L es ep t, Moved (S :: wr) G s s' → SetN P w s'.heap S L es ep t → Got ks n L → (∀ b o, h0.get? b = some o → s'.heap.get? b = some o) → R (.ok (.ret .none)) s') →
      codeAny (model P w) A (.builtin "set.update.loop" ⟨[.ref S, .ref I], []⟩) R s := by
  have hSw : S ∉ wr := fun h => hSf (W.sub _ h)
  have sub : ∀ b ∈ wr, b ∈ S :: wr := fun b hb => List.mem_cons_of_mem _ hb
  have alive : ∀ {s s' : Shared}, Moved wr G s s' → (∀ b o, h0.get? b = some o → s.heap.get? b = some o) → ∀ b o, h0.get? b = some o → s'.heap.get? b = some o := fun hm hkp b o e => hm.heap b o (fun hb => by rw [hw0 b hb] at e; cases e) (hkp b o e)
  have seqs : ∀ {h' : Heap}, (∀ b o, h0.get? b = some o → h'.get? b = some o) → SeqKept h0 h' := fun k b o vs n e _ => k b o e
  intro m
  induction m with
  | zero =>
    rintro i s hm0 hi hst hkp ⟨L, es, ep, t, hS, g⟩ hR
    have hin : i = n := by omega
    subst hin
    refine codeAny_builtin F.entry_set_update_loop ?_
    rw [Around.under_plainId F.plain_set_update_loop _]
    show wpAny _ A.in1 (pyNext (.ref I) >>= _) _ _ s
    refine wpAny_bind (W.done s _ _ hst fun s' hm => ?_)
    show wpAny _ A.in1 (ret Value.none) _ _ s'
    have hkp' := alive hm hkp
    exact wpAny_pure (hR s' L es ep t (hm.mono sub) (hS.keep (fun o e => hm.heap S o hSw e) fun p hp => (hk p (List.mem_of_mem_take (g.sub p hp))).stay (seqs hkp')) g hkp')
  | succ m ih =>
    rintro i s hm0 hi hst hkp ⟨L, es, ep, t, hS, g⟩ hR
    have hlt : i < n := by omega
    refine codeAny_builtin F.entry_set_update_loop ?_
    rw [Around.under_plainId F.plain_set_update_loop _]
    show wpAny _ A.in1 (pyNext (.ref I) >>= _) _ _ s
    refine wpAny_bind (W.item i s _ _ hlt hst fun v s' hP hst' hm => ?_)
    obtain ⟨p, hp, rfl⟩ := hval i v hP
    have hkp' := alive hm hkp
    have hS' : SetN P w s'.heap S L es ep t := hS.keep (fun o e => hm.heap S o hSw e) fun q hq => (hk q (List.mem_of_mem_take (g.sub q hq))).stay (seqs hkp')
    have hx : KIs P w s'.heap p.2 p.1 := (hk p (List.mem_of_getElem? hp)).stay (seqs hkp')
    show wpAny _ A.in1 (holding [Value.ref p.1] (setAdd S (.ref p.1)) >>= _) _ _ s'
    refine wpAny_bind (wpAny_holding ?_)
    unfold setAdd
    refine wpAny_holding ?_
    refine wpAny_bind ((nestedKind P w).pyHash hu hx.is ?_)
    refine add_key (s := { s' with toks := s'.toks + (nestedKind P w).draws p.2 }) hS' hx hu (by have := g.len; omega) fun b h' L' es' ep' t' hsb hS2 c1 c2 => ?_
    have hkp2 : ∀ b o, h0.get? b = some o → h'.get? b = some o := fun b o e => (hsb.2 b (fun z => by rw [z, hS0] at e; cases e)).trans (hkp' b o e)
    refine wpAny_pure ⟨plainId_quiet F.plain_set_update_loop _, ih (i + 1) _ (by omega) hlt (W.frame _ s' _ _ hst' (Nat.le_add_right _ _) fun b hb o e => ?_) hkp2 ⟨L', es', ep', t', hS2, g.next hp c1 c2⟩ fun s'' L2 es2 ep2 t2 hm'' hS'' g'' hkp'' => ?_⟩
    · rw [hsb.2 b (fun h : b = S => hSf (by rw [← h]; exact hb))]; exact e
    · refine hR s'' L2 es2 ep2 t2 (Moved.trans W.gtrans ((hm.mono sub).then_heap (Nat.le_add_right _ _) fun b o hb e => ?_) hm'') hS'' g'' hkp''
      rw [hsb.2 b (fun h : b = S => hb (by rw [h]; exact List.mem_cons_self))]; exact e
theorem call_set_keys {l : Addr} {items : Array Value} (ks : List KRow) {Q : Value → Shared → Prop} (hh : A.handled = none) (hl : s.heap.IsList l items) (hit : items.toList = ks.map fun p => Value.ref p.1) (hk : ∀ p ∈ ks, KIs P w s.heap p.2 p.1) (few : ks.length < 64)
    (hu : A.units + 16 < cLine)
    (h : ∀ (h' : Heap) (tk : Nat) L es ep t, SetN P w h' s.heap.objs.size L es ep t → Got ks ks.length L → (∀ b o, s.heap.get? b = some o → h'.get? b = some o) → Q (.ref s.heap.objs.size) { s with heap := h', toks := tk }) : wpAny (model P w) A (call (.type "set") [.ref l]) Q E s := by
  have hisz : items.size = ks.length := by
    have q := congrArg List.length hit
    rwa [Array.length_toList, List.length_map] at q
  obtain ⟨c, tl, hmro⟩ := F.called_set.mro
  have hmade := F.called_set.made
  have hsub := F.called_set.sub
  refine wpAny_call (codeAny_of_tree ?_)
  show wpAny _ _ (callAny (.type "set") _) _ _ _
  refine wpAny_pure ⟨Code.quiet_builtin _ (by decide +kernel), codeAny_builtin F.entry_type_call ?_⟩
  rw [Around.under_plain (weight_type_call_type "set" [.ref l] []) rfl]
  have h1 := F.called_set.notType
  have h2 := F.called_set.canCreate
  have hct := F.typeCall_set_1 (.ref l)
  repeat (any_goals (first | assumption | wp_step))
  refine codeAny_mono (code_set_led1 (.ref l) (E := E) (Q₁ := fun obj s₁ => obj = .ref s.heap.objs.size ∧ s₁ = { s with heap := s.heap.push (setNew w) }) ⟨rfl, rfl⟩) fun r s₁ hr => ?_
  cases r with
  | error e => exact hr
  | ok fl =>
    cases fl with
    | ret obj =>
      obtain ⟨rfl, rfl⟩ := hr
      have hS : (s.heap.push (setNew w)).get? s.heap.objs.size = some (setNew w) := Heap.get?_push_size _ rfl
      have hT : Shared.TypeIs { s with heap := s.heap.push (setNew w) } (.ref s.heap.objs.size) "set" := ⟨_, hS, rfl⟩
      have hli := F.called_set.init.lookup
      have hbi := F.called_set.init.bind (.ref s.heap.objs.size)
      repeat (any_goals (first | assumption | wp_step))
      refine codeAny_mono (codeAny_call_builtin (R := wants (fun r s₂ => r = .none ∧ ∃ h' tk L es ep t, s₂ = { s with heap := h', toks := tk } ∧ SetN P w h' s.heap.objs.size L es ep t ∧ Got ks ks.length L ∧ (∀ b o, s.heap.get? b = some o → h'.get? b = some o)) E)
        F.called_set.init.plain F.entry_set_init (check_set_init_1 hT ?_)) fun r₂ s₂ hr₂ => ?_
      · obtain ⟨⟨ocls, odict, odata, oslots⟩, hol, hcl, nl, hdl⟩ := hl
        simp only at hcl hdl
        subst hcl
        subst hdl
        have up : ∀ b o, s.heap.get? b = some o → (s.heap.push (setNew w)).get? b = some o := fun b o e => Heap.get?_push_of_some _ e
        have hsz : (s.heap.push (setNew w)).objs.size = s.heap.objs.size + 1 := Heap.size_push ..
        have hlS : l < s.heap.objs.size := Heap.lt_size hol
        have hsls := F.sub_list_set
        have hslf := F.sub_list_frozenset
        have hne : (Value.type "list" == Value.type "dict") = false := by decide
        have hl1 : (s.heap.push (setNew w)).IsList l items := ⟨_, up _ _ hol, rfl, nl, rfl⟩
        have hol' := up _ _ hol
        unfold Builtin.«set.__init__» noKeywords Builtin.Frozenset.updateFrom
        generalize hPI : pyIter = PI
        wp_walk
        subst hPI
        refine wpAny_pyIter_list hl1 ?_
        refine wpAny_bind (wpAny_runValue ?_)
        have hneI : l ≠ (s.heap.push (setNew w)).objs.size := by rw [hsz]; exact Nat.ne_of_lt (Nat.lt_succ_of_lt hlS)
        have gone : ∀ b, s.heap.objs.size ≤ b → s.heap.get? b = none := fun b hb => by
          cases q : s.heap.get? b with
          | none => rfl
          | some o => exact absurd (Heap.lt_size q) (Nat.not_lt.mpr hb)
        refine update_keys (Walks.list (by simp [hh] : A.in1.in1.in1.handled = none) _ l hneI items).toS s.heap.objs.size
          (by rw [hsz]; simp only [List.mem_cons, List.not_mem_nil, or_false, not_or]; exact ⟨Nat.ne_of_lt (Nat.lt_succ_self _), Nat.ne_of_gt hlS⟩) ks hisz few
          (fun i v hv => ?_) s.heap hk (gone _ (Nat.le_refl _)) (fun b hb => gone b (by rw [List.mem_singleton.mp hb, hsz]; exact Nat.le_succ _)) (show A.units + 1 + 1 + 1 + 8 < cLine by omega) (items.size - 0) 0 _ (by omega) (Nat.zero_le _)
          ⟨⟨_, Heap.get?_push_size _ rfl, rfl, rfl⟩, (hl1.push _)⟩ (fun b o e => Heap.get?_push_of_some _ (up b o e)) ⟨[], #[], 0, _, setN_new (Heap.get?_push_of_some _ hS), ⟨fun p hp => (by cases hp), fun p hp => (by simp at hp), Nat.le_refl _⟩⟩ ?_
        · have q : items.toList[i]? = some v := by rw [Array.getElem?_toList]; exact hv
          rw [hit, List.getElem?_map] at q
          cases hq : ks[i]? with
          | none => rw [hq] at q; cases q
          | some p =>
            rw [hq] at q
            exact ⟨p, rfl, (Option.some.inj q).symm⟩
        · intro s' L es ep t hm hS' g' hkp
          obtain ⟨h', g2, d', tk', os'⟩ := s'
          have eg : g2 = s.gens := hm.gens
          have ed : d' = s.drawn := hm.drawn
          have eo : os' = s.os := hm.os
          subst eg
          subst ed
          subst eo
          rw [hisz] at g'
          show wpAny _ _ _ _ _ _
          refine wpAny_pure ?_
          show wpAny _ _ (ret Value.none) _ _ _
          exact wpAny_pure ⟨rfl, h', tk', L, es, ep, t, rfl, hS', g', hkp⟩
      · cases r₂ with
        | error e => exact hr₂
        | ok fl₂ =>
          cases fl₂ with
          | ret r =>
            obtain ⟨rfl, h', tk, L, es, ep, t, rfl, hS', g', hk'⟩ := hr₂
            repeat (any_goals (first | assumption | wp_step))
            exact h _ _ _ _ _ _ hS' g' hk'
          | _ => exact hr₂.elim
    | _ => exact hr.elim
end
end PD
end
section
set_option Elab.async false
set_option linter.all false
set_option maxRecDepth 100000
set_option maxHeartbeats 4000000
set_option autoImplicit false
namespace PD
open PySem PySem.Spec PyProof.Rows L2
open PySem.W (Datum Tup)
variable [Tabl]

/-! ### signs of data tell the data -/
mutual
theorem toks_split : ∀ (x y : PyData) (l m : List (Int ⊕ List Nat)), keyable x = true → PySem.W.alike x y = true → PySem.W.keyToks x ++ l = PySem.W.keyToks y ++ m → x = y ∧ l = m
  | .none, y, l, m, _, h, e => by
    cases y with
    | none => exact ⟨rfl, e⟩
    | _ => exact absurd h (by simp [PySem.W.alike])
  | .bool a, y, l, m, _, h, e => by
    cases y with
    | bool b =>
      simp only [PySem.W.keyToks, List.cons_append, List.nil_append] at e
      injection e with e1 e2
      injection e1 with e1
      exact ⟨by cases a <;> cases b <;> simp_all, e2⟩
    | _ => exact absurd h (by simp [PySem.W.alike])
  | .int a, y, l, m, _, h, e => by
    cases y with
    | int b =>
      simp only [PySem.W.keyToks, List.cons_append, List.nil_append] at e
      injection e with e1 e2
      injection e1 with e1
      exact ⟨by rw [e1], e2⟩
    | _ => exact absurd h (by simp [PySem.W.alike])
  | .str a, y, l, m, _, h, e => by
    cases y with
    | str b =>
      simp only [PySem.W.keyToks, List.cons_append, List.nil_append] at e
      injection e with e1 e2
      injection e1 with e1
      exact ⟨by rw [PySem.W.str_of_cps e1], e2⟩
    | _ => exact absurd h (by simp [PySem.W.alike])
  | .tuple xs, y, l, m, k, h, e => by
    cases y with
    | tuple ys =>
      obtain ⟨e1, e2⟩ := toksAll_split xs ys l m k (by simpa [PySem.W.alike] using h) (by simpa [PySem.W.keyToks] using e)
      exact ⟨by rw [e1], e2⟩
    | _ => exact absurd h (by simp [PySem.W.alike])
  | .list _, _, _, _, k, _, _ => by cases k
  | .dict _, _, _, _, k, _, _ => by cases k
theorem toksAll_split : ∀ (xs ys : List PyData) (l m : List (Int ⊕ List Nat)), keyables xs = true → PySem.W.alikeAll xs ys = true → PySem.W.keyToksAll xs ++ l = PySem.W.keyToksAll ys ++ m → xs = ys ∧ l = m
  | [], [], l, m, _, _, e => by
    simp only [PySem.W.keyToksAll, List.cons_append, List.nil_append] at e
    injection e with e1 e2
    exact ⟨rfl, e2⟩
  | [], y :: ys, l, m, _, _, e => by
    simp [PySem.W.keyToksAll] at e
  | x :: xs, [], l, m, _, _, e => by
    simp [PySem.W.keyToksAll] at e
  | x :: xs, y :: ys, l, m, k, h, e => by
    have k' : (keyable x && keyables xs) = true := k
    rw [Bool.and_eq_true] at k'
    obtain ⟨h1, h2⟩ := PySem.W.alike_all_cons h
    rw [PySem.W.toks_all_cons, PySem.W.toks_all_cons, List.cons_append, List.cons_append, List.append_assoc, List.append_assoc] at e
    injection e with _ e
    obtain ⟨e1, e2⟩ := toks_split x y _ _ k'.1 h1 e
    obtain ⟨e3, e4⟩ := toksAll_split xs ys _ _ k'.2 h2 e2
    exact ⟨by rw [e1, e3], e4⟩
end
theorem toks_inj {x y : PyData} (k : keyable x = true) (h : PySem.W.alike x y = true) (e : PySem.W.keyToks x = PySem.W.keyToks y) : x = y := (toks_split x y [] [] k h (by rw [List.append_nil, List.append_nil]; exact e)).1
/-- any two of the type can be put into sequence -/
class AlikeD (α : Type) [DecidableEq α] [Datum α] : Prop where
  alike : ∀ a b : α, PySem.W.alike (Rep.toD a) (Rep.toD b) = true
instance : AlikeD Int := ⟨fun _ _ => rfl⟩
instance : AlikeD Str := ⟨fun _ _ => rfl⟩
section
variable {α β : Type} [DecidableEq α] [Datum α] [AlikeD α] [DecidableEq β] [Datum β] [AlikeD β]
theorem alikes : ∀ xs ys : List α, PySem.W.alikeAll (xs.map fun x => Rep.toD x) (ys.map fun x => Rep.toD x) = true
  | [], _ => by cases ‹List α› <;> simp [PySem.W.alikeAll]
  | _ :: _, [] => by simp [PySem.W.alikeAll]
  | x :: xs, y :: ys => by
    rw [List.map_cons, List.map_cons, PySem.W.alikeAll, AlikeD.alike x y, alikes xs ys]
    rfl
instance : AlikeD (Tup α) := ⟨fun a b => by
  show PySem.W.alike (.tuple (a.items.map fun x => Rep.toD x)) (.tuple (b.items.map fun x => Rep.toD x)) = true
  rw [PySem.W.alike]
  exact alikes _ _⟩
instance : AlikeD (α × β) := ⟨fun a b => by
  show PySem.W.alike (.tuple [Rep.toD a.1, Rep.toD a.2]) (.tuple [Rep.toD b.1, Rep.toD b.2]) = true
  simp [PySem.W.alike, PySem.W.alikeAll, AlikeD.alike]⟩
theorem allAlike (xs : List α) : PySem.W.AllAlike (xs.map fun x => Rep.toD x) := fun d hd d' hd' => by
  obtain ⟨a, _, rfl⟩ := List.mem_map.mp hd
  obtain ⟨b, _, rfl⟩ := List.mem_map.mp hd'
  exact AlikeD.alike a b
/-- the order of data -/
def leD (a b : α) : Bool := PySem.W.dataLe false (fun x : α => Rep.toD x) a b
theorem leD_total : PySem.W.TotalLe (leD (α := α)) := PySem.W.sortLe_total (listOrd itemOrd) false fun x : α => PySem.W.keyToks (Rep.toD x)
theorem leD_anti [KeyD α] {a b : α} (h1 : leD a b = true) (h2 : leD b a = true) : a = b := by
  have e : PySem.W.keyToks (Rep.toD a) = PySem.W.keyToks (Rep.toD b) := (listOrd itemOrd).total _ _ (by simpa [leD, PySem.W.dataLe, PySem.W.sortLe] using h2) (by simpa [leD, PySem.W.dataLe, PySem.W.sortLe] using h1)
  exact KeyD.inj _ _ (by rw [toks_inj (KeyD.able a) (AlikeD.alike a b) e])
theorem sortD_eq (xs : List α) : sortD xs = xs.mergeSort leD := rfl
theorem sortD_up (xs : List α) : (sortD xs).Pairwise fun a b => leD a b = true := PySem.W.sort_pairwise leD_total xs
theorem sortD_perm (xs : List α) : (sortD xs).Perm xs := List.mergeSort_perm xs _
theorem up_unique [KeyD α] : ∀ {xs ys : List α}, xs.Perm ys → xs.Pairwise (fun a b => leD a b = true) → ys.Pairwise (fun a b => leD a b = true) → xs = ys
  | [], ys, p, _, _ => (List.nil_perm.mp p).symm
  | x :: xs, [], p, _, _ => nomatch p.length_eq
  | x :: xs, y :: ys, p, h1, h2 => by
    have g1 := List.pairwise_cons.mp h1
    have g2 := List.pairwise_cons.mp h2
    have e : x = y := by
      have m1 : x ∈ y :: ys := p.mem_iff.mp List.mem_cons_self
      have m2 : y ∈ x :: xs := p.mem_iff.mpr List.mem_cons_self
      rcases List.mem_cons.mp m1 with z | z
      · exact z
      · rcases List.mem_cons.mp m2 with z2 | z2
        · exact z2.symm
        · exact leD_anti (g1.1 y z2) (g2.1 x z)
    subst e
    rw [up_unique (List.perm_cons x |>.mp p) g1.2 g2.2]
theorem sortD_congr [KeyD α] {xs ys : List α} (p : xs.Perm ys) : sortD xs = sortD ys := up_unique ((sortD_perm xs).trans (p.trans (sortD_perm ys).symm)) (sortD_up xs) (sortD_up ys)
end
/-- each once -/
def uniq {α : Type} [DecidableEq α] : List α → List α
  | [] => []
  | x :: xs => if x ∈ xs then uniq xs else x :: uniq xs
theorem mem_uniq {α : Type} [DecidableEq α] {a : α} : ∀ xs : List α, a ∈ uniq xs ↔ a ∈ xs
  | [] => Iff.rfl
  | x :: xs => by
    unfold uniq
    by_cases h : x ∈ xs
    · rw [if_pos h, mem_uniq xs, List.mem_cons]
      exact ⟨.inr, fun z => z.elim (fun e => by rw [e]; exact h) id⟩
    · rw [if_neg h, List.mem_cons, List.mem_cons, mem_uniq xs]
theorem nodup_uniq {α : Type} [DecidableEq α] : ∀ xs : List α, (uniq xs).Nodup
  | [] => List.nodup_nil
  | x :: xs => by
    unfold uniq
    by_cases h : x ∈ xs
    · rw [if_pos h]
      exact nodup_uniq xs
    · rw [if_neg h]
      exact List.nodup_cons.mpr ⟨fun z => h ((mem_uniq xs).mp z), nodup_uniq xs⟩

/-! ### a set, as the hand layer knows it -/
structure RawS (P : Program) (w : World) (h : Heap) (a : Addr) (L : List KRow) : Prop where
  ex : ∃ (es : Array (Int × Value)) (ep : Nat) (t : SetTable), (∃ o, h.get? a = some o ∧ o.ExactSet ∧ o.data = .set es ep t) ∧ es.toList = kRows w L ∧ TabOk t (L.map fun p => kh w p.2) ∧ (L.map (·.2)).Nodup ∧ t.plain = true ∧
    (w.params.followText "set-order" = true ∨ t.led = true) ∧ L.length * 5 < t.mask * 3 ∧ L.length < 64
def SetO (P : Program) (w : World) (a : Addr) (L : List KRow) : HO := .ext fun h => RawS P w h a L
theorem SetN.raw {P : Program} {w : World} {h : Heap} {a : Addr} {L : List KRow} {es : Array (Int × Value)} {ep : Nat} {t : SetTable} (R : SetN P w h a L es ep t) : RawS P w h a L := ⟨es, ep, t, R.ob, R.rows, R.tab, R.nd, R.plain, R.led, R.room, R.few⟩
theorem RawS.full {P : Program} {w : World} {h : Heap} {a : Addr} {L : List KRow} (R : RawS P w h a L) (hk : ∀ p ∈ L, KIs P w h p.2 p.1) : ∃ es ep t, SetN P w h a L es ep t := by
  obtain ⟨es, ep, t, h1, h2, h3, h4, h5, h6, h7, h8⟩ := R.ex
  exact ⟨es, ep, t, h1, h2, h3, h4, hk, h5, h6, h7, h8⟩
theorem setO_ok {P : Program} {w : World} {H : Hp} {h : Heap} {a : Addr} {L : List KRow} (R : RawS P w h a L) : ObjOk P w H h a (SetO P w a L) := by
  have ⟨es, ep, t, ⟨o, ho, r⟩, q⟩ := R.ex
  refine ⟨R, ⟨o, ho⟩, fun h1 h2 p k => ?_⟩
  have ⟨es', ep', t', ⟨o', ho', r'⟩, q'⟩ := RawS.ex p
  exact ⟨es', ep', t', ⟨o', k o' ho', r'⟩, q'⟩
/-- what the key at an address is, by data -/
def KRowAt (K : PySem.W.Frag) (H : Hp) (p : KRow) : Prop := p.2.depth ≤ 8 ∧ numK p.2 = true ∧ ∃ d, Dp K H (.ref p.1) d ∧ keyable d = true ∧ nk d = p.2
theorem krow_is {X : Cx} {pins : List (Addr × Obj)} {σ : L2.St} {H : Hp} {s : Shared} (I : L2.Inv X pins σ H s) {p : KRow} (k : KRowAt X.K H p) : KIs X.prog X.w s.heap p.2 p.1 := by
  obtain ⟨h1, h2, d, h3, h4, h5⟩ := k
  obtain ⟨as, rd⟩ := Dp.reads I d _ (.ref p.1) h3 rfl
  exact ⟨⟨by rw [← h5]; exact reads_nk rd h4, h1⟩, h2⟩
def rSetN (K : PySem.W.Frag) (P : Program) (w : World) : List V → Hp → VK → Prop := fun xs H Q => ∃ (l : Addr) (ks : List KRow), xs = [V.ref l] ∧ SqL K H l (ks.map fun p => V.ref p.1) ∧ (∀ p ∈ ks, KRowAt K H p) ∧ ks.length < 64 ∧
  ∀ a L o, H a = none → (∀ p ∈ L, p ∈ ks) → (∀ p ∈ ks, p.2 ∈ L.map (·.2)) → (L.map (·.2)).Nodup → Q (.ref a) (upd H a (.frz o (SetO P w a L)))
theorem refs_rows : ∀ {ks : List KRow} {us : List Value}, Vals (ks.map fun p => V.ref p.1) us → us = ks.map fun p => Value.ref p.1
  | [], _, r => by cases r; rfl
  | p :: ks, _, r => by
    have r' : Vals (V.ref p.1 :: ks.map fun p => V.ref p.1) _ := r
    cases r' with
    | cons r1 r2 =>
      cases r1
      rw [refs_rows r2] <;> rfl
section
variable {X : Cx}
theorem cr_setN (hc : X.calm = true) (hu : X.A.units + 64 < cLine) : CallR X (.type "set") (rSetN X.K X.prog X.w) := by
  intro pins s σ H xs us Q I r h
  obtain ⟨l, ks, rfl, hl, hk, hf, q⟩ := h
  obtain ⟨u, rfl, ru⟩ := vals1 r
  cases ru
  obtain ⟨its, rv, pl, hz⟩ := I.list hl
  have hn : H s.heap.objs.size = none := I.hok.fresh (Nat.le_refl _)
  refine call_set_keys (P := X.prog) (w := X.w) ks (I.ok.hd hc) pl.isList (by simpa using refs_rows rv) (fun p hp => krow_is I (hk p hp)) hf (by omega) fun h' tk L es ep t R g k => ?_
  obtain ⟨o, ho, _⟩ := R.ob
  exact ⟨.ref s.heap.objs.size, _, I.laid (t' := tk) (o := .frz o _) k (Nat.le_refl _) ⟨ho, setO_ok R.raw⟩, rfl, q _ L o hn (fun p hp => List.mem_of_mem_take (g.sub p hp)) (fun p hp => g.all p (by rw [List.take_length]; exact hp)) R.nd⟩
end
end PD
end
section
set_option Elab.async false
set_option linter.all false
set_option maxRecDepth 100000
set_option maxHeartbeats 4000000
set_option autoImplicit false
namespace PD
open PySem PySem.Spec PyProof.Rows L2
open PySem.W (Datum Tup)
variable [Tabl]

/-! ### sorted(a set) -/
mutual
theorem reads_none {h : Heap} : ∀ {d : PyData} {v : Value} {as : List Addr}, Reads h v d as → keyable d = true → as = []
  | .none, _, _, r, _ => by cases r; rfl
  | .bool b, _, _, r, _ => by cases r; rfl
  | .int i, _, _, r, _ => by cases r; rfl
  | .str x, _, _, r, _ => by cases r; rfl
  | .tuple ds, _, _, r, k => by
    cases r with
    | tuple ho hc hd ha => exact readsAll_none ha k
  | .list _, _, _, _, k => nomatch (show false = true from k)
  | .dict _, _, _, _, k => nomatch (show false = true from k)
theorem readsAll_none {h : Heap} : ∀ {ds : List PyData} {vs : List Value} {as : List Addr}, ReadsAll h vs ds as → keyables ds = true → as = []
  | [], _, _, r, _ => by cases r; rfl
  | d :: ds, _, _, r, k => by
    have k' : (keyable d && keyables ds) = true := k
    rw [Bool.and_eq_true] at k'
    cases r with
    | cons r1 r2 => rw [reads_none r1 k'.1, readsAll_none r2 k'.2]; rfl
end
theorem perm_of_map {α β : Type} {f : α → β} {l r : List β} (h : l.Perm r) : ∀ m : List α, r = m.map f → ∃ m' : List α, m'.Perm m ∧ l = m'.map f := by
  induction h with
  | nil =>
    intro m e
    cases m with
    | nil => exact ⟨[], .nil, rfl⟩
    | cons a m => cases e
  | cons x h ih =>
    intro m e
    cases m with
    | nil => cases e
    | cons a m =>
      injection e with e1 e2
      obtain ⟨m', p, e3⟩ := ih m e2
      exact ⟨a :: m', p.cons a, by rw [e1, e3]; rfl⟩
  | swap x y l =>
    intro m e
    cases m with
    | nil => cases e
    | cons a m => cases m with
      | nil => cases e
      | cons b m =>
        injection e with e1 e2
        injection e2 with e2 e3
        exact ⟨b :: a :: m, .swap a b m, by rw [e1, e2, e3]; rfl⟩
  | trans h1 h2 ih1 ih2 =>
    intro m e
    obtain ⟨m1, p1, e1⟩ := ih2 m e
    obtain ⟨m2, p2, e2⟩ := ih1 m1 e1
    exact ⟨m2, p2.trans p1, e2⟩
section
variable {α : Type} [DecidableEq α] [Datum α] [KeyD α] [AlikeD α]
def zLe (a b : KRow × α) : Bool := PySem.W.dataLe false (fun z : KRow × α => Rep.toD z.2) a b
def rSortN (K : PySem.W.Frag) (P : Program) (w : World) (α : Type) [DecidableEq α] [Datum α] [KeyD α] [AlikeD α] : List V → Hp → VK → Prop := fun vs H Q => ∃ (a : Addr) (o : Obj) (zs : List (KRow × α)), vs = [V.ref a] ∧ H a = some (.frz o (SetO P w a (zs.map (·.1)))) ∧
  (∀ z ∈ zs, KRowAt K H z.1 ∧ Dp K H (.ref z.1.1) (Rep.toD z.2)) ∧ PySem.W.Sortable (zs.map fun z => Rep.toD z.2) ∧ ∀ (p : Addr) (zs' : List (KRow × α)), zs'.Perm zs → H p = none → Q (.ref p) (upd H p (.lst ((zs'.mergeSort zLe).map fun z => V.ref z.1.1)))
theorem each_refs : ∀ zs : List (KRow × α), PySem.W.EachIs (fun (v : Value) (z : KRow × α) => v = .ref z.1.1) (zs.map fun z => Value.ref z.1.1) zs
  | [] => .nil
  | _ :: zs => .cons rfl (each_refs zs)
theorem each_mem {R S : Value → KRow × α → Prop} : ∀ {as : List Value} {bs : List (KRow × α)}, PySem.W.EachIs R as bs → (∀ a b, b ∈ bs → R a b → S a b) → PySem.W.EachIs S as bs
  | _, _, .nil, _ => .nil
  | _, _, .cons r t, h => .cons (h _ _ (List.mem_cons_self ..) r) (each_mem t fun a b hb => h a b (List.mem_cons_of_mem _ hb))
theorem refs_each : ∀ {vs : List Value} {zs : List (KRow × α)}, PySem.W.EachIs (fun (v : Value) (z : KRow × α) => v = .ref z.1.1) vs zs → Vals (zs.map fun z => V.ref z.1.1) vs
  | _, _, .nil => .nil
  | _, _, .cons r t => by
    rw [r]
    exact .cons rfl (refs_each t)
theorem cr_sortN {X : Cx} (hc : X.calm = true) (hd : Datum.depth α ≤ 50) (hu : X.A.units + 64 < cLine) : CallR X (.builtin "sorted") (rSortN X.K X.prog X.w α) := by
  intro pins s σ H vs us Q I r h
  obtain ⟨a, o, zs, rfl, ha, hk, hso, q⟩ := h
  obtain ⟨u, rfl, ru⟩ := vals1 r
  cases ru
  obtain ⟨_, R0, _⟩ := I.hok a _ ha
  have hkeys : ∀ p ∈ zs.map (·.1), KIs X.prog X.w s.heap p.2 p.1 := fun p hp => by
    obtain ⟨z, hz, rfl⟩ := List.mem_map.mp hp
    exact krow_is I (hk z hz).1
  obtain ⟨es, ep, t, R⟩ := RawS.full R0 hkeys
  obtain ⟨ob, hob, hex, hdt⟩ := R.ob
  have hsz := R.size
  have hfew := R.few
  rw [List.length_map] at hsz hfew
  have hh := I.ok.hd hc
  refine Calls.call_function_entry kind_sorted plain_sorted entry_sorted (args_sorted1 _) ?_
  unfold Builtin.«sorted»
  refine wpAny_bind (m := checkCount "sorted" 1 1 _) (wpAny_pure ?_)
  refine wpAny_bind (collect_set (A := X.A.in1) hh ⟨ob, hob, hex.1, hdt⟩ R.fits (by unfold scanBound; omega) R.tab.ris R.led fun s1 vs k1 hz1 g1 o1 pm => ?_)
  have hvs : vs.Perm (zs.map fun z => Value.ref z.1.1) := by
    have e : es.toList.map (·.2) = zs.map fun z => Value.ref z.1.1 := by
      rw [R.rows]
      unfold kRows
      rw [List.map_map, List.map_map] <;> rfl
    rw [e] at pm
    exact pm
  obtain ⟨zs', pz, rfl⟩ := perm_of_map hvs zs rfl
  have hlen : zs'.length = zs.length := pz.length_eq
  refine wpAny_bind (wpAny_newList ?_ (by rw [sizeLine_eq, List.length_map]; omega))
  have hoL : (s1.heap.push (seqObj "list" (zs'.map fun z => Value.ref z.1.1).toArray 0)).get? s1.heap.objs.size = some (seqObj "list" (zs'.map fun z => Value.ref z.1.1).toArray 0) := Heap.get?_push_size _ rfl
  have up : ∀ b o, s.heap.get? b = some o → (s1.heap.push (seqObj "list" (zs'.map fun z => Value.ref z.1.1).toArray 0)).get? b = some o := fun b o e => Heap.get?_push_of_some _ (k1 b o e)
  have hso' : PySem.W.Sortable (zs'.map fun z => Rep.toD z.2) := by
    have mem : ∀ d, d ∈ zs'.map (fun z => Rep.toD z.2) → d ∈ zs.map fun z => Rep.toD z.2 := fun d hd => (pz.map _).mem_iff.mp hd
    exact hso.imp (fun z d hd => z d (mem d hd)) fun z d hd => z d (mem d hd)
  have hal : PySem.W.AllAlike (zs'.map fun z => Rep.toD z.2) := by
    have h := allAlike (zs'.map (·.2))
    rwa [List.map_map] at h
  have er : PySem.W.EachIs (fun (v : Value) (z : KRow × α) => ∃ as, Reads (s1.heap.push (seqObj "list" (zs'.map fun z => Value.ref z.1.1).toArray 0)) v (Rep.toD z.2) as ∧ s1.heap.objs.size ∉ as) (zs'.map fun z => Value.ref z.1.1) zs' := each_mem (each_refs zs') fun v z hz e => by
    subst e
    obtain ⟨as, rd⟩ := Dp.reads I _ _ (.ref z.1.1) (hk z (pz.mem_iff.mp hz)).2 rfl
    have e0 := reads_none rd (KeyD.able z.2)
    subst e0
    exact ⟨[], Reads.keeps up rd, List.not_mem_nil⟩
  refine wpAny_bind (wpAny_holding (PySem.W.list_sort_data (s := { s1 with heap := s1.heap.push (seqObj "list" (zs'.map fun z => Value.ref z.1.1).toArray 0) }) (R := fun (v : Value) (z : KRow × α) => v = .ref z.1.1) (enc := fun z : KRow × α => Rep.toD z.2) (bs := zs') hoL (each_refs zs') er hal hso'
    (by rw [sizeLine_eq]; omega) (fun z _ => by have := Datum.depth_le z.2; show X.A.units + 1 + 1 + (Datum.toD z.2).depth < cLine; omega) fun out ho eo => ?_))
  obtain ⟨c, hcell⟩ := sortedHeap_at (vs := zs'.map fun z => Value.ref z.1.1) (out := out.toArray) hoL
  refine wpAny_pure ⟨_, rfl, ?_⟩
  have kept : ∀ b u, s.heap.get? b = some u → (sortedHeap (s1.heap.push (seqObj "list" (zs'.map fun z => Value.ref z.1.1).toArray 0)) s1.heap.objs.size (zs'.map fun z => Value.ref z.1.1) out.toArray).get? b = some u := fun b u e => by
    have q := k1 b u e
    have hlt := Heap.lt_size q
    rw [sortedHeap_old (Nat.ne_of_lt hlt) (by rw [size_push']; exact Nat.lt_succ_of_lt hlt)]
    exact Heap.get?_push_of_some _ q
  have hn : H s1.heap.objs.size = none := I.hok.fresh hz1
  have hv : Vals ((zs'.mergeSort zLe).map fun z => V.ref z.1.1) out := refs_each eo
  have hl2 : ((zs'.mergeSort zLe).map fun z => V.ref z.1.1).length ≤ sizeLine := by
    rw [List.length_map, (List.mergeSort_perm zs' zLe).length_eq, sizeLine_eq]
    omega
  generalize hs' : ({ s1 with heap := sortedHeap (s1.heap.push (seqObj "list" (zs'.map fun z => Value.ref z.1.1).toArray 0)) s1.heap.objs.size (zs'.map fun z => Value.ref z.1.1) out.toArray } : Shared) = s'
  have J : L2.Inv X pins σ (upd H s1.heap.objs.size (.lst ((zs'.mergeSort zLe).map fun z => V.ref z.1.1))) { s with heap := s'.heap, gens := s'.gens, drawn := s'.drawn, toks := s'.toks } := by
    subst hs'
    exact I.call (ch := []) (Un.laid kept hz1 hn) (I.hok.laid kept hz1 ⟨hl2, out, c, hv, hcell⟩) (by rw [show s1.gens = s.gens from g1]; exact I.bare) (fun _ z => nomatch z)
  have e : s' = { s with heap := s'.heap, gens := s'.gens, drawn := s'.drawn, toks := s'.toks } := by
    subst hs'
    cases s1
    cases s
    cases o1
    rfl
  rw [e]
  exact ⟨.ref s1.heap.objs.size, _, J, rfl, q _ zs' pz hn⟩
end
end PD
end
section
set_option Elab.async false
set_option linter.all false
set_option maxRecDepth 100000
set_option maxHeartbeats 4000000
set_option autoImplicit false
namespace PD
open PySem PySem.Spec PyProof.Rows L2
open PySem.W (Datum Tup)
variable [Tabl]

section
variable {C : Addr} {K : PySem.W.Frag} {P : Program} {w : World} {pb : Bool} {e : List Sl} {te : TE} {α : Type} [DecidableEq α] [Datum α] [KeyD α] [AlikeD α]
theorem rows_at {h : Addr → Prop} {H : Hp} (tup : ∀ a : α, ∃ ds, Rep.toD a = PyData.tuple ds) : ∀ {ys : List V} {xs : List α}, AtAll C h H ys (xs.map fun x => Rep.toD x) →
    ∃ zs : List (KRow × α), ys = zs.map (fun z => V.ref z.1.1) ∧ zs.map (·.2) = xs ∧ ∀ z ∈ zs, z.1.2 = nk (Rep.toD z.2) ∧ At C h H (V.ref z.1.1) (Rep.toD z.2)
  | _, [], t => by
    cases t
    exact ⟨[], rfl, rfl, fun z hz => nomatch hz⟩
  | _, x :: xs, t => by
    have t' : AtAll C h H _ (Rep.toD x :: xs.map fun x => Rep.toD x) := t
    cases t' with
    | @cons v _ _ _ r t2 =>
      obtain ⟨zs, rfl, e2, e3⟩ := rows_at tup t2
      obtain ⟨ds, ed⟩ := tup x
      have ka : ∃ b : Addr, v = V.ref b := by
        have r' := r
        rw [ed] at r'
        cases r'
        exact ⟨_, rfl⟩
      obtain ⟨b, rfl⟩ := ka
      refine ⟨((b, nk (Rep.toD x)), x) :: zs, rfl, by rw [List.map_cons, e2], fun z hz => ?_⟩
      rcases List.mem_cons.mp hz with rfl | hz
      · exact ⟨rfl, r⟩
      · exact e3 z hz
theorem lift_rows {zs : List (KRow × α)} : ∀ {L : List KRow}, (∀ p ∈ L, p ∈ zs.map (·.1)) → ∃ zl : List (KRow × α), zl.map (·.1) = L ∧ ∀ z ∈ zl, z ∈ zs
  | [], _ => ⟨[], rfl, fun z hz => nomatch hz⟩
  | p :: L, h => by
    obtain ⟨zl, e1, e2⟩ := lift_rows (L := L) fun q hq => h q (List.mem_cons_of_mem _ hq)
    obtain ⟨z, hz, rfl⟩ := List.mem_map.mp (h p List.mem_cons_self)
    exact ⟨z :: zl, by rw [List.map_cons, e1], fun y hy => (List.mem_cons.mp hy).elim (fun e => by rw [e]; exact hz) (e2 y)⟩
/-- sorted(set(a list of tuples of whole numbers)) -/
theorem ef_sortSet {xs : List α} (h : EL C pb te e xs) (tup : ∀ a : α, ∃ d ds, Rep.toD a = PyData.tuple (d :: ds)) (hnum : ∀ a : α, numK (nk (Rep.toD a)) = true) (few : xs.length < 64) (hd : Datum.depth α ≤ 8 := by decide) :
    EF C (tCB (rSortN K P w α) (tCons (tCB (rSetN K P w) (tCons te tNil)) tNil)) e (sortD (uniq xs)) := fun W F σ H s Q q => h W F σ H s _ fun p ys H2 _ x hl hz t => by
  obtain ⟨zs, rfl, ex, hzs⟩ := rows_at (fun a => (tup a).elim fun d z => z.elim fun ds e => ⟨_, e⟩) t
  have hn : zs.length = xs.length := by rw [← ex, List.length_map]
  have keyed : ∀ z ∈ zs, KRowAt K H2 z.1 := fun z hz => by
    obtain ⟨e1, a1⟩ := hzs z hz
    exact ⟨by rw [e1]; exact Nat.le_trans (KeyD.dep z.2) hd, by rw [e1]; exact hnum z.2, _, a1.dp (Datum.plain z.2), KeyD.able z.2, e1.symm⟩
  refine ⟨p, zs.map (·.1), rfl, SqL.of (by rw [List.map_map]; exact hl), fun r hr => ?_, by rw [List.length_map]; omega, fun a L o ha hL1 hL2 hL3 => ?_⟩
  · obtain ⟨z, hz, rfl⟩ := List.mem_map.mp hr
    exact keyed z hz
  · obtain ⟨zl, rfl, hzl⟩ := lift_rows hL1
    have x2 : Same H2 (upd H2 a (.frz o (SetO P w a (zl.map (·.1))))) := same_new ha
    have at2 : ∀ z ∈ zl, z.1.2 = nk (Rep.toD z.2) ∧ At C (Hd W F) (upd H2 a (.frz o (SetO P w a (zl.map (·.1))))) (V.ref z.1.1) (Rep.toD z.2) := fun z hz => ⟨(hzs z (hzl z hz)).1, same_at x2 (hzs z (hzl z hz)).2⟩
    -- the distinct ones
    have keys : (zl.map (·.1)).map (·.2) = (zl.map (·.2)).map fun x => nk (Rep.toD x) := by
      rw [List.map_map, List.map_map]
      exact List.map_congr_left fun z hz => (at2 z hz).1
    have nd : (zl.map (·.2)).Nodup := by
      rw [keys] at hL3
      exact nodup_of_map hL3
    have pm : (zl.map (·.2)).Perm (uniq xs) := (List.perm_ext_iff_of_nodup nd (nodup_uniq xs)).mpr fun a => by
      rw [mem_uniq, ← ex]
      refine ⟨fun ha => ?_, fun ha => ?_⟩
      · obtain ⟨z, hz, rfl⟩ := List.mem_map.mp ha
        exact List.mem_map.mpr ⟨z, hzl z hz, rfl⟩
      · obtain ⟨z, hz, rfl⟩ := List.mem_map.mp ha
        have m := hL2 z.1 (List.mem_map.mpr ⟨z, hz, rfl⟩)
        rw [keys] at m
        obtain ⟨a, ha, ea⟩ := List.mem_map.mp m
        rw [(hzs z hz).1] at ea
        rw [← KeyD.inj _ _ ea]
        exact ha
    refine ⟨a, o, zl, rfl, upd_same, fun z hz => ⟨?_, (at2 z hz).2.dp (Datum.plain z.2)⟩, .inl fun d hd => ?_, fun l zs' pz hl2 => ?_⟩
    · obtain ⟨e1, a1⟩ := at2 z hz
      exact ⟨by rw [e1]; exact Nat.le_trans (KeyD.dep z.2) hd, by rw [e1]; exact hnum z.2, _, a1.dp (Datum.plain z.2), KeyD.able z.2, e1.symm⟩
    · obtain ⟨z, _, rfl⟩ := List.mem_map.mp hd
      exact tup z.2
    · have x3 := x2.trans (same_new (o := .lst ((zs'.mergeSort zLe).map fun z => V.ref z.1.1)) hl2)
      have hp2 := List.mergeSort_perm zs' zLe
      have es : sortD (uniq xs) = (zs'.mergeSort zLe).map (·.2) := by
        rw [← sortD_congr ((pz.map (·.2)).trans pm)]
        exact (List.map_mergeSort (r := zLe) (s := PySem.W.dataLe false fun x : α => Rep.toD x) (f := fun z : KRow × α => z.2) (l := zs') (fun a _ b _ => rfl)).symm
      have hlen : zl.length ≤ 63 := by
        have h1 := pm.length_eq
        have h2 : (uniq xs).length ≤ xs.length := List.Nodup.length_le_of_subset (nodup_uniq xs) fun a ha => (mem_uniq xs).mp ha
        rw [List.length_map] at h1
        omega
      refine q l _ _ (x.free (x2.free hl2)) (x.trans x3) upd_same (by rw [List.length_map, hp2.length_eq, pz.length_eq]; omega) ?_
      rw [es, List.map_map]
      have all : ∀ z ∈ zs'.mergeSort zLe, At C (fun a => Hd W F a ∨ a = l) (upd (upd H2 a (.frz o (SetO P w a (zl.map (·.1))))) l (.lst ((zs'.mergeSort zLe).map fun z => V.ref z.1.1))) (V.ref z.1.1) (Rep.toD z.2) := fun z hz =>
        same_at (same_new (o := .lst ((zs'.mergeSort zLe).map fun z => V.ref z.1.1)) hl2) ((at2 z (pz.mem_iff.mp (hp2.mem_iff.mp hz))).2.sub fun a z => z.imp id fun w => by rw [w]; exact hl2)
      generalize zs'.mergeSort zLe = us at all ⊢
      generalize (fun a => Hd W F a ∨ a = l) = hh at all ⊢
      generalize upd (upd H2 a (.frz o (SetO P w a (zl.map (·.1))))) l _ = HH at all ⊢
      clear es hp2 x3
      induction us with
      | nil => exact .nil
      | cons z us ih => exact .cons (all z List.mem_cons_self) (ih fun y hy => all y (List.mem_cons_of_mem _ hy))
end
end PD
end
section
set_option Elab.async false
set_option linter.all false
set_option maxRecDepth 100000
set_option maxHeartbeats 4000000
set_option autoImplicit false
namespace PD
open PySem L2
open PySem.W (Datum Tup)
variable [Tabl]

section
open C8 PySem.Spec PyProof.Rows
variable {P : Program} {w : World} {K : PySem.W.Frag} {mg : Str → Option Value} {base : Heap} {C : Addr}
/-- a def of data whose code object is known -/
theorem cal_Dc {x : Str} {st : Stmt} {f c : Addr} {fd : FuncData} {N ps : List Str} {k : Nat} {G : List PyData → (PyData → Prop) → Prop} (Fn : Def K mg x st f fd) (hc : fd.code = .ref c) (b : Binds K fd ps []) (S : FnScope N ps (fnScope st)) (hG : ∀ ds R, G ds R → ds.length = ps.length)
    (body : ∀ (A : Around) (outer : List Env) (s : Shared) (H : Hp) (E : XK), Room k (A.deeper (envOfC x (fnScope st) s.heap.objs.size f (.ref c))) → ∃ t, PSs (cxOf C8.CX0 P w K mg base N x (fnScope st) f (.ref c) A outer s H E).nox (fnBody st) t ∧
      ∀ ds R, G ds R → ES C t (startE N ds) (fun _ => R .none) fun d _ => R d) : Cal P w K mg base (k + 1) x (spD C G) [] := by
  refine ⟨f, fd, ps, [], ?_, Fn.mgf, Fn.kp, b, .nil⟩
  obtain ⟨oc, od, dV, kV, doc, pm, an, cdv, ct, osl, e, lk, hcd⟩ := Fn.fn.ex
  subst e
  have hc' : cdv = .ref c := hc
  subst hc'
  refine fn_of lk hcd S (spD_len hG) fun A outer s H vs Q E hr p => ?_
  obtain ⟨t, h1, h2⟩ := body A outer s H E hr
  exact ⟨t, h1.nox, run_D h2 p⟩
end

/-- the frame of a lambda with one parameter and one captured name -/
theorem sa_lam {C : Addr} {W : Wd} {F : Nat → Addr → Prop} {σ : L2.St} {H H2 : Hp} {e : List Sl} {j : Nat} {d da : PyData} {v : V} {y0 y1 y2 : Str} (s : SA C W F H σ e) (hj : e[j]? = some (.dat d)) (x : Same H H2) (a : At C (Hd W F) H2 v da) :
    SA C (W0 H2 (Hd W F)) F0 H2 (NdefX.startF [y0, y1, y2] [v] ([j].map (NdefX.slotAt σ))) [.dat da, .dat d, .emp] := by
  obtain ⟨u, hu, au⟩ := s.dat j d hj
  have e1 : NdefX.slotAt σ j = some u := by
    unfold NdefX.slotAt
    rw [hu]
  have s2 := s.same x
  have h := sa_start (C := C) (N := [y0, y1, y2]) (vs := [v, u]) (ds := [da, d]) s2.hdk s2.tabs (.cons a (.cons (same_at x au) .nil))
  have e2 : NdefX.startF [y0, y1, y2] [v] ([j].map (NdefX.slotAt σ)) = L2.start [y0, y1, y2] [v, u] := by
    show [some v] ++ ([NdefX.slotAt σ j] ++ _) = _
    rw [e1]
    rfl
  rw [e2]
  exact h
end PD
end
section
set_option Elab.async false
set_option linter.all false
set_option maxRecDepth 100000
set_option maxHeartbeats 4000000
set_option autoImplicit false
namespace PD
open PySem L2
open PySem.W (Datum Tup)
open C8 (Cal fnScope fnBody fnScope_by)
variable [Tabl]
def top (i : Nat) : Stmt := PySem.Challenge.pw_copiedfrom_k19_nearest_stemmata_up_to_fo.main.body.getD i (.Pass ⟨0, 0, 0, 0⟩)

/-! ### by_size -/
section
variable {P : Program} {w : World} {K : PySem.W.Frag} {mg : Str → Option Value} {base : Heap} {C : Addr}
abbrev N_by_size : List Str := ["copies", "lots", "found", "lot"]
theorem sc_by_size : FnScope N_by_size ["copies", "lots"] (fnScope (top 32)) := fnScope_by (by decide +kernel)
def lamArgs : Arguments := match fnBody (top 32) with
  | [_, .Return (some (.Call _ [.Call _ _ [⟨_, .Lambda a _ _ _, _⟩] _] _ _)) _] => a
  | _ => ⟨[], [], none, [], [], none, []⟩
def lamBody : Expr := match fnBody (top 32) with
  | [_, .Return (some (.Call _ [.Call _ _ [⟨_, .Lambda _ b _ _, _⟩] _] _ _)) _] => b
  | _ => .Constant .none 0 ⟨0, 0, 0, 0⟩
def lamScope : Scope := match fnBody (top 32) with
  | [_, .Return (some (.Call _ [.Call _ _ [⟨_, .Lambda _ _ s _, _⟩] _] _ _)) _] => s
  | _ => ⟨.function, [], false, false, []⟩
abbrev N_lam : List Str := ["lot", "copies", "copy"]
theorem sc_lam : NdefX.NScope N_lam ["lot"] ["copies"] lamScope := ⟨by decide +kernel, by decide +kernel, by decide +kernel, by decide +kernel, by decide +kernel, by decide +kernel, by decide +kernel, by decide +kernel, by decide +kernel⟩
def t_lam (K : PySem.W.Frag) : TE := tTupF (tCons (tOp (rI0 fun i j => .int (i - j)) (tC (.int 0)) (tCB (rLenQ K) (tCons (tVar 0) tNil))) (tCons (tLc (iTup K (tVar 0)) (gName 2) tYes (tTM (rIdxT K Str) (tVar 1) (tCons (tVar 2) tNil)) [2]) tNil))
def t_by_size (C : Addr) (P : Program) (w : World) (K : PySem.W.Frag) : TS := (tSeq (tAsg (tCB (rDictN K P w) (tCons (tLc (iList K (tVar 1)) (gName 3) tYes (tTupF (tCons (tVar 3) (tCons (tC (.bl true)) tNil))) [3]) tNil)) (gName 2))
  (tRet (tCB (rTupF K) (tCons (tSortLam P w N_lam [0] (tVar 2) (t_lam K)) tNil))))
theorem p_lam {F : NdefX.NF} {f : Addr} {A : Around} {outer : List Env} {s : Shared} {H : Hp} (b_len : mg "len" = none) (hF : F.scope = lamScope) (hr : Room 1 (A.deeper (NdefX.envF F f s.heap.objs.size))) : PE (NdefX.ncx C8.CX0 P w K mg base N_lam F f A outer s H C8.E0) lamBody (t_lam K) := by
  have nd : N_lam.Nodup := by decide
  obtain ⟨q1, q2, q3, q4, q5, q6, q7⟩ := F
  obtain rfl : q5 = lamScope := hF
  exact pe_tupF (pa_cons (pe_op op_sub pe_int (pe_callB call_len_seq (by rfl) b_len bb_len (pa_cons (pv 0) pa_nil))) (pa_cons (pe_lc (own := [("copy", 2)]) (g := (gName 2)) (tt := tYes) (te := tTM (rIdxT K Str) (tVar 1) (tCons (tVar 2) tNil)) (by rfl) nd (pi_tup (pv 0)) (blkOk_by (by kernel_rfl))
    (fun _ _ _ _ _ => (pg_name (i := 2) nd rfl (by first | exact Or.inl rfl | exact Or.inr rfl))) (fun _ _ _ _ _ => pts_nil) (fun _ _ _ _ _ => pe_tm PySem.F.slot_tuple_index PySem.F.type_tuple_index (mt_idxT hr.units (by decide)) (pv 1) (pa_cons (pv 2) pa_nil))) pa_nil))
theorem lam_free : ∀ y ∈ lamScope.names, y.2 = .free → (fnScope (top 32)).names.lookup y.1 = some .cell ∨ (fnScope (top 32)).names.lookup y.1 = some .free := by decide +kernel
theorem p_by_size {c P0 f : Addr} {A : Around} {outer : List Env} {s : Shared} {H : Hp} {E : XK} (b_len : mg "len" = none) (b_dict : mg "dict" = none) (b_tuple : mg "tuple" = none) (b_sorted : mg "sorted" = none) (TB : LamX.TabB base mg c P0)
    (hm : (P0, ("by_size.<locals>.<lambda>" : Str)) ∈ Tabl.T) (hu : ∀ p ∈ Tabl.T, p.1 = P0 → p.2 = ("by_size.<locals>.<lambda>" : Str)) (hr : Room 5 (A.deeper (PyProof.Rows.envOfC "by_size" (fnScope (top 32)) s.heap.objs.size f (.ref c)))) :
    PSs (cxOf C8.CX0 P w K mg base N_by_size "by_size" (fnScope (top 32)) f (.ref c) A outer s H E).nox (fnBody (top 32)) (t_by_size C P w K) :=
  have nd := sc_by_size.nd
  pss_cons (ps_set (i := 2) nd rfl (by first | exact Or.inl rfl | exact Or.inr rfl) (pe_callTy (cr_dictN (by rfl) hr.units) (by rfl) b_dict bb_dict (pa_cons (pe_lc (own := [("lot", 3)]) (g := (gName 3)) (tt := tYes) (te := tTupF (tCons (tVar 3) (tCons (tC (.bl true)) tNil))) (by rfl) nd (pi_list (pv 1)) (blkOk_by (by kernel_rfl))
    (fun _ _ _ _ _ => (pg_name (i := 3) nd rfl (by first | exact Or.inl rfl | exact Or.inr rfl))) (fun _ _ _ _ _ => pts_nil) (fun _ _ _ _ _ => pe_tupF (pa_cons (pv 3) (pa_cons pe_bl pa_nil)))) pa_nil)))
  (pss_one (ps_ret (pe_callTy cr_tupF (by rfl) b_tuple bb_tuple (pa_cons (pe_sortLam (k := 1) (fr := ["copies"]) (y0 := "lot") (by rfl) hr TB rfl hm hu (by rfl) sc_lam lam_free (by decide +kernel) (by rfl) (fun c' pm ctv us hl => by
    match us, hl with
    | [u], _ => rfl) (by rfl) b_sorted (pv 2) (fun f c' A' s H hr' => p_lam (F := lamF _ lamArgs lamScope c') b_len rfl hr')) pa_nil))))
end
end PD
end
section
set_option Elab.async false
set_option linter.all false
set_option maxRecDepth 100000
set_option maxHeartbeats 4000000
set_option autoImplicit false
namespace PD
open PySem L2
open PySem.W (Datum Tup)
open C8 (Cal fnScope fnBody fnScope_by)
variable [Tabl]
abbrev Lot := Tup Str
abbrev Stemma := Tup Lot

/-! ### by_size: what it tells -/
def sizeKey (copies lot : Lot) : Int × List Int := (0 - (lot.items.length : Int), lot.items.map fun c => ((copies.items.idxOf c : Nat) : Int))
def firsts (lots : List Lot) : List Lot := (dictOf (lots.map fun l => (l, true))).map (·.1)
def bySize (copies : Lot) (lots : List Lot) : Stemma := ⟨sortBy (sizeKey copies) (firsts lots)⟩
def G_by_size : List PyData → (PyData → Prop) → Prop := fun ds R => ∃ (copies : Lot) (lots : List Lot), ds = [Rep.toD copies, Rep.toD lots] ∧ (∀ l ∈ lots, ∀ c ∈ l.items, c ∈ copies.items) ∧ R = fun d => d = Rep.toD (bySize copies lots)
theorem firsts_mem {lots : List Lot} {l : Lot} (h : l ∈ firsts lots) : l ∈ lots := by
  unfold firsts dictOf at h
  have key : ∀ (ps acc : List (Lot × Bool)), (∀ p ∈ acc, p.1 ∈ lots) → (∀ p ∈ ps, p.1 ∈ lots) → ∀ p ∈ ps.foldl putD acc, p.1 ∈ lots := by
    intro ps
    induction ps with
    | nil => exact fun acc h _ => h
    | cons q ps ih =>
      intro acc ha hq
      refine ih _ (fun p hp => ?_) fun p hp => hq p (List.mem_cons_of_mem _ hp)
      unfold putD at hp
      split at hp
      · obtain ⟨x, hx, rfl⟩ := List.mem_map.mp hp
        split
        · exact ha x hx
        · exact ha x hx
      · rcases List.mem_append.mp hp with z | z
        · exact ha p z
        · rw [List.mem_singleton.mp z]
          exact hq q List.mem_cons_self
  obtain ⟨p, hp, rfl⟩ := List.mem_map.mp h
  exact key _ [] (fun p hp => nomatch hp) (fun p hp => by
    obtain ⟨l, hl, rfl⟩ := List.mem_map.mp hp
    exact hl) p hp
section
variable {P : Program} {w : World} {K : PySem.W.Frag} {mg : Str → Option Value} {base : Heap} {C : Addr}
theorem es_by_size {ds : List PyData} {R : PyData → Prop} (h : G_by_size ds R) : ES C (t_by_size C P w K) (startE N_by_size ds) (fun _ => R .none) fun d _ => R d := by
  obtain ⟨copies, lots, rfl, hm, rfl⟩ := h
  refine es_seq1 (es_setH (i := 2) (by decide) (eh_dict (P := P) (w := w) (ps := lots.map fun l => (l, true)) (EF.el (pb := true) (ef_map (γ := Lot) (β := Lot × Bool) (src_list (α := Lot) (ED.el (ed_var (α := List Lot) (i := 1) rfl))) (fun x hx => ed_pair (α := Lot) (β := Bool) (ed_var (α := Lot) (i := 3) rfl) (ed_bl (b := true))))))) ?_
  refine es_ret (α := Stemma) (ed_tupL (α := Lot) (EF.el (pb := true) (ef_sortLam (P := P) (w := w) (Nl := N_lam) (js := [0]) (tb := t_lam K) (i := 2) (β := Bool) (γ := Str) (sizeKey copies) rfl fun W F σ H H2 v a s ha x av => ?_))) rfl
  have hcop : ∀ c ∈ a.items, c ∈ copies.items := hm a (firsts_mem ha)
  exact key_val (C := C) (ed_op (α := Int) (β := Int) (γ := Int) (ed_int (i := 0)) (ed_len_u (ED.eu (K := K) (ed_var (α := Lot) (i := 0) rfl))) rd_sub)
    (ef_map (β := Int) (src_tup (α := Str) (ED.eu (K := K) (ed_var (α := Lot) (i := 0) rfl))) (fun x hx => ed_index (a := copies) (x := x) (ed_var (α := Lot) (i := 1) rfl) (ed_var (α := Str) (i := 2) rfl) (hcop x hx))) _ _ _ _ (sa_lam s rfl x av)
end
end PD
end
section
set_option Elab.async false
set_option linter.all false
set_option maxRecDepth 100000
set_option maxHeartbeats 4000000
set_option autoImplicit false
namespace PD
open PySem L2
open PySem.W (Datum Tup)
variable [Tabl]

/-! ### promises of defs that tell what a function tells -/
section
variable {α β γ δ ε ζ ρ : Type} [Rep α] [Rep β] [Rep γ] [Rep δ] [Rep ε] [Rep ζ] [Rep ρ]
abbrev Gd := List PyData → (PyData → Prop) → Prop
abbrev G1 (f : α → ρ) : Gd := fun ds R => ∃ a : α, ds = [Rep.toD a] ∧ R = fun d => d = Rep.toD (f a)
abbrev G2 (f : α → β → ρ) : Gd := fun ds R => ∃ (a : α) (b : β), ds = [Rep.toD a, Rep.toD b] ∧ R = fun d => d = Rep.toD (f a b)
abbrev G3 (f : α → β → γ → ρ) : Gd := fun ds R => ∃ (a : α) (b : β) (c : γ), ds = [Rep.toD a, Rep.toD b, Rep.toD c] ∧ R = fun d => d = Rep.toD (f a b c)
abbrev G1p (p : α → Prop) (f : α → ρ) : Gd := fun ds R => ∃ a : α, ds = [Rep.toD a] ∧ p a ∧ R = fun d => d = Rep.toD (f a)
abbrev G2p (p : α → β → Prop) (f : α → β → ρ) : Gd := fun ds R => ∃ (a : α) (b : β), ds = [Rep.toD a, Rep.toD b] ∧ p a b ∧ R = fun d => d = Rep.toD (f a b)
abbrev G3p (p : α → β → γ → Prop) (f : α → β → γ → ρ) : Gd := fun ds R => ∃ (a : α) (b : β) (c : γ), ds = [Rep.toD a, Rep.toD b, Rep.toD c] ∧ p a b c ∧ R = fun d => d = Rep.toD (f a b c)
end
section
variable {C : Addr} {e : List Sl} {tt : TT} {ts tu : TS} {b : Bool} {N : List Sl → Prop} {R : PyData → List Sl → Prop}
/-- if ..: return .., then the rest -/
theorem es_guard (h : ET C tt e b) (h1 : b = true → ES C ts e (fun _ => False) R) (h2 : b = false → ES C tu e N R) : ES C (tSeq (tIfS tt ts tNext) tu) e N R :=
  es_seq (N1 := fun e' => e' = e ∧ b = false) (es_if h (fun z => (h1 z).mono (fun _ w => w.elim) fun _ _ r => r) fun z => es_nil ⟨rfl, z⟩) fun e' n => by rw [n.1]; exact h2 n.2
/-- if not ..: raise, at the end; never so -/
theorem es_never (h : ET C tt e b) (h1 : b = false) (hn : N e) : ES C (tIfS tt ts tNext) e N R := es_if h (fun z => by rw [h1] at z; cases z) fun _ => es_nil hn
theorem es_never1 (h : ET C tt e b) (h1 : b = false) (h2 : ES C tu e N R) : ES C (tSeq (tIfS tt ts tNext) tu) e N R := es_seq1 (es_never h h1 rfl) h2
theorem ed_iteC {α : Type} [Rep α] {ta tb : TE} {a1 a2 : α} (h : ET C tt e b) (h1 : b = true → ED C ta e a1) (h2 : b = false → ED C tb e a2) : ED C (tIf tt ta tb) e (if b = true then a1 else a2) :=
  ed_if h (fun z => by rw [if_pos z]; exact h1 z) fun z => by rw [if_neg (by rw [z]; exact Bool.false_ne_true)]; exact h2 z
end
end PD
end
section
set_option Elab.async false
set_option linter.all false
set_option maxRecDepth 100000
set_option maxHeartbeats 4000000
set_option autoImplicit false
namespace PD
open PySem L2
open PySem.W (Datum Tup)
open C8 (Cal fnScope fnBody fnScope_by)
variable [Tabl]

/-! ### what the defs tell -/
abbrev Stemmata := Tup Stemma
def mIsInteger (_ : Int) : Bool := true
def mIsBetween (v a b : Int) : Bool := decide (a ≤ v) && decide (v ≤ b)
def mInSeq (copies some : Lot) : Lot := ⟨copies.items.filter fun c => decide (c ∈ some.items)⟩
def mIsLot (copies v : Lot) : Bool := decide (v = mInSeq copies v)
def pmin (a b : Int) : Int := if b < a then b else a
def mClash (one other : Lot) : Bool := decide (0 < ((one.items.filter fun c => decide (c ∈ other.items)).length : Int)) && decide (((one.items.filter fun c => decide (c ∈ other.items)).length : Int) < pmin (one.items.length : Int) (other.items.length : Int))
abbrev G_is_integer : Gd := G1 mIsInteger
abbrev G_is_between : Gd := G3 mIsBetween
abbrev G_in_sequence : Gd := G2 mInSeq
abbrev G_is_lot_of : Gd := G2 mIsLot
abbrev G_do_clash : Gd := G2 mClash
structure Mg (mg : Str → Option Value) : Prop where
  b_abs : mg "abs" = none
  b_all : mg "all" = none
  b_any : mg "any" = none
  b_bool : mg "bool" = none
  b_dict : mg "dict" = none
  b_enumerate : mg "enumerate" = none
  b_int : mg "int" = none
  b_isinstance : mg "isinstance" = none
  b_len : mg "len" = none
  b_list : mg "list" = none
  b_max : mg "max" = none
  b_min : mg "min" = none
  b_range : mg "range" = none
  b_set : mg "set" = none
  b_sorted : mg "sorted" = none
  b_str : mg "str" = none
  b_sum : mg "sum" = none
  b_tuple : mg "tuple" = none
  k_COPY : ∃ t, mg "COPY" = some (.str "copy" t)
  k_FIGURES_shelves : ∃ t, mg "FIGURES_shelves" = some (.str "0123456789" t)
  k_FIGURES_words : ∃ t, mg "FIGURES_words" = some (.str "0123456789" t)
  k_LETTERS : ∃ t, mg "LETTERS" = some (.str "abcdefghijklmnopqrstuvwxyz" t)
  k_MOST_COPIES : ∃ t, mg "MOST_COPIES" = some (.int 12 t)
  k_MOST_NEAREST : ∃ t, mg "MOST_NEAREST" = some (.int 400 t)
  k_MOST_PLACES : ∃ t, mg "MOST_PLACES" = some (.int 30 t)
  k_MOST_READING : ∃ t, mg "MOST_READING" = some (.int 9 t)
  k_MOST_SIGNS : ∃ t, mg "MOST_SIGNS" = some (.int 8 t)
  k_MOST_STEMMATA : ∃ t, mg "MOST_STEMMATA" = some (.int 9 t)
  k_PLACE : ∃ t, mg "PLACE" = some (.str "place" t)
section
variable {P : Program} {w : World} {K : PySem.W.Frag} {mg : Str → Option Value} {base : Heap} {C : Addr}
abbrev N_is_integer : List Str := ["value"]
theorem sc_is_integer : FnScope N_is_integer ["value"] (fnScope (top 13)) := fnScope_by (by decide +kernel)
def t_is_integer (C : Addr) (K : PySem.W.Frag) : TS := (tRet (tAndV (tCB (rIsi K) (tCons (tVar 0) (tCons (tC (.ty "int")) tNil))) (tNotV (tCB (rIsi K) (tCons (tVar 0) (tCons (tC (.ty "bool")) tNil))))))
theorem p_is_integer {cdv : Value} {A : Around} {outer : List Env} {s : Shared} {H : Hp} {E : XK} {f : Addr} {k : Nat} (M : Mg mg) (S : Shf P w K mg base C)  (hr : Room 1 (A.deeper (PyProof.Rows.envOfC "is_integer" (fnScope (top 13)) s.heap.objs.size f cdv))) : PSs (cxOf C8.CX0 P w K mg base N_is_integer "is_integer" (fnScope (top 13)) f cdv A outer s H E).nox (fnBody (top 13)) (t_is_integer C K) :=
  have nd := sc_is_integer.nd
  (pss_one (ps_ret (pe_and (pe_callB call_isi (by rfl) M.b_isinstance bb_isinstance (pa_cons (pv 0) (pa_cons (pe_bltn (by rfl) M.b_int bb_int (by rfl)) pa_nil))) (pe_one (pe_not (pe_callB call_isi (by rfl) M.b_isinstance bb_isinstance (pa_cons (pv 0) (pa_cons (pe_bltn (by rfl) M.b_bool bb_bool (by rfl)) pa_nil))))))))
abbrev N_is_between : List Str := ["value", "least", "most"]
theorem sc_is_between : FnScope N_is_between ["value", "least", "most"] (fnScope (top 14)) := fnScope_by (by decide +kernel)
def t_is_between (C : Addr) (K : PySem.W.Frag) : TS := (tRet (tAndV (tCall (spD C G_is_integer) [] C8.E0 (tCons (tVar 0) tNil)) (tChain (rI0 fun i j => .bl (decide (i ≤ j))) (rI0 fun i j => .bl (decide (i ≤ j))) (tVar 1) (tVar 0) (tVar 2))))
theorem p_is_between {cdv : Value} {A : Around} {outer : List Env} {s : Shared} {H : Hp} {E : XK} {f : Addr} {k : Nat} (M : Mg mg) (S : Shf P w K mg base C) (c_is_integer : Cal P w K mg base 2 "is_integer" (spD C G_is_integer) []) (hr : Room 2 (A.deeper (PyProof.Rows.envOfC "is_between" (fnScope (top 14)) s.heap.objs.size f cdv))) : PSs (cxOf C8.CX0 P w K mg base N_is_between "is_between" (fnScope (top 14)) f cdv A outer s H E).nox (fnBody (top 14)) (t_is_between C K) :=
  have nd := sc_is_between.nd
  (pss_one (ps_ret (pe_and (C8.pe_c c_is_integer hr (by decide) (by rfl) (pa_cons (pv 0) pa_nil)) (pe_one (pe_chain op_le op_le (pv 1) (pv 0) (pv 2))))))
abbrev N_in_sequence : List Str := ["copies", "some", "copy"]
theorem sc_in_sequence : FnScope N_in_sequence ["copies", "some"] (fnScope (top 28)) := fnScope_by (by decide +kernel)
def t_in_sequence (C : Addr) (K : PySem.W.Frag) : TS := (tRet (tCB (rTupF K) (tCons (tLc (iTup K (tVar 0)) (gName 2) (tTest (tOp (rInP K false) (tVar 2) (tVar 1))) (tVar 2) [2]) tNil)))
theorem p_in_sequence {cdv : Value} {A : Around} {outer : List Env} {s : Shared} {H : Hp} {E : XK} {f : Addr} {k : Nat} (M : Mg mg) (S : Shf P w K mg base C)  (hr : Room 1 (A.deeper (PyProof.Rows.envOfC "in_sequence" (fnScope (top 28)) s.heap.objs.size f cdv))) : PSs (cxOf C8.CX0 P w K mg base N_in_sequence "in_sequence" (fnScope (top 28)) f cdv A outer s H E).nox (fnBody (top 28)) (t_in_sequence C K) :=
  have nd := sc_in_sequence.nd
  (pss_one (ps_ret (pe_callTy cr_tupF (by rfl) M.b_tuple bb_tuple (pa_cons (pe_lc (own := [("copy", 2)]) (g := (gName 2)) (tt := (tTest (tOp (rInP K false) (tVar 2) (tVar 1)))) (te := (tVar 2)) (by rfl) nd (pi_tup (pv 0)) (blkOk_by (by kernel_rfl)) (fun _ _ _ _ _ => (pg_name (i := 2) nd rfl (by first | exact Or.inl rfl | exact Or.inr rfl))) (fun _ _ _ _ _ => (pts_one (pt_cmpR (op_inP hr.units) (pv 2) (pv 1) (by rfl)))) (fun _ _ _ _ _ => (pv 2))) pa_nil))))
abbrev N_is_lot_of : List Str := ["copies", "value", "copy"]
theorem sc_is_lot_of : FnScope N_is_lot_of ["copies", "value"] (fnScope (top 29)) := fnScope_by (by decide +kernel)
def t_is_lot_of (C : Addr) (K : PySem.W.Frag) : TS := (tSeq (tIfS (tOr (tNot (tB (tCB (rIsi K) (tCons (tVar 1) (tCons (tC (.ty "tuple")) tNil))))) (tNot (tB (tCB (rAll K) (tCons (tLc (iTup K (tVar 1)) (gName 2) tYes (tCB (rIsi K) (tCons (tVar 2) (tCons (tC (.ty "str")) tNil))) [2]) tNil))))) (tRet (tC (.bl false))) tNext) (tRet (tOp (rEqP K false) (tVar 1) (tCall (spD C G_in_sequence) [] C8.E0 (tCons (tVar 0) (tCons (tVar 1) tNil))))))
theorem p_is_lot_of {cdv : Value} {A : Around} {outer : List Env} {s : Shared} {H : Hp} {E : XK} {f : Addr} {k : Nat} (M : Mg mg) (S : Shf P w K mg base C) (c_in_sequence : Cal P w K mg base 2 "in_sequence" (spD C G_in_sequence) []) (hr : Room 2 (A.deeper (PyProof.Rows.envOfC "is_lot_of" (fnScope (top 29)) s.heap.objs.size f cdv))) : PSs (cxOf C8.CX0 P w K mg base N_is_lot_of "is_lot_of" (fnScope (top 29)) f cdv A outer s H E).nox (fnBody (top 29)) (t_is_lot_of C K) :=
  have nd := sc_is_lot_of.nd
  (pss_cons (ps_if ((pw_or (pt_not (pt_val (pe_callB call_isi (by rfl) M.b_isinstance bb_isinstance (pa_cons (pv 1) (pa_cons (pe_bltn (by rfl) M.b_tuple bb_tuple (by rfl)) pa_nil))))) (pw_or1 (pt_not (pt_val (pe_callB (cr_all (by rfl)) (by rfl) M.b_all bb_all (pa_cons (pe_lc (own := [("copy", 2)]) (g := (gName 2)) (tt := tYes) (te := (tCB (rIsi K) (tCons (tVar 2) (tCons (tC (.ty "str")) tNil)))) (by rfl) nd (pi_tup (pv 1)) (blkOk_by (by kernel_rfl)) (fun _ _ _ _ _ => (pg_name (i := 2) nd rfl (by first | exact Or.inl rfl | exact Or.inr rfl))) (fun _ _ _ _ _ => pts_nil) (fun _ _ _ _ _ => (pe_callB call_isi (by rfl) M.b_isinstance bb_isinstance (pa_cons (pv 2) (pa_cons (pe_bltn (by rfl) M.b_str bb_str (by rfl)) pa_nil))))) pa_nil))))))).pt (pss_one (ps_ret pe_bl)) pss_nil) (pss_one (ps_ret (pe_cmpR (op_eqP hr.units) (pv 1) (C8.pe_c c_in_sequence hr (by decide) (by rfl) (pa_cons (pv 0) (pa_cons (pv 1) pa_nil))) (nomark _)))))
abbrev N_do_clash : List Str := ["one", "other", "both", "copy"]
theorem sc_do_clash : FnScope N_do_clash ["one", "other"] (fnScope (top 31)) := fnScope_by (by decide +kernel)
def t_do_clash (C : Addr) (K : PySem.W.Frag) : TS := (tSeq (tAsg (tCB (rLenQ K) (tCons (tLc (iTup K (tVar 0)) (gName 3) (tTest (tOp (rInP K false) (tVar 3) (tVar 1))) (tVar 3) [3]) tNil)) (gName 2)) (tRet (tChain (rI0 fun i j => .bl (decide (i < j))) (rI0 fun i j => .bl (decide (i < j))) (tC (.int 0)) (tVar 2) (tCB rMin2 (tCons (tCB (rLenQ K) (tCons (tVar 0) tNil)) (tCons (tCB (rLenQ K) (tCons (tVar 1) tNil)) tNil))))))
theorem p_do_clash {cdv : Value} {A : Around} {outer : List Env} {s : Shared} {H : Hp} {E : XK} {f : Addr} {k : Nat} (M : Mg mg) (S : Shf P w K mg base C)  (hr : Room 1 (A.deeper (PyProof.Rows.envOfC "do_clash" (fnScope (top 31)) s.heap.objs.size f cdv))) : PSs (cxOf C8.CX0 P w K mg base N_do_clash "do_clash" (fnScope (top 31)) f cdv A outer s H E).nox (fnBody (top 31)) (t_do_clash C K) :=
  have nd := sc_do_clash.nd
  (pss_cons (ps_set (i := 2) nd rfl (by first | exact Or.inl rfl | exact Or.inr rfl) (pe_callB call_len_seq (by rfl) M.b_len bb_len (pa_cons (pe_lc (own := [("copy", 3)]) (g := (gName 3)) (tt := (tTest (tOp (rInP K false) (tVar 3) (tVar 1)))) (te := (tVar 3)) (by rfl) nd (pi_tup (pv 0)) (blkOk_by (by kernel_rfl)) (fun _ _ _ _ _ => (pg_name (i := 3) nd rfl (by first | exact Or.inl rfl | exact Or.inr rfl))) (fun _ _ _ _ _ => (pts_one (pt_cmpR (op_inP hr.units) (pv 3) (pv 1) (by rfl)))) (fun _ _ _ _ _ => (pv 3))) pa_nil))) (pss_one (ps_ret (pe_chain op_lt op_lt pe_int (pv 2) (pe_callB (call_min2 (by rfl)) (by rfl) M.b_min bb_min (pa_cons (pe_callB call_len_seq (by rfl) M.b_len bb_len (pa_cons (pv 0) pa_nil)) (pa_cons (pe_callB call_len_seq (by rfl) M.b_len bb_len (pa_cons (pv 1) pa_nil)) pa_nil)))))))
theorem es_is_integer {ds : List PyData} {R : PyData → Prop} (h : G_is_integer ds R) : ES C (t_is_integer C K) (startE N_is_integer ds) (fun _ => R .none) fun d _ => R d := by
  obtain ⟨v, rfl, rfl⟩ := h
  exact es_ret (α := Bool) (ed_and (ed_isi (α := Int) (b := true) (ed_var (α := Int) (i := 0) rfl) rfl (kit_ty (by decide +kernel))) (fun h_ => (ed_not (ed_isi (α := Int) (b := false) (ed_var (α := Int) (i := 0) rfl) rfl (kit_ty (by decide +kernel)))))) rfl
theorem es_is_between {ds : List PyData} {R : PyData → Prop} (h : G_is_between ds R) : ES C (t_is_between C K) (startE N_is_between ds) (fun _ => R .none) fun d _ => R d := by
  obtain ⟨v, a, b, rfl, rfl⟩ := h
  exact es_ret (α := Bool) (ed_and (ed_call (α := Bool) (ea_cons (α := Int) (ed_var (α := Int) (i := 0) rfl) ea_nil) ⟨_, rfl, rfl⟩) (fun h_ => (ed_chain (α := Int) (β := Int) (γ := Int) (ed_var (α := Int) (i := 1) rfl) (ed_var (α := Int) (i := 0) rfl) rd_cmp (fun _ => (ed_var (α := Int) (i := 2) rfl)) rd_cmp))) rfl
theorem es_in_sequence {ds : List PyData} {R : PyData → Prop} (h : G_in_sequence ds R) : ES C (t_in_sequence C K) (startE N_in_sequence ds) (fun _ => R .none) fun d _ => R d := by
  obtain ⟨a, b, rfl, rfl⟩ := h
  exact es_ret (α := Lot) (ed_tupL (α := Str) (EF.el (pb := true) (ef_filter (src_tup (α := Str) (ED.eu (K := K) (ed_var (α := (Tup Str)) (i := 0) rfl))) (fun x hx => (et_test (ed_inU (ED.er (K := K) (ed_var (α := Str) (i := 2) rfl)) (ED.eu (K := K) (ed_var (α := (Tup Str)) (i := 1) rfl)))))))) rfl
theorem es_is_lot_of {ds : List PyData} {R : PyData → Prop} (h : G_is_lot_of ds R) : ES C (t_is_lot_of C K) (startE N_is_lot_of ds) (fun _ => R .none) fun d _ => R d := by
  obtain ⟨a, b, rfl, rfl⟩ := h
  refine es_guard (et_or (et_not (et_B (ed_isi (α := (Tup Str)) (b := true) (ed_var (α := (Tup Str)) (i := 1) rfl) rfl (kit_ty (by decide +kernel))))) (fun h_ => (et_not (et_B (ed_all (EF.el (pb := true) (ef_map (β := Bool) (src_tup (α := Str) (ED.eu (K := K) (ed_var (α := (Tup Str)) (i := 1) rfl))) (fun x hx => (ed_isi (α := Str) (b := true) (ed_var (α := Str) (i := 2) rfl) rfl (kit_ty (by decide +kernel))))))))))) (fun h => ?_) fun h => ?_
  · refine es_ret (α := Bool) (ed_bl (b := false)) ?_
    simp at h
  · refine es_ret (α := Bool) (ed_eq (ED.er (K := K) (ed_var (α := (Tup Str)) (i := 1) rfl)) (ED.er (K := K) (ed_call (α := (Tup Str)) (ea_cons (α := (Tup Str)) (ed_var (α := (Tup Str)) (i := 0) rfl) (ea_cons (α := (Tup Str)) (ed_var (α := (Tup Str)) (i := 1) rfl) ea_nil)) ⟨_, _, rfl, rfl⟩))) ?_
    rfl
theorem es_do_clash {ds : List PyData} {R : PyData → Prop} (h : G_do_clash ds R) : ES C (t_do_clash C K) (startE N_do_clash ds) (fun _ => R .none) fun d _ => R d := by
  obtain ⟨a, b, rfl, rfl⟩ := h
  refine es_seq1 (es_set (α := Int) (i := 2) (by decide) (ed_len_l (K := K) (EF.el (pb := true) (ef_filter (src_tup (α := Str) (ED.eu (K := K) (ed_var (α := (Tup Str)) (i := 0) rfl))) (fun x hx => (et_test (ed_inU (ED.er (K := K) (ed_var (α := Str) (i := 3) rfl)) (ED.eu (K := K) (ed_var (α := (Tup Str)) (i := 1) rfl))))))))) ?_
  exact es_ret (α := Bool) (ed_chain (α := Int) (β := Int) (γ := Int) (ed_int (i := 0)) (ed_var (α := Int) (i := 2) rfl) rd_cmp (fun _ => (ed_min2 (ed_len_u (ED.eu (K := K) (ed_var (α := (Tup Str)) (i := 0) rfl))) (ed_len_u (ED.eu (K := K) (ed_var (α := (Tup Str)) (i := 1) rfl))))) rd_cmp) rfl
end
end PD
end
section
set_option Elab.async false
set_option linter.all false
set_option maxRecDepth 100000
set_option maxHeartbeats 4000000
/-! An own error whose base's __init__ says super().__init__(value), then self.value = value. -/
namespace PySem
namespace BkX
open PySem.W PySem.Calls PyProof.Rows PySem.HandSPX
def iA : Arguments := { posonlyargs := [], args := [{ arg := "self", annotation := none, pos := ⟨7, 17, 7, 21⟩ }, { arg := "value", annotation := none, pos := ⟨7, 23, 7, 28⟩ }], vararg := none, kwonlyargs := [], kw_defaults := [], kwarg := none, defaults := [] }
def iB : List Stmt := [.Expr (.Call (.Attribute (.Call (.Name "super" ⟨8, 8, 8, 13⟩) [] [] ⟨8, 8, 8, 15⟩) "__init__" ⟨8, 8, 8, 24⟩) [.Name "value" ⟨8, 25, 8, 30⟩] [] ⟨8, 8, 8, 31⟩) ⟨8, 8, 8, 31⟩, .Assign [.Attribute (.Name "self" ⟨9, 8, 9, 12⟩) "value" ⟨9, 8, 9, 18⟩] (.Name "value" ⟨9, 21, 9, 26⟩) ⟨9, 8, 9, 26⟩]
def iS : Scope := { kind := .function, names := [(PySem.Str.ofString "self", .local), (PySem.Str.ofString "value", .local), (PySem.Str.ofString "__class__", .free), (PySem.Str.ofString "super", .globalImplicit)], isGenerator := false, isCoroutine := false, more := [] }
/-- what the written part says of the class at C (called x in the module), of its base at D and of that one's __init__ at fI -/
structure BkTxt (P : Program) (K : Frag) (mg : Str → Option Value) (x : Str) (C D fI cc cda : Addr) : Prop where
  gC : mg x = some (.ref C)
  cls : ∃ nm q N bs bm sn sub ab col dd k0 k1 k2 k3 k5, K.lookup C = some (excClassObj nm q C N bs bm true sn sub ab col dd k0 k1 k2 k3 k5 "ValueError.__new__") ∧ refsVE bm = true
  sa : findIn K (.ref C) "__setattr__" = some (some (.builtin "object.__setattr__"))
  noN : findIn K (.ref C) "value" = some none
  iC : findIn K (.ref C) "__init__" = some (some (.ref fI))
  tC : typeIn K (.ref fI) = some (.type "function")
  kC : keepIn K (.ref C) = true
  exC : subIn K (.ref C) (.type "BaseException") = some true
  tyC : typeIn K (.ref C) = some (.type "type")
  te : exmOne K (.ref C) (.ref C) = some true
  veC : subIn K (.ref C) (.type "ValueError") = some true
  hD : ∃ cd, clsIn K D = some cd
  mD : mroIn K C (.ref D) = some true
  sup : ks_superIn K C D "__init__" = some (some (.builtin "ValueError.__init__"))
  opq : nsIn K cStatics "thirdparty.any" = some none
  noS : mg "super" = none
  top : (P.main.scope.names.lookup ("super" : Str)).isSome = false
  cell : ∃ cl cld csl, K.lookup cc = some ⟨cl, cld, .cell (some (.ref D)), csl⟩
  code : ∃ ccl cdd vs ccs file tf, K.lookup cda = some ⟨ccl, cdd, .fields vs, ccs⟩ ∧ vs[2]? = some (.str file tf) ∧ ((P.main.file : Str) == file) = true
  fn : ∃ (oc : Value) (od : Option Addr) (doc pm : Value) (an : Option Addr) (ct : Value) (osl : Array (Option Value)) (q : Str),
    K.lookup fI = some ⟨oc, od, .func (ksFn "__init__" q iA iB iS .none .none doc pm an (.ref cda) ct cc), osl⟩ ∧ codeIn K (.ref cda) q = true
/-- what __init__ leaves of a fresh exception at x -/
structure InitEnd (h h' : Heap) (x C dx t1 : Addr) (v : Value) : Prop where
  keep : ∀ b o, b ≠ x → h.get? b = some o → h'.get? b = some o
  obj : h'.get? x = some { cls := .ref C, dict := some dx, data := .fields #[.ref t1, .none, .none, .none, .bool false, .none] }
  dbig : h.objs.size ≤ dx
  dne : dx ≠ x
  ns : h'.Ns1 dx (fun y => if y = "value" then some v else none)
/-- a made one -/
structure OwnMade (h h' : Heap) (e C d : Addr) (v : Value) : Prop where
  keep : ∀ b o, h.get? b = some o → h'.get? b = some o
  new : h.objs.size ≤ e
  obj : ∃ oe vs, h'.get? e = some oe ∧ oe.cls = .ref C ∧ oe.dict = some d ∧ oe.data = .fields vs ∧ vs[1]? = some .none
  dbig : h.objs.size ≤ d
  dne : d ≠ e
  ns : h'.Ns1 d (fun y => if y = "value" then some v else none)
theorem one_size (v : Value) : [v].length ≤ sizeLine := by
  rw [sizeLine_eq]
  exact (by decide : 1 ≤ 16777216)
/-! ### the base's __init__, bound, called -/
section
variable {prog : Program} {w : World} {A : Around} {E : Value → Shared → Prop} {h : Heap} {g : Array GenState} {d : Drawn} {t : Nat} {os : OsState}
variable {nm q : Str} {C N : Addr} {bs bm : List Value} {hdct : Bool} {sn : List Str} {sub : List Value} {ab : Bool} {col : Option Bool} {dd : Option Addr} {k0 k1 k2 k3 k5 : Option Value}
theorem call_mw {u e t0 : Addr} {rest : List Value} {Q : Value → Shared → Prop}
    (hC : h.get? C = some (excClassObj nm q C N bs bm hdct sn sub ab col dd k0 k1 k2 k3 k5 "ValueError.__new__")) (he : h.get? e = some (excO C t0)) (hu : h.get? u = some (kxs_mw "ValueError.__init__" e)) (hrest : rest.length ≤ sizeLine)
    (hq : ∀ h' t1, (∀ b o, b ≠ e → h.get? b = some o → h'.get? b = some o) → h'.get? e = some (excO C t1) → Q .none ⟨h', g, d, t, os⟩) :
    wpAny (model prog w) A (call (.ref u) rest) Q E ⟨h, g, d, t, os⟩ := by
  refine wpAny_call (codeAny_of_tree ?_)
  show wpAny _ A.in1 (callAny (.ref u) ⟨rest, []⟩) _ _ _
  simp only [callAny]
  refine wpAny_bind (wpAny_load hu ?_)
  simp only [kxs_mw, show (Value.type "method-wrapper" == Value.type "method" || Value.type "method-wrapper" == Value.type "builtin_function_or_method" || Value.type "method-wrapper" == Value.type "method-wrapper") = true by decide, if_true]
  refine W.KFB.if_so (by decide) ?_
  refine wpAny_bind (ESX.check_bound F.excBase_ValueError hC he rfl ?_)
  refine wpAny_bind (wpAny_pure (wpAny_pure ?_))
  refine ⟨plainId_quiet F.excBase_ValueError.init.plain _, codeAny_builtin F.excBase_ValueError.initEntry ?_⟩
  rw [Around.under_plainId F.excBase_ValueError.init.plain _]
  wp_walk
  refine hq _ h.objs.size (fun b o hb ho => ?_) ?_
  · rw [Heap.get?_update_other _ _ (Ne.symm hb)]
    exact Heap.get?_push_of_some _ ho
  · rw [Heap.get?_update_self _ (Heap.get?_push_of_some _ he) rfl]
    rfl
end
section
variable {prog : Program} {w : World} {A : Around} {E : Value → Shared → Prop} {R : Result → Shared → Prop} {s : Shared} {K : Frag} {mg mb : Str → Option Value} {x : Str} {C D fI cc cda : Addr}
theorem bk_init (T : BkTxt prog K mg x C D fI cc cda) {a t0 : Addr} {v : Value} (X : K.In s.heap) (hmg : s.heap.Ns mainGlobals mg) (hmb : s.heap.Ns builtinsNs mb) (hbb : ∀ x : Str, x ≠ "__name__" → mb x = bootBuiltins x)
    (hlim : s.heap.NoLimit) (hx : s.heap.get? a = some (excO C t0)) (hnx : K.lookup a = none) (hroom : A.depth < recursionLimit)
    (hq : ∀ h' tk dx t1, InitEnd s.heap h' a C dx t1 v → R (.ok (.ret .none)) { s with heap := h', toks := tk }) :
    codeAny (model prog w) A (.call (.ref fI) ⟨[.ref a, v], []⟩) R s := by
  obtain ⟨oc, od, doc, pm, an, ct, osl, qn, ho, hcd⟩ := T.fn
  obtain ⟨nm, q, N, bs, bm, sn, sub, ab, col, dd, k0, k1, k2, k3, k5, hC, hbm⟩ := T.cls
  have hcl : clsIn K C = some { name := nm, bases := bs, mro := .ref C :: bm, ns := N, qualname := q, hasDict := true, slotNames := sn, subclasses := sub, abstract := ab, collection := col, hasDel := false } := by unfold clsIn; rw [hC] <;> rfl
  obtain ⟨cl, cld, csl, hcell⟩ := T.cell
  obtain ⟨ccl, cdd, vs, ccs, file, tf, hcode, hvs, hfile⟩ := T.code
  obtain ⟨cdD, hD⟩ := T.hD
  refine ks_codeAny_call_defAt (fd := ksFn "__init__" qn iA iB iS .none .none doc pm an (.ref cda) ct cc) (body := iB) (binds := [("self", .ref a), ("value", v)]) hroom (X _ _ ho) rfl hlim (codeRec_of X hcd) rfl
    (BindsTo.of_eq (by first | rfl | with_unfolding_all rfl)) (show ∀ x ∈ iS.names, x.2 ≠ NameKind.cell by decide) (fun z hz => ?_) (fun h₁ hn k => ?_) rfl rfl rfl
  · rcases List.mem_cons.mp hz with e | e
    · rw [e]; rfl
    · rw [List.mem_singleton.mp e]; rfl
  have X₁ : K.In h₁ := X.keeps k
  have hx₁ := k _ _ hx
  obtain ⟨hh, g, d, t, os⟩ := s
  -- super().__init__(value)
  refine ks_wpAt_execs_cons ?_
  refine ks_wpAt_Expr_any ?_
  refine ks_wpAt_MethodCall ?_
  obtain ⟨oD, hD1, hD2⟩ : ∃ oD, h₁.get? D = some oD ∧ oD.data = .cls cdD := by
    unfold clsIn at hD
    split at hD
    · rename_i c d cd' sl ho
      cases hD
      exact ⟨_, X₁ _ _ ho, rfl⟩
    · cases hD
  have I : InstAt h₁ a (excO C t0) C none := ⟨hx₁, rfl, rfl, trivial⟩
  refine ks_wpAt_super_base (env := ksEnv qn iS hh.objs.size fI (.ref cda) cc) rfl rfl rfl rfl (X₁ _ _ ho) rfl rfl rfl (X₁ _ _ hcode) rfl hvs hfile T.top ?_
  refine ks_loadName_global rfl rfl (loadGlobal_builtin (env := ksEnv qn iS hh.objs.size fI (.ref cda) cc) (hmg.keeps k) T.noS (hmb.keeps k) ((hbb _ (by decide +kernel)).trans (by decide +kernel : bootBuiltins "super" = some (.type "super"))) ⟨rfl, ?_⟩)
  refine wpAny_loadName_free rfl rfl rfl ⟨_, X₁ _ _ hcell, rfl⟩ ?_
  refine wpAny_loadName_local rfl rfl hn (v := .ref a) (by first | rfl | with_unfolding_all rfl) ?_
  refine ks_wpAny_isType_cls hD1 hD2 ⟨rfl, ?_⟩
  refine ks_wpAny_call_super hD1 hD2 hx₁ rfl (fun c e => nomatch e) (looks_mroIn X₁ T.mD) (fun h₂ hso k₂ => ?_)
  have X₂ : K.In h₂ := X₁.keeps k₂
  have hx₂ := k₂ _ _ hx₁
  have I₂ : InstAt h₂ a (excO C t0) C none := ⟨hx₂, rfl, rfl, trivial⟩
  have hm := T.sup
  unfold ks_superIn at hm
  rw [hcl] at hm
  refine kxs_getMethod kxs_ValueError hso (looks_opaque X₂ T.opq) (l₀ := .ref C :: bm) (fun A Q E s k q => wpAny_bind ((looks_clsIn X₂ hcl) A _ E s k (wpAny_pure q))) rfl X₂ hm (I₂.type.andThen (looks_subIn X₂ T.veC)) (ks_ne X₂ I₂ hcl) (by decide) ?_
  show wpAny _ _ (callWith ⟨8, 8, 8, 31⟩ (.ref h₂.objs.size) [] (backTo ⟨8, 8, 8, 31⟩ (starEach (.Name "value" ⟨8, 25, 8, 30⟩ :: []) _)) []) _ _ _
  have hu : (h₂.push (kxs_mw "ValueError.__init__" a)).get? h₂.objs.size = some (kxs_mw "ValueError.__init__" a) := Heap.get?_push_at rfl rfl
  have k₃ : ∀ b o, h₂.get? b = some o → (h₂.push (kxs_mw "ValueError.__init__" a)).get? b = some o := fun b o e => Heap.get?_push_of_some _ e
  refine kxs_callWith (i := "ValueError.__init__") (x := a) rfl (evalArgs_plain ?_)
  show wpAny _ _ (spliced ((false, eval (.Name "value" ⟨8, 25, 8, 30⟩) _) :: [])) _ _ _
  refine Calls.spliced_cons (wpAny_Name (wpAny_loadName_local rfl rfl ((hn.keeps k₂).keeps k₃) (v := v) (by first | rfl | with_unfolding_all rfl) ?_) (by decide))
  refine Calls.spliced_nil ⟨hu, ?_⟩
  refine call_mw (rest := [v]) (k₃ _ _ (X₂ _ _ hC)) (k₃ _ _ hx₂) hu (one_size v) (fun h₄ t1 k₄ hx₄ => ?_)
  have nL : hh.objs.size ≠ a := Nat.ne_of_gt (Heap.lt_size hx)
  have k04 : ∀ b o, b ≠ a → h₁.get? b = some o → h₄.get? b = some o := fun b o hb e => k₄ b o hb (k₃ _ _ (k₂ _ _ e))
  have hn₄ : h₄.Ns hh.objs.size (fun y => ([("self", Value.ref a), ("value", v)] : List (Str × Value)).reverse.lookup y) := by
    obtain ⟨o, es, ep, e, r⟩ := hn
    exact ⟨o, es, ep, k04 _ _ nL e, r⟩
  have X₄ : K.In h₄ := fun b o e => k04 b o (fun z => by rw [z, hnx] at e; cases e) (X₁ b o e)
  -- self.value = value
  refine ks_wpAt_execs_cons ?_
  refine ks_wpAt_Assign_Attr (wpAt_of_wpAny (wpAny_Name (wpAny_loadName_local rfl rfl hn₄ (v := v) (by first | rfl | with_unfolding_all rfl) ?_) (by decide)))
  refine wpAny_Name (wpAny_loadName_local rfl rfl hn₄ (v := .ref a) (by first | rfl | with_unfolding_all rfl) ?_) (by decide)
  refine set_plain X₄ (ox := excO C t1) (od := none) ⟨hx₄, rfl, rfl, trivial⟩ T.sa ?_
  refine exc_osa X₄ hx₄ hcl (show refsVE (.ref C :: bm) = true from hbm) rfl T.noN (fun h₅ tk₅ dx k₅ dn dne hx₅ hn₅ => ?_)
  have z : hh.objs.size < h₄.objs.size := hn₄.lt
  exact wpAt_of_wpAny (wpAny_execs_nil (hq h₅ tk₅ dx t1 ⟨fun b o hb e => k₅ b o hb (k04 b o hb (k b o e)), hx₅, Nat.le_of_lt (Nat.lt_of_lt_of_le z dn), dne, hn₅⟩))
theorem bk_made (T : BkTxt prog K mg x C D fI cc cda) {v : Value} (X : K.In s.heap) (hmg : s.heap.Ns mainGlobals mg) (hmb : s.heap.Ns builtinsNs mb) (hbb : ∀ x : Str, x ≠ "__name__" → mb x = bootBuiltins x) (hlim : s.heap.NoLimit) (hroom : A.depth + 1 < recursionLimit)
    (hq : ∀ h' tk e d, OwnMade s.heap h' e C d v → R (.ok (.ret (.ref e))) { s with heap := h', toks := tk }) :
    codeAny (model prog w) A (.call (.ref C) ⟨[v], []⟩) R s := by
  obtain ⟨nm, q, N, bs, bm, sn, sub, ab, col, dd, k0, k1, k2, k3, k5, hC, hbm⟩ := T.cls
  obtain ⟨hp, g, dr, tk, os⟩ := s
  have k : ∀ b o, hp.get? b = some o → ((hp.push (kdv_tup [v])).push (excO C hp.objs.size)).get? b = some o := fun b o e => Heap.get?_push_of_some _ (Heap.get?_push_of_some _ e)
  have hget : ((hp.push (kdv_tup [v])).push (excO C hp.objs.size)).get? (hp.objs.size + 1) = some (excO C hp.objs.size) := by heap_get
  have hnx : K.lookup (hp.objs.size + 1) = none := by
    cases e : K.lookup (hp.objs.size + 1) with
    | none => rfl
    | some o =>
      have z : hp.get? (hp.objs.size + 1) = some o := X _ _ e
      exact absurd (Nat.lt_of_succ_lt (Heap.lt_size z)) (Nat.lt_irrefl _)
  refine call_own F.excBase_ValueError (fun X => refsVE_contains X bm hbm) (X _ _ hC) (looks_findIn X T.iC) (fun self => bind_fn X self T.tC) (one_size v) ?_
  refine bk_init (s := ⟨(hp.push (kdv_tup [v])).push (excO C hp.objs.size), g, dr, tk, os⟩) T (X.keeps k) (hmg.keeps k) (hmb.keeps k) hbb (hlim.keeps k) hget hnx ?_ fun h' tk' dx t1 ⟨k', hx, dn, dne, hns⟩ => ?_
  · show A.depth + 1 < recursionLimit
    exact hroom
  · have old : ∀ b o, hp.get? b = some o → h'.get? b = some o := fun b o e => k' b o (Nat.ne_of_lt (Nat.lt_succ_of_lt (Heap.lt_size e))) (k b o e)
    have z : hp.objs.size + 1 + 1 ≤ dx := by
      first
        | (simpa only [Heap.size_push] using dn)
        | exact dn
        | (have q := dn; rw [Heap.size_push, Heap.size_push] at q; exact q)
    exact ⟨rfl, hq h' tk' (hp.objs.size + 1) dx ⟨old, Nat.le_succ _, ⟨_, _, hx, rfl, rfl, rfl, rfl⟩, Nat.le_trans (Nat.le_trans (Nat.le_succ _) (Nat.le_succ _)) z, dne, hns⟩⟩
end
end BkX
end PySem
namespace L2
open PySem PySem.Spec PyProof.Rows
theorem relO_bk {v : V} {v' : Value} (r : RelV v v') (f : Str) : RelO (List.lookup f [(("value" : Str), v)]) (if f = "value" then some v' else none) := by
  by_cases hw : f = "value"
  · subst hw
    rw [if_pos rfl]
    have q : List.lookup ("value" : Str) [(("value" : Str), v)] = some v := by simp [List.lookup]
    rw [q]
    exact r
  · rw [if_neg hw]
    have qw : (f == ("value" : Str)) = false := by simpa using hw
    have q2 : List.lookup f [(("value" : Str), v)] = none := by simp [List.lookup, qw]
    rw [q2]
    trivial
section
variable {X : Cx} {x : Str} {C D fI cc cda : Addr}
/-- X(e) -/
def tMkBk (C : Addr) (ta : TA) : St → Hp → XK → Prop := fun σ H Q => ta σ H fun vs H1 => ∃ v, vs = [v] ∧ ∀ d, H1 d = none → Q (.ref C) (some d) (upd H1 d (.xd [(("value" : Str), v)]))
theorem pmk_bk {a : Expr} {ta : TA} {p pos : Pos} {k : Nat} (T : PySem.BkX.BkTxt X.prog X.K X.mg x C D fI cc cda) (hr : Room k X.A) (ha : PA X [a] ta) (hg : Gl X x)
    (he : starEach (a :: []) X.env = (false, eval a X.env) :: starEach [] X.env := by rfl) (hpl : (backTo pos (starEach [] X.env)).any (·.1) = false := by rfl) (hdb : (x == ("__debug__" : Str)) = false := by decide) :
    PMk X (.Call (.Name x p) [a] [] pos) (tMkBk C ta) := by
  intro pins s σ H Q I h
  refine wpAny_Call_Name_kw (ld_glob I hg T.gC ?_ hdb)
  refine PySem.W.callWith_K (h₀ := X.base) I.ok.mod.kin T.kC (thn (ha.run pos pins s σ H _ I h) fun us s1 hh => ?_) he hpl
  obtain ⟨vs, H1, I1, r1, v, ev, q1⟩ := hh
  subst ev
  refine ⟨I1.kIn, ?_⟩
  cases r1 with
  | cons rv rn =>
    rename_i v' us'
    cases rn
    show wpAny _ _ (call (.ref C) [v']) _ _ _
    have hlim := I1.nolimit
    obtain ⟨mb, hb1, hb2⟩ := I1.mod.blt
    have hmg := I1.mod.glob.keeps I1.bk
    have hmb := hb1.keeps I1.bk
    obtain ⟨hp, g, dr, tk, os⟩ := s1
    refine wpAny_call (PySem.BkX.bk_made T I1.kIn hmg hmb hb2 hlim (by have := hr.dp; omega) fun h' tk' e d M => ?_)
    show MkP X pins σ Q (.ref e) ⟨h', g, dr, tk', os⟩
    obtain ⟨oe, fv, hoe, hc, hd, hdat, h1⟩ := M.obj
    have hns := M.ns
    obtain ⟨G', g1, g2⟩ := restrict h' fun b => decide (b ≠ e)
    have gk : ∀ b, b ≠ e → G'.get? b = h'.get? b := fun b hb => g1 b (decide_eq_true hb)
    have ge : G'.get? e = none := g2 e (by simp)
    have old : ∀ b o, hp.get? b = some o → G'.get? b = some o := fun b o q => (gk b (Nat.ne_of_lt (Nat.lt_of_lt_of_le (Heap.lt_size q) M.new))).trans (M.keep b o q)
    have ob : ObjOk X.prog X.w (upd H1 d (.xd [(("value" : Str), v)])) G' d (.xd [(("value" : Str), v)]) :=
      ⟨_, hns.at (fun o q => (gk d M.dne).trans q), fun f => relO_bk rv f⟩
    have J : Inv X pins σ (upd H1 d (.xd [(("value" : Str), v)])) ⟨G', g, dr, tk', os⟩ := I1.laid (t' := tk') old M.dbig ob
    refine ⟨e, oe, fv, ⟨G', g, dr, tk', os⟩, _, .ref C, some d, rfl, J, fun b o q => ?_, ge, hoe, ⟨hc, hd⟩, hdat, h1, ?_, rfl, I1.bare, raises_own T.exC T.tyC, q1 d (I1.hok.fresh M.dbig)⟩
    · by_cases hb : b = e
      · have q' : G'.get? b = some o := q
        rw [hb, ge] at q'; cases q'
      · exact (gk b hb).symm.trans q
    · rw [upd_ne (Ne.symm M.dne)]
      exact I1.hok.fresh M.new
/-- raise X(e) -/
def tRaiseBk (C : Addr) (W : WX) (ta : TA) : TS := fun _ σ H => tMkBk C ta σ H fun cls d H' => W cls d σ H'
theorem ps_raiseBk {a : Expr} {ta : TA} {W : WX} {p pos pos2 : Pos} {k : Nat} (hc : X.calm = true) (T : PySem.BkX.BkTxt X.prog X.K X.mg x C D fI cc cda) (hr : Room k X.A) (tk : Takes X W) (ha : PA X [a] ta) (hg : Gl X x)
    (he : starEach (a :: []) X.env = (false, eval a X.env) :: starEach [] X.env := by rfl) (hpl : (backTo pos (starEach [] X.env)).any (·.1) = false := by rfl) (hdb : (x == ("__debug__" : Str)) = false := by decide) :
    PS X (.Raise (some (.Call (.Name x p) [a] [] pos)) none pos2) (tRaiseBk C W ta) := ps_raise hc tk (pmk_bk T hr ha hg he hpl hdb)
end
end L2
end
section
set_option Elab.async false
set_option linter.all false
set_option maxRecDepth 100000
set_option maxHeartbeats 0
set_option autoImplicit false
/-! the head: what stands behind the top, told by names -/
namespace HK
open PySem PySem.W PySem.Calls PyProof.Rows
open He (Fa DefD)
abbrev R : OpenRow := OpenLaw.row PySem.Challenge.rw_copiedfrom_k19_nearest_stemmata_up_to_fo
abbrev qv : Program := view R.prog [70]
def nm0 : List PySem.Str := ["_wall", "__name__", "BookError", "BadPlaces", "BadShelf", "BadStemma", "BadStemmata", "NoShelf", "TooMany", "LETTERS", "FIGURES_words", "MOST_SIGNS", "is_integer", "is_between", "is_name", "MOST_COPIES", "MOST_PLACES", "MOST_READING", "COPY", "PLACE", "FIGURES_shelves", "Reader", "Shelf", "is_place_of", "shelf_of", "check_shelf", "in_sequence", "is_lot_of", "do_clash", "by_size"]
def nm1 : List PySem.Str := ["stemma_of", "are_lots", "is_stemma_of", "check_stemma", "MOST_STEMMATA", "MOST_NEAREST", "are_stemmata_of", "check_stemmata", "check_two", "lots_in", "many_of", "more_than", "majority", "far_of", "far", "least_sum", "nearest", "shows_nearest", "all_nearest", "_law_pot", "_law_take", "_law_of", "_law_cells", "_law_some", "_law_names", "_law_text", "_law_told", "_law_clash", "_law_grown", "_law_standing"]
def nm2 : List PySem.Str := ["_law_drawn", "_law_many", "_law_lists", "_law_are_told_right", "_law_right"]
def names : List PySem.Str := nm0 ++ nm1 ++ nm2
def dD (i : Nat) (x : PySem.Str) : DefD := ⟨(x, none), x, x, C8.fnArgs (PD.top i), C8.fnBody (PD.top i), C8.fnScope (PD.top i), [], []⟩
def inCls (i k : Nat) : Stmt := (C8.clsBody (PD.top i)).getD k (.Pass ⟨0, 0, 0, 0⟩)
def dM (i k : Nat) (c m q : PySem.Str) : DefD := ⟨(c, some m), m, q, C8.fnArgs (inCls i k), C8.fnBody (inCls i k), C8.fnScope (inCls i k), [], []⟩
def fn0 : List DefD := [dD 13 "is_integer", dD 14 "is_between", dD 15 "is_name", dD 27 "check_shelf", dD 28 "in_sequence", dD 29 "is_lot_of", dD 31 "do_clash", dD 32 "by_size", dD 33 "stemma_of", dD 34 "are_lots", dD 35 "is_stemma_of", dD 36 "check_stemma", dD 40 "are_stemmata_of", dD 41 "check_stemmata", dD 42 "check_two", dD 43 "lots_in", dD 44 "many_of", dD 45 "more_than", dD 46 "majority", dD 47 "far_of", dD 48 "far", dD 49 "least_sum", dD 50 "nearest", dD 51 "shows_nearest", dD 52 "all_nearest", dD 54 "_law_pot", dD 55 "_law_take", dD 56 "_law_of", dD 57 "_law_cells", dD 58 "_law_some"]
def fn1 : List DefD := [dD 59 "_law_names", dD 60 "_law_text", dD 61 "_law_told", dD 62 "_law_clash", dD 63 "_law_grown", dD 64 "_law_standing", dD 65 "_law_drawn", dD 66 "_law_many", dD 67 "_law_lists", dD 68 "_law_are_told_right", dD 69 "_law_right", dD 70 "law", dM 23 0 "Reader" "__init__" "Reader.__init__", dM 23 1 "Reader" "takes" "Reader.takes", dM 23 2 "Reader" "takes_copy" "Reader.takes_copy", dM 23 4 "Reader" "found" "Reader.found", dM 24 0 "Shelf" "__init__" "Shelf.__init__"]
def fn : List DefD := fn0 ++ fn1
def fa0 : List Fa := [.glo "is_integer", .glo "is_between", .glo "is_name", .glo "check_shelf", .glo "in_sequence", .glo "is_lot_of", .glo "do_clash", .glo "by_size", .glo "stemma_of", .glo "are_lots", .glo "is_stemma_of", .glo "check_stemma", .glo "are_stemmata_of", .glo "check_stemmata", .glo "check_two", .glo "lots_in", .glo "many_of", .glo "more_than", .glo "majority", .glo "far_of", .glo "far", .glo "least_sum", .glo "nearest", .glo "shows_nearest", .glo "all_nearest", .glo "_law_pot", .glo "_law_take", .glo "_law_of", .glo "_law_cells", .glo "_law_some"]
def fa1 : List Fa := [.glo "_law_names", .glo "_law_text", .glo "_law_told", .glo "_law_clash", .glo "_law_grown", .glo "_law_standing", .glo "_law_drawn", .glo "_law_many", .glo "_law_lists", .glo "_law_are_told_right", .glo "_law_right", .glo "law", .glo "Reader", .glo "Shelf", .glo "TooMany", .glo "BookError", .free "abs", .free "all", .free "any", .free "bool", .free "dict", .free "enumerate", .free "int", .free "isinstance", .free "len", .free "list", .free "max", .free "min", .free "range", .free "set"]
def fa2 : List Fa := [.free "sorted", .free "str", .free "sum", .free "tuple", .free "super", .int "MOST_COPIES" 12, .int "MOST_NEAREST" 400, .int "MOST_PLACES" 30, .int "MOST_READING" 9, .int "MOST_SIGNS" 8, .int "MOST_STEMMATA" 9, .str "COPY" "copy", .str "FIGURES_shelves" "0123456789", .str "FIGURES_words" "0123456789", .str "LETTERS" "abcdefghijklmnopqrstuvwxyz", .str "PLACE" "place", .cls "Reader", .cls "Shelf", .mkr "Reader", .mkr "Shelf", .meth "Reader" "takes", .meth "Reader" "takes_copy", .meth "Reader" "found", .noat "Reader" "own_copies", .noat "Reader" "own_places", .noat "Shelf" "own_text", .noat "Shelf" "own_copies", .noat "Shelf" "own_places", .exm "TooMany" "TooMany" true, .keep "TooMany"]
def fa : List Fa := fa0 ++ fa1 ++ fa2
/-! more looks: the property, the class's own word of instances, the error's class -/
def same (a b : Option (Option Value)) : Bool := He.eqO a b
def yes (b : Option Bool) : Bool := match b with
  | some true => true
  | _ => false
/-- the property's object, its getter -/
def prA (K : Frag) : Addr := He.ma K (He.ga K "Shelf") "copies"
def geA (K : Frag) : Addr := match recIn K (prA K) "property" with
  | some (.ref g :: _) => g
  | _ => 0
def initA (K : Frag) : Addr := He.ma K (He.ga K "BookError") "__init__"
def lookF (K : Frag) (f : Addr) : Option FuncData := match K.lookup f with
  | some ⟨_, _, .func fd, _⟩ => some fd
  | _ => none
abbrev FnY : Type := Option (PySem.Str × PySem.Str × Arguments × FuncBody × Scope × Addr × List PySem.Str × Value × Value × Addr)
def seeF (K : Frag) (f : Addr) : FnY := (lookF K f).map fun d => (d.name, d.qualname, d.params, d.body, d.scope, d.globals, d.closure.map (·.1), d.defaults, d.kwdefaults, d.builtins)
def seeGet : FnY := some ("copies", "Shelf.copies", C8.fnArgs (inCls 24 3), .stmts (C8.fnBody (inCls 24 3)), C8.fnScope (inCls 24 3), mainGlobals, [], .none, .none, builtinsNs)
def seeInit : FnY := some ("__init__", "BookError.__init__", BkX.iA, .stmts BkX.iB, BkX.iS, mainGlobals, ["__class__"], .none, .none, builtinsNs)
def cdA (K : Frag) (f : Addr) : Addr := match (lookF K f).map FuncData.code with
  | some (.ref c) => c
  | _ => 0
def ceA (K : Frag) (f : Addr) : Addr := match (lookF K f).map FuncData.closure with
  | some ((_, c) :: _) => c
  | _ => 0
def refC (K : Frag) (f : Addr) : Bool := match (lookF K f).map FuncData.code with
  | some (.ref _) => true
  | _ => false
def errB (K : Frag) (C D : Addr) : Bool := (match K.lookup C with
  | some ⟨.type n, _, .cls cd, sl⟩ => decide (n = "type") && (match cd.mro, sl.toList with
    | .ref C' :: bm, [_, _, _, _, some (.builtin z), _] => decide (C' = C) && (decide (z = "ValueError.__new__") && (!cd.hasDel && (cd.hasDict && HandSPX.refsVE bm)))
    | _, _ => false)
  | _ => false) &&
  (same (findIn K (.ref C) "__setattr__") (some (some (.builtin "object.__setattr__"))) && (same (findIn K (.ref C) "value") (some none) &&
  (same (findIn K (.ref C) "__init__") (some (some (.ref (initA K)))) && (decide (typeIn K (.ref (initA K)) = some (.type "function")) &&
  (yes (subIn K (.ref C) (.type "BaseException")) && (decide (typeIn K (.ref C) = some (.type "type")) && (yes (subIn K (.ref C) (.type "ValueError")) &&
  ((clsIn K D).isSome && (yes (mroIn K C (.ref D)) && (same (ks_superIn K C D "__init__") (some (some (.builtin "ValueError.__init__"))) &&
  (same (nsIn K cStatics "thirdparty.any") (some none) && ((match K.lookup (ceA K (initA K)) with
    | some ⟨_, _, .cell (some (.ref D')), _⟩ => decide (D' = D)
    | _ => false) && ((match K.lookup (cdA K (initA K)) with
    | some ⟨_, _, .fields vs, _⟩ => (match (vs[2]? : Option Value) with
      | some (.str file _) => ((R.prog.main.file : PySem.Str) == file)
      | _ => false)
    | _ => false) && (refC K (initA K) && codeIn K (.ref (cdA K (initA K))) "BookError.__init__"))))))))))))))
def getB (K : Frag) (C : Addr) : Bool := same (findIn K (.ref C) "copies") (some (some (.ref (prA K)))) && (same (specialIn K (.ref (prA K)) "__get__") (some (some (.builtin "property.__get__"))) && (yes (takesIn K (.ref (prA K))) &&
  ((match recIn K (prA K) "property" with
    | some (.ref _ :: _) => true
    | _ => false) && (codeIn K (.ref (cdA K (geA K))) "Shelf.copies" && refC K (geA K)))))
def insB (K : Frag) (C : Addr) : Bool := same (findIn K (.ref C) "__class__") (some (some (.builtin "object.__class__"))) && (same (specialIn K (.builtin "object.__class__") "__get__") (some (some (.builtin "getset_descriptor.__get__"))) &&
  (yes (takesIn K (.builtin "object.__class__")) && (yes (mroIn K C (.type "object")) && yes (kitOne K (.ref C) (.ref C)))))
def bySz : PySem.Str × Option PySem.Str := ("by_size", none)
/-! the Hook -/
abbrev Told : Type := He.AlD × (FnY × FnY) × Bool
def told (g : Addr → Option Obj) (K : Frag) : Told := (He.obsD fa fn K, (seeF K (geA K), seeF K (initA K)),
  (codeHdIn K (He.cT K bySz).1 (He.cT K bySz).2 && (match g (He.cT K bySz).2 with
    | some o => He.emptyTab o
    | none => false)) && (errB K (He.ga K "TooMany") (He.ga K "BookError") && (L2.xfB K (He.ga K "TooMany") && (getB K (He.ga K "Shelf") && insB K (He.ga K "Shelf")))))
def toldV : Told := (He.valD fn, (seeGet, seeInit), true)
def part (g : Addr → Option Obj) : Frag := He.frT g (cStatics :: He.asD g 5)
/-- what the law leans on -/
structure Says (h : Heap) (K : Frag) : Prop where
  d : He.SaysD fa fn K
  getr : seeF K (geA K) = seeGet
  init : seeF K (initA K) = seeInit
  head : codeHdIn K (He.cT K bySz).1 (He.cT K bySz).2 = true
  out : K.lookup (He.cT K bySz).2 = none
  empty : h.get? (He.cT K bySz).2 = some { cls := .none, data := .fields #[] }
  err : errB K (He.ga K "TooMany") (He.ga K "BookError") = true
  xf : L2.xfB K (He.ga K "TooMany") = true
  get : getB K (He.ga K "Shelf") = true
  ins : insB K (He.ga K "Shelf") = true
theorem says_of {h : Heap} (e : told h.get? (part h.get?) = toldV) : Says h (part h.get?) := by
  generalize hK : part h.get? = K at e
  have e3 : _ = true := congrArg (fun z : Told => z.2.2) e
  simp only [told, Bool.and_eq_true] at e3
  obtain ⟨⟨h1, h2⟩, h3, hx, h4, h5⟩ := e3
  cases q : h.get? (He.cT K bySz).2 with
  | none => rw [q] at h2; cases h2
  | some o =>
    rw [q] at h2
    refine ⟨congrArg (fun z : Told => z.1) e, congrArg (fun z : Told => z.2.1.1) e, congrArg (fun z : Told => z.2.1.2) e, h1, ?_, ?_, h3, hx, h4, h5⟩
    · subst hK
      exact He.frT_none q h2
    · rw [q, He.emptyTab_eq h2]
def hook : Hook where
  α := Told
  obs := fun s => told s.heap.get? (part s.heap.get?)
  val := fun _ => toldV
  says := fun _ h => ∃ K : Frag, K.In h ∧ Says h K
  of := fun _ _ e => ⟨_, He.frT_in, says_of e⟩
  keeps := fun _ _ _ ⟨K, hK, c⟩ k => ⟨K, Frag.In.keeps hK k, ⟨c.d, c.getr, c.init, c.head, c.out, k _ _ c.empty, c.err, c.xf, c.get, c.ins⟩⟩
def ob (s : SharedT) : Told := told (HandSHeadRun.getT s) (part (HandSHeadRun.getT s))
theorem ob_eq (s : SharedT) : ob s = hook.obs s.abs := by
  have e : HandSHeadRun.getT s = s.abs.heap.get? := funext fun a => HandSHeadRun.getT_eq s a
  show told (HandSHeadRun.getT s) (part (HandSHeadRun.getT s)) = told s.abs.heap.get? (part s.abs.heap.get?)
  rw [e]
end HK
end
section
set_option Elab.async false
set_option linter.all false
set_option maxRecDepth 100000
set_option maxHeartbeats 0
namespace HK
open PySem PySem.W PySem.Calls PyProof.Rows
theorem run (w : World) : HandSHeadRun.RunEq R qv hook ob 20000 names w := by
  intro os
  kernel_rfl
end HK
end
section
set_option Elab.async false
set_option linter.all false
set_option maxRecDepth 100000
set_option maxHeartbeats 4000000
set_option autoImplicit false
namespace PD
open PySem L2
open PySem.W (Datum Tup)
open C8 (Cal fnScope fnBody fnScope_by)
variable [Tabl]

/-! ### what the defs tell -/
def Within (c : Lot) (ls : List Lot) : Prop := ∀ l ∈ ls, ∀ x ∈ l.items, x ∈ c.items
def long (l : Lot) : Bool := decide (1 < (l.items.length : Int))
def mStemmaOf (c : Lot) (ls : Sq Lot) : Stemma := bySize c (if long c = true then ls.items.filter long ++ [c] else ls.items.filter long)
def clashFree : List Lot → Bool
  | [] => true
  | l :: ls => !(ls.any fun o => mClash l o) && clashFree ls
def mAreLots (c : Lot) (v : Stemma) : Bool := (v.items.all fun l => mIsLot c l && long l) && clashFree v.items
def mIsStemma (c : Lot) (v : Stemma) : Bool := mAreLots c v && decide (v = mStemmaOf c ⟨true, v.items⟩)
def mAreStemmata (s : Sh) (vs : Stemmata) : Bool := (decide (0 < (vs.items.length : Int)) && decide ((vs.items.length : Int) ≤ 9)) && vs.items.all fun v => mIsStemma s.copies v
abbrev G_stemma_of : Gd := G2p (fun (c : Lot) (ls : Sq Lot) => Within c ls.items ∧ ls.items.length < 4096) mStemmaOf
abbrev G_are_lots : Gd := G2 mAreLots
abbrev G_is_stemma_of : Gd := G2p (fun (_ : Lot) (v : Stemma) => v.items.length < 4096) mIsStemma
abbrev G_check_shelf : Gd := G1 fun (_ : Sh) => ()
abbrev G_check_stemma : Gd := G2p (fun (s : Sh) (v : Stemma) => v.items.length < 4096 ∧ mIsStemma s.copies v = true) fun _ _ => ()
abbrev G_are_stemmata_of : Gd := G2p (fun (_ : Sh) (vs : Stemmata) => ∀ v ∈ vs.items, v.items.length < 4096) mAreStemmata
theorem nums_get {α : Type} {xs : List α} {i : Nat} {p : Nat × α} (h : (nums xs)[i]? = some p) : xs[i]? = some p.2 ∧ p.1 = i := by
  unfold nums at h
  rw [List.getElem?_map, List.getElem?_zipIdx] at h
  cases hx : xs[i]? with
  | none => rw [hx] at h; cases h
  | some x =>
    rw [hx] at h
    cases h
    exact ⟨rfl, Nat.zero_add i⟩
theorem drop_at {α : Type} {xs : List α} {i : Nat} {x : α} (h : xs[i]? = some x) : xs.drop i = x :: xs.drop (i + 1) := by
  obtain ⟨hi, rfl⟩ := List.getElem?_eq_some_iff.mp h
  exact List.drop_eq_getElem_cons hi
theorem cut_tail {α : Type} (xs : List α) (k : Nat) : cutL xs (some ((k : Int) + 1)) none = xs.drop (k + 1) := by
  unfold cutL
  have e : (some ((k : Int) + 1)) = some (((k + 1 : Nat)) : Int) := by rw [Int.natCast_succ]
  rw [e, HT.sIx_nat, HT.sIx_none]
  rcases Nat.le_total (k + 1) xs.length with h | h
  · rw [Nat.min_eq_left h, List.take_of_length_le (by rw [List.length_drop]; exact Nat.le_refl _)]
  · rw [Nat.min_eq_right h, List.drop_length, List.drop_eq_nil_of_le h, List.take_nil]
theorem isLot_sub {c l : Lot} (h : mIsLot c l = true) : ∀ x ∈ l.items, x ∈ c.items := fun x hx => by
  have e : l = mInSeq c l := by simpa [mIsLot] using h
  rw [e] at hx
  exact (List.mem_filter.mp hx).1
theorem areLots_within {c : Lot} {v : Stemma} (h : mAreLots c v = true) : Within c v.items := fun l hl => by
  unfold mAreLots at h
  rw [Bool.and_eq_true] at h
  have h2 := List.all_eq_true.mp h.1 l hl
  rw [Bool.and_eq_true] at h2
  exact isLot_sub h2.1
section
variable {P : Program} {w : World} {K : PySem.W.Frag} {mg : Str → Option Value} {base : Heap} {C : Addr}
abbrev N_stemma_of : List Str := ["copies", "lots", "some", "lot"]
theorem sc_stemma_of : FnScope N_stemma_of ["copies", "lots"] (fnScope (top 33)) := fnScope_by (by decide +kernel)
def t_stemma_of (C : Addr) (K : PySem.W.Frag) : TS := (tSeq (tAsg (tLc (iSeq K (tVar 1)) (gName 3) (tTest (tOp (rI0 fun i j => .bl (decide (j < i))) (tCB (rLenQ K) (tCons (tVar 3) tNil)) (tC (.int 1)))) (tVar 3) [3]) (gName 2)) (tRet (tCall (spD C G_by_size) [] C8.E0 (tCons (tVar 0) (tCons (tIf (tTest (tOp (rI0 fun i j => .bl (decide (j < i))) (tCB (rLenQ K) (tCons (tVar 0) tNil)) (tC (.int 1)))) (tOp rCat (tVar 2) (tLst (tCons (tCB (rTupF K) (tCons (tVar 0) tNil)) tNil))) (tVar 2)) tNil)))))
theorem p_stemma_of {cdv : Value} {A : Around} {outer : List Env} {s : Shared} {H : Hp} {E : XK} {f : Addr} {k : Nat} (M : Mg mg) (S : Shf P w K mg base C) (c_by_size : Cal P w K mg base 6 "by_size" (spD C G_by_size) []) (hr : Room 6 (A.deeper (PyProof.Rows.envOfC "stemma_of" (fnScope (top 33)) s.heap.objs.size f cdv))) : PSs (cxOf C8.CX0 P w K mg base N_stemma_of "stemma_of" (fnScope (top 33)) f cdv A outer s H E).nox (fnBody (top 33)) (t_stemma_of C K) :=
  have nd := sc_stemma_of.nd
  (pss_cons (ps_setLc (i := 2) (own := [("lot", 3)]) (g := (gName 3)) (tt := (tTest (tOp (rI0 fun i j => .bl (decide (j < i))) (tCB (rLenQ K) (tCons (tVar 3) tNil)) (tC (.int 1))))) (te := (tVar 3)) (by rfl) nd rfl rfl (sw_true rfl rfl rfl (by decide +kernel)) (pi_seq (pv 1)) (blkOk_by (by kernel_rfl)) (fun _ _ _ _ _ => (pg_name (i := 3) nd rfl (by first | exact Or.inl rfl | exact Or.inr rfl))) (fun _ _ _ _ _ => (pts_one (pt_cmpR op_gt (pe_callB call_len_seq (by rfl) M.b_len bb_len (pa_cons (pv 3) pa_nil)) pe_int (nomark _)))) (fun _ _ _ _ _ => (pv 3))) (pss_one (ps_ret (C8.pe_c c_by_size hr (by decide) (by rfl) (pa_cons (pv 0) (pa_cons (pe_ifExp (pt_cmpR op_gt (pe_callB call_len_seq (by rfl) M.b_len bb_len (pa_cons (pv 0) pa_nil)) pe_int (nomark _)) (pe_op op_cat (pv 2) (pe_lst (pa_cons (pe_callTy cr_tupF (by rfl) M.b_tuple bb_tuple (pa_cons (pv 0) pa_nil)) pa_nil))) (pv 2)) pa_nil))))))
abbrev N_are_lots : List Str := ["copies", "value", "lot", "at", "one", "other"]
theorem sc_are_lots : FnScope N_are_lots ["copies", "value"] (fnScope (top 34)) := fnScope_by (by decide +kernel)
def t_are_lots (C : Addr) (K : PySem.W.Frag) : TS := (tSeq (tIfS (tOr (tNot (tB (tCB (rIsi K) (tCons (tVar 1) (tCons (tC (.ty "tuple")) tNil))))) (tNot (tB (tCB (rAll K) (tCons (tLc (iTup K (tVar 1)) (gName 2) tYes (tAndV (tCall (spD C G_is_lot_of) [] C8.E0 (tCons (tVar 0) (tCons (tVar 2) tNil))) (tOp (rI0 fun i j => .bl (decide (j < i))) (tCB (rLenQ K) (tCons (tVar 2) tNil)) (tC (.int 1)))) [2]) tNil))))) (tRet (tC (.bl false))) tNext) (tSeq (tFor (iEnumT K (tCons (tVar 1) tNil)) (gTup K 2 (gCons (gName 3) (gCons (gName 4) gNil))) (tIfS (tB (tCB (rAny K) (tCons (tLc (iTup K (tSl (rSlF K) (tVar 1) (tPart (tOp (rI0 fun i j => .int (i + j)) (tVar 3) (tC (.int 1)))) tNoPart)) (gName 5) tYes (tCall (spD C G_do_clash) [] C8.E0 (tCons (tVar 4) (tCons (tVar 5) tNil))) [5]) tNil))) (tRet (tC (.bl false))) tNext)) (tRet (tC (.bl true)))))
theorem p_are_lots {cdv : Value} {A : Around} {outer : List Env} {s : Shared} {H : Hp} {E : XK} {f : Addr} {k : Nat} (M : Mg mg) (S : Shf P w K mg base C) (c_do_clash : Cal P w K mg base 2 "do_clash" (spD C G_do_clash) []) (c_is_lot_of : Cal P w K mg base 3 "is_lot_of" (spD C G_is_lot_of) []) (hr : Room 3 (A.deeper (PyProof.Rows.envOfC "are_lots" (fnScope (top 34)) s.heap.objs.size f cdv))) : PSs (cxOf C8.CX0 P w K mg base N_are_lots "are_lots" (fnScope (top 34)) f cdv A outer s H E).nox (fnBody (top 34)) (t_are_lots C K) :=
  have nd := sc_are_lots.nd
  (pss_cons (ps_if ((pw_or (pt_not (pt_val (pe_callB call_isi (by rfl) M.b_isinstance bb_isinstance (pa_cons (pv 1) (pa_cons (pe_bltn (by rfl) M.b_tuple bb_tuple (by rfl)) pa_nil))))) (pw_or1 (pt_not (pt_val (pe_callB (cr_all (by rfl)) (by rfl) M.b_all bb_all (pa_cons (pe_lc (own := [("lot", 2)]) (g := (gName 2)) (tt := tYes) (te := (tAndV (tCall (spD C G_is_lot_of) [] C8.E0 (tCons (tVar 0) (tCons (tVar 2) tNil))) (tOp (rI0 fun i j => .bl (decide (j < i))) (tCB (rLenQ K) (tCons (tVar 2) tNil)) (tC (.int 1))))) (by rfl) nd (pi_tup (pv 1)) (blkOk_by (by kernel_rfl)) (fun _ _ _ _ _ => (pg_name (i := 2) nd rfl (by first | exact Or.inl rfl | exact Or.inr rfl))) (fun _ _ _ _ _ => pts_nil) (fun _ _ _ _ _ => (pe_and (C8.pe_c c_is_lot_of hr (by decide) (by rfl) (pa_cons (pv 0) (pa_cons (pv 2) pa_nil))) (pe_one (pe_cmpR op_gt (pe_callB call_len_seq (by rfl) M.b_len bb_len (pa_cons (pv 2) pa_nil)) pe_int (nomark _)))))) pa_nil))))))).pt (pss_one (ps_ret pe_bl)) pss_nil) (pss_cons (ps_for PassesOwn.never (by rfl) (pi_enumT (by rfl) M.b_enumerate (pa_cons (pv 1) pa_nil)) (pg_pair2 (i := 3) (j := 4) (by rfl) nd rfl rfl (by first | exact Or.inl rfl | exact Or.inr rfl) (by first | exact Or.inl rfl | exact Or.inr rfl)) (pss_one (ps_if (pt_val (pe_callB (cr_any (by rfl)) (by rfl) M.b_any bb_any (pa_cons (pe_lc (own := [("other", 5)]) (g := (gName 5)) (tt := tYes) (te := (tCall (spD C G_do_clash) [] C8.E0 (tCons (tVar 4) (tCons (tVar 5) tNil)))) (by rfl) nd (pi_tup (pe_slice sl_tupF (pv 1) (po_some (pe_op op_add (pv 3) pe_int)) po_none)) (blkOk_by (by kernel_rfl)) (fun _ _ _ _ _ => (pg_name (i := 5) nd rfl (by first | exact Or.inl rfl | exact Or.inr rfl))) (fun _ _ _ _ _ => pts_nil) (fun _ _ _ _ _ => (C8.pe_c c_do_clash hr (by decide) (by rfl) (pa_cons (pv 4) (pa_cons (pv 5) pa_nil))))) pa_nil))) (pss_one (ps_ret pe_bl)) pss_nil))) (pss_one (ps_ret pe_bl))))
abbrev N_is_stemma_of : List Str := ["copies", "value"]
theorem sc_is_stemma_of : FnScope N_is_stemma_of ["copies", "value"] (fnScope (top 35)) := fnScope_by (by decide +kernel)
def t_is_stemma_of (C : Addr) (K : PySem.W.Frag) : TS := (tRet (tAndV (tCall (spD C G_are_lots) [] C8.E0 (tCons (tVar 0) (tCons (tVar 1) tNil))) (tOp (rEqP K false) (tVar 1) (tCall (spD C G_stemma_of) [] C8.E0 (tCons (tVar 0) (tCons (tVar 1) tNil))))))
theorem p_is_stemma_of {cdv : Value} {A : Around} {outer : List Env} {s : Shared} {H : Hp} {E : XK} {f : Addr} {k : Nat} (M : Mg mg) (S : Shf P w K mg base C) (c_are_lots : Cal P w K mg base 4 "are_lots" (spD C G_are_lots) []) (c_stemma_of : Cal P w K mg base 7 "stemma_of" (spD C G_stemma_of) []) (hr : Room 7 (A.deeper (PyProof.Rows.envOfC "is_stemma_of" (fnScope (top 35)) s.heap.objs.size f cdv))) : PSs (cxOf C8.CX0 P w K mg base N_is_stemma_of "is_stemma_of" (fnScope (top 35)) f cdv A outer s H E).nox (fnBody (top 35)) (t_is_stemma_of C K) :=
  have nd := sc_is_stemma_of.nd
  (pss_one (ps_ret (pe_and (C8.pe_c c_are_lots hr (by decide) (by rfl) (pa_cons (pv 0) (pa_cons (pv 1) pa_nil))) (pe_one (pe_cmpR (op_eqP hr.units) (pv 1) (C8.pe_c c_stemma_of hr (by decide) (by rfl) (pa_cons (pv 0) (pa_cons (pv 1) pa_nil))) (nomark _))))))
abbrev N_check_shelf : List Str := ["shelf"]
theorem sc_check_shelf : FnScope N_check_shelf ["shelf"] (fnScope (top 27)) := fnScope_by (by decide +kernel)
def t_check_shelf (C : Addr) (K : PySem.W.Frag) : TS := (tIfS (tNot (tB (tCB (rIsC C) (tCons (tVar 0) (tCons (tC (.ref C)) tNil))))) tNever tNext)
theorem p_check_shelf {cdv : Value} {A : Around} {outer : List Env} {s : Shared} {H : Hp} {E : XK} {f : Addr} {k : Nat} (M : Mg mg) (S : Shf P w K mg base C)  (hr : Room 1 (A.deeper (PyProof.Rows.envOfC "check_shelf" (fnScope (top 27)) s.heap.objs.size f cdv))) : PSs (cxOf C8.CX0 P w K mg base N_check_shelf "check_shelf" (fnScope (top 27)) f cdv A outer s H E).nox (fnBody (top 27)) (t_check_shelf C K) :=
  have nd := sc_check_shelf.nd
  (pss_one (ps_if (pt_not (pt_val (pe_callB (C8.call_isC S.ins) (by rfl) M.b_isinstance bb_isinstance (pa_cons (pv 0) (pa_cons (C8.pe_gc (by rfl) ⟨_, S.nm, rfl⟩) pa_nil))))) (pss_one ps_never) pss_nil))
abbrev N_check_stemma : List Str := ["shelf", "stemma"]
theorem sc_check_stemma : FnScope N_check_stemma ["shelf", "stemma"] (fnScope (top 36)) := fnScope_by (by decide +kernel)
def t_check_stemma (C : Addr) (K : PySem.W.Frag) : TS := (tSeq (tDrop (tCall (spD C G_check_shelf) [] C8.E0 (tCons (tVar 0) tNil))) (tIfS (tNot (tB (tCall (spD C G_is_stemma_of) [] C8.E0 (tCons (tProp C (getSp C "own_copies") [] C8.E0 (tVar 0)) (tCons (tVar 1) tNil))))) tNever tNext))
theorem p_check_stemma {cdv : Value} {A : Around} {outer : List Env} {s : Shared} {H : Hp} {E : XK} {f : Addr} {k : Nat} (M : Mg mg) (S : Shf P w K mg base C) (c_check_shelf : Cal P w K mg base 2 "check_shelf" (spD C G_check_shelf) []) (c_is_stemma_of : Cal P w K mg base 8 "is_stemma_of" (spD C G_is_stemma_of) []) (hr : Room 8 (A.deeper (PyProof.Rows.envOfC "check_stemma" (fnScope (top 36)) s.heap.objs.size f cdv))) : PSs (cxOf C8.CX0 P w K mg base N_check_stemma "check_stemma" (fnScope (top 36)) f cdv A outer s H E).nox (fnBody (top 36)) (t_check_stemma C K) :=
  have nd := sc_check_stemma.nd
  (pss_cons (ps_expr (C8.pe_c c_check_shelf hr (by decide) (by rfl) (pa_cons (pv 0) pa_nil))) (pss_one (ps_if (pt_not (pt_val (C8.pe_c c_is_stemma_of hr (by decide) (by rfl) (pa_cons (pe_copies S hr (pv 0)) (pa_cons (pv 1) pa_nil))))) (pss_one ps_never) pss_nil)))
abbrev N_are_stemmata_of : List Str := ["shelf", "value", "stemma"]
theorem sc_are_stemmata_of : FnScope N_are_stemmata_of ["shelf", "value"] (fnScope (top 40)) := fnScope_by (by decide +kernel)
def t_are_stemmata_of (C : Addr) (K : PySem.W.Frag) : TS := (tSeq (tIfS (tOr (tNot (tB (tCB (rIsi K) (tCons (tVar 1) (tCons (tC (.ty "tuple")) tNil))))) (tNot (tTest (tChain (rI0 fun i j => .bl (decide (i < j))) (rI0 fun i j => .bl (decide (i ≤ j))) (tC (.int 0)) (tCB (rLenQ K) (tCons (tVar 1) tNil)) (tC (.int 9)))))) (tRet (tC (.bl false))) tNext) (tRet (tCB (rAll K) (tCons (tLc (iTup K (tVar 1)) (gName 2) tYes (tCall (spD C G_is_stemma_of) [] C8.E0 (tCons (tProp C (getSp C "own_copies") [] C8.E0 (tVar 0)) (tCons (tVar 2) tNil))) [2]) tNil))))
theorem p_are_stemmata_of {cdv : Value} {A : Around} {outer : List Env} {s : Shared} {H : Hp} {E : XK} {f : Addr} {k : Nat} (M : Mg mg) (S : Shf P w K mg base C) (c_is_stemma_of : Cal P w K mg base 8 "is_stemma_of" (spD C G_is_stemma_of) []) (hr : Room 8 (A.deeper (PyProof.Rows.envOfC "are_stemmata_of" (fnScope (top 40)) s.heap.objs.size f cdv))) : PSs (cxOf C8.CX0 P w K mg base N_are_stemmata_of "are_stemmata_of" (fnScope (top 40)) f cdv A outer s H E).nox (fnBody (top 40)) (t_are_stemmata_of C K) :=
  have nd := sc_are_stemmata_of.nd
  (pss_cons (ps_if ((pw_or (pt_not (pt_val (pe_callB call_isi (by rfl) M.b_isinstance bb_isinstance (pa_cons (pv 1) (pa_cons (pe_bltn (by rfl) M.b_tuple bb_tuple (by rfl)) pa_nil))))) (pw_or1 (pt_not (pt_chain op_lt op_le pe_int (pe_callB call_len_seq (by rfl) M.b_len bb_len (pa_cons (pv 1) pa_nil)) (pe_gI (by rfl) M.k_MOST_STEMMATA)))))).pt (pss_one (ps_ret pe_bl)) pss_nil) (pss_one (ps_ret (pe_callB (cr_all (by rfl)) (by rfl) M.b_all bb_all (pa_cons (pe_lc (own := [("stemma", 2)]) (g := (gName 2)) (tt := tYes) (te := (tCall (spD C G_is_stemma_of) [] C8.E0 (tCons (tProp C (getSp C "own_copies") [] C8.E0 (tVar 0)) (tCons (tVar 2) tNil)))) (by rfl) nd (pi_tup (pv 1)) (blkOk_by (by kernel_rfl)) (fun _ _ _ _ _ => (pg_name (i := 2) nd rfl (by first | exact Or.inl rfl | exact Or.inr rfl))) (fun _ _ _ _ _ => pts_nil) (fun _ _ _ _ _ => (C8.pe_c c_is_stemma_of hr (by decide) (by rfl) (pa_cons (pe_copies S hr (pv 0)) (pa_cons (pv 2) pa_nil))))) pa_nil)))))
theorem es_stemma_of {ds : List PyData} {R : PyData → Prop} (h : G_stemma_of ds R) : ES C (t_stemma_of C K) (startE N_stemma_of ds) (fun _ => R .none) fun d _ => R d := by
  obtain ⟨c, ls, rfl, ⟨hw, hl⟩, rfl⟩ := h
  have hf : (ls.items.filter long).length ≤ ls.items.length := List.length_filter_le ..
  refine es_seq1 (es_set (α := (List (Tup Str))) (i := 2) (by decide) (EF.ed (ef_filter (src_seq (α := (Tup Str)) (ed_var (α := (Sq (Tup Str))) (i := 1) rfl)) (fun x hx => (et_test (ed_op (α := Int) (β := Int) (γ := Bool) (ed_len_u (ED.eu (K := K) (ed_var (α := (Tup Str)) (i := 3) rfl))) (ed_int (i := 1)) rd_cmp)))))) ?_
  refine es_ret (α := Stemma) (ed_call (α := (Tup (Tup Str))) (ea_cons (α := (Tup Str)) (ed_var (α := (Tup Str)) (i := 0) rfl) (ea_cons (α := (List (Tup Str))) (ed_iteC (α := (List (Tup Str))) (et_test (ed_op (α := Int) (β := Int) (γ := Bool) (ed_len_u (ED.eu (K := K) (ed_var (α := (Tup Str)) (i := 0) rfl))) (ed_int (i := 1)) rd_cmp)) (fun h_ => (EF.ed (ef_cat (α := (Tup Str)) (ED.el (pb := true) (ed_var (α := (List (Tup Str))) (i := 2) rfl)) (EF.el (pb := true) (ef_lst (α := (Tup Str)) (as := [_]) (ea_cons (α := (Tup Str)) (ed_tupU (α := Str) (ed_var (α := (Tup Str)) (i := 0) rfl)) ea_nil) (show 1 ≤ 4096 by decide))) ?_))) (fun h_ => (ed_var (α := (List (Tup Str))) (i := 2) rfl))) ea_nil)) ⟨_, _, rfl, ?_, rfl⟩) ?_
  · show (ls.items.filter long).length + 1 ≤ 4096
    omega
  · intro l hm x hx
    have hm' : l ∈ (if long c = true then ls.items.filter long ++ [c] else ls.items.filter long) := hm
    split at hm'
    · rcases List.mem_append.mp hm' with z | z
      · exact hw l (List.mem_filter.mp z).1 x hx
      · rw [List.mem_singleton.mp z] at hx
        exact hx
    · exact hw l (List.mem_filter.mp hm').1 x hx
  · rfl
theorem es_are_lots {ds : List PyData} {R : PyData → Prop} (h : G_are_lots ds R) : ES C (t_are_lots C K) (startE N_are_lots ds) (fun _ => R .none) fun d _ => R d := by
  obtain ⟨c, v, rfl, rfl⟩ := h
  refine es_guard (et_or (et_not (et_B (ed_isi (α := (Tup (Tup Str))) (b := true) (ed_var (α := (Tup (Tup Str))) (i := 1) rfl) rfl (kit_ty (by decide +kernel))))) (fun h_ => (et_not (et_B (ed_all (EF.el (pb := true) (ef_map (β := Bool) (src_tup (α := (Tup Str)) (ED.eu (K := K) (ed_var (α := (Tup (Tup Str))) (i := 1) rfl))) (fun x hx => (ed_and (ed_call (α := Bool) (ea_cons (α := (Tup Str)) (ed_var (α := (Tup Str)) (i := 0) rfl) (ea_cons (α := (Tup Str)) (ed_var (α := (Tup Str)) (i := 2) rfl) ea_nil)) ⟨_, _, rfl, rfl⟩) (fun h_ => (ed_op (α := Int) (β := Int) (γ := Bool) (ed_len_u (ED.eu (K := K) (ed_var (α := (Tup Str)) (i := 2) rfl))) (ed_int (i := 1)) rd_cmp))))))))))) (fun h => ?_) fun h => ?_
  · refine es_ret (α := Bool) (ed_bl (b := false)) ?_
    rw [List.all_map] at h
    have h' : (!(v.items.all fun l => mIsLot c l && long l)) = true := h
    show Rep.toD false = Rep.toD (mAreLots c v)
    unfold mAreLots
    rw [Bool.not_eq_true'] at h'
    rw [h']
    rfl
  · rw [List.all_map] at h
    have h' : (!(v.items.all fun l => mIsLot c l && long l)) = false := h
    rw [Bool.not_eq_false'] at h'
    have hv : mAreLots c v = clashFree v.items := by
      unfold mAreLots
      rw [h']
      rfl
    refine es_seq (N1 := fun e' => clashFree v.items = true) (es_for (xs := nums v.items) (enc := encE 3 4) (fun i e' => clashFree v.items = clashFree (v.items.drop i) ∧ ∃ x y, e' = [.dat (Rep.toD c), .dat (Rep.toD v), .emp, x, y, .emp] ∧ isVal (some x) = true ∧ isVal (some y) = true)
      (src_enumU (ED.eu (K := K) (ed_var (α := (Tup (Tup Str))) (i := 1) rfl))) ⟨rfl, .emp, .emp, rfl, rfl, rfl⟩ (fun i p e' hi I => ?_) (fun x b hb => ?_) fun e' I => ?_) fun e' n => ?_
    · obtain ⟨hI, x, y, rfl, hx, hy⟩ := I
      have hp : v.items[i]? = some p.2 ∧ p.1 = i := nums_get hi
      obtain ⟨k, l⟩ := p
      obtain ⟨hp, rfl⟩ := hp
      have hcut : ((cutL v.items (some ((k : Int) + 1)) none).map (mClash l)).any id = (v.items.drop (k + 1)).any fun o => mClash l o := by
        rw [cut_tail, List.any_map]
        rfl
      have hd : v.items.drop k = l :: v.items.drop (k + 1) := drop_at hp
      refine ⟨fun b hb => ?_, es_if (et_B (ed_any (EF.el (pb := true) (ef_map (β := Bool) (src_tup (α := (Tup Str)) (ED.eu (K := K) (ed_cutU (α := (Tup Str)) (ed_var (α := (Tup (Tup Str))) (i := 1) rfl) (eo_some (ed_op (α := Int) (β := Int) (γ := Int) (ed_var (α := Int) (i := 3) rfl) (ed_int (i := 1)) rd_add)) eo_none))) (fun x hx => (ed_call (α := Bool) (ea_cons (α := (Tup Str)) (ed_var (α := (Tup Str)) (i := 4) rfl) (ea_cons (α := (Tup Str)) (ed_var (α := (Tup Str)) (i := 5) rfl) ea_nil)) ⟨_, _, rfl, rfl⟩)))))) (fun h => ?_) fun h => es_nil ⟨?_, .dat _, .dat _, rfl, rfl, rfl⟩⟩
      · rcases List.mem_cons.mp hb with z | z
        · rw [z]; exact hx
        · rw [List.mem_singleton.mp z]; exact hy
      · refine es_ret (α := Bool) (ed_bl (b := false)) ?_
        rw [hcut] at h
        show Rep.toD false = Rep.toD (mAreLots c v)
        rw [hv, hI, hd, clashFree, h]
        rfl
      · rw [hcut] at h
        rw [hI, hd, clashFree, h]
        rfl
    · rcases List.mem_cons.mp hb with z | z
      · rw [z]; exact (by decide : (3 : Nat) ≠ 0)
      · rw [List.mem_singleton.mp z]; exact (by decide : (4 : Nat) ≠ 0)
    · rw [I.1]
      have e0 : v.items.drop (nums v.items).length = [] := List.drop_eq_nil_of_le (by unfold nums; rw [List.length_map, List.length_zipIdx]; exact Nat.le_refl _)
      rw [e0]
      rfl
    · refine es_ret (α := Bool) (ed_bl (b := true)) ?_
      rw [hv, n]
theorem es_is_stemma_of {ds : List PyData} {R : PyData → Prop} (h : G_is_stemma_of ds R) : ES C (t_is_stemma_of C K) (startE N_is_stemma_of ds) (fun _ => R .none) fun d _ => R d := by
  obtain ⟨c, v, rfl, hl, rfl⟩ := h
  refine es_ret (α := Bool) (ed_and (ed_call (α := Bool) (ea_cons (α := (Tup Str)) (ed_var (α := (Tup Str)) (i := 0) rfl) (ea_cons (α := (Tup (Tup Str))) (ed_var (α := (Tup (Tup Str))) (i := 1) rfl) ea_nil)) ⟨_, _, rfl, rfl⟩) (fun h_ => (ed_eq (ED.er (K := K) (ed_var (α := (Tup (Tup Str))) (i := 1) rfl)) (ED.er (K := K) (ed_call (α := (Tup (Tup Str))) (ea_cons (α := (Tup Str)) (ed_var (α := (Tup Str)) (i := 0) rfl) (ea_cons (α := (Sq (Tup Str))) (ED.sqU (α := (Tup Str)) (ed_var (α := (Tup (Tup Str))) (i := 1) rfl)) ea_nil)) ⟨_, _, rfl, ?_, rfl⟩))))) ?_
  · exact ⟨areLots_within h_, hl⟩
  · rfl
theorem es_check_shelf {ds : List PyData} {R : PyData → Prop} (h : G_check_shelf ds R) : ES C (t_check_shelf C K) (startE N_check_shelf ds) (fun _ => R .none) fun d _ => R d := by
  obtain ⟨s, rfl, rfl⟩ := h
  exact es_never (et_not (et_B (ed_isC (ed_var (α := Sh) (i := 0) rfl)))) rfl rfl
theorem es_check_stemma {ds : List PyData} {R : PyData → Prop} (h : G_check_stemma ds R) : ES C (t_check_stemma C K) (startE N_check_stemma ds) (fun _ => R .none) fun d _ => R d := by
  obtain ⟨s, v, rfl, ⟨hl, hs⟩, rfl⟩ := h
  refine es_seq1 (es_drop (ed_call (α := Unit) (ea_cons (α := Sh) (ed_var (α := Sh) (i := 0) rfl) ea_nil) ⟨_, rfl, rfl⟩)) ?_
  refine es_never (et_not (et_B (ed_call (α := Bool) (ea_cons (α := (Tup Str)) (ed_copies (ed_var (α := Sh) (i := 0) rfl)) (ea_cons (α := (Tup (Tup Str))) (ed_var (α := (Tup (Tup Str))) (i := 1) rfl) ea_nil)) ⟨_, _, rfl, ?_, rfl⟩))) ?_ rfl
  · exact hl
  · rw [hs]; rfl
theorem es_are_stemmata_of {ds : List PyData} {R : PyData → Prop} (h : G_are_stemmata_of ds R) : ES C (t_are_stemmata_of C K) (startE N_are_stemmata_of ds) (fun _ => R .none) fun d _ => R d := by
  obtain ⟨s, vs, rfl, hl, rfl⟩ := h
  refine es_guard (et_or (et_not (et_B (ed_isi (α := (Tup (Tup (Tup Str)))) (b := true) (ed_var (α := (Tup (Tup (Tup Str)))) (i := 1) rfl) rfl (kit_ty (by decide +kernel))))) (fun h_ => (et_not (et_test (ed_chain (α := Int) (β := Int) (γ := Int) (ed_int (i := 0)) (ed_len_u (ED.eu (K := K) (ed_var (α := (Tup (Tup (Tup Str)))) (i := 1) rfl))) rd_cmp (fun _ => (ed_int (i := 9))) rd_cmp))))) (fun h => ?_) fun h => ?_
  · refine es_ret (α := Bool) (ed_bl (b := false)) ?_
    have h' : (!(decide (0 < (vs.items.length : Int)) && decide ((vs.items.length : Int) ≤ 9))) = true := h
    show Rep.toD false = Rep.toD (mAreStemmata s vs)
    unfold mAreStemmata
    rw [Bool.not_eq_true'] at h'
    rw [h']
    rfl
  · have h' : (!(decide (0 < (vs.items.length : Int)) && decide ((vs.items.length : Int) ≤ 9))) = false := h
    refine es_ret (α := Bool) (ed_all (EF.el (pb := true) (ef_map (β := Bool) (src_tup (α := (Tup (Tup Str))) (ED.eu (K := K) (ed_var (α := (Tup (Tup (Tup Str)))) (i := 1) rfl))) (fun x hx => (ed_call (α := Bool) (ea_cons (α := (Tup Str)) (ed_copies (ed_var (α := Sh) (i := 0) rfl)) (ea_cons (α := (Tup (Tup Str))) (ed_var (α := (Tup (Tup Str))) (i := 2) rfl) ea_nil)) ⟨_, _, rfl, ?_, rfl⟩))))) ?_
    · exact hl x hx
    · rw [Bool.not_eq_false'] at h'
      rw [List.all_map]
      show Rep.toD (vs.items.all fun v => mIsStemma s.copies v) = Rep.toD (mAreStemmata s vs)
      unfold mAreStemmata
      rw [h']
      rfl
end
end PD
end
section
set_option Elab.async false
set_option linter.all false
set_option maxRecDepth 100000
set_option maxHeartbeats 4000000
set_option autoImplicit false
namespace PD
open PySem L2
open PySem.W (Datum Tup)
variable [Tabl]

/-! ### comprehensions with a pair of names -/
section
variable {C : Addr} {K : PySem.W.Frag} {pb : Bool} {e : List Sl} {te tl : TE} {tt : TT} {wi : TI} {g : TG} {vs : List Nat} {i j : Nat} {γ : Type} {δ : Type} [Rep δ] {α β : Type} [DecidableEq α] [Datum α] [DecidableEq β] [Datum β]
theorem ef_map2 {xs : List γ} {f : γ → δ} {A B : γ → PyData} (hs : ESrc C true wi g e (xs.map fun x => [(i, A x), (j, B x)])) (he : ∀ x ∈ xs, ED C te (((wipeE e vs).set i (.dat (A x))).set j (.dat (B x))) (f x)) (hv : noOwn e vs = true := by rfl) (h0 : 0 ∉ vs := by decide) (hi : i ∈ vs := by decide) (hj : j ∈ vs := by decide) :
    EF C (tLc wi g tYes te vs) e (xs.map f) := by
  have h : EF C (tLc wi g tYes te vs) e ((xs.filter fun _ => true).map f) := ef_lc (fun _ => true) f hs (fun x _ => et_yes) (fun x hx _ => he x hx) hv h0 fun x p hp => by
    rcases List.mem_cons.mp hp with z | z
    · rw [z]; exact hi
    · rw [List.mem_singleton.mp z]; exact hj
  rw [List.filter_eq_self.mpr fun _ _ => rfl] at h
  exact h
theorem ef_both2 {xs : List γ} {b : γ → Bool} {f : γ → δ} {A B : γ → PyData} (hs : ESrc C true wi g e (xs.map fun x => [(i, A x), (j, B x)])) (ht : ∀ x ∈ xs, ET C tt (((wipeE e vs).set i (.dat (A x))).set j (.dat (B x))) (b x)) (he : ∀ x ∈ xs, b x = true → ED C te (((wipeE e vs).set i (.dat (A x))).set j (.dat (B x))) (f x)) (hv : noOwn e vs = true := by rfl) (h0 : 0 ∉ vs := by decide) (hi : i ∈ vs := by decide) (hj : j ∈ vs := by decide) :
    EF C (tLc wi g tt te vs) e ((xs.filter b).map f) := ef_lc b f hs ht he hv h0 fun x p hp => by
    rcases List.mem_cons.mp hp with z | z
    · rw [z]; exact hi
    · rw [List.mem_singleton.mp z]; exact hj
theorem gives_pairA {h : Addr → Prop} {H : Hp} {v : V} {d d' : PyData} (q : At C h H v (.tuple [d, d'])) : Gives C h (gTup K 2 (gCons (gName i) (gCons (gName j) gNil))) v H [(i, d), (j, d')] := fun σ k r => by
  cases q with
  | @tup T xs ds e1 z q => cases q with
    | @cons x _ _ _ q1 q => cases q with
      | @cons y _ _ _ q2 q =>
        cases q
        exact ⟨T, [x, y], rfl, e1.sq, rfl, x, [y], rfl, y, [], rfl, rfl, r H [x, y] (Same.refl H) (.cons q1 (.cons q2 .nil))⟩
/-- a list of pairs -/
theorem src_pairs {xs : List (α × β)} (hs : EL C pb tl e xs) : ESrc C pb (iList K tl) (gTup K 2 (gCons (gName i) (gCons (gName j) gNil))) e (xs.map fun x => [(i, Rep.toD x.1), (j, Rep.toD x.2)]) := fun W F σ H s R q => hs W F σ H s _ fun p ys H1 hn x1 hl hz t => by
  have hlen : ys.length = (xs.map fun x => [(i, Rep.toD x.1), (j, Rep.toD x.2)]).length := by rw [t.length, List.length_map, List.length_map]
  exact ⟨p, rfl, ⟨ys, SqL.of hl⟩, q _ H1 _ _ x1 (hlen ▸ walk_list) (hlen ▸ hz) (fun H' x => SqL.of (x.keep _ _ (fun z => hn z.1 z.2) hl)) fun k bs hb h2 H' x H'' k2 xx y => by
    obtain ⟨rfl, hy⟩ := y
    obtain ⟨x', rfl, a'⟩ := get_item t hb hy
    exact ⟨Same.refl _, gives_pairA (kp_step a' xx k2)⟩⟩
/-- a tuple of pairs -/
theorem src_pairsU {xs : List (α × β)} (hs : EU C K tl e xs) : ESrc C pb (iTup K tl) (gTup K 2 (gCons (gName i) (gCons (gName j) gNil))) e (xs.map fun x => [(i, Rep.toD x.1), (j, Rep.toD x.2)]) := fun W F σ H s R q => hs W F σ H s _ fun p ys H1 x1 hl hz t => by
  have hlen : ys.length = (xs.map fun x => [(i, Rep.toD x.1), (j, Rep.toD x.2)]).length := by rw [t.length, List.length_map, List.length_map]
  exact ⟨p, rfl, ⟨ys, hl.t⟩, q _ H1 _ _ x1 (hlen ▸ walk_tup) (hlen ▸ hz) (fun H' x => (hl.xt x).t) fun k bs hb h2 H' x H'' k2 xx y => by
    obtain ⟨rfl, hy⟩ := y
    obtain ⟨x', rfl, a'⟩ := get_item t hb hy
    exact ⟨Same.refl _, gives_pairA (kp_step a' xx k2)⟩⟩
end

/-! ### dict(a list of (text, int)), as a thing -/
abbrev SpotR := List (Key × V)
def spotRow (p : Str × Int) : Key × V := (.inr p.1, .int p.2)
def spotsOf (ps : List (Str × Int)) : SpotR := mergeK [] (ps.map spotRow)
abbrev SpotT (ps : List (Str × Int)) : Thing := ObjT (.dK (spotsOf ps))
def rDictS (K : PySem.W.Frag) : List V → Hp → VK → Prop := fun xs H Q => ∃ (a : Addr) (ps : List Addr) (kvs : List (Key × V)), xs = [.ref a] ∧ SqL K H a (ps.map V.ref) ∧ Paired (fun p kv => SqT K H p [kV kv.1, kv.2]) ps kvs ∧ ∀ p, H p = none → Q (.ref p) (upd H p (.dK (mergeK [] kvs)))
section
variable {C : Addr} {K : PySem.W.Frag} {pb : Bool} {e : List Sl} {te : TE} {i : Nat}
theorem spot_rows {h : Addr → Prop} {H : Hp} : ∀ {ys : List V} {ps : List (Str × Int)}, AtAll C h H ys (ps.map fun p => Rep.toD p) → ∃ qs : List Addr, ys = qs.map V.ref ∧ Paired (fun p kv => SqT K H p [kV kv.1, kv.2]) qs (ps.map spotRow)
  | _, [], t => by
    cases t
    exact ⟨[], rfl, .nil⟩
  | _, p :: ps, t => by
    have t' : AtAll C h H _ (.tuple [.str p.1, .int p.2] :: ps.map fun p => Rep.toD p) := t
    cases t' with
    | cons r t2 =>
      obtain ⟨qs, rfl, h2⟩ := spot_rows t2
      cases r with
      | @tup a xs ds e1 z q => cases q with
        | @cons u _ _ _ q1 q => cases q with
          | @cons u2 _ _ _ q2 q =>
            cases q
            cases q1
            cases q2
            exact ⟨a :: qs, rfl, .cons e1.sq h2⟩
theorem eh_spots {ps : List (Str × Int)} (h : EL C pb te e ps) : EH C (tCB (rDictS K) (tCons te tNil)) e (SpotT ps) := fun W F σ H s Q q => h W F σ H s _ fun p ys H2 _ x hl hz t => by
  obtain ⟨qs, rfl, h2⟩ := spot_rows (K := K) t
  refine ⟨p, qs, _, rfl, SqL.of hl, h2, fun d hd => ?_⟩
  exact q _ _ (fun a => a = d) (fun a z => by rw [z]; exact x.free hd) (x.trans (same_new hd)) ⟨d, rfl, rfl, upd_same, fun ps z => by cases z⟩
theorem ed_spot {ps : List (Str × Int)} {k : Str} {n : Int} (h : e[i]? = some (.own (SpotT ps))) (hk : ED C te e k) (hv : valV (spotsOf ps) (.inr k) = some (.int n)) : ED C (tDGet (tVar i) te) e n := fun W F σ H s Q q => by
  obtain ⟨v, hv', d, rfl, hF, hd, hn⟩ := s.own i _ h
  refine ⟨_, hv', hk W F σ H s _ fun y H3 x3 a3 => ?_⟩
  have hy : y = kV (.inr k) := by
    have a3' : At C (Hd W F) H3 y (.str k) := a3
    cases a3'
    rfl
  refine ⟨d, .int n, rfl, ?_, q _ H3 x3 (.int n)⟩
  rw [hy, ← hv]
  exact DGet.k (x3.at _ _ hd)
end
end PD
end
section
set_option Elab.async false
set_option linter.all false
set_option maxRecDepth 100000
set_option maxHeartbeats 4000000
set_option autoImplicit false
namespace PD
open PySem L2
open PySem.W (Datum Tup)
variable [Tabl]

/-! ### a, b = .., ..: as two assignments -/
/-- the slot i does not matter -/
def Ins (i : Nat) (te : TE) : Prop := ∀ (σ : L2.St) (v : V) (H : Hp) (Q : VK), te (σ.set i (some v)) H Q = te σ H Q
def InsA (i : Nat) (ta : TA) : Prop := ∀ (σ : L2.St) (v : V) (H : Hp) (Q : List V → Hp → Prop), ta (σ.set i (some v)) H Q = ta σ H Q
section
variable {i k : Nat} {ta tb te : TE} {t : TA} {r : R2} {rl : List V → Hp → VK → Prop} {sp : Sp} {dvs : List V} {E : XK} {C : Addr} {K : PySem.W.Frag} {e : List Sl} {N : List Sl → Prop} {R : PyData → List Sl → Prop}
theorem ins_c {v : V} : Ins i (tC v) := fun _ _ _ _ => rfl
theorem ins_var (h : i ≠ k) : Ins i (tVar k) := fun σ v H Q => by
  show (∃ w, (σ.set i (some v))[k]? = some (some w) ∧ Q w H) = _
  rw [List.getElem?_set_ne h]
  rfl
theorem ins_nil : InsA i tNil := fun _ _ _ _ => rfl
theorem ins_cons (h1 : Ins i ta) (h2 : InsA i t) : InsA i (tCons ta t) := fun σ v H Q => by
  have e1 : ∀ H1 (Q1 : List V → Hp → Prop), t (σ.set i (some v)) H1 Q1 = t σ H1 Q1 := fun H1 Q1 => h2 σ v H1 Q1
  show ta (σ.set i (some v)) H (fun x H1 => t (σ.set i (some v)) H1 fun xs H2 => Q (x :: xs) H2) = _
  rw [h1]
  simp only [e1]
  rfl
theorem ins_op (h1 : Ins i ta) (h2 : Ins i tb) : Ins i (tOp r ta tb) := fun σ v H Q => by
  have e1 : ∀ H1 (Q1 : VK), tb (σ.set i (some v)) H1 Q1 = tb σ H1 Q1 := fun H1 Q1 => h2 σ v H1 Q1
  show ta (σ.set i (some v)) H (fun x H1 => tb (σ.set i (some v)) H1 fun y H2 => r x y H2 Q) = _
  rw [h1]
  simp only [e1]
  rfl
theorem ins_cb (h : InsA i t) : Ins i (tCB rl t) := fun σ v H Q => h σ v H _
theorem ins_lst (h : InsA i t) : Ins i (tLst t) := fun σ v H Q => h σ v H _
theorem ins_call (h : InsA i t) : Ins i (tCall sp dvs E t) := fun σ v H Q => h σ v H _
theorem es_par {j : Nat} (hi : Ins i tb) (h : ES C (tSeq (tAsg ta (gName i)) (tAsg tb (gName j))) e N R) : ES C (tPar i j (tCons ta (tCons tb tNil))) e N R := fun W F σ H s D qn qr => by
  have h' := h W F σ H s D qn qr
  have e1 : ∀ v H1 (Q : VK), tb (σ.set i (some v)) H1 Q = tb σ H1 Q := fun v H1 Q => hi σ v H1 Q
  have h2 : ta σ H fun x H1 => tb (σ.set i (some x)) H1 fun y H2 => D.nx ((σ.set i (some x)).set j (some y)) H2 := h'
  simp only [e1] at h2
  have h3 : (fun x H1 => tb σ H1 fun y H2 => D.nx ((σ.set i (some x)).set j (some y)) H2) = fun x H1 => tb σ H1 fun y H2 => ∃ v w, [x, y] = [v, w] ∧ D.nx ((σ.set i (some v)).set j (some w)) H2 := by
    funext x H1
    congr 1
    funext y H2
    refine propext ⟨fun z => ⟨x, y, rfl, z⟩, fun ⟨v, w, z, q⟩ => ?_⟩
    cases z
    exact q
  rw [h3] at h2
  exact h2
end

theorem u1 {n : Nat} (h : n + 64 < cLine) : n + 1 < cLine := by omega
/-- .. by way of a tuple -/
theorem es_parT {i j : Nat} {ta tb : TE} {C : Addr} {K : PySem.W.Frag} {e : List Sl} {N : List Sl → Prop} {R : PyData → List Sl → Prop} (hi : Ins i tb) (h : ES C (tSeq (tAsg ta (gName i)) (tAsg tb (gName j))) e N R)
    (hl : (decide (i < e.length) && decide (j < e.length) && !decide (i = j)) = true := by rfl) : ES C (tAsg (tTupF (tCons ta (tCons tb tNil))) (gTup K 2 (gCons (gName i) (gCons (gName j) gNil)))) e N R := fun W F σ H s D qn qr => by
  rw [Bool.and_eq_true, Bool.and_eq_true, decide_eq_true_eq, decide_eq_true_eq, Bool.not_eq_true', decide_eq_false_iff_not] at hl
  obtain ⟨⟨l1, l2⟩, l3⟩ := hl
  have sl := s.len
  let P2 : V → V → Hp → Prop := fun x y H2 => [x, y].length ≤ sizeLine ∧ ∀ p o, Pl o → H2 p = none → gTup K 2 (gCons (gName i) (gCons (gName j) gNil)) (V.ref p) σ (upd H2 p (.frz o (.tup [x, y]))) D.nx
  have one : ∀ x y x' y', (σ.set i (some x)).set j (some y) = (σ.set i (some x')).set j (some y') → x = x' ∧ y = y' := fun x y x' y' z => by
    have a1 : ((σ.set i (some x)).set j (some y))[i]? = ((σ.set i (some x')).set j (some y'))[i]? := by rw [z]
    have a2 : ((σ.set i (some x)).set j (some y))[j]? = ((σ.set i (some x')).set j (some y'))[j]? := by rw [z]
    rw [List.getElem?_set_ne (Ne.symm l3), List.getElem?_set_ne (Ne.symm l3), List.getElem?_set_self (by omega), List.getElem?_set_self (by omega)] at a1
    rw [List.getElem?_set_self (by rw [List.length_set]; omega), List.getElem?_set_self (by rw [List.length_set]; omega)] at a2
    injection a1 with a1
    injection a1 with a1
    injection a2 with a2
    injection a2 with a2
    exact ⟨a1, a2⟩
  have h' := h W F σ H s { nx := fun σ' H' => ∀ x y, σ' = (σ.set i (some x)).set j (some y) → P2 x y H', rt := D.rt, bk := D.bk, ct := D.ct } (fun e' F' σ' H' n s' x y ez => by
    refine ⟨by show 2 ≤ sizeLine; decide, fun p o ho hp => ⟨p, [x, y], rfl, (show SqT K _ p [x, y] from .inl (.inr ⟨o, upd_same⟩)), rfl, x, [y], rfl, y, [], rfl, rfl, ?_⟩⟩
    rw [← ez]
    exact qn e' F' σ' _ n (s'.same (same_new hp))) qr
  have e1 : ∀ v H1 (Q : VK), tb (σ.set i (some v)) H1 Q = tb σ H1 Q := fun v H1 Q => hi σ v H1 Q
  have h2 : ta σ H fun x H1 => tb (σ.set i (some x)) H1 fun y H2 => ∀ x' y', (σ.set i (some x)).set j (some y) = (σ.set i (some x')).set j (some y') → P2 x' y' H2 := h'
  simp only [e1] at h2
  have h3 : (fun x H1 => tb σ H1 fun y H2 => ∀ x' y', (σ.set i (some x)).set j (some y) = (σ.set i (some x')).set j (some y') → P2 x' y' H2) = fun x H1 => tb σ H1 fun y H2 => P2 x y H2 := by
    funext x H1
    congr 1
    funext y H2
    refine propext ⟨fun z => z x y rfl, fun z x' y' w => ?_⟩
    obtain ⟨rfl, rfl⟩ := one _ _ _ _ w
    exact z
  rw [h3] at h2
  exact h2
/-! ### own lists made otherwise -/
section
variable {C : Addr} {K : PySem.W.Frag} {e : List Sl} {te : TE} {R : PyData → List Sl → Prop} {α : Type} [Rep α]
theorem EF.eh {as : List α} (h : EF C te e as) : EH C te e (LstT C (as.map Rep.toD)) := fun W F σ H s Q q => h W F σ H s _ fun p xs H2 hp x hl hz t => q _ H2 (fun a => a = p) (fun a z => by rw [z]; exact hp) x ⟨p, xs, rfl, rfl, hl, hz, t⟩
theorem ef_list_s {δ : Type} [DecidableEq δ] [Datum δ] {q : Sq δ} (h : ED C te e q) : EF C (tCB (rListQ K) (tCons te tNil)) e q.items := by
  obtain ⟨b, as⟩ := q
  cases b with
  | false => exact ef_list_l (α := δ) (pb := true) (ED.el (show ED C te e as from h))
  | true => exact ef_list_u (α := δ) (ED.eu (K := K) (show ED C te e (Tup.mk as) from h))
end
end PD
end
section
set_option Elab.async false
set_option linter.all false
set_option maxRecDepth 100000
set_option maxHeartbeats 4000000
set_option autoImplicit false
namespace PD
open PySem L2
open PySem.W (Datum Tup)
variable [Tabl]

/-! ### list(range(n)) -/
def upTo (n : Int) : List Int := (List.range n.toNat).map fun k => ((k : Nat) : Int)
section
variable {C : Addr} {e : List Sl} {te : TE}
theorem all_ups {h : Addr → Prop} {H : Hp} : ∀ ks : List Nat, AtAll C h H (ks.map fun (i : Nat) => V.int (0 + (i : Int))) (ks.map fun (i : Nat) => PyData.int (i : Int))
  | [] => .nil
  | k :: ks => by
    rw [List.map_cons, List.map_cons, Int.zero_add]
    exact .cons (.int _) (all_ups ks)
theorem ef_listRg {n : Int} (h : ED C te e n) (h0 : 0 ≤ n) (h1 : n ≤ 4096) : EF C (tLstRg (tRg1 te)) e (upTo n) := fun W F σ H s Q q => h W F σ H s _ fun v H2 x t => by
  cases at_int t
  refine ⟨n, rfl, RgOk.of_le (by omega) (by omega) (by omega) (by omega), fun p hp => ?_⟩
  have e0 : (n - 0) = n := by omega
  refine q p _ _ (x.free hp) (x.trans (same_new hp)) upd_same (by rw [rgV_length]; omega) ?_
  unfold rgV upTo
  rw [List.map_map, e0]
  exact all_ups (List.range n.toNat)
end
end PD
end
section
set_option Elab.async false
set_option linter.all false
set_option maxRecDepth 100000
set_option maxHeartbeats 4000000
set_option autoImplicit false
namespace PD
open PySem L2
open PySem.W (Datum Tup)
variable [Tabl]
mutual
theorem able_nolist : ∀ d : PyData, keyable d = true → nolist d = true
  | .none, _ => rfl
  | .bool _, _ => rfl
  | .int _, _ => rfl
  | .str _, _ => rfl
  | .tuple ds, h => able_nolists ds h
  | .list _, h => nomatch (show false = true from h)
  | .dict _, h => nomatch (show false = true from h)
theorem able_nolists : ∀ ds : List PyData, keyables ds = true → nolist.nolistAll ds = true
  | [], _ => rfl
  | d :: ds, h => by
    have h' : (keyable d && keyables ds) = true := h
    rw [Bool.and_eq_true] at h'
    show (nolist d && nolist.nolistAll ds) = true
    rw [able_nolist d h'.1, able_nolists ds h'.2]
    rfl
end
theorem noL {α : Type} [DecidableEq α] [Datum α] [KeyD α] (a : α) : nolist (Rep.toD a) = true := able_nolist _ (KeyD.able a)
end PD
end
section
set_option Elab.async false
set_option linter.all false
set_option maxRecDepth 100000
set_option maxHeartbeats 4000000
set_option autoImplicit false
namespace PD
open PySem L2
open PySem.W (Datum Tup)
open C8 (Cal fnScope fnBody fnScope_by)
variable [Tabl]

/-! ### what the defs tell -/
theorem sortBy_perm {α : Type} (key : α → Int × List Int) (xs : List α) : (sortBy key xs).Perm xs := List.mergeSort_perm xs _
theorem bySize_mem {c : Lot} {ls : List Lot} {l : Lot} (h : l ∈ (bySize c ls).items) : l ∈ ls := firsts_mem ((sortBy_perm _ _).mem_iff.mp h)
theorem bySize_len (c : Lot) (ls : List Lot) : (bySize c ls).items.length ≤ ls.length := by
  have h := dictOf_len (ls.map fun l => (l, true))
  rw [List.length_map] at h
  show (sortBy _ (firsts ls)).length ≤ _
  rw [(sortBy_perm _ _).length_eq]
  unfold firsts
  rw [List.length_map]
  exact h
abbrev allLots (vs : Stemmata) : List Lot := vs.items.flatMap fun v => v.items
structure Wf (s : Sh) (vs : Stemmata) : Prop where
  ok : mAreStemmata s vs = true
  tot : (allLots vs).length < 4096
theorem mem_len {vs : Stemmata} {v : Stemma} (h : v ∈ vs.items) : v.items.length ≤ (allLots vs).length := by
  obtain ⟨a, b, e⟩ := List.append_of_mem h
  unfold allLots
  rw [e, List.flatMap_append, List.flatMap_cons, List.length_append, List.length_append]
  omega
theorem Wf.len {s : Sh} {vs : Stemmata} (h : Wf s vs) : ∀ v ∈ vs.items, v.items.length < 4096 := fun v hv => Nat.lt_of_le_of_lt (mem_len hv) h.tot
theorem Wf.each {s : Sh} {vs : Stemmata} (h : Wf s vs) : ∀ v ∈ vs.items, mIsStemma s.copies v = true := by
  have h1 := h.ok
  unfold mAreStemmata at h1
  rw [Bool.and_eq_true] at h1
  exact List.all_eq_true.mp h1.2
theorem isStemma_within {c : Lot} {v : Stemma} (h : mIsStemma c v = true) : Within c v.items := by
  unfold mIsStemma at h
  rw [Bool.and_eq_true] at h
  exact areLots_within h.1
theorem Wf.within {s : Sh} {vs : Stemmata} (h : Wf s vs) : Within s.copies (allLots vs) := fun l hl => by
  obtain ⟨v, hv, hl⟩ := List.mem_flatMap.mp hl
  exact isStemma_within (h.each v hv) l hl
def mLotsIn (s : Sh) (vs : Stemmata) : Stemma := bySize s.copies (allLots vs)
def mManyOf (vs : Stemmata) (l : Lot) : Int := ((vs.items.filter fun v => decide (l ∈ v.items)).length : Int)
def mMoreThan (s : Sh) (vs : Stemmata) (part : Int) : List Lot := (mLotsIn s vs).items.filter fun l => decide (part < 2 * mManyOf vs l)
def mMajority (s : Sh) (vs : Stemmata) : Stemma := mStemmaOf s.copies ⟨false, mMoreThan s vs (vs.items.length : Int)⟩
def mFarOf (a b : Stemma) : Int := ((a.items.filter fun l => decide (¬ l ∈ b.items)).length : Int) + ((b.items.filter fun l => decide (¬ l ∈ a.items)).length : Int)
def mLeast (s : Sh) (vs : Stemmata) : Int := (((mLotsIn s vs).items.map fun l => mManyOf vs l).map fun m => pmin m ((vs.items.length : Int) - m)).sum
def mShows (s : Sh) (vs : Stemmata) (p : Int × Stemma) : Bool := decide (p.1 = mLeast s vs) && (mIsStemma s.copies p.2 && decide ((vs.items.map fun v => mFarOf v p.2).sum = mLeast s vs))
theorem Wf.moreWithin {s : Sh} {vs : Stemmata} (h : Wf s vs) (part : Int) : Within s.copies (mMoreThan s vs part) := fun l hl => h.within l (bySize_mem (List.mem_filter.mp hl).1)
theorem moreLen (s : Sh) (vs : Stemmata) (part : Int) : (mMoreThan s vs part).length ≤ (allLots vs).length := Nat.le_trans (List.length_filter_le ..) (bySize_len _ _)
abbrev G_check_stemmata : Gd := G2p Wf fun _ _ => ()
abbrev G_check_two : Gd := G3p (fun (s : Sh) (a b : Stemma) => a.items.length < 4096 ∧ b.items.length < 4096 ∧ mIsStemma s.copies a = true ∧ mIsStemma s.copies b = true) fun _ _ _ => ()
abbrev G_lots_in : Gd := G2p Wf mLotsIn
abbrev G_many_of : Gd := G2 mManyOf
abbrev G_more_than : Gd := G3p (fun (s : Sh) (vs : Stemmata) (_ : Int) => Wf s vs) mMoreThan
abbrev G_majority : Gd := G2p Wf mMajority
abbrev G_far_of : Gd := G2 mFarOf
abbrev G_far : Gd := G3p (fun (s : Sh) (a b : Stemma) => a.items.length < 4096 ∧ b.items.length < 4096 ∧ mIsStemma s.copies a = true ∧ mIsStemma s.copies b = true) fun _ => mFarOf
abbrev G_least_sum : Gd := G2p Wf mLeast
abbrev G_nearest : Gd := G2p Wf fun s vs => (mLeast s vs, mMajority s vs)
abbrev G_shows_nearest : Gd := G3p (fun (s : Sh) (vs : Stemmata) (p : Int × Stemma) => Wf s vs ∧ p.2.items.length < 4096) mShows
theorem between_one (v a : Int) : mIsBetween v a a = decide (v = a) := by
  unfold mIsBetween
  rw [← Bool.decide_and]
  exact decide_eq_decide.mpr (by omega)
section
variable {P : Program} {w : World} {K : PySem.W.Frag} {mg : Str → Option Value} {base : Heap} {C : Addr}
abbrev N_check_stemmata : List Str := ["shelf", "stemmata"]
theorem sc_check_stemmata : FnScope N_check_stemmata ["shelf", "stemmata"] (fnScope (top 41)) := fnScope_by (by decide +kernel)
def t_check_stemmata (C : Addr) (K : PySem.W.Frag) : TS := (tSeq (tDrop (tCall (spD C G_check_shelf) [] C8.E0 (tCons (tVar 0) tNil))) (tIfS (tNot (tB (tCall (spD C G_are_stemmata_of) [] C8.E0 (tCons (tVar 0) (tCons (tVar 1) tNil))))) tNever tNext))
theorem p_check_stemmata {cdv : Value} {A : Around} {outer : List Env} {s : Shared} {H : Hp} {E : XK} {f : Addr} {k : Nat} (M : Mg mg) (S : Shf P w K mg base C) (c_are_stemmata_of : Cal P w K mg base 9 "are_stemmata_of" (spD C G_are_stemmata_of) []) (c_check_shelf : Cal P w K mg base 2 "check_shelf" (spD C G_check_shelf) []) (hr : Room 9 (A.deeper (PyProof.Rows.envOfC "check_stemmata" (fnScope (top 41)) s.heap.objs.size f cdv))) : PSs (cxOf C8.CX0 P w K mg base N_check_stemmata "check_stemmata" (fnScope (top 41)) f cdv A outer s H E).nox (fnBody (top 41)) (t_check_stemmata C K) :=
  have nd := sc_check_stemmata.nd
  (pss_cons (ps_expr (C8.pe_c c_check_shelf hr (by decide) (by rfl) (pa_cons (pv 0) pa_nil))) (pss_one (ps_if (pt_not (pt_val (C8.pe_c c_are_stemmata_of hr (by decide) (by rfl) (pa_cons (pv 0) (pa_cons (pv 1) pa_nil))))) (pss_one ps_never) pss_nil)))
abbrev N_check_two : List Str := ["shelf", "one", "other"]
theorem sc_check_two : FnScope N_check_two ["shelf", "one", "other"] (fnScope (top 42)) := fnScope_by (by decide +kernel)
def t_check_two (C : Addr) (K : PySem.W.Frag) : TS := (tSeq (tDrop (tCall (spD C G_check_stemma) [] C8.E0 (tCons (tVar 0) (tCons (tVar 1) tNil)))) (tIfS (tNot (tB (tCall (spD C G_is_stemma_of) [] C8.E0 (tCons (tProp C (getSp C "own_copies") [] C8.E0 (tVar 0)) (tCons (tVar 2) tNil))))) tNever tNext))
theorem p_check_two {cdv : Value} {A : Around} {outer : List Env} {s : Shared} {H : Hp} {E : XK} {f : Addr} {k : Nat} (M : Mg mg) (S : Shf P w K mg base C) (c_check_stemma : Cal P w K mg base 9 "check_stemma" (spD C G_check_stemma) []) (c_is_stemma_of : Cal P w K mg base 8 "is_stemma_of" (spD C G_is_stemma_of) []) (hr : Room 9 (A.deeper (PyProof.Rows.envOfC "check_two" (fnScope (top 42)) s.heap.objs.size f cdv))) : PSs (cxOf C8.CX0 P w K mg base N_check_two "check_two" (fnScope (top 42)) f cdv A outer s H E).nox (fnBody (top 42)) (t_check_two C K) :=
  have nd := sc_check_two.nd
  (pss_cons (ps_expr (C8.pe_c c_check_stemma hr (by decide) (by rfl) (pa_cons (pv 0) (pa_cons (pv 1) pa_nil)))) (pss_one (ps_if (pt_not (pt_val (C8.pe_c c_is_stemma_of hr (by decide) (by rfl) (pa_cons (pe_copies S hr (pv 0)) (pa_cons (pv 2) pa_nil))))) (pss_one ps_never) pss_nil)))
abbrev N_lots_in : List Str := ["shelf", "stemmata", "every", "stemma"]
theorem sc_lots_in : FnScope N_lots_in ["shelf", "stemmata"] (fnScope (top 43)) := fnScope_by (by decide +kernel)
def t_lots_in (C : Addr) (K : PySem.W.Frag) : TS := (tSeq (tAsg (tLst tNil) (gName 2)) (tSeq (tFor (iTup K (tVar 1)) (gName 3) (tDrop (tBM K "list" rExtU (tVar 2) (tCons (tVar 3) tNil)))) (tRet (tCall (spD C G_by_size) [] C8.E0 (tCons (tProp C (getSp C "own_copies") [] C8.E0 (tVar 0)) (tCons (tVar 2) tNil))))))
theorem p_lots_in {cdv : Value} {A : Around} {outer : List Env} {s : Shared} {H : Hp} {E : XK} {f : Addr} {k : Nat} (M : Mg mg) (S : Shf P w K mg base C) (c_by_size : Cal P w K mg base 6 "by_size" (spD C G_by_size) []) (hr : Room 6 (A.deeper (PyProof.Rows.envOfC "lots_in" (fnScope (top 43)) s.heap.objs.size f cdv))) : PSs (cxOf C8.CX0 P w K mg base N_lots_in "lots_in" (fnScope (top 43)) f cdv A outer s H E).nox (fnBody (top 43)) (t_lots_in C K) :=
  have nd := sc_lots_in.nd
  (pss_cons (ps_set (i := 2) nd rfl (by first | exact Or.inl rfl | exact Or.inr rfl) (pe_lst pa_nil)) (pss_cons (ps_for PassesOwn.never (by rfl) (pi_tup (pv 1)) (pg_name (i := 3) nd rfl (by first | exact Or.inl rfl | exact Or.inr rfl)) (pss_one (ps_expr (pe_bm PySem.F.plainAttrs_list PySem.F.slot_list_extend PySem.F.type_list_extend mt_extU (pv 2) (pa_cons (pv 3) pa_nil))))) (pss_one (ps_ret (C8.pe_c c_by_size hr (by decide) (by rfl) (pa_cons (pe_copies S hr (pv 0)) (pa_cons (pv 2) pa_nil)))))))
abbrev N_many_of : List Str := ["stemmata", "lot", "stemma"]
theorem sc_many_of : FnScope N_many_of ["stemmata", "lot"] (fnScope (top 44)) := fnScope_by (by decide +kernel)
def t_many_of (C : Addr) (K : PySem.W.Frag) : TS := (tRet (tCB (rLenQ K) (tCons (tLc (iTup K (tVar 0)) (gName 2) (tTest (tOp (rInP K false) (tVar 1) (tVar 2))) (tVar 2) [2]) tNil)))
theorem p_many_of {cdv : Value} {A : Around} {outer : List Env} {s : Shared} {H : Hp} {E : XK} {f : Addr} {k : Nat} (M : Mg mg) (S : Shf P w K mg base C)  (hr : Room 1 (A.deeper (PyProof.Rows.envOfC "many_of" (fnScope (top 44)) s.heap.objs.size f cdv))) : PSs (cxOf C8.CX0 P w K mg base N_many_of "many_of" (fnScope (top 44)) f cdv A outer s H E).nox (fnBody (top 44)) (t_many_of C K) :=
  have nd := sc_many_of.nd
  (pss_one (ps_ret (pe_callB call_len_seq (by rfl) M.b_len bb_len (pa_cons (pe_lc (own := [("stemma", 2)]) (g := (gName 2)) (tt := (tTest (tOp (rInP K false) (tVar 1) (tVar 2)))) (te := (tVar 2)) (by rfl) nd (pi_tup (pv 0)) (blkOk_by (by kernel_rfl)) (fun _ _ _ _ _ => (pg_name (i := 2) nd rfl (by first | exact Or.inl rfl | exact Or.inr rfl))) (fun _ _ _ _ _ => (pts_one (pt_cmpR (op_inP hr.units) (pv 1) (pv 2) (by rfl)))) (fun _ _ _ _ _ => (pv 2))) pa_nil))))
abbrev N_more_than : List Str := ["shelf", "stemmata", "part", "lot"]
theorem sc_more_than : FnScope N_more_than ["shelf", "stemmata", "part"] (fnScope (top 45)) := fnScope_by (by decide +kernel)
def t_more_than (C : Addr) (K : PySem.W.Frag) : TS := (tRet (tLc (iTup K (tCall (spD C G_lots_in) [] C8.E0 (tCons (tVar 0) (tCons (tVar 1) tNil)))) (gName 3) (tTest (tOp (rI0 fun i j => .bl (decide (j < i))) (tOp (rI CMul fun i j => .int (i * j)) (tC (.int 2)) (tCall (spD C G_many_of) [] C8.E0 (tCons (tVar 1) (tCons (tVar 3) tNil)))) (tVar 2))) (tVar 3) [3]))
theorem p_more_than {cdv : Value} {A : Around} {outer : List Env} {s : Shared} {H : Hp} {E : XK} {f : Addr} {k : Nat} (M : Mg mg) (S : Shf P w K mg base C) (c_lots_in : Cal P w K mg base 7 "lots_in" (spD C G_lots_in) []) (c_many_of : Cal P w K mg base 2 "many_of" (spD C G_many_of) []) (hr : Room 7 (A.deeper (PyProof.Rows.envOfC "more_than" (fnScope (top 45)) s.heap.objs.size f cdv))) : PSs (cxOf C8.CX0 P w K mg base N_more_than "more_than" (fnScope (top 45)) f cdv A outer s H E).nox (fnBody (top 45)) (t_more_than C K) :=
  have nd := sc_more_than.nd
  (pss_one (ps_ret (pe_lc (own := [("lot", 3)]) (g := (gName 3)) (tt := (tTest (tOp (rI0 fun i j => .bl (decide (j < i))) (tOp (rI CMul fun i j => .int (i * j)) (tC (.int 2)) (tCall (spD C G_many_of) [] C8.E0 (tCons (tVar 1) (tCons (tVar 3) tNil)))) (tVar 2)))) (te := (tVar 3)) (by rfl) nd (pi_tup (C8.pe_c c_lots_in hr (by decide) (by rfl) (pa_cons (pv 0) (pa_cons (pv 1) pa_nil)))) (blkOk_by (by kernel_rfl)) (fun _ _ _ _ _ => (pg_name (i := 3) nd rfl (by first | exact Or.inl rfl | exact Or.inr rfl))) (fun _ _ _ _ _ => (pts_one (pt_cmpR op_gt (pe_op op_mul pe_int (C8.pe_c c_many_of hr (by decide) (by rfl) (pa_cons (pv 1) (pa_cons (pv 3) pa_nil)))) (pv 2) (nomark _)))) (fun _ _ _ _ _ => (pv 3)))))
abbrev N_majority : List Str := ["shelf", "stemmata"]
theorem sc_majority : FnScope N_majority ["shelf", "stemmata"] (fnScope (top 46)) := fnScope_by (by decide +kernel)
def t_majority (C : Addr) (K : PySem.W.Frag) : TS := (tSeq (tDrop (tCall (spD C G_check_stemmata) [] C8.E0 (tCons (tVar 0) (tCons (tVar 1) tNil)))) (tRet (tCall (spD C G_stemma_of) [] C8.E0 (tCons (tProp C (getSp C "own_copies") [] C8.E0 (tVar 0)) (tCons (tCall (spD C G_more_than) [] C8.E0 (tCons (tVar 0) (tCons (tVar 1) (tCons (tCB (rLenQ K) (tCons (tVar 1) tNil)) tNil)))) tNil)))))
theorem p_majority {cdv : Value} {A : Around} {outer : List Env} {s : Shared} {H : Hp} {E : XK} {f : Addr} {k : Nat} (M : Mg mg) (S : Shf P w K mg base C) (c_check_stemmata : Cal P w K mg base 10 "check_stemmata" (spD C G_check_stemmata) []) (c_more_than : Cal P w K mg base 8 "more_than" (spD C G_more_than) []) (c_stemma_of : Cal P w K mg base 7 "stemma_of" (spD C G_stemma_of) []) (hr : Room 10 (A.deeper (PyProof.Rows.envOfC "majority" (fnScope (top 46)) s.heap.objs.size f cdv))) : PSs (cxOf C8.CX0 P w K mg base N_majority "majority" (fnScope (top 46)) f cdv A outer s H E).nox (fnBody (top 46)) (t_majority C K) :=
  have nd := sc_majority.nd
  (pss_cons (ps_expr (C8.pe_c c_check_stemmata hr (by decide) (by rfl) (pa_cons (pv 0) (pa_cons (pv 1) pa_nil)))) (pss_one (ps_ret (C8.pe_c c_stemma_of hr (by decide) (by rfl) (pa_cons (pe_copies S hr (pv 0)) (pa_cons (C8.pe_c c_more_than hr (by decide) (by rfl) (pa_cons (pv 0) (pa_cons (pv 1) (pa_cons (pe_callB call_len_seq (by rfl) M.b_len bb_len (pa_cons (pv 1) pa_nil)) pa_nil)))) pa_nil))))))
abbrev N_far_of : List Str := ["one", "other", "lot"]
theorem sc_far_of : FnScope N_far_of ["one", "other"] (fnScope (top 47)) := fnScope_by (by decide +kernel)
def t_far_of (C : Addr) (K : PySem.W.Frag) : TS := (tRet (tOp (rI0 fun i j => .int (i + j)) (tCB (rLenQ K) (tCons (tLc (iTup K (tVar 0)) (gName 2) (tTest (tOp (rInP K true) (tVar 2) (tVar 1))) (tVar 2) [2]) tNil)) (tCB (rLenQ K) (tCons (tLc (iTup K (tVar 1)) (gName 2) (tTest (tOp (rInP K true) (tVar 2) (tVar 0))) (tVar 2) [2]) tNil))))
theorem p_far_of {cdv : Value} {A : Around} {outer : List Env} {s : Shared} {H : Hp} {E : XK} {f : Addr} {k : Nat} (M : Mg mg) (S : Shf P w K mg base C)  (hr : Room 1 (A.deeper (PyProof.Rows.envOfC "far_of" (fnScope (top 47)) s.heap.objs.size f cdv))) : PSs (cxOf C8.CX0 P w K mg base N_far_of "far_of" (fnScope (top 47)) f cdv A outer s H E).nox (fnBody (top 47)) (t_far_of C K) :=
  have nd := sc_far_of.nd
  (pss_one (ps_ret (pe_op op_add (pe_callB call_len_seq (by rfl) M.b_len bb_len (pa_cons (pe_lc (own := [("lot", 2)]) (g := (gName 2)) (tt := (tTest (tOp (rInP K true) (tVar 2) (tVar 1)))) (te := (tVar 2)) (by rfl) nd (pi_tup (pv 0)) (blkOk_by (by kernel_rfl)) (fun _ _ _ _ _ => (pg_name (i := 2) nd rfl (by first | exact Or.inl rfl | exact Or.inr rfl))) (fun _ _ _ _ _ => (pts_one (pt_cmpR (op_niP hr.units) (pv 2) (pv 1) (by rfl)))) (fun _ _ _ _ _ => (pv 2))) pa_nil)) (pe_callB call_len_seq (by rfl) M.b_len bb_len (pa_cons (pe_lc (own := [("lot", 2)]) (g := (gName 2)) (tt := (tTest (tOp (rInP K true) (tVar 2) (tVar 0)))) (te := (tVar 2)) (by rfl) nd (pi_tup (pv 1)) (blkOk_by (by kernel_rfl)) (fun _ _ _ _ _ => (pg_name (i := 2) nd rfl (by first | exact Or.inl rfl | exact Or.inr rfl))) (fun _ _ _ _ _ => (pts_one (pt_cmpR (op_niP hr.units) (pv 2) (pv 0) (by rfl)))) (fun _ _ _ _ _ => (pv 2))) pa_nil)))))
abbrev N_far : List Str := ["shelf", "one", "other"]
theorem sc_far : FnScope N_far ["shelf", "one", "other"] (fnScope (top 48)) := fnScope_by (by decide +kernel)
def t_far (C : Addr) (K : PySem.W.Frag) : TS := (tSeq (tDrop (tCall (spD C G_check_two) [] C8.E0 (tCons (tVar 0) (tCons (tVar 1) (tCons (tVar 2) tNil))))) (tRet (tCall (spD C G_far_of) [] C8.E0 (tCons (tVar 1) (tCons (tVar 2) tNil)))))
theorem p_far {cdv : Value} {A : Around} {outer : List Env} {s : Shared} {H : Hp} {E : XK} {f : Addr} {k : Nat} (M : Mg mg) (S : Shf P w K mg base C) (c_check_two : Cal P w K mg base 10 "check_two" (spD C G_check_two) []) (c_far_of : Cal P w K mg base 2 "far_of" (spD C G_far_of) []) (hr : Room 10 (A.deeper (PyProof.Rows.envOfC "far" (fnScope (top 48)) s.heap.objs.size f cdv))) : PSs (cxOf C8.CX0 P w K mg base N_far "far" (fnScope (top 48)) f cdv A outer s H E).nox (fnBody (top 48)) (t_far C K) :=
  have nd := sc_far.nd
  (pss_cons (ps_expr (C8.pe_c c_check_two hr (by decide) (by rfl) (pa_cons (pv 0) (pa_cons (pv 1) (pa_cons (pv 2) pa_nil))))) (pss_one (ps_ret (C8.pe_c c_far_of hr (by decide) (by rfl) (pa_cons (pv 1) (pa_cons (pv 2) pa_nil))))))
abbrev N_least_sum : List Str := ["shelf", "stemmata", "some", "lot", "many"]
theorem sc_least_sum : FnScope N_least_sum ["shelf", "stemmata"] (fnScope (top 49)) := fnScope_by (by decide +kernel)
def t_least_sum (C : Addr) (K : PySem.W.Frag) : TS := (tSeq (tAsg (tLc (iTup K (tCall (spD C G_lots_in) [] C8.E0 (tCons (tVar 0) (tCons (tVar 1) tNil)))) (gName 3) tYes (tCall (spD C G_many_of) [] C8.E0 (tCons (tVar 1) (tCons (tVar 3) tNil))) [3]) (gName 2)) (tRet (tCB (rSum K) (tCons (tLc (iList K (tVar 2)) (gName 4) tYes (tCB rMin2 (tCons (tVar 4) (tCons (tOp (rI0 fun i j => .int (i - j)) (tCB (rLenQ K) (tCons (tVar 1) tNil)) (tVar 4)) tNil))) [4]) tNil))))
theorem p_least_sum {cdv : Value} {A : Around} {outer : List Env} {s : Shared} {H : Hp} {E : XK} {f : Addr} {k : Nat} (M : Mg mg) (S : Shf P w K mg base C) (c_lots_in : Cal P w K mg base 7 "lots_in" (spD C G_lots_in) []) (c_many_of : Cal P w K mg base 2 "many_of" (spD C G_many_of) []) (hr : Room 7 (A.deeper (PyProof.Rows.envOfC "least_sum" (fnScope (top 49)) s.heap.objs.size f cdv))) : PSs (cxOf C8.CX0 P w K mg base N_least_sum "least_sum" (fnScope (top 49)) f cdv A outer s H E).nox (fnBody (top 49)) (t_least_sum C K) :=
  have nd := sc_least_sum.nd
  (pss_cons (ps_setLc (i := 2) (own := [("lot", 3)]) (g := (gName 3)) (tt := tYes) (te := (tCall (spD C G_many_of) [] C8.E0 (tCons (tVar 1) (tCons (tVar 3) tNil)))) (by rfl) nd rfl rfl (sw_true rfl rfl rfl (by decide +kernel)) (pi_tup (C8.pe_c c_lots_in hr (by decide) (by rfl) (pa_cons (pv 0) (pa_cons (pv 1) pa_nil)))) (blkOk_by (by kernel_rfl)) (fun _ _ _ _ _ => (pg_name (i := 3) nd rfl (by first | exact Or.inl rfl | exact Or.inr rfl))) (fun _ _ _ _ _ => pts_nil) (fun _ _ _ _ _ => (C8.pe_c c_many_of hr (by decide) (by rfl) (pa_cons (pv 1) (pa_cons (pv 3) pa_nil))))) (pss_one (ps_ret (pe_callB (cr_sum (by rfl)) (by rfl) M.b_sum bb_sum (pa_cons (pe_lc (own := [("many", 4)]) (g := (gName 4)) (tt := tYes) (te := (tCB rMin2 (tCons (tVar 4) (tCons (tOp (rI0 fun i j => .int (i - j)) (tCB (rLenQ K) (tCons (tVar 1) tNil)) (tVar 4)) tNil)))) (by rfl) nd (pi_list (pv 2)) (blkOk_by (by kernel_rfl)) (fun _ _ _ _ _ => (pg_name (i := 4) nd rfl (by first | exact Or.inl rfl | exact Or.inr rfl))) (fun _ _ _ _ _ => pts_nil) (fun _ _ _ _ _ => (pe_callB (call_min2 (by rfl)) (by rfl) M.b_min bb_min (pa_cons (pv 4) (pa_cons (pe_op op_sub (pe_callB call_len_seq (by rfl) M.b_len bb_len (pa_cons (pv 1) pa_nil)) (pv 4)) pa_nil))))) pa_nil)))))
abbrev N_nearest : List Str := ["shelf", "stemmata"]
theorem sc_nearest : FnScope N_nearest ["shelf", "stemmata"] (fnScope (top 50)) := fnScope_by (by decide +kernel)
def t_nearest (C : Addr) (K : PySem.W.Frag) : TS := (tSeq (tDrop (tCall (spD C G_check_stemmata) [] C8.E0 (tCons (tVar 0) (tCons (tVar 1) tNil)))) (tRet (tTupF (tCons (tCall (spD C G_least_sum) [] C8.E0 (tCons (tVar 0) (tCons (tVar 1) tNil))) (tCons (tCall (spD C G_stemma_of) [] C8.E0 (tCons (tProp C (getSp C "own_copies") [] C8.E0 (tVar 0)) (tCons (tCall (spD C G_more_than) [] C8.E0 (tCons (tVar 0) (tCons (tVar 1) (tCons (tCB (rLenQ K) (tCons (tVar 1) tNil)) tNil)))) tNil))) tNil)))))
theorem p_nearest {cdv : Value} {A : Around} {outer : List Env} {s : Shared} {H : Hp} {E : XK} {f : Addr} {k : Nat} (M : Mg mg) (S : Shf P w K mg base C) (c_check_stemmata : Cal P w K mg base 10 "check_stemmata" (spD C G_check_stemmata) []) (c_least_sum : Cal P w K mg base 8 "least_sum" (spD C G_least_sum) []) (c_more_than : Cal P w K mg base 8 "more_than" (spD C G_more_than) []) (c_stemma_of : Cal P w K mg base 7 "stemma_of" (spD C G_stemma_of) []) (hr : Room 10 (A.deeper (PyProof.Rows.envOfC "nearest" (fnScope (top 50)) s.heap.objs.size f cdv))) : PSs (cxOf C8.CX0 P w K mg base N_nearest "nearest" (fnScope (top 50)) f cdv A outer s H E).nox (fnBody (top 50)) (t_nearest C K) :=
  have nd := sc_nearest.nd
  (pss_cons (ps_expr (C8.pe_c c_check_stemmata hr (by decide) (by rfl) (pa_cons (pv 0) (pa_cons (pv 1) pa_nil)))) (pss_one (ps_ret (pe_tupF (pa_cons (C8.pe_c c_least_sum hr (by decide) (by rfl) (pa_cons (pv 0) (pa_cons (pv 1) pa_nil))) (pa_cons (C8.pe_c c_stemma_of hr (by decide) (by rfl) (pa_cons (pe_copies S hr (pv 0)) (pa_cons (C8.pe_c c_more_than hr (by decide) (by rfl) (pa_cons (pv 0) (pa_cons (pv 1) (pa_cons (pe_callB call_len_seq (by rfl) M.b_len bb_len (pa_cons (pv 1) pa_nil)) pa_nil)))) pa_nil))) pa_nil))))))
abbrev N_shows_nearest : List Str := ["shelf", "stemmata", "value", "least", "stemma"]
theorem sc_shows_nearest : FnScope N_shows_nearest ["shelf", "stemmata", "value"] (fnScope (top 51)) := fnScope_by (by decide +kernel)
def t_shows_nearest (C : Addr) (K : PySem.W.Frag) : TS := (tSeq (tDrop (tCall (spD C G_check_stemmata) [] C8.E0 (tCons (tVar 0) (tCons (tVar 1) tNil)))) (tSeq (tAsg (tCall (spD C G_least_sum) [] C8.E0 (tCons (tVar 0) (tCons (tVar 1) tNil))) (gName 3)) (tSeq (tIfS (tOr (tNot (tB (tCB (rIsi K) (tCons (tVar 2) (tCons (tC (.ty "tuple")) tNil))))) (tOr (tTest (tOp (rEqP K true) (tCB (rLenQ K) (tCons (tVar 2) tNil)) (tC (.int 2)))) (tNot (tB (tCall (spD C G_is_between) [] C8.E0 (tCons (tOp (rIxT K) (tVar 2) (tC (.int 0))) (tCons (tVar 3) (tCons (tVar 3) tNil)))))))) (tRet (tC (.bl false))) tNext) (tSeq (tIfS (tNot (tB (tCall (spD C G_is_stemma_of) [] C8.E0 (tCons (tProp C (getSp C "own_copies") [] C8.E0 (tVar 0)) (tCons (tOp (rIxT K) (tVar 2) (tC (.int 1))) tNil))))) (tRet (tC (.bl false))) tNext) (tRet (tOp (rEqP K false) (tCB (rSum K) (tCons (tLc (iTup K (tVar 1)) (gName 4) tYes (tCall (spD C G_far_of) [] C8.E0 (tCons (tVar 4) (tCons (tOp (rIxT K) (tVar 2) (tC (.int 1))) tNil))) [4]) tNil)) (tVar 3)))))))
theorem p_shows_nearest {cdv : Value} {A : Around} {outer : List Env} {s : Shared} {H : Hp} {E : XK} {f : Addr} {k : Nat} (M : Mg mg) (S : Shf P w K mg base C) (c_check_stemmata : Cal P w K mg base 10 "check_stemmata" (spD C G_check_stemmata) []) (c_far_of : Cal P w K mg base 2 "far_of" (spD C G_far_of) []) (c_is_between : Cal P w K mg base 3 "is_between" (spD C G_is_between) []) (c_is_stemma_of : Cal P w K mg base 8 "is_stemma_of" (spD C G_is_stemma_of) []) (c_least_sum : Cal P w K mg base 8 "least_sum" (spD C G_least_sum) []) (hr : Room 10 (A.deeper (PyProof.Rows.envOfC "shows_nearest" (fnScope (top 51)) s.heap.objs.size f cdv))) : PSs (cxOf C8.CX0 P w K mg base N_shows_nearest "shows_nearest" (fnScope (top 51)) f cdv A outer s H E).nox (fnBody (top 51)) (t_shows_nearest C K) :=
  have nd := sc_shows_nearest.nd
  (pss_cons (ps_expr (C8.pe_c c_check_stemmata hr (by decide) (by rfl) (pa_cons (pv 0) (pa_cons (pv 1) pa_nil)))) (pss_cons (ps_set (i := 3) nd rfl (by first | exact Or.inl rfl | exact Or.inr rfl) (C8.pe_c c_least_sum hr (by decide) (by rfl) (pa_cons (pv 0) (pa_cons (pv 1) pa_nil)))) (pss_cons (ps_if ((pw_or (pt_not (pt_val (pe_callB call_isi (by rfl) M.b_isinstance bb_isinstance (pa_cons (pv 2) (pa_cons (pe_bltn (by rfl) M.b_tuple bb_tuple (by rfl)) pa_nil))))) (pw_or (pt_cmpR (op_neP hr.units) (pe_callB call_len_seq (by rfl) M.b_len bb_len (pa_cons (pv 2) pa_nil)) pe_int (nomark _)) (pw_or1 (pt_not (pt_val (C8.pe_c c_is_between hr (by decide) (by rfl) (pa_cons (pe_ix ix_tup (pv 2) pe_int (by intro _ _; rfl)) (pa_cons (pv 3) (pa_cons (pv 3) pa_nil)))))))))).pt (pss_one (ps_ret pe_bl)) pss_nil) (pss_cons (ps_if (pt_not (pt_val (C8.pe_c c_is_stemma_of hr (by decide) (by rfl) (pa_cons (pe_copies S hr (pv 0)) (pa_cons (pe_ix ix_tup (pv 2) pe_int (by intro _ _; rfl)) pa_nil))))) (pss_one (ps_ret pe_bl)) pss_nil) (pss_one (ps_ret (pe_cmpR (op_eqP hr.units) (pe_callB (cr_sum (by rfl)) (by rfl) M.b_sum bb_sum (pa_cons (pe_lc (own := [("stemma", 4)]) (g := (gName 4)) (tt := tYes) (te := (tCall (spD C G_far_of) [] C8.E0 (tCons (tVar 4) (tCons (tOp (rIxT K) (tVar 2) (tC (.int 1))) tNil)))) (by rfl) nd (pi_tup (pv 1)) (blkOk_by (by kernel_rfl)) (fun _ _ _ _ _ => (pg_name (i := 4) nd rfl (by first | exact Or.inl rfl | exact Or.inr rfl))) (fun _ _ _ _ _ => pts_nil) (fun _ _ _ _ _ => (C8.pe_c c_far_of hr (by decide) (by rfl) (pa_cons (pv 4) (pa_cons (pe_ix ix_tup (pv 2) pe_int (by intro _ _; rfl)) pa_nil))))) pa_nil)) (pv 3) (nomark _))))))))
theorem es_check_stemmata {ds : List PyData} {R : PyData → Prop} (h : G_check_stemmata ds R) : ES C (t_check_stemmata C K) (startE N_check_stemmata ds) (fun _ => R .none) fun d _ => R d := by
  obtain ⟨s, vs, rfl, hw, rfl⟩ := h
  refine es_seq1 (es_drop (ed_call (α := Unit) (ea_cons (α := Sh) (ed_var (α := Sh) (i := 0) rfl) ea_nil) ⟨_, rfl, rfl⟩)) ?_
  refine es_never (et_not (et_B (ed_call (α := Bool) (ea_cons (α := Sh) (ed_var (α := Sh) (i := 0) rfl) (ea_cons (α := (Tup (Tup (Tup Str)))) (ed_var (α := (Tup (Tup (Tup Str)))) (i := 1) rfl) ea_nil)) ⟨_, _, rfl, ?_, rfl⟩))) ?_ rfl
  · exact hw.len
  · rw [hw.ok]; rfl
theorem es_check_two {ds : List PyData} {R : PyData → Prop} (h : G_check_two ds R) : ES C (t_check_two C K) (startE N_check_two ds) (fun _ => R .none) fun d _ => R d := by
  obtain ⟨s, a, b, rfl, ⟨h1, h2, h3, h4⟩, rfl⟩ := h
  refine es_seq1 (es_drop (ed_call (α := Unit) (ea_cons (α := Sh) (ed_var (α := Sh) (i := 0) rfl) (ea_cons (α := (Tup (Tup Str))) (ed_var (α := (Tup (Tup Str))) (i := 1) rfl) ea_nil)) ⟨_, _, rfl, ?_, rfl⟩)) ?_
  · exact ⟨h1, h3⟩
  refine es_never (et_not (et_B (ed_call (α := Bool) (ea_cons (α := (Tup Str)) (ed_copies (ed_var (α := Sh) (i := 0) rfl)) (ea_cons (α := (Tup (Tup Str))) (ed_var (α := (Tup (Tup Str))) (i := 2) rfl) ea_nil)) ⟨_, _, rfl, ?_, rfl⟩))) ?_ rfl
  · exact h2
  · rw [h4]; rfl
theorem es_lots_in {ds : List PyData} {R : PyData → Prop} (h : G_lots_in ds R) : ES C (t_lots_in C K) (startE N_lots_in ds) (fun _ => R .none) fun d _ => R d := by
  obtain ⟨s, vs, rfl, hw, rfl⟩ := h
  refine es_seq1 (es_setF (α := (Tup Str)) (i := 2) (by decide) (ef_lst (α := (Tup Str)) (as := []) ea_nil (show 0 ≤ 4096 by decide))) ?_
  refine es_seq (N1 := fun e' => ∃ x, e' = [.dat (Rep.toD s), .dat (Rep.toD vs), .own (LstT C ((allLots vs).map Rep.toD)), x]) (es_for (xs := vs.items) (enc := fun v => [(3, Rep.toD v)]) (fun i e' => ∃ x, e' = [.dat (Rep.toD s), .dat (Rep.toD vs), .own (LstT C (((vs.items.take i).flatMap fun v => v.items).map Rep.toD)), x] ∧ isVal (some x) = true)
    (src_tup (α := (Tup (Tup Str))) (ED.eu (K := K) (ed_var (α := (Tup (Tup (Tup Str)))) (i := 1) rfl))) ⟨.emp, rfl, rfl⟩ (fun i v e' hi I => ?_) (fun v b hb => ?_) fun e' I => ?_) fun e' n => ?_
  · obtain ⟨x, rfl, hx⟩ := I
    refine ⟨fun b hb => by rw [List.mem_singleton.mp hb]; exact hx, es_dropG (eg_extU (i := 2) (ds := ((vs.items.take i).flatMap fun v => v.items).map Rep.toD) rfl (ed_var (α := (Tup (Tup Str))) (i := 3) rfl) ?_) fun _ e' p => ⟨.dat (Rep.toD v), p.trans ?_, rfl⟩⟩
    · rw [List.length_map]
      have h1 : (allLots vs).length = ((vs.items.take i).flatMap fun v => v.items).length + ((vs.items.drop i).flatMap fun v => v.items).length := by
        rw [← List.length_append, ← List.flatMap_append, List.take_append_drop]
      rw [drop_at hi, List.flatMap_cons, List.length_append] at h1
      have := hw.tot
      omega
    · rw [List.take_add_one, hi, List.flatMap_append, List.map_append, Option.toList_some, List.flatMap_singleton]
      rfl
  · rw [List.mem_singleton.mp hb]; exact (by decide : (3 : Nat) ≠ 0)
  · obtain ⟨x, rfl, hx⟩ := I
    rw [List.take_length]
    exact ⟨x, rfl⟩
  · obtain ⟨x, rfl⟩ := n
    refine es_ret (α := Stemma) (ed_call0 (α := (Tup (Tup Str))) (ea0_cons (α := (Tup Str)) (ed_copies (ed_var (α := Sh) (i := 0) rfl)) (ea0_own (i := 2) rfl (EA.ea0 ea_nil))) ⟨_, _, rfl, ?_, rfl⟩ (noL _)) rfl
    · exact hw.within
theorem es_many_of {ds : List PyData} {R : PyData → Prop} (h : G_many_of ds R) : ES C (t_many_of C K) (startE N_many_of ds) (fun _ => R .none) fun d _ => R d := by
  obtain ⟨a, b, rfl, rfl⟩ := h
  exact es_ret (α := Int) (ed_len_l (K := K) (EF.el (pb := true) (ef_filter (src_tup (α := (Tup (Tup Str))) (ED.eu (K := K) (ed_var (α := (Tup (Tup (Tup Str)))) (i := 0) rfl))) (fun x hx => (et_test (ed_inU (ED.er (K := K) (ed_var (α := (Tup Str)) (i := 1) rfl)) (ED.eu (K := K) (ed_var (α := (Tup (Tup Str))) (i := 2) rfl)))))))) rfl
theorem es_more_than {ds : List PyData} {R : PyData → Prop} (h : G_more_than ds R) : ES C (t_more_than C K) (startE N_more_than ds) (fun _ => R .none) fun d _ => R d := by
  obtain ⟨s, vs, part, rfl, hw, rfl⟩ := h
  refine es_ret (α := List Lot) (EF.ed (ef_filter (src_tup (α := (Tup Str)) (ED.eu (K := K) (ed_call (α := (Tup (Tup Str))) (ea_cons (α := Sh) (ed_var (α := Sh) (i := 0) rfl) (ea_cons (α := (Tup (Tup (Tup Str)))) (ed_var (α := (Tup (Tup (Tup Str)))) (i := 1) rfl) ea_nil)) ⟨_, _, rfl, ?_, rfl⟩))) (fun x hx => (et_test (ed_op (α := Int) (β := Int) (γ := Bool) (ed_op (α := Int) (β := Int) (γ := Int) (ed_int (i := 2)) (ed_call (α := Int) (ea_cons (α := (Tup (Tup (Tup Str)))) (ed_var (α := (Tup (Tup (Tup Str)))) (i := 1) rfl) (ea_cons (α := (Tup Str)) (ed_var (α := (Tup Str)) (i := 3) rfl) ea_nil)) ⟨_, _, rfl, rfl⟩) (rd_mul (Or.inl ⟨by decide, by decide⟩))) (ed_var (α := Int) (i := 2) rfl) rd_cmp))))) rfl
  · exact hw
theorem es_majority {ds : List PyData} {R : PyData → Prop} (h : G_majority ds R) : ES C (t_majority C K) (startE N_majority ds) (fun _ => R .none) fun d _ => R d := by
  obtain ⟨s, vs, rfl, hw, rfl⟩ := h
  refine es_seq1 (es_drop (ed_call (α := Unit) (ea_cons (α := Sh) (ed_var (α := Sh) (i := 0) rfl) (ea_cons (α := (Tup (Tup (Tup Str)))) (ed_var (α := (Tup (Tup (Tup Str)))) (i := 1) rfl) ea_nil)) ⟨_, _, rfl, ?_, rfl⟩)) ?_
  · exact hw
  refine es_ret (α := Stemma) (ed_call (α := (Tup (Tup Str))) (ea_cons (α := (Tup Str)) (ed_copies (ed_var (α := Sh) (i := 0) rfl)) (ea_cons (α := (Sq (Tup Str))) (ED.sqL (α := (Tup Str)) (ed_call (α := (List (Tup Str))) (ea_cons (α := Sh) (ed_var (α := Sh) (i := 0) rfl) (ea_cons (α := (Tup (Tup (Tup Str)))) (ed_var (α := (Tup (Tup (Tup Str)))) (i := 1) rfl) (ea_cons (α := Int) (ed_len_u (ED.eu (K := K) (ed_var (α := (Tup (Tup (Tup Str)))) (i := 1) rfl))) ea_nil))) ⟨_, _, _, rfl, ?_, rfl⟩)) ea_nil)) ⟨_, _, rfl, ?_, rfl⟩) rfl
  · exact hw
  · exact ⟨hw.moreWithin _, Nat.lt_of_le_of_lt (moreLen ..) hw.tot⟩
theorem es_far_of {ds : List PyData} {R : PyData → Prop} (h : G_far_of ds R) : ES C (t_far_of C K) (startE N_far_of ds) (fun _ => R .none) fun d _ => R d := by
  obtain ⟨a, b, rfl, rfl⟩ := h
  exact es_ret (α := Int) (ed_op (α := Int) (β := Int) (γ := Int) (ed_len_l (K := K) (EF.el (pb := true) (ef_filter (src_tup (α := (Tup Str)) (ED.eu (K := K) (ed_var (α := (Tup (Tup Str))) (i := 0) rfl))) (fun x hx => (et_test (ed_niU (ED.er (K := K) (ed_var (α := (Tup Str)) (i := 2) rfl)) (ED.eu (K := K) (ed_var (α := (Tup (Tup Str))) (i := 1) rfl)))))))) (ed_len_l (K := K) (EF.el (pb := true) (ef_filter (src_tup (α := (Tup Str)) (ED.eu (K := K) (ed_var (α := (Tup (Tup Str))) (i := 1) rfl))) (fun x hx => (et_test (ed_niU (ED.er (K := K) (ed_var (α := (Tup Str)) (i := 2) rfl)) (ED.eu (K := K) (ed_var (α := (Tup (Tup Str))) (i := 0) rfl)))))))) rd_add) rfl
theorem es_far {ds : List PyData} {R : PyData → Prop} (h : G_far ds R) : ES C (t_far C K) (startE N_far ds) (fun _ => R .none) fun d _ => R d := by
  obtain ⟨s, a, b, rfl, hp, rfl⟩ := h
  refine es_seq1 (es_drop (ed_call (α := Unit) (ea_cons (α := Sh) (ed_var (α := Sh) (i := 0) rfl) (ea_cons (α := (Tup (Tup Str))) (ed_var (α := (Tup (Tup Str))) (i := 1) rfl) (ea_cons (α := (Tup (Tup Str))) (ed_var (α := (Tup (Tup Str))) (i := 2) rfl) ea_nil))) ⟨_, _, _, rfl, ?_, rfl⟩)) ?_
  · exact hp
  exact es_ret (α := Int) (ed_call (α := Int) (ea_cons (α := (Tup (Tup Str))) (ed_var (α := (Tup (Tup Str))) (i := 1) rfl) (ea_cons (α := (Tup (Tup Str))) (ed_var (α := (Tup (Tup Str))) (i := 2) rfl) ea_nil)) ⟨_, _, rfl, rfl⟩) rfl
theorem es_least_sum {ds : List PyData} {R : PyData → Prop} (h : G_least_sum ds R) : ES C (t_least_sum C K) (startE N_least_sum ds) (fun _ => R .none) fun d _ => R d := by
  obtain ⟨s, vs, rfl, hw, rfl⟩ := h
  refine es_seq1 (es_set (α := (List Int)) (i := 2) (by decide) (EF.ed (ef_map (β := Int) (src_tup (α := (Tup Str)) (ED.eu (K := K) (ed_call (α := (Tup (Tup Str))) (ea_cons (α := Sh) (ed_var (α := Sh) (i := 0) rfl) (ea_cons (α := (Tup (Tup (Tup Str)))) (ed_var (α := (Tup (Tup (Tup Str)))) (i := 1) rfl) ea_nil)) ⟨_, _, rfl, ?_, rfl⟩))) (fun x hx => (ed_call (α := Int) (ea_cons (α := (Tup (Tup (Tup Str)))) (ed_var (α := (Tup (Tup (Tup Str)))) (i := 1) rfl) (ea_cons (α := (Tup Str)) (ed_var (α := (Tup Str)) (i := 3) rfl) ea_nil)) ⟨_, _, rfl, rfl⟩))))) ?_
  · exact hw
  exact es_ret (α := Int) (ed_sum (EF.el (pb := true) (ef_map (β := Int) (src_list (α := Int) (ED.el (ed_var (α := (List Int)) (i := 2) rfl))) (fun x hx => (ed_min2 (ed_var (α := Int) (i := 4) rfl) (ed_op (α := Int) (β := Int) (γ := Int) (ed_len_u (ED.eu (K := K) (ed_var (α := (Tup (Tup (Tup Str)))) (i := 1) rfl))) (ed_var (α := Int) (i := 4) rfl) rd_sub)))))) rfl
theorem es_nearest {ds : List PyData} {R : PyData → Prop} (h : G_nearest ds R) : ES C (t_nearest C K) (startE N_nearest ds) (fun _ => R .none) fun d _ => R d := by
  obtain ⟨s, vs, rfl, hw, rfl⟩ := h
  refine es_seq1 (es_drop (ed_call (α := Unit) (ea_cons (α := Sh) (ed_var (α := Sh) (i := 0) rfl) (ea_cons (α := (Tup (Tup (Tup Str)))) (ed_var (α := (Tup (Tup (Tup Str)))) (i := 1) rfl) ea_nil)) ⟨_, _, rfl, ?_, rfl⟩)) ?_
  · exact hw
  refine es_ret (α := Int × Stemma) (ed_pair (α := Int) (β := (Tup (Tup Str))) (ed_call (α := Int) (ea_cons (α := Sh) (ed_var (α := Sh) (i := 0) rfl) (ea_cons (α := (Tup (Tup (Tup Str)))) (ed_var (α := (Tup (Tup (Tup Str)))) (i := 1) rfl) ea_nil)) ⟨_, _, rfl, ?_, rfl⟩) (ed_call (α := (Tup (Tup Str))) (ea_cons (α := (Tup Str)) (ed_copies (ed_var (α := Sh) (i := 0) rfl)) (ea_cons (α := (Sq (Tup Str))) (ED.sqL (α := (Tup Str)) (ed_call (α := (List (Tup Str))) (ea_cons (α := Sh) (ed_var (α := Sh) (i := 0) rfl) (ea_cons (α := (Tup (Tup (Tup Str)))) (ed_var (α := (Tup (Tup (Tup Str)))) (i := 1) rfl) (ea_cons (α := Int) (ed_len_u (ED.eu (K := K) (ed_var (α := (Tup (Tup (Tup Str)))) (i := 1) rfl))) ea_nil))) ⟨_, _, _, rfl, ?_, rfl⟩)) ea_nil)) ⟨_, _, rfl, ?_, rfl⟩)) rfl
  · exact hw
  · exact hw
  · exact ⟨hw.moreWithin _, Nat.lt_of_le_of_lt (moreLen ..) hw.tot⟩
theorem es_shows_nearest {ds : List PyData} {R : PyData → Prop} (h : G_shows_nearest ds R) : ES C (t_shows_nearest C K) (startE N_shows_nearest ds) (fun _ => R .none) fun d _ => R d := by
  obtain ⟨s, vs, p, rfl, ⟨hw, hl⟩, rfl⟩ := h
  refine es_seq1 (es_drop (ed_call (α := Unit) (ea_cons (α := Sh) (ed_var (α := Sh) (i := 0) rfl) (ea_cons (α := (Tup (Tup (Tup Str)))) (ed_var (α := (Tup (Tup (Tup Str)))) (i := 1) rfl) ea_nil)) ⟨_, _, rfl, ?_, rfl⟩)) ?_
  · exact hw
  refine es_seq1 (es_set (α := Int) (i := 3) (by decide) (ed_call (α := Int) (ea_cons (α := Sh) (ed_var (α := Sh) (i := 0) rfl) (ea_cons (α := (Tup (Tup (Tup Str)))) (ed_var (α := (Tup (Tup (Tup Str)))) (i := 1) rfl) ea_nil)) ⟨_, _, rfl, ?_, rfl⟩)) ?_
  · exact hw
  refine es_guard (et_or (et_not (et_B (ed_isi (α := (Int × (Tup (Tup Str)))) (b := true) (ed_var (α := (Int × (Tup (Tup Str)))) (i := 2) rfl) rfl (kit_ty (by decide +kernel))))) (fun h_ => (et_or (et_test (ed_ne (ED.er (K := K) (ed_len_p (α := Int) (β := (Tup (Tup Str))) (ed_var (α := (Int × (Tup (Tup Str)))) (i := 2) rfl))) (ED.er (K := K) (ed_int (i := 2))))) (fun h_ => (et_not (et_B (ed_call (α := Bool) (ea_cons (α := Int) (ed_fst (α := Int) (β := (Tup (Tup Str))) (ed_var (α := (Int × (Tup (Tup Str)))) (i := 2) rfl)) (ea_cons (α := Int) (ed_var (α := Int) (i := 3) rfl) (ea_cons (α := Int) (ed_var (α := Int) (i := 3) rfl) ea_nil))) ⟨_, _, _, rfl, rfl⟩))))))) (fun h => ?_) fun h => ?_
  · refine es_ret (α := Bool) (ed_bl (b := false)) ?_
    have hb : mIsBetween p.1 (mLeast s vs) (mLeast s vs) = false := by simpa using h
    rw [between_one] at hb
    show Rep.toD false = Rep.toD (mShows s vs p)
    unfold mShows
    rw [hb]
    rfl
  have hb : mIsBetween p.1 (mLeast s vs) (mLeast s vs) = true := by simpa using h
  rw [between_one] at hb
  refine es_guard (et_not (et_B (ed_call (α := Bool) (ea_cons (α := (Tup Str)) (ed_copies (ed_var (α := Sh) (i := 0) rfl)) (ea_cons (α := (Tup (Tup Str))) (ed_snd (α := Int) (β := (Tup (Tup Str))) (ed_var (α := (Int × (Tup (Tup Str)))) (i := 2) rfl)) ea_nil)) ⟨_, _, rfl, ?_, rfl⟩))) (fun h => ?_) fun h => ?_
  · exact hl
  · refine es_ret (α := Bool) (ed_bl (b := false)) ?_
    have h2 : mIsStemma s.copies p.2 = false := by simpa using h
    show Rep.toD false = Rep.toD (mShows s vs p)
    unfold mShows
    rw [hb, h2]
    rfl
  · refine es_ret (α := Bool) (ed_eq (ED.er (K := K) (ed_sum (EF.el (pb := true) (ef_map (β := Int) (src_tup (α := (Tup (Tup Str))) (ED.eu (K := K) (ed_var (α := (Tup (Tup (Tup Str)))) (i := 1) rfl))) (fun x hx => (ed_call (α := Int) (ea_cons (α := (Tup (Tup Str))) (ed_var (α := (Tup (Tup Str))) (i := 4) rfl) (ea_cons (α := (Tup (Tup Str))) (ed_snd (α := Int) (β := (Tup (Tup Str))) (ed_var (α := (Int × (Tup (Tup Str)))) (i := 2) rfl)) ea_nil)) ⟨_, _, rfl, rfl⟩)))))) (ED.er (K := K) (ed_var (α := Int) (i := 3) rfl))) ?_
    have h2 : mIsStemma s.copies p.2 = true := by simpa using h
    show Rep.toD (decide ((vs.items.map fun v => mFarOf v p.2).sum = mLeast s vs)) = Rep.toD (mShows s vs p)
    unfold mShows
    rw [hb, h2]
    rfl
end
end PD
end
section
set_option Elab.async false
set_option linter.all false
set_option maxRecDepth 100000
set_option maxHeartbeats 4000000
set_option autoImplicit false
namespace PD
open PySem L2
open PySem.W (Datum Tup)
open C8 (Cal fnScope fnBody fnScope_by)
variable [Tabl]

/-! ### what the law's defs tell -/
abbrev Line := Int × Tup Int
def lineOf (c l : Lot) : Line := (0 - (l.items.length : Int), ⟨sortD (l.items.map fun x => ((c.items.idxOf x : Nat) : Int))⟩)
def linesOf (c : Lot) (ls : List Lot) : List Line := ((ls ++ [c]).filter long).map (lineOf c)
def nameAt (c : Lot) (i : Int) : Str := c.items.getD i.toNat ""
def mTold (c : Lot) (ls : List Lot) : Stemma := ⟨(sortD (uniq (linesOf c ls))).map fun p => ⟨p.2.items.map (nameAt c)⟩⟩
def mStanding (vs : Stemmata) : List Lot := vs.items.foldl (fun found v => found ++ v.items.filter fun l => decide (¬ l ∈ found)) []
abbrev G_law_told : Gd := G2p (fun (c : Lot) (ls : Sq Lot) => c.items.Nodup ∧ Within c ls.items ∧ ls.items.length < 63) fun c ls => mTold c ls.items
abbrev G__law_told := G_law_told
abbrev G__law_clash : Gd := G2 mClash
abbrev G__law_standing : Gd := G1p (fun (vs : Stemmata) => (allLots vs).length < 4096) mStanding
def spots (c : Lot) : List (Str × Int) := (nums c.items).map fun x => (x.2, (x.1 : Int))
theorem spot_ix {c : Lot} (hn : c.items.Nodup) {x : Str} (hx : x ∈ c.items) : valV (spotsOf (spots c)) (.inr x) = some (.int ((c.items.idxOf x : Nat) : Int)) := by
  have key : ∀ (xs : List Str) (k : Nat) (acc : List (Key × V)), xs.Nodup → (∀ y ∈ xs, valV acc (.inr y) = none) → ∀ y, valV (mergeK acc (((xs.zipIdx k).map fun p => (p.1, ((p.2 : Nat) : Int))).map spotRow)) (.inr y) = if y ∈ xs then some (.int ((k + xs.idxOf y : Nat) : Int)) else valV acc (.inr y) := by
    intro xs
    induction xs with
    | nil => intro k acc _ _ y; rw [if_neg (by simp)]; rfl
    | cons z xs ih =>
      intro k acc hn ha y
      have hn' := List.nodup_cons.mp hn
      have e : mergeK acc ((((z :: xs).zipIdx k).map fun p => (p.1, ((p.2 : Nat) : Int))).map spotRow) = mergeK (putK acc (.inr z) (.int (k : Int))) (((xs.zipIdx (k + 1)).map fun p => (p.1, ((p.2 : Nat) : Int))).map spotRow) := rfl
      rw [e, ih (k + 1) _ hn'.2 (fun w hw => by
        rw [valV_put, if_neg (fun q => hn'.1 (by injection q with q; rw [← q]; exact hw))]
        exact ha w (List.mem_cons_of_mem _ hw))]
      by_cases hy : y = z
      · subst hy
        rw [if_neg hn'.1, if_pos List.mem_cons_self, valV_put, if_pos rfl, List.idxOf_cons_self, Nat.add_zero]
      · by_cases hm : y ∈ xs
        · rw [if_pos hm, if_pos (List.mem_cons_of_mem _ hm), List.idxOf_cons, beq_eq_false_iff_ne.mpr (fun q => hy q.symm), cond_false]
          congr 3
          omega
        · rw [if_neg hm, if_neg (fun q => (List.mem_cons.mp q).elim hy hm), valV_put, if_neg (fun q => hy (by injection q))]
  have h := key c.items 0 [] hn (fun y _ => rfl) x
  rw [if_pos hx, Nat.zero_add] at h
  rw [← h]
  unfold spotsOf spots nums
  rw [List.map_map, List.map_map, List.map_map]
  rfl
theorem line_mem {c : Lot} {ls : List Lot} (hw : Within c ls) {p : Line} (h : p ∈ sortD (uniq (linesOf c ls))) {x : Int} (hx : x ∈ p.2.items) : ∃ y ∈ c.items, x = ((c.items.idxOf y : Nat) : Int) := by
  have h1 := (mem_uniq _).mp ((sortD_perm _).mem_iff.mp h)
  obtain ⟨l, hl, rfl⟩ := List.mem_map.mp h1
  have hx' := (sortD_perm _).mem_iff.mp (show x ∈ sortD (l.items.map fun x => ((c.items.idxOf x : Nat) : Int)) from hx)
  obtain ⟨y, hy, rfl⟩ := List.mem_map.mp hx'
  refine ⟨y, ?_, rfl⟩
  rcases List.mem_append.mp (List.mem_filter.mp hl).1 with z | z
  · exact hw l z y hy
  · rw [List.mem_singleton.mp z] at hy
    exact hy
theorem line_ix {c : Lot} {ls : List Lot} (hw : Within c ls) {p : Line} (h : p ∈ sortD (uniq (linesOf c ls))) {x : Int} (hx : x ∈ p.2.items) : atI c.items x = some (nameAt c x) := by
  obtain ⟨y, hy, rfl⟩ := line_mem hw h hx
  have hlt := List.idxOf_lt_length_of_mem hy
  unfold atI nameAt ixN
  rw [if_pos (by omega), if_pos (by omega)]
  show c.items[(((c.items.idxOf y : Nat) : Int)).toNat]? = _
  rw [Int.toNat_natCast, List.getD_eq_getElem?_getD, List.getElem?_eq_getElem hlt]
  rfl
theorem nums_num : ∀ xs : List Int, numKs (nks (xs.map fun x => Rep.toD x)) = true
  | [] => rfl
  | x :: xs => nums_num xs
theorem line_num (a : Line) : numK (nk (Rep.toD a)) = true := by
  show (true && (numKs (nks (a.2.items.map fun x => Rep.toD x)) && true)) = true
  rw [nums_num]
  rfl
section
variable {P : Program} {w : World} {K : PySem.W.Frag} {mg : Str → Option Value} {base : Heap} {C : Addr}
abbrev N__law_told : List Str := ["copies", "lots", "spots", "lines", "at", "copy", "lot", "size", "line"]
theorem sc__law_told : FnScope N__law_told ["copies", "lots"] (fnScope (top 61)) := fnScope_by (by decide +kernel)
def t__law_told (C : Addr) (P : Program) (w : World) (K : PySem.W.Frag) : TS := (tSeq (tAsg (tTupF (tCons (tCB (rDictS K) (tCons (tLc (iEnumT K (tCons (tVar 0) tNil)) (gTup K 2 (gCons (gName 4) (gCons (gName 5) gNil))) tYes (tTupF (tCons (tVar 5) (tCons (tVar 4) tNil))) [4, 5]) tNil)) (tCons (tLst tNil) tNil))) (gTup K 2 (gCons (gName 2) (gCons (gName 3) gNil)))) (tSeq (tFor (iList K (tOp rCat (tCB (rListQ K) (tCons (tVar 1) tNil)) (tLst (tCons (tVar 0) tNil)))) (gName 6) (tIfS (tTest (tOp (rI0 fun i j => .bl (decide (j < i))) (tCB (rLenQ K) (tCons (tVar 6) tNil)) (tC (.int 1)))) (tDrop (tBM K "list" rAppend (tVar 3) (tCons (tTupF (tCons (tOp (rI0 fun i j => .int (i - j)) (tC (.int 0)) (tCB (rLenQ K) (tCons (tVar 6) tNil))) (tCons (tCB (rTupF K) (tCons (tCB (rSortD K Int) (tCons (tLc (iTup K (tVar 6)) (gName 5) tYes (tDGet (tVar 2) (tVar 5)) [5]) tNil)) tNil)) tNil))) tNil))) tNext)) (tRet (tCB (rTupF K) (tCons (tLc (iList K (tCB (rSortN K P w (Int × (Tup Int))) (tCons (tCB (rSetN K P w) (tCons (tVar 3) tNil)) tNil))) (gTup K 2 (gCons (gName 7) (gCons (gName 8) gNil))) tYes (tCB (rTupF K) (tCons (tLc (iTup K (tVar 8)) (gName 4) tYes (tOp (rIxT K) (tVar 0) (tVar 4)) [4]) tNil)) [7, 8]) tNil)))))
theorem p__law_told {cdv : Value} {A : Around} {outer : List Env} {s : Shared} {H : Hp} {E : XK} {f : Addr} {k : Nat} (M : Mg mg) (S : Shf P w K mg base C)  (hr : Room 1 (A.deeper (PyProof.Rows.envOfC "_law_told" (fnScope (top 61)) s.heap.objs.size f cdv))) : PSs (cxOf C8.CX0 P w K mg base N__law_told "_law_told" (fnScope (top 61)) f cdv A outer s H E).nox (fnBody (top 61)) (t__law_told C P w K) :=
  have nd := sc__law_told.nd
  (pss_cons (ps_asg (pe_tupF (pa_cons (pe_callTy (call_dictP (by rfl)) (by rfl) M.b_dict bb_dict (pa_cons (pe_lc (own := [("at", 4), ("copy", 5)]) (g := (gTup K 2 (gCons (gName 4) (gCons (gName 5) gNil)))) (tt := tYes) (te := (tTupF (tCons (tVar 5) (tCons (tVar 4) tNil)))) (by rfl) nd (pi_enumT (by rfl) M.b_enumerate (pa_cons (pv 0) pa_nil)) (blkOk_by (by kernel_rfl)) (fun _ _ _ _ _ => (pg_pair2 (i := 4) (j := 5) (by rfl) nd rfl rfl (by first | exact Or.inl rfl | exact Or.inr rfl) (by first | exact Or.inl rfl | exact Or.inr rfl))) (fun _ _ _ _ _ => pts_nil) (fun _ _ _ _ _ => (pe_tupF (pa_cons (pv 5) (pa_cons (pv 4) pa_nil))))) pa_nil)) (pa_cons (pe_lst pa_nil) pa_nil))) (pg_pair2 (i := 2) (j := 3) (by rfl) nd rfl rfl (by first | exact Or.inl rfl | exact Or.inr rfl) (by first | exact Or.inl rfl | exact Or.inr rfl)) (by rfl) (by kernel_rfl)) (pss_cons (ps_for PassesOwn.never (by rfl) (pi_list (pe_op op_cat (pe_callTy call_list_of (by rfl) M.b_list bb_list (pa_cons (pv 1) pa_nil)) (pe_lst (pa_cons (pv 0) pa_nil)))) (pg_name (i := 6) nd rfl (by first | exact Or.inl rfl | exact Or.inr rfl)) (pss_one (ps_if (pt_cmpR op_gt (pe_callB call_len_seq (by rfl) M.b_len bb_len (pa_cons (pv 6) pa_nil)) pe_int (nomark _)) (pss_one (ps_expr (pe_bm PySem.F.plainAttrs_list PySem.F.slot_list_append PySem.F.type_list_append mt_append (pv 3) (pa_cons (pe_tupF (pa_cons (pe_op op_sub pe_int (pe_callB call_len_seq (by rfl) M.b_len bb_len (pa_cons (pv 6) pa_nil))) (pa_cons (pe_callTy cr_tupF (by rfl) M.b_tuple bb_tuple (pa_cons (pe_callB (cr_sortD (α := Int) (by decide) hr.units) (by rfl) M.b_sorted bb_sorted (pa_cons (pe_lc (own := [("copy", 5)]) (g := (gName 5)) (tt := tYes) (te := (tDGet (tVar 2) (tVar 5))) (by rfl) nd (pi_tup (pv 6)) (blkOk_by (by kernel_rfl)) (fun _ _ _ _ _ => (pg_name (i := 5) nd rfl (by first | exact Or.inl rfl | exact Or.inr rfl))) (fun _ _ _ _ _ => pts_nil) (fun _ _ _ _ _ => (pe_dget (u1 hr.units) (pv 2) (pv 5) (by intro _ _; rfl)))) pa_nil)) pa_nil)) pa_nil))) pa_nil)))) pss_nil))) (pss_one (ps_ret (pe_callTy cr_tupF (by rfl) M.b_tuple bb_tuple (pa_cons (pe_lc (own := [("size", 7), ("line", 8)]) (g := (gTup K 2 (gCons (gName 7) (gCons (gName 8) gNil)))) (tt := tYes) (te := (tCB (rTupF K) (tCons (tLc (iTup K (tVar 8)) (gName 4) tYes (tOp (rIxT K) (tVar 0) (tVar 4)) [4]) tNil))) (by rfl) nd (pi_list (pe_callB (cr_sortN (α := (Int × (Tup Int))) (by rfl) (by decide) hr.units) (by rfl) M.b_sorted bb_sorted (pa_cons (pe_callTy (cr_setN (by rfl) hr.units) (by rfl) M.b_set bb_set (pa_cons (pv 3) pa_nil)) pa_nil))) (blkOk_by (by kernel_rfl)) (fun _ _ _ _ _ => (pg_pair2 (i := 7) (j := 8) (by rfl) nd rfl rfl (by first | exact Or.inl rfl | exact Or.inr rfl) (by first | exact Or.inl rfl | exact Or.inr rfl))) (fun _ _ _ _ _ => pts_nil) (fun _ _ _ _ _ => (pe_callTy cr_tupF (by rfl) M.b_tuple bb_tuple (pa_cons (pe_lc (own := [("at", 4)]) (g := (gName 4)) (tt := tYes) (te := (tOp (rIxT K) (tVar 0) (tVar 4))) (by rfl) nd (pi_tup (pv 8)) (blkOk_by (by kernel_rfl)) (fun _ _ _ _ _ => (pg_name (i := 4) nd rfl (by first | exact Or.inl rfl | exact Or.inr rfl))) (fun _ _ _ _ _ => pts_nil) (fun _ _ _ _ _ => (pe_ix ix_tup (pv 0) (pv 4) (by intro _ _; rfl)))) pa_nil)))) pa_nil))))))
abbrev N__law_clash : List Str := ["one", "other", "shared", "copy"]
theorem sc__law_clash : FnScope N__law_clash ["one", "other"] (fnScope (top 62)) := fnScope_by (by decide +kernel)
def t__law_clash (C : Addr) (K : PySem.W.Frag) : TS := (tSeq (tAsg (tCB (rLenQ K) (tCons (tLc (iTup K (tVar 0)) (gName 3) (tTest (tOp (rInP K false) (tVar 3) (tVar 1))) (tVar 3) [3]) tNil)) (gName 2)) (tRet (tChain (rI0 fun i j => .bl (decide (i < j))) (rI0 fun i j => .bl (decide (i < j))) (tC (.int 0)) (tVar 2) (tCB rMin2 (tCons (tCB (rLenQ K) (tCons (tVar 0) tNil)) (tCons (tCB (rLenQ K) (tCons (tVar 1) tNil)) tNil))))))
theorem p__law_clash {cdv : Value} {A : Around} {outer : List Env} {s : Shared} {H : Hp} {E : XK} {f : Addr} {k : Nat} (M : Mg mg) (S : Shf P w K mg base C)  (hr : Room 1 (A.deeper (PyProof.Rows.envOfC "_law_clash" (fnScope (top 62)) s.heap.objs.size f cdv))) : PSs (cxOf C8.CX0 P w K mg base N__law_clash "_law_clash" (fnScope (top 62)) f cdv A outer s H E).nox (fnBody (top 62)) (t__law_clash C K) :=
  have nd := sc__law_clash.nd
  (pss_cons (ps_set (i := 2) nd rfl (by first | exact Or.inl rfl | exact Or.inr rfl) (pe_callB call_len_seq (by rfl) M.b_len bb_len (pa_cons (pe_lc (own := [("copy", 3)]) (g := (gName 3)) (tt := (tTest (tOp (rInP K false) (tVar 3) (tVar 1)))) (te := (tVar 3)) (by rfl) nd (pi_tup (pv 0)) (blkOk_by (by kernel_rfl)) (fun _ _ _ _ _ => (pg_name (i := 3) nd rfl (by first | exact Or.inl rfl | exact Or.inr rfl))) (fun _ _ _ _ _ => (pts_one (pt_cmpR (op_inP hr.units) (pv 3) (pv 1) (by rfl)))) (fun _ _ _ _ _ => (pv 3))) pa_nil))) (pss_one (ps_ret (pe_chain op_lt op_lt pe_int (pv 2) (pe_callB (call_min2 (by rfl)) (by rfl) M.b_min bb_min (pa_cons (pe_callB call_len_seq (by rfl) M.b_len bb_len (pa_cons (pv 0) pa_nil)) (pa_cons (pe_callB call_len_seq (by rfl) M.b_len bb_len (pa_cons (pv 1) pa_nil)) pa_nil)))))))
abbrev N__law_standing : List Str := ["stemmata", "found", "stemma", "lot"]
theorem sc__law_standing : FnScope N__law_standing ["stemmata"] (fnScope (top 64)) := fnScope_by (by decide +kernel)
def t__law_standing (C : Addr) (K : PySem.W.Frag) : TS := (tSeq (tAsg (tLst tNil) (gName 1)) (tSeq (tFor (iTup K (tVar 0)) (gName 2) (tDrop (tBM K "list" rExtend (tVar 1) (tCons (tLc (iTup K (tVar 2)) (gName 3) (tTest (tOp (rInP K true) (tVar 3) (tVar 1))) (tVar 3) [3]) tNil)))) (tRet (tVar 1))))
theorem p__law_standing {cdv : Value} {A : Around} {outer : List Env} {s : Shared} {H : Hp} {E : XK} {f : Addr} {k : Nat} (M : Mg mg) (S : Shf P w K mg base C)  (hr : Room 1 (A.deeper (PyProof.Rows.envOfC "_law_standing" (fnScope (top 64)) s.heap.objs.size f cdv))) : PSs (cxOf C8.CX0 P w K mg base N__law_standing "_law_standing" (fnScope (top 64)) f cdv A outer s H E).nox (fnBody (top 64)) (t__law_standing C K) :=
  have nd := sc__law_standing.nd
  (pss_cons (ps_set (i := 1) nd rfl (by first | exact Or.inl rfl | exact Or.inr rfl) (pe_lst pa_nil)) (pss_cons (ps_for PassesOwn.never (by rfl) (pi_tup (pv 0)) (pg_name (i := 2) nd rfl (by first | exact Or.inl rfl | exact Or.inr rfl)) (pss_one (ps_expr (pe_bm PySem.F.plainAttrs_list PySem.F.slot_list_extend PySem.F.type_list_extend mt_extend (pv 1) (pa_cons (pe_lc (own := [("lot", 3)]) (g := (gName 3)) (tt := (tTest (tOp (rInP K true) (tVar 3) (tVar 1)))) (te := (tVar 3)) (by rfl) nd (pi_tup (pv 2)) (blkOk_by (by kernel_rfl)) (fun _ _ _ _ _ => (pg_name (i := 3) nd rfl (by first | exact Or.inl rfl | exact Or.inr rfl))) (fun _ _ _ _ _ => (pts_one (pt_cmpR (op_niP hr.units) (pv 3) (pv 1) (by rfl)))) (fun _ _ _ _ _ => (pv 3))) pa_nil))))) (pss_one (ps_ret (pv 1)))))
theorem es__law_clash {ds : List PyData} {R : PyData → Prop} (h : G__law_clash ds R) : ES C (t__law_clash C K) (startE N__law_clash ds) (fun _ => R .none) fun d _ => R d := by
  obtain ⟨a, b, rfl, rfl⟩ := h
  refine es_seq1 (es_set (α := Int) (i := 2) (by decide) (ed_len_l (K := K) (EF.el (pb := true) (ef_filter (src_tup (α := Str) (ED.eu (K := K) (ed_var (α := (Tup Str)) (i := 0) rfl))) (fun x hx => (et_test (ed_inU (ED.er (K := K) (ed_var (α := Str) (i := 3) rfl)) (ED.eu (K := K) (ed_var (α := (Tup Str)) (i := 1) rfl))))))))) ?_
  exact es_ret (α := Bool) (ed_chain (α := Int) (β := Int) (γ := Int) (ed_int (i := 0)) (ed_var (α := Int) (i := 2) rfl) rd_cmp (fun _ => (ed_min2 (ed_len_u (ED.eu (K := K) (ed_var (α := (Tup Str)) (i := 0) rfl))) (ed_len_u (ED.eu (K := K) (ed_var (α := (Tup Str)) (i := 1) rfl))))) rd_cmp) rfl
theorem es__law_told {ds : List PyData} {R : PyData → Prop} (h : G__law_told ds R) : ES C (t__law_told C P w K) (startE N__law_told ds) (fun _ => R .none) fun d _ => R d := by
  obtain ⟨c, ls, rfl, ⟨hn, hw, hl⟩, rfl⟩ := h
  refine es_seq1 (es_parT (by repeat' (first | exact ins_c | exact ins_nil | exact ins_var (by decide) | apply ins_op | apply ins_cons | apply ins_cb | apply ins_lst | apply ins_call)) (es_seq1 (es_setH (i := 2) (by decide) (eh_spots (EF.el (pb := true) (ef_map2 (δ := (Str × Int)) (src_enumU (ED.eu (K := K) (ed_var (α := (Tup Str)) (i := 0) rfl))) (fun x hx => (ed_pair (α := Str) (β := Int) (ed_var (α := Str) (i := 5) rfl) (ed_var (α := Int) (i := 4) rfl))))))) (es_setF (α := (Int × (Tup Int))) (i := 3) (by decide) (ef_lst (α := (Int × (Tup Int))) (as := []) ea_nil (show 0 ≤ 4096 by decide))))) ?_
  refine es_seq (N1 := fun e' => ∃ x, e' = [.dat (Rep.toD c), .dat (Rep.toD ls), .own (SpotT (spots c)), .own (LstT C ((linesOf c ls.items).map fun x => Rep.toD x)), .emp, .emp, x, .emp, .emp]) (es_for (xs := ls.items ++ [c]) (enc := fun v => [(6, Rep.toD v)])
    (fun i e' => ∃ x, e' = [.dat (Rep.toD c), .dat (Rep.toD ls), .own (SpotT (spots c)), .own (LstT C (((((ls.items ++ [c]).take i).filter long).map (lineOf c)).map fun x => Rep.toD x)), .emp, .emp, x, .emp, .emp] ∧ isVal (some x) = true)
    (src_list (α := (Tup Str)) (EF.el (ef_cat (α := (Tup Str)) (EF.el (pb := true) (ef_list_s (δ := (Tup Str)) (ed_var (α := (Sq (Tup Str))) (i := 1) rfl))) (EF.el (pb := true) (ef_lst (α := (Tup Str)) (as := [_]) (ea_cons (α := (Tup Str)) (ed_var (α := (Tup Str)) (i := 0) rfl) ea_nil) (show 1 ≤ 4096 by decide))) ?_))) ⟨.emp, rfl, rfl⟩ (fun i v e' hi I => ?_) (fun v b hb => ?_) fun e' I => ?_) fun e' n => ?_
  · show ls.items.length + 1 ≤ 4096
    omega
  · obtain ⟨x, rfl, hx⟩ := I
    have hv : ∀ y ∈ v.items, y ∈ c.items := by
      rcases List.mem_append.mp (List.mem_of_getElem? hi) with z | z
      · exact hw v z
      · rw [List.mem_singleton.mp z]; exact fun y hy => hy
    have ht : (ls.items ++ [c]).take (i + 1) = (ls.items ++ [c]).take i ++ [v] := by rw [List.take_add_one, hi] <;> rfl
    have hi' : i ≤ ls.items.length := by have := (List.getElem?_eq_some_iff.mp hi).1; rw [List.length_append, List.length_singleton] at this; omega
    refine ⟨fun b hb => by rw [List.mem_singleton.mp hb]; exact hx, es_if (et_test (ed_op (α := Int) (β := Int) (γ := Bool) (ed_len_u (ED.eu (K := K) (ed_var (α := (Tup Str)) (i := 6) rfl))) (ed_int (i := 1)) rd_cmp)) (fun h => es_dropG (eg_append (α := Line) rfl (ed_pair (α := Int) (β := (Tup Int)) (ed_op (α := Int) (β := Int) (γ := Int) (ed_int (i := 0)) (ed_len_u (ED.eu (K := K) (ed_var (α := (Tup Str)) (i := 6) rfl))) rd_sub) (ed_tupL (α := Int) (EF.el (pb := true) (ef_sortD (α := Int) (EF.el (pb := true) (ef_map (β := Int) (src_tup (α := Str) (ED.eu (K := K) (ed_var (α := (Tup Str)) (i := 6) rfl))) (fun x hx => (ed_spot (i := 2) rfl (ed_var (α := Str) (i := 5) rfl) (spot_ix hn (hv x hx)))))) (allAlike _) ?_)))) ?_) fun _ e' p => ⟨.dat (Rep.toD v), p.trans ?_, rfl⟩) fun h => es_nil ⟨.dat (Rep.toD v), ?_, rfl⟩⟩
    · exact .inr fun d hd => by
        obtain ⟨a, _, rfl⟩ := List.mem_map.mp hd
        exact ⟨fun z => (nomatch (show PyData.int a = PyData.none from z)), fun xs z => (nomatch (show PyData.int a = PyData.tuple xs from z))⟩
    · rw [List.length_map, List.length_map]
      have h1 := List.length_filter_le long ((ls.items ++ [c]).take i)
      rw [List.length_take] at h1
      omega
    · have hv2 : [v].filter long = [v] := by rw [List.filter_cons_of_pos (show long v = true from h), List.filter_nil]
      rw [ht, List.filter_append, hv2, List.map_append, List.map_append]
      rfl
    · have hv2 : [v].filter long = [] := by rw [List.filter_cons_of_neg (by rw [show long v = false from h]; exact Bool.false_ne_true), List.filter_nil]
      rw [ht, List.filter_append, hv2, List.append_nil]
      rfl
  · rw [List.mem_singleton.mp hb]; exact (by decide : (6 : Nat) ≠ 0)
  · obtain ⟨x, rfl, hx⟩ := I
    rw [List.take_length]
    exact ⟨x, rfl⟩
  · obtain ⟨x, rfl⟩ := n
    refine es_ret (α := Stemma) (ed_tupL (α := (Tup Str)) (EF.el (pb := true) (ef_map2 (δ := (Tup Str)) (src_pairs (α := Int) (β := (Tup Int)) (EF.el (ef_sortSet (α := (Int × (Tup Int))) (el_own (α := (Int × (Tup Int))) (i := 3) rfl) ?h1 ?h2 ?h3))) (fun x hx => (ed_tupL (α := Str) (EF.el (pb := true) (ef_map (β := Str) (src_tup (α := Int) (ED.eu (K := K) (ed_var (α := (Tup Int)) (i := 8) rfl))) (fun x1 hx1 => (ed_ixU (α := Str) (ED.eu (K := K) (ed_var (α := (Tup Str)) (i := 0) rfl)) (ed_var (α := Int) (i := 4) rfl) (line_ix hw hx hx1)))))))))) ?h4
    case h1 => exact fun a => ⟨_, _, rfl⟩
    case h2 => exact line_num
    case h3 =>
      unfold linesOf
      rw [List.length_map]
      have := List.length_filter_le long (ls.items ++ [c])
      rw [List.length_append, List.length_singleton] at this
      omega
    case h4 => rfl
theorem standing_len : ∀ (vs : List Stemma) (found : List Lot), (vs.foldl (fun found v => found ++ v.items.filter fun l => decide (¬ l ∈ found)) found).length ≤ found.length + (vs.flatMap fun v => v.items).length
  | [], found => Nat.le_refl _
  | v :: vs, found => by
    have h := standing_len vs (found ++ v.items.filter fun l => decide (¬ l ∈ found))
    have h2 := List.length_filter_le (fun l => decide (¬ l ∈ found)) v.items
    rw [List.foldl_cons, List.flatMap_cons, List.length_append]
    rw [List.length_append] at h
    omega
theorem es__law_standing {ds : List PyData} {R : PyData → Prop} (h : G__law_standing ds R) : ES C (t__law_standing C K) (startE N__law_standing ds) (fun _ => R .none) fun d _ => R d := by
  obtain ⟨vs, rfl, hl, rfl⟩ := h
  refine es_seq1 (es_setF (α := (Tup Str)) (i := 1) (by decide) (ef_lst (α := (Tup Str)) (as := []) ea_nil (show 0 ≤ 4096 by decide))) ?_
  refine es_seq (N1 := fun e' => ∃ x, e' = [.dat (Rep.toD vs), .own (LstT C ((mStanding vs).map fun x => Rep.toD x)), x, .emp]) (es_for (xs := vs.items) (enc := fun v => [(2, Rep.toD v)])
    (fun i e' => ∃ x, e' = [.dat (Rep.toD vs), .own (LstT C (((vs.items.take i).foldl (fun found v => found ++ v.items.filter fun l => decide (¬ l ∈ found)) []).map fun x => Rep.toD x)), x, .emp] ∧ isVal (some x) = true)
    (src_tup (α := (Tup (Tup Str))) (ED.eu (K := K) (ed_var (α := (Tup (Tup (Tup Str)))) (i := 0) rfl))) ⟨.emp, rfl, rfl⟩ (fun i v e' hi I => ?_) (fun v b hb => ?_) fun e' I => ?_) fun e' n => ?_
  · obtain ⟨x, rfl, hx⟩ := I
    refine ⟨fun b hb => by rw [List.mem_singleton.mp hb]; exact hx, es_dropG (eg_extend (α := Lot) rfl (EF.el (pb := true) (ef_filter (src_tup (α := (Tup Str)) (ED.eu (K := K) (ed_var (α := (Tup (Tup Str))) (i := 2) rfl))) (fun x hx => (et_test (ed_niL (ED.er (K := K) (ed_var (α := (Tup Str)) (i := 3) rfl)) (el_own (α := (Tup Str)) (i := 1) rfl)))))) ?_) fun _ e' p => ⟨.dat (Rep.toD v), p.trans ?_, rfl⟩⟩
    · rw [List.length_map]
      have h1 := standing_len (vs.items.take i) []
      have h2 := List.length_filter_le (fun l => decide (¬ l ∈ (vs.items.take i).foldl (fun found v => found ++ v.items.filter fun l => decide (¬ l ∈ found)) [])) v.items
      have h3 : (allLots vs).length = ((vs.items.take i).flatMap fun v => v.items).length + ((vs.items.drop i).flatMap fun v => v.items).length := by
        rw [← List.length_append, ← List.flatMap_append, List.take_append_drop]
      rw [drop_at hi, List.flatMap_cons, List.length_append] at h3
      rw [List.length_nil] at h1
      omega
    · rw [List.take_add_one, hi, Option.toList_some, List.foldl_append, List.foldl_cons, List.foldl_nil, List.map_append]
      rfl
  · rw [List.mem_singleton.mp hb]; exact (by decide : (2 : Nat) ≠ 0)
  · obtain ⟨x, rfl, hx⟩ := I
    rw [List.take_length]
    exact ⟨x, rfl⟩
  · obtain ⟨x, rfl⟩ := n
    exact es_retO (i := 1) (by decide) rfl rfl
end
end PD
end
section
set_option Elab.async false
set_option linter.all false
set_option maxRecDepth 100000
set_option maxHeartbeats 4000000
set_option autoImplicit false
namespace PD
open PySem L2
open PySem.W (Datum Tup)
variable [Tabl]

/-! ### numbers -/
def CPowW (i j : Int) : Prop := 0 ≤ j ∧ (Builtin.Int.intBits i : Int) * j ≤ 2 ^ 27
section
variable {X : Cx}
theorem op_powW : OpR X (binaryOp .Pow) (rI CPowW fun i j => .int (i ^ j.toNat)) := opI fun _ _ _ _ _ _ _ hc q => PyProof.Rows.pow_int hc.1 hc.2 q
end
abbrev rModN : R2 := rI (fun _ j => j ≠ 0) fun i j => .int (i.fmod j)
abbrev rDivN : R2 := rI CDivN fun i j => .int (i.fdiv j)
abbrev rPowW : R2 := rI CPowW fun i j => .int (i ^ j.toNat)
abbrev rMul1 : R2 := rI CMul fun i j => .int (i * j)
abbrev rInt1 : List V → Hp → VK → Prop := fun xs H Q => (∃ i, xs = [.int i] ∧ Q (.int i) H) ∨ ∃ k, xs = [.bl k] ∧ Q (.int (if k then 1 else 0)) H
abbrev rAbs1 : List V → Hp → VK → Prop := fun xs H Q => ∃ i, xs = [.int i] ∧ Q (.int (if i < 0 then -i else i)) H
section
variable {C : Addr} {K : PySem.W.Frag} {e : List Sl} {te ta tb : TE}
theorem rd_I {c : Int → Int → Prop} {g : Int → Int → Int} {i j : Int} (h : c i j) : RVD C (rI c fun i j => .int (g i j)) i j (g i j) := fun h2 H x y _ hx hy Q q => by
  cases at_int hx
  cases at_int hy
  exact ⟨i, j, rfl, rfl, h, q _ H (Same.refl H) (.int _)⟩
theorem ed_int1 {i : Int} (h : ED C te e i) : ED C (tCB rInt1 (tCons te tNil)) e i := fun W F σ H s Q q => h W F σ H s _ fun v H2 x t => by
  cases at_int t
  exact .inl ⟨i, rfl, q _ H2 x (.int i)⟩
theorem ed_intB {b : Bool} (h : ED C te e b) : ED C (tCB rInt1 (tCons te tNil)) e (if b then (1 : Int) else 0) := fun W F σ H s Q q => h W F σ H s _ fun v H2 x t => by
  cases at_bool t
  exact .inr ⟨b, rfl, q _ H2 x (.int _)⟩
theorem ed_abs {i : Int} (h : ED C te e i) : ED C (tCB rAbs1 (tCons te tNil)) e (if i < 0 then -i else i) := fun W F σ H s Q q => h W F σ H s _ fun v H2 x t => by
  cases at_int t
  exact ⟨i, rfl, q _ H2 x (.int _)⟩
end
instance : Rep PyData := ⟨id⟩

/-! ### a thing told more loosely -/
def Imp (T T' : Thing) : Prop := ∀ (h : Addr → Prop) (H : Hp) (v : V) (S : Addr → Prop), T.P h H v S → T'.P h H v S
section
variable {C : Addr} {W : Wd} {F : Nat → Addr → Prop} {H H2 : Hp} {σ : L2.St} {e : List Sl} {ts tu : TS} {N : List Sl → Prop} {R : PyData → List Sl → Prop}
theorem SA.recast (s : SA C W F H σ e) {i : Nat} {T T' : Thing} (he : e[i]? = some (.own T)) (k : ∀ v, T.P (Hd W F) H v (F i) → T'.P (Hd W F) H v (F i)) : SA C W F H σ (e.set i (.own T')) where
  len := by simp [s.len]
  xt := s.xt
  tabs := s.tabs
  mh := s.mh
  om := s.om
  ro := s.ro
  known := s.known
  foot := s.foot
  apart := s.apart
  lent := s.lent
  r0 := s.r0
  dat := fun j d q => by
    by_cases hj : i = j
    · subst hj
      rw [List.getElem?_set_self (List.getElem?_eq_some_iff.mp he).1] at q
      cases q
    · rw [List.getElem?_set_ne hj] at q
      exact s.dat j d q
  own := fun j T2 q => by
    by_cases hj : i = j
    · subst hj
      rw [List.getElem?_set_self (List.getElem?_eq_some_iff.mp he).1] at q
      cases q
      obtain ⟨v, h1, h2⟩ := s.own i T he
      exact ⟨v, h1, k v h2⟩
    · rw [List.getElem?_set_ne hj] at q
      exact s.own j T2 q
theorem es_loose {i : Nat} {T T' : Thing} (he : e[i]? = some (.own T)) (k : Imp T T') (h : ES C ts (e.set i (.own T')) N R) : ES C ts e N R := fun W F σ H s D => h W F σ H (s.recast he fun v => k _ _ v _) D
/-- the pot's three numbers -/
def PotB (n : Nat) (p q r : Int) : Prop := 0 ≤ p ∧ p < 10 ^ 300 ∧ 0 ≤ q ∧ q < 2305843009213693951 ∧ 0 ≤ r ∧ r ≤ (n : Int)
abbrev PotL (C : Addr) (p q r : Int) : Thing := LstT C ([p, q, r].map fun x => Rep.toD x)
theorem es_openPot {i n : Nat} (he : e[i]? = some (.own (PotT n))) (h : ∀ p q r : Int, PotB n p q r → ES C ts (e.set i (.own (PotL C p q r))) N R) : ES C ts e N R := fun W F σ H s D => by
  obtain ⟨v, h1, a, rfl, e2, p, q, r, hl, b1, b2, b3, b4, b5, b6⟩ := s.own i _ he
  refine h p q r ⟨b1, b2, b3, b4, b5, b6⟩ W F σ H (s.recast he fun v2 t => ?_) D
  obtain ⟨a', rfl, e3, p', q', r', hl', _⟩ := t
  have ea : a' = a := by
    have z : F i a' := by rw [e3]
    rw [e2] at z
    exact z
  subst ea
  exact ⟨a', _, rfl, e3, hl, (by show 3 ≤ 4096; decide), .cons (.int _) (.cons (.int _) (.cons (.int _) .nil))⟩
theorem pot_close {n : Nat} {p q r : Int} (b : PotB n p q r) : Imp (PotL C p q r) (PotT n) := fun h H v S t => by
  obtain ⟨a, xs, rfl, e2, hl, _, t⟩ := t
  have t' : AtAll C h H xs ([p, q, r].map Rep.toD) := t
  obtain ⟨b1, b2, b3, b4, b5, b6⟩ := b
  exact ⟨a, rfl, e2, p, q, r, by rw [hl, all_ints t']; rfl, b1, b2, b3, b4, b5, b6⟩
theorem pot_more {n m : Nat} (h : n ≤ m) : Imp (PotT n) (PotT m) := fun _ H v S t => by
  obtain ⟨a, e1, e2, p, q, r, hl, b1, b2, b3, b4, b5, b6⟩ := t
  exact ⟨a, e1, e2, p, q, r, hl, b1, b2, b3, b4, b5, by omega⟩
/-! ### i[k] = te, the list one's own -/
theorem es_setIx {α : Type} [Rep α] {i n : Nat} {ds : List PyData} {k : Int} {a : α} {te tk : TE} (he : e[i]? = some (.own (LstT C ds))) (h : ED C te e a) (hk : ED C tk e k) (hn : ixN ds.length k = some n) : ES C (tAsg te (gSub (tVar i) tk rSetL)) e (fun e' => e' = e.set i (.own (LstT C (ds.set n (Rep.toD a))))) R := fun W F σ H s D qn _ => h W F σ H s _ fun v H2 x t => by
  have s2 := s.same x
  obtain ⟨u, hu, l, xs, rfl, hF, hL, hz, ha⟩ := s2.own i _ he
  refine ⟨_, hu, hk W F σ H2 s2 _ fun y H3 x3 t3 => ?_⟩
  cases at_int t3
  have hx : xs.length = ds.length := ha.length
  refine ⟨l, xs, k, n, rfl, rfl, x3.at _ _ hL, by rw [hx]; exact hn, ?_⟩
  obtain ⟨F', s', xx, kk, kk2⟩ := put_list (s2.same x3) he hu hF (x3.at _ _ hL) (ys := xs.set n v) (by rw [List.length_set]; exact hz) (AtAll.set (same_at x3 t) n (same_all x3 ha))
  exact qn _ _ _ _ rfl s'
theorem es_setIxG {α : Type} [Rep α] {i : Nat} {a : α} {te tk : TE} {P : Int → List Sl → Prop} (hi : ∃ ds0, e[i]? = some (.own (LstT C ds0))) (h : ED C te e a) (hk : EG C tk e P) (hn : ∀ k e', P k e' → ∃ ds n, e'[i]? = some (.own (LstT C ds)) ∧ ixN ds.length k = some n ∧ N (e'.set i (.own (LstT C (ds.set n (Rep.toD a)))))) : ES C (tAsg te (gSub (tVar i) tk rSetL)) e N R := fun W F σ H s D qn _ => h W F σ H s _ fun v H2 x t => by
  have s2 := s.same x
  obtain ⟨ds0, he⟩ := hi
  obtain ⟨u, hu, l, xs, rfl, hF, hL, hz, ha⟩ := s2.own i _ he
  refine ⟨_, hu, hk W F σ H2 s2 _ fun k e' y F1 H3 p s3 x3 kk3 t3 => ?_⟩
  cases at_int t3
  obtain ⟨ds, n, he1, hn1, hN⟩ := hn k e' p
  obtain ⟨u1, hu1, l1, xs1, rfl, hF1, hL1, hz1, ha1⟩ := s3.own i _ he1
  rw [hu] at hu1
  cases hu1
  have hx : xs1.length = ds.length := ha1.length
  refine ⟨l, xs1, k, n, rfl, rfl, hL1, by rw [hx]; exact hn1, ?_⟩
  obtain ⟨F', s', xx, kk, kk2⟩ := put_list s3 he1 hu hF1 hL1 (ys := xs1.set n v) (by rw [List.length_set]; exact hz1) (AtAll.set (t.step x3 kk3) n ha1)
  exact qn _ _ _ _ hN s'
end

/-! ### a def whose first argument is the pot: its promise told more loosely at the end -/
section
variable {C : Addr} {GO : Thing → List PyData → (PyData → Thing → Prop) → Prop}
theorem spO_loose {vs : List V} {H : Hp} {Q : VK} {E : XK} (p : spO C GO vs H Q E) : spO C (fun T ds R' => ∃ R, GO T ds R ∧ R' = fun d T' => ∃ T'', Imp T' T'' ∧ R d T'') vs H Q E := by
  obtain ⟨v0, vs', h, S, T, ds, R, e1, k1, tb, k2, t1, t2, g, q⟩ := p
  refine ⟨v0, vs', h, S, T, ds, _, e1, k1, tb, k2, t1, t2, ⟨R, g, rfl⟩, fun v d T' S' H2 r x tb2 k3 t3 a3 => ?_⟩
  obtain ⟨T'', i, r⟩ := r
  exact q v d T'' S' H2 r x tb2 k3 (i _ _ _ _ t3) a3
end
section
open C8 PySem.Spec PyProof.Rows
variable {P : Program} {w : World} {K : PySem.W.Frag} {mg : Str → Option Value} {base : Heap} {C : Addr}
theorem cal_OL {x : Str} {st : Stmt} {f : Addr} {fd : FuncData} {N ps : List Str} {k : Nat} {G : Thing → List PyData → (PyData → Thing → Prop) → Prop} (Fn : Def K mg x st f fd) (b : Binds K fd ps []) (S : FnScope N ps (fnScope st)) (hG : ∀ T ds R, G T ds R → ds.length + 1 = ps.length)
    (body : ∀ (cdv : Value) (A : Around) (outer : List Env) (s : Shared) (H : Hp) (E : XK), Room k (A.deeper (envOfC x (fnScope st) s.heap.objs.size f cdv)) → ∃ t, PSs (cxOf C8.CX0 P w K mg base N x (fnScope st) f cdv A outer s H E).nox (fnBody st) t ∧
      ∀ T ds R, G T ds R → ES C t (startO N T ds) (fun e' => ∃ T', e'[0]? = some (.own T') ∧ ∃ T'', Imp T' T'' ∧ R .none T'') fun d e' => ∃ T', e'[0]? = some (.own T') ∧ ∃ T'', Imp T' T'' ∧ R d T'') : Cal P w K mg base (k + 1) x (spO C G) [] := by
  refine cal0 Fn b .nil S (spO_len hG) fun cdv A outer s H vs Q E hr p => ?_
  obtain ⟨t, h1, h2⟩ := body cdv A outer s H E hr
  refine ⟨t, h1, run_O (fun T ds R' g => ?_) (spO_loose p)⟩
  obtain ⟨R, g, rfl⟩ := g
  exact h2 T ds R g
end

/-! ### arguments of a def that changes slot i alone: lists of one's own, too -/
section
variable {C : Addr} {K : PySem.W.Frag} {e : List Sl} {te ta tb : TE} {t : TA} {α β γ : Type} [Rep α] [Rep β] [Rep γ]
def EAi (C : Addr) (i : Nat) (ta : TA) (e : List Sl) (ds : List PyData) : Prop := ∀ (W : Wd) (F : Nat → Addr → Prop) (σ : L2.St) (H : Hp), SA C W F H σ e → ∀ Q : List V → Hp → Prop, (∀ vs H2, Same H H2 → AtAll C (F i) H2 vs ds → Q vs H2) → ta σ H Q
theorem EA.eai {i : Nat} {ds : List PyData} (h : EA C t e ds) : EAi C i t e ds := fun W F σ H s Q q => h W F σ H s Q fun vs H2 x t => q vs H2 x (t.sub fun b z => .inl (.inr ⟨i, z⟩))
theorem eai_cons {i : Nat} {tr : TA} {a : α} {ds : List PyData} (h : ED C ta e a) (hr : EAi C i tr e ds) : EAi C i (tCons ta tr) e (Rep.toD a :: ds) := fun W F σ H s Q q =>
  h W F σ H s _ fun v H2 x2 a2 => hr W F σ H2 (s.same x2) _ fun vs H3 x3 a3 => q _ H3 (x2.trans x3) (.cons (same_at x3 (a2.sub fun b z => .inl (.inr ⟨i, z⟩))) a3)
theorem eai_own {i j : Nat} {tr : TA} {ds0 ds : List PyData} (hij : i ≠ j) (h : e[j]? = some (.own (LstT C ds0))) (hr : EAi C i tr e ds) : EAi C i (tCons (tVar j) tr) e (.list ds0 :: ds) := fun W F σ H s Q q => by
  obtain ⟨v, hv, l, xs, rfl, hF, hL, hz, ha⟩ := s.own j _ h
  refine ⟨_, hv, hr W F σ H s _ fun vs H3 x3 a3 => q _ H3 x3 (.cons (.lst (fun z => ?_) (x3.at _ _ hL) hz (same_all x3 (ha.sub fun b z => .inl (.inr ⟨i, z⟩)))) a3)⟩
  have zj : F j l := by rw [hF]
  exact hij (s.apart i j l z zj)
/-- the things whose place alone matters -/
def Solo (T : Thing) : Prop := ∀ (h h' : Addr → Prop) (H : Hp) (v : V) (S : Addr → Prop), T.P h H v S → T.P h' H v S
theorem solo_pot {n : Nat} : Solo (PotT n) := fun _ _ _ _ _ q => q
theorem eg_callI {G : Thing → List PyData → (PyData → Thing → Prop) → Prop} {i : Nat} {ds : List PyData} {T : Thing} {P' : α → List Sl → Prop} (he : e[i]? = some (.own T)) (hs : Solo T) (h : EAi C i t e ds)
    {R : PyData → Thing → Prop} (g : G T ds R) (k : ∀ d T', R d T' → Solo T' ∧ ∃ a, d = Rep.toD a ∧ nolist (Rep.toD a) = true ∧ P' a (e.set i (.own T'))) : EG C (tCall (spO C G) [] C8.E0 (tCons (tVar i) t)) e P' := fun W F σ H s Q q => by
  obtain ⟨v0, hv0, _⟩ := s.own i T he
  refine ⟨v0, hv0, h W F σ H s _ fun vs H' x t2 => ?_⟩
  have s' := s.same x
  obtain ⟨v1, hv1, tp⟩ := s'.own i T he
  rw [hv0] at hv1
  cases hv1
  refine ⟨v0, vs, F i, F i, T, ds, R, by rw [List.append_nil], fun a z => s'.hdk a (.inr ⟨i, z⟩), s'.tabs, fun a z => z, hs _ _ _ _ _ tp, t2, g, fun v d T' S' H3 r x3 tb k3 t3 a3 => ?_⟩
  obtain ⟨hs', a, rfl, nl, pa⟩ := k d T' r
  have s3 := s'.put he hv0 x3 k3 (hs' _ _ _ _ _ t3) tb
  have kh : ∀ b, Hd W (Fs F i S') b → Hd W F b ∨ H' b = none := hid_put k3
  have xs : Xt (Hd W F) H H' := (Xt.of x : Xt (fun _ => False) H H').mono fun _ z => z.elim
  exact q a _ v _ H3 pa s3 (xs.trans (x3.mono fun a z => .inr ⟨i, z⟩)) (fun b z => (kh b z).imp id fun w => x.free w) (a3.nol nl)
/-- te1[te2], what te2 changes is hidden -/
theorem eg_ixL {as : List α} {P : Int → List Sl → Prop} {P' : α → List Sl → Prop} (ha : EL C false ta e as) (hb : EG C tb e P) (hr : ∀ j e', P j e' → ∃ a, atI as j = some a ∧ P' a e') : EG C (tOp (rIxL K) ta tb) e P' := fun W F σ H s Q q =>
  ha W F σ H s _ fun p xs H2 hn x2 hl hz t => hb W F σ H2 (s.same x2) _ fun j e' v F' H3 pj s3 x3 k3 t3 => by
    cases at_int t3
    obtain ⟨a, h1, pa⟩ := hr j e' pj
    have hl3 : H3 p = some (.lst xs) := x3.keep _ _ (hn rfl) hl
    have hlen : xs.length = as.length := by rw [t.length, List.length_map]
    have t4 : AtAll C (Hd W F') H3 xs (as.map Rep.toD) := t.step x3 k3
    have hix : ∃ v, atI xs j = some v ∧ At C (Hd W F') H3 v (Rep.toD a) := by
      unfold atI at h1 ⊢
      rw [hlen]
      cases hj : ixN as.length j with
      | none =>
        rw [hj] at h1
        cases h1
      | some m =>
        rw [hj] at h1
        obtain ⟨v, q1, q2⟩ := t4.get' (i := m) (d := Rep.toD a) (by rw [List.getElem?_map, show as[m]? = some a from h1] <;> rfl)
        exact ⟨v, q1, q2⟩
    obtain ⟨v, hv, hav⟩ := hix
    have xs2 : Xt (Hd W F) H H2 := (Xt.of x2 : Xt (fun _ => False) H H2).mono fun _ z => z.elim
    exact ⟨p, xs, j, v, rfl, rfl, SqL.of hl3, hv, q a e' v F' H3 pa s3 (xs2.trans x3) (fun b z => (k3 b z).imp id fun w => x2.free w) hav⟩
end
end PD
end
section
set_option Elab.async false
set_option linter.all false
set_option maxRecDepth 100000
set_option maxHeartbeats 4000000
set_option autoImplicit false
namespace PD
open PySem L2
open PySem.W (Datum Tup)
variable [Tabl]

/-! ### a def that changes its first argument and tells a list that nobody else holds -/
def ESF (C : Addr) (ts : TS) (e : List Sl) (R : List PyData → List Sl → Prop) : Prop := ∀ (W : Wd) (F : Nat → Addr → Prop) (σ : L2.St) (H : Hp), SA C W F H σ e → (∀ a, W.o a → W.r a) → ∀ D : Ends,
  (∀ p xs ds e' F' σ' H', R ds e' → SA C W F' H' σ' e' → W.H0 p = none → ¬ F' 0 p → H' p = some (.lst xs) → xs.length ≤ 4096 → AtAll C (fun a => Rt W F' a ∨ a = p) H' xs ds → D.rt (V.ref p) H') → ts D σ H
def spOF (C : Addr) (G : Thing → List PyData → (List PyData → Thing → Prop) → Prop) : Sp := fun vs H Q _ => ∃ (v0 : V) (vs' : List V) (h S : Addr → Prop) (T : Thing) (ds : List PyData) (R : List PyData → Thing → Prop), vs = v0 :: vs' ∧ (∀ a, h a → H a ≠ none) ∧ LamX.Tabs Tabl.T H ∧ (∀ a, S a → h a) ∧ T.P h H v0 S ∧ AtAll C h H vs' ds ∧ G T ds R ∧
  ∀ p xs ds' T' S' H2, R ds' T' → Xt S H H2 → LamX.Tabs Tabl.T H2 → (∀ a, S' a → S a ∨ H a = none) → T'.P (fun a => h a ∨ S' a) H2 v0 S' → H p = none → ¬ S' p → H2 p = some (.lst xs) → xs.length ≤ 4096 → AtAll C (fun a => (h a ∨ S' a) ∨ a = p) H2 xs ds' → Q (V.ref p) H2
section
variable {C : Addr} {e : List Sl} {ts tu : TS} {N : List Sl → Prop} {R : List PyData → List Sl → Prop}
theorem esf_seq (h1 : ES C ts e N fun _ _ => False) (h2 : ∀ e', N e' → ESF C tu e' R) : ESF C (tSeq ts tu) e R := fun W F σ H s hw D q => h1 W F σ H s _ (fun e' F' σ' H' n s' => h2 e' n W F' σ' H' s' hw D q) fun _ _ _ _ _ _ r => r.elim
theorem esf_retO {i : Nat} {ds : List PyData} (hi : i ≠ 0) (h : e[i]? = some (.own (LstT C ds))) (hr : R ds e) : ESF C (tRet (tVar i)) e R := fun W F σ H s hw D q => by
  obtain ⟨v, h1, l, xs, rfl, h2, h3, h4, h5⟩ := s.own i _ h
  have fl : F i l := by rw [h2]
  refine ⟨_, h1, q l xs ds e F σ H hr s ?_ (fun z => hi (s.apart i 0 l fl z)) h3 h4 (h5.sub fun b z => .inl ?_)⟩
  · exact (s.foot i l fl).2.elim id fun z => absurd (s.lent i l fl (hw l z)) hi
  · rcases z with z | z
    · exact rt_hd s b z
    · rw [z]; exact .inr ⟨i, fl⟩
theorem run_OF {GO : Thing → List PyData → (List PyData → Thing → Prop) → Prop} {t : TS} {N : List Str} {H : Hp} {vs : List V} {Q : VK} {E : XK}
    (h : ∀ T ds R, GO T ds R → ESF C t (startO N T ds) fun ds' e' => ∃ T', e'[0]? = some (.own T') ∧ ∃ T'', Imp T' T'' ∧ R ds' T'') (p : spOF C GO vs H Q E) : t { nx := fun _ H' => Q .non H', rt := Q } (L2.start N vs) H := by
  obtain ⟨v0, vs', hh, S, T, ds, R, rfl, known, tb, hs, tp, at_, g, q⟩ := p
  refine h T ds R g (WO H hh S v0) (FO S) (L2.start N (v0 :: vs')) H (sa_startO known tb hs tp at_) (fun _ z => z) _ fun p xs ds' e' F' σ' H' r s hp hf hl hz a => ?_
  obtain ⟨T', h0, T'', im, r⟩ := r
  obtain ⟨v1, h1, tp'⟩ := s.own 0 T' h0
  have h2 := s.r0 v0 rfl
  rw [h1] at h2
  cases h2
  refine q p xs ds' T'' (F' 0) H' r s.xt s.tabs (fun a z => ?_) (im _ _ _ _ (T'.sub tp' fun a z => .inl (z.elim .inl fun w => .inr ⟨0, w⟩))) hp hf hl hz (a.sub fun b z => .inl ?_)
  · exact (s.foot 0 a z).2.elim .inr .inl
  · rcases z with (z | z) | z
    · by_cases w : S b
      · exact .inl (.inr (.inl w))
      · exact .inl (.inl ⟨z, w⟩)
    · exact .inl (.inr (.inr z))
    · exact .inr z
end
section
open C8 PySem.Spec PyProof.Rows
variable {P : Program} {w : World} {K : PySem.W.Frag} {mg : Str → Option Value} {base : Heap} {C : Addr}
theorem cal_OF {x : Str} {st : Stmt} {f : Addr} {fd : FuncData} {N ps : List Str} {k : Nat} {G : Thing → List PyData → (List PyData → Thing → Prop) → Prop} (Fn : Def K mg x st f fd) (b : Binds K fd ps []) (S : FnScope N ps (fnScope st)) (hG : ∀ T ds R, G T ds R → ds.length + 1 = ps.length)
    (body : ∀ (cdv : Value) (A : Around) (outer : List Env) (s : Shared) (H : Hp) (E : XK), Room k (A.deeper (envOfC x (fnScope st) s.heap.objs.size f cdv)) → ∃ t, PSs (cxOf C8.CX0 P w K mg base N x (fnScope st) f cdv A outer s H E).nox (fnBody st) t ∧
      ∀ T ds R, G T ds R → ESF C t (startO N T ds) fun ds' e' => ∃ T', e'[0]? = some (.own T') ∧ ∃ T'', Imp T' T'' ∧ R ds' T'') : Cal P w K mg base (k + 1) x (spOF C G) [] := by
  refine cal0 Fn b .nil S (fun vs H Q E ⟨_, _, _, _, T, ds, R, e, _, _, _, _, t, g, _⟩ => by
    rw [e, List.length_cons, t.length]
    exact hG T ds R g) fun cdv A outer s H vs Q E hr p => ?_
  obtain ⟨t, h1, h2⟩ := body cdv A outer s H E hr
  exact ⟨t, h1, run_OF h2 p⟩
end

/-! ### calling such a def -/
section
variable {C : Addr} {W : Wd} {F : Nat → Addr → Prop} {H H2 : Hp} {σ : L2.St} {e : List Sl}
/-- slot i's thing changed, slot j's new -/
theorem SA.putNew (s : SA C W F H σ e) {i j : Nat} (hj0 : j ≠ 0) (hij : i ≠ j) {T T' T2 : Thing} {v u : V} {S' U : Addr → Prop} (he : e[i]? = some (.own T)) (hσ : σ[i]? = some (some v)) (x : Xt (F i) H H2) (hs : ∀ a, S' a → F i a ∨ H a = Option.none)
    (tb : LamX.Tabs Tabl.T H2) (hU : ∀ a, U a → H a = Option.none) (hd : ∀ a, U a → ¬ S' a) (ht : T'.P (fun a => (Hd W F a ∨ S' a) ∨ U a) H2 v S') (hu : T2.P (fun a => (Hd W F a ∨ S' a) ∨ U a) H2 u U) :
    SA C W (Fs (Fs F i S') j U) H2 (σ.set j (some u)) ((e.set i (.own T')).set j (.own T2)) := by
  have hl := (List.getElem?_eq_some_iff.mp he).1
  have sx : ∀ a, Hd W (Fs (Fs F i S') j U) a → Hd W F a ∨ H a = Option.none := fun a z => (hd_fs a z).elim (fun w => (hd_fs a w).elim .inl fun y => (hs a y).imp (fun q => .inr ⟨i, q⟩) id) fun w => .inr (hU a w)
  have sy : ∀ a, Hd W (Fs (Fs F i S') j U) a → (Hd W F a ∨ S' a) ∨ U a := fun a z => (hd_fs a z).imp (hd_fs a) id
  have xh : Xt (Hd W F) H H2 := x.mono fun a z => .inr ⟨i, z⟩
  -- what a slot's part is made of, by the old ones
  have g : ∀ k a, Fs (Fs F i S') j U k a → (k ≠ j ∧ k ≠ i ∧ F k a) ∨ (k = i ∧ S' a) ∨ (k = j ∧ U a) := fun k a q => by
    rcases q with ⟨n, q⟩ | ⟨rfl, q⟩
    · rcases q with ⟨n2, q⟩ | ⟨rfl, q⟩
      · exact .inl ⟨n, n2, q⟩
      · exact .inr (.inl ⟨rfl, q⟩)
    · exact .inr (.inr ⟨rfl, q⟩)
  have kn : ∀ a, F i a ∨ H a = Option.none → W.H0 a = Option.none ∨ W.o a := fun a z => z.elim (fun w => (s.foot i a w).2) fun w => .inl (s.xt.free a w)
  refine ⟨by simp [s.len], ?_, tb, s.mh, s.om, s.ro, s.known, fun k a q => ?_, fun k m a q1 q2 => ?_, fun k a q1 q2 => ?_, fun v q => by rw [List.getElem?_set_ne hj0]; exact s.r0 v q, fun k d q => ?_, fun k T3 q => ?_⟩
  · refine ⟨fun a o n q nt => ?_, fun a o u q => x.frz _ _ _ (s.xt.frz _ _ _ q), fun a q => s.xt.free a (x.free a q)⟩
    refine x.keep a o (fun z => ?_) (s.xt.keep a o n q nt) nt
    rcases (s.foot i a z).2 with w | w
    · rw [w] at q; cases q
    · exact n (s.om a w)
  · rcases g k a q with ⟨_, _, w⟩ | ⟨rfl, w⟩ | ⟨rfl, w⟩
    · exact ⟨fun z => (s.foot k a w).1 (x.free a z), (s.foot k a w).2⟩
    · exact ⟨T'.known ht w, kn a (hs a w)⟩
    · exact ⟨T2.known hu w, kn a (.inr (hU a w))⟩
  · have one : ∀ k m, ((k ≠ j ∧ k ≠ i ∧ F k a) ∨ (k = i ∧ S' a) ∨ (k = j ∧ U a)) → ((m ≠ j ∧ m ≠ i ∧ F m a) ∨ (m = i ∧ S' a) ∨ (m = j ∧ U a)) → k = m := fun k m z1 z2 => by
      rcases z1 with ⟨_, n1, w1⟩ | ⟨rfl, w1⟩ | ⟨rfl, w1⟩
      · rcases z2 with ⟨_, n2, w2⟩ | ⟨rfl, w2⟩ | ⟨rfl, w2⟩
        · exact s.apart k m a w1 w2
        · exact (hs a w2).elim (fun y => s.apart k m a w1 y) fun y => absurd y (s.foot k a w1).1
        · exact absurd (hU a w2) (s.foot k a w1).1
      · rcases z2 with ⟨_, n2, w2⟩ | ⟨rfl, w2⟩ | ⟨rfl, w2⟩
        · exact (hs a w1).elim (fun y => s.apart k m a y w2) fun y => absurd y (s.foot m a w2).1
        · rfl
        · exact absurd w1 (hd a w2)
      · rcases z2 with ⟨_, n2, w2⟩ | ⟨rfl, w2⟩ | ⟨rfl, w2⟩
        · exact absurd (hU a w1) (s.foot m a w2).1
        · exact absurd w2 (hd a w1)
        · rfl
    exact one k m (g k a q1) (g m a q2)
  · have no : H a = Option.none → False := fun y => absurd (s.xt.free a y) (s.known a (s.mh a (s.om a (s.ro a q2))))
    rcases g k a q1 with ⟨_, _, w⟩ | ⟨rfl, w⟩ | ⟨rfl, w⟩
    · exact s.lent k a w q2
    · exact (hs a w).elim (fun y => s.lent k a y q2) fun y => (no y).elim
    · exact (no (hU a w)).elim
  · have hk : j ≠ k := fun z => by
      subst z
      rw [List.getElem?_set] at q
      simp at q
    rw [List.getElem?_set_ne hk] at q
    have hk2 : i ≠ k := fun z => by
      subst z
      rw [List.getElem?_set_self hl] at q
      cases q
    rw [List.getElem?_set_ne hk2] at q
    obtain ⟨v', q1, q2⟩ := s.dat k d q
    exact ⟨v', by rw [List.getElem?_set_ne hk]; exact q1, q2.step xh sx⟩
  · by_cases hk : j = k
    · subst hk
      have hl2 : j < e.length := by
        have := (List.getElem?_eq_some_iff.mp q).1
        simpa using this
      rw [List.getElem?_set_self (by rw [List.length_set]; exact hl2)] at q
      cases q
      rw [fs_self]
      exact ⟨u, List.getElem?_set_self (by rw [s.len]; exact hl2), T2.sub hu fun a z => .inl (sy a z)⟩
    · rw [List.getElem?_set_ne hk] at q
      rw [fs_ne hk]
      by_cases hk2 : i = k
      · subst hk2
        rw [List.getElem?_set_self hl] at q
        cases q
        rw [fs_self]
        exact ⟨v, by rw [List.getElem?_set_ne hk]; exact hσ, T'.sub ht fun a z => .inl (sy a z)⟩
      · rw [List.getElem?_set_ne hk2] at q
        rw [fs_ne hk2]
        obtain ⟨v', q1, q2⟩ := s.own k T3 q
        refine ⟨v', by rw [List.getElem?_set_ne hk]; exact q1, T3.sub (T3.move (T3.sub (h' := fun a => Hd W F a ∨ H a = Option.none) q2 fun _ z => z) x (fun a z => .inl (.inr ⟨i, z⟩)) fun b z w => hk2 (s.apart i k b w z)) fun a z => .inl (sx a z)⟩
end
section
variable {C : Addr} {K : PySem.W.Frag} {e : List Sl} {te ta tb : TE} {t : TA} {α β : Type} [Rep α] [Rep β] {N : List Sl → Prop} {R : PyData → List Sl → Prop}
/-- j = f(i, ..): the list is j's own -/
theorem es_setOF {G : Thing → List PyData → (List PyData → Thing → Prop) → Prop} {i j : Nat} {ds : List PyData} {T : Thing} (hj0 : j ≠ 0) (hij : i ≠ j) (he : e[i]? = some (.own T)) (hs : Solo T) (h : EAi C i t e ds)
    {RR : List PyData → Thing → Prop} (g : G T ds RR) (k : ∀ ds' T', RR ds' T' → Solo T' ∧ nolist.nolistAll ds' = true ∧ N ((e.set i (.own T')).set j (.own (LstT C ds')))) : ES C (tAsg (tCall (spOF C G) [] C8.E0 (tCons (tVar i) t)) (gName j)) e N R := fun W F σ H s D qn _ => by
  obtain ⟨v0, hv0, _⟩ := s.own i T he
  refine ⟨v0, hv0, h W F σ H s _ fun vs H' x t2 => ?_⟩
  have s' := s.same x
  obtain ⟨v1, hv1, tp⟩ := s'.own i T he
  rw [hv0] at hv1
  cases hv1
  refine ⟨v0, vs, F i, F i, T, ds, RR, by rw [List.append_nil], fun a z => s'.hdk a (.inr ⟨i, z⟩), s'.tabs, fun a z => z, hs _ _ _ _ _ tp, t2, g, fun p xs ds' T' S' H3 r x3 tb k3 t3 hp hS hl hz a3 => ?_⟩
  obtain ⟨hs', nl, hN⟩ := k ds' T' r
  exact qn _ _ _ _ hN (s'.putNew hj0 hij he hv0 x3 k3 tb (U := fun b => b = p) (fun a z => by rw [z]; exact hp) (fun a z => by rw [z]; exact hS) (hs' _ _ _ _ _ t3) ⟨p, xs, rfl, rfl, hl, hz, a3.nol nl⟩)
/-- tuple(f(i, ..)) -/
theorem eg_tupOF {δ : Type} [DecidableEq δ] [Datum δ] [KeyD δ] {G : Thing → List PyData → (List PyData → Thing → Prop) → Prop} {i : Nat} {ds : List PyData} {T : Thing} {P' : Tup δ → List Sl → Prop} (he : e[i]? = some (.own T)) (hs : Solo T) (h : EAi C i t e ds)
    {RR : List PyData → Thing → Prop} (g : G T ds RR) (k : ∀ ds' T', RR ds' T' → Solo T' ∧ ∃ as : List δ, ds' = as.map (fun x => Rep.toD x) ∧ P' ⟨as⟩ (e.set i (.own T'))) : EG C (tCB (rTupF K) (tCons (tCall (spOF C G) [] C8.E0 (tCons (tVar i) t)) tNil)) e P' := fun W F σ H s Q q => by
  obtain ⟨v0, hv0, _⟩ := s.own i T he
  refine ⟨v0, hv0, h W F σ H s _ fun vs H' x t2 => ?_⟩
  have s' := s.same x
  obtain ⟨v1, hv1, tp⟩ := s'.own i T he
  rw [hv0] at hv1
  cases hv1
  refine ⟨v0, vs, F i, F i, T, ds, RR, by rw [List.append_nil], fun a z => s'.hdk a (.inr ⟨i, z⟩), s'.tabs, fun a z => z, hs _ _ _ _ _ tp, t2, g, fun v xs ds' T' S' H3 r x3 tb k3 t3 hp hS hl hz a3 => ?_⟩
  obtain ⟨hs', as, rfl, pa⟩ := k ds' T' r
  have nl : nolist.nolistAll (as.map fun x => Rep.toD x) = true := able_nolists _ (ables as)
  have s3 := s'.put he hv0 x3 k3 (hs' _ _ _ _ _ t3) tb
  have kh : ∀ b, Hd W (Fs F i S') b → Hd W F b ∨ H' b = none := hid_put k3
  have xs1 : Xt (Hd W F) H H' := (Xt.of x : Xt (fun _ => False) H H').mono fun _ z => z.elim
  refine ⟨v, xs, rfl, .inl ⟨SqL.of hl, fun l o ho hl' => ?_⟩⟩
  have x4 : Same H3 (upd H3 l (.frz o (.tup xs))) := same_new hl'
  exact q ⟨as⟩ _ (V.ref l) _ _ pa (s3.same x4) ((xs1.trans (x3.mono fun a z => .inr ⟨i, z⟩)).trans ((Xt.of x4 : Xt (fun _ => False) H3 _).mono fun _ z => z.elim)) (fun b z => (kh b z).imp id fun w => x.free w)
    (show At C _ _ _ (.tuple (as.map Rep.toD)) from .tup (frz_new ho) hz (same_all x4 (a3.nol nl)))
/-- j = [te], te may change something -/
theorem es_setL1 {j : Nat} {P : α → List Sl → Prop} (hj : j ≠ 0) (h : EG C te e P) (k : ∀ a e', P a e' → N (e'.set j (.own (LstT C [Rep.toD a])))) : ES C (tAsg (tLst (tCons te tNil)) (gName j)) e N R := fun W F σ H s D qn _ => h W F σ H s _ fun a e' v F' H' p s' x kk t => by
  refine ⟨by show 1 ≤ sizeLine; decide, fun l hl => ?_⟩
  have xn : Same H' (upd H' l (.lst [v])) := same_new hl
  exact qn _ _ _ _ (k a e' p) (s'.setOwn hj (S := fun b => b = l) (fun a z => by rw [z]; exact hl) xn ⟨l, [v], rfl, rfl, upd_same, by show 1 ≤ 4096; decide, .cons (same_at xn (t.sub fun b z => z.imp id fun w => by rw [w]; exact hl)) .nil⟩)
end
end PD
end
section
set_option Elab.async false
set_option linter.all false
set_option maxRecDepth 100000
set_option maxHeartbeats 4000000
set_option autoImplicit false
namespace PD
open PySem L2
open PySem.W (Datum Tup)
variable [Tabl]

section
variable {C : Addr} {K : PySem.W.Frag} {e : List Sl} {te ta tb : TE} {tt : TT} {vs : List Nat} {N : List Sl → Prop} {R : PyData → List Sl → Prop}
/-! ### [[te] for .. in ..]: lists of one's own in a list of one's own -/
def Lz (C : Addr) (H1 : Hp) (D : Addr) (dss : List (List PyData)) (i : Nat) (H : Hp) : Prop :=
  Same H1 H ∧ ∃ ps : List Addr, H D = some (.lst (ps.map V.ref)) ∧ ps.length = dss.length ∧ ps.length ≤ i ∧ D ∉ ps ∧ ps.Nodup ∧ (∀ p ∈ ps, H1 p = none) ∧
    ∀ (k : Nat) (p : Addr) (ds : List PyData), ps[k]? = some p → dss[k]? = some ds → ∃ xs, H p = some (.lst xs) ∧ xs.length ≤ 4096 ∧ AtAll C (fun _ => True) H xs ds
theorem eh_sides {wi : TI} {γ δ : Type} [Rep γ] [DecidableEq δ] [Datum δ] [KeyD δ] {j : Nat} {xs : List γ} {f : γ → δ} (hs : ESrc C true wi (gName j) e (xs.map fun x => [(j, Rep.toD x)])) (he : ∀ x ∈ xs, ED C te ((wipeE e vs).set j (.dat (Rep.toD x))) (f x))
    (hv : noOwn e vs = true := by rfl) (h0 : 0 ∉ vs := by decide) (hj : j ∈ vs := by decide) : EH C (tLc wi (gName j) tYes (tLst (tCons te tNil)) vs) e (LssT C (xs.map fun x => [Rep.toD (f x)])) := fun W F σ H s Q q =>
  hs W F σ H s _ fun J H1 Y G x1 w hlen hG hY D hD => by
    have s1 := s.same x1
    have hD0 : H D = none := x1.free hD
    have wl : (xs.map fun x => [(j, Rep.toD x)]).length = xs.length := List.length_map ..
    rw [wl] at w hlen
    refine lc_it w (fun i H => Lz C H1 D ((xs.take i).map fun x => [Rep.toD (f x)]) i H) ⟨same_new hD, [], upd_same, rfl, Nat.zero_le _, by simp, List.nodup_nil, by simp, fun k p ds h => by simp at h⟩ (fun i H' _ p => hG H' ((Xt.of p.1 : Xt (fun _ => False) H1 H').mono fun _ z => z.elim)) (fun i x H' H'' hi p y => ?_) (fun H' p => ?_)
    · obtain ⟨x', hx⟩ : ∃ x', xs[i]? = some x' := ⟨xs[i], List.getElem?_eq_getElem hi⟩
      have hm : x' ∈ xs := List.mem_of_getElem? hx
      obtain ⟨xx, gv⟩ := hY i [(j, Rep.toD x')] (by rw [List.getElem?_map, hx] <;> rfl) (fun a => Hd W F a ∨ a = D) H' x H'' (fun a z => z.imp id fun w => by rw [w]; exact hD) ((Xt.of p.1 : Xt (fun _ => False) H1 H').mono fun _ z => z.elim) y
      refine gv _ _ fun H3 us x3 t3 => ⟨?_, ?_⟩
      · refine (wipe_setS fun i hi => ?_).trans wipe_wipe
        rw [List.mem_singleton.mp hi]
        exact hj
      · obtain ⟨p1, ps, pD, pl, pi, pn, pd, pf, pc⟩ := p
        have x13 : Same H1 H3 := (p1.trans xx).trans x3
        have x03 : Same H' H3 := xx.trans x3
        have hd3 : H3 D = some (.lst (ps.map V.ref)) := x03.at _ _ pD
        have s3 : SA C (W.hide F H3 D) F H3 (setS (L2.wipe σ vs) ([(j, Rep.toD x')].map (·.1)) us) (setE (wipeE e vs) [(j, Rep.toD x')]) := by
          refine SA.setAll ((s1.wipe hv h0).hide hD x13 (by rw [hd3]; exact fun z => nomatch z)) (fun p hp z => h0 (by rw [List.mem_singleton.mp hp] at z; rw [← z]; exact hj)) (fun p hp => isVal_wipe hv (by rw [List.mem_singleton.mp hp]; exact hj)) ?_
          rw [hd_hide_eq]
          exact t3
        unfold tYes
        dsimp only
        rw [if_pos rfl]
        refine he x' hm _ _ _ H3 s3 _ fun v H4 x4 a4 => ⟨by show 1 ≤ sizeLine; decide, fun l hl => ?_⟩
        have x14 := x13.trans x4
        have hd4 : H4 D = some (.lst (ps.map V.ref)) := x4.at _ _ hd3
        have hlD : l ≠ D := fun z => by rw [z, hd4] at hl; cases hl
        have hd5 : (upd H4 l (.lst [v])) D = some (.lst (ps.map V.ref)) := by rw [upd_ne (Ne.symm hlD)]; exact hd4
        have x45 : Same H4 (upd H4 l (.lst [v])) := same_new hl
        have x15 := x14.trans x45
        have hp4 : ∀ p ∈ ps, ∃ xs, H4 p = some (.lst xs) := fun p hp => by
          obtain ⟨k, hk, e⟩ := List.getElem_of_mem hp
          obtain ⟨xs', q1, _⟩ := pc k p _ (by rw [List.getElem?_eq_getElem hk, e]) (List.getElem?_eq_getElem (by omega))
          exact ⟨xs', x4.at _ _ (x03.at _ _ q1)⟩
        have hlp : l ∉ ps := fun z => by
          obtain ⟨xs', q⟩ := hp4 l z
          rw [hl] at q
          cases q
        have e6 : ((xs.take (i + 1)).map fun x => [Rep.toD (f x)]) = ((xs.take i).map fun x => [Rep.toD (f x)]) ++ [[Rep.toD (f x')]] := by
          rw [List.take_add_one, hx, List.map_append]
          rfl
        refine ⟨ps.map V.ref, hd5, Nat.lt_of_le_of_lt (by rw [List.length_map]; exact pi) (Nat.lt_of_lt_of_le (by omega : i < 4096) (by decide)), same_upd x15 hD hd5, ps ++ [l], ?_, ?_, ?_, ?_, ?_, ?_, ?_⟩
        · rw [upd_same, List.map_append]
          rfl
        · rw [e6, List.length_append, List.length_append, pl]
          rfl
        · rw [List.length_append]
          exact Nat.succ_le_succ pi
        · rw [List.mem_append]
          rintro (z | z)
          · exact pn z
          · exact hlD (List.mem_singleton.mp z).symm
        · refine List.nodup_append.mpr ⟨pd, List.nodup_cons.mpr ⟨by simp, List.nodup_nil⟩, fun a ha b hb z => hlp ?_⟩
          rw [← List.mem_singleton.mp hb, ← z]
          exact ha
        · intro p hp
          rcases List.mem_append.mp hp with z | z
          · exact pf p z
          · rw [List.mem_singleton.mp z]
            exact x14.free hl
        · intro k p ds h1 h2
          rw [e6] at h2
          by_cases hk : k < ps.length
          · rw [List.getElem?_append_left hk] at h1
            rw [List.getElem?_append_left (by omega)] at h2
            obtain ⟨xs', q1, q2, q3⟩ := pc k p ds h1 h2
            have hp : p ∈ ps := List.mem_of_getElem? h1
            refine ⟨xs', ?_, q2, ?_⟩
            · rw [upd_ne (fun z => pn (by rw [← z]; exact hp)), upd_ne (fun z => hlp (by rw [← z]; exact hp))]
              exact x4.at _ _ (x03.at _ _ q1)
            · exact (same_all ((x03.trans x4).trans x45) q3).mono (xt_upd (m := fun a => a = D) rfl hd5 fun _ _ z => nomatch z) fun _ _ => trivial
          · have hk2 : k = ps.length := by
              have := (List.getElem?_eq_some_iff.mp h1).1
              rw [List.length_append, List.length_singleton] at this
              omega
            subst hk2
            rw [List.getElem?_append_right (Nat.le_refl _), Nat.sub_self] at h1
            rw [List.getElem?_append_right (by omega), show ps.length - ((xs.take i).map fun x => [Rep.toD (f x)]).length = 0 by omega] at h2
            cases h1
            cases h2
            refine ⟨[v], ?_, by show 1 ≤ 4096; decide, .cons ?_ .nil⟩
            · rw [upd_ne hlD, upd_same]
            · exact ((same_at x45 a4).nol (noL (f x'))).mono (xt_upd (m := fun a => a = D) rfl hd5 fun _ _ z => nomatch z) fun _ _ => trivial
    · obtain ⟨p1, ps, pD, pl, pi, pn, pd, pf, pc⟩ := p
      rw [List.take_length] at pl pc
      refine q (V.ref D) H' (fun b => b = D ∨ b ∈ ps) (fun a z => z.elim (fun w => by rw [w]; exact hD0) fun w => x1.free (pf a w)) (x1.trans p1) ⟨D, ps, rfl, rfl, pD, pn, pd, pl, by omega, fun k p ds h1 h2 => ?_⟩
      obtain ⟨xs', q1, q2, q3⟩ := pc k p ds h1 h2
      exact ⟨xs', q1, q2, q3.sub fun _ _ => .inl trivial⟩

/-! ### j[tb].append(te), the lists in j one's own -/
theorem es_sideAppend {α : Type} [Rep α] {j : Nat} {P : Int → List Sl → Prop} (hj : ∃ dss, e[j]? = some (.own (LssT C dss))) (hb : EG C tb e P)
    (k : ∀ n e', P n e' → ∃ dss m ds, ∃ a : α, e'[j]? = some (.own (LssT C dss)) ∧ ixN dss.length n = some m ∧ dss[m]? = some ds ∧ ds.length < 4096 ∧ ED C te e' a ∧ nolist (Rep.toD a) = true ∧ N (e'.set j (.own (LssT C (dss.set m (ds ++ [Rep.toD a])))))) :
    ES C (tDrop (tBM K "list" rAppend (tOp (rIxL K) (tVar j) tb) (tCons te tNil))) e N R := fun W F σ H s D qn _ => by
  obtain ⟨dss0, he0⟩ := hj
  obtain ⟨v0, hv0, a0, ps0, rfl, _, _⟩ := s.own j _ he0
  refine ⟨_, hv0, hb W F σ H s _ fun n e' w F1 H2 p s1 x kk1 t2 => ?_⟩
  cases at_int t2
  obtain ⟨dss, m, ds, a, he1, hm, hds, hlen, hte, nl, hN⟩ := k n e' p
  obtain ⟨v1, hv1, a1, ps, rfl, hF1, hL1, na, nd, hl, hz, hc⟩ := s1.own j _ he1
  rw [hv0] at hv1
  cases hv1
  have hmp : m < ps.length := by
    rw [hl]
    exact (List.getElem?_eq_some_iff.mp hds).1
  have hpm : ps[m]? = some ps[m] := List.getElem?_eq_getElem hmp
  generalize hpe : ps[m] = p0 at hpm
  obtain ⟨xs, q1, q2, q3⟩ := hc m p0 ds hpm hds
  refine ⟨a0, ps.map V.ref, n, V.ref p0, rfl, rfl, SqL.of hL1, ?_, .inl ⟨rfl, xs, SqL.of q1⟩, hte W F1 σ H2 s1 _ fun u H3 x3 t3 => ?_⟩
  · unfold atI
    rw [List.length_map, hl, hm]
    show (ps.map V.ref)[m]? = _
    rw [List.getElem?_map, hpm]
    rfl
  · have hx : xs.length = ds.length := q3.length
    have q13 := x3.at _ _ q1
    refine ⟨p0, xs, u, rfl, rfl, q13, Nat.lt_of_lt_of_le (by omega : xs.length < 4096) (by decide), ?_⟩
    have s3 := s1.same x3
    have hmem : p0 ∈ ps := List.mem_of_getElem? hpm
    have hFp : F1 j p0 := by rw [hF1]; exact .inr hmem
    have xu : Xt (F1 j) H3 (upd H3 p0 (.lst (xs ++ [u]))) := xt_upd hFp q13 fun _ _ z => nomatch z
    have xh : Xt (Hd W F1) H3 (upd H3 p0 (.lst (xs ++ [u]))) := xu.mono fun b z => .inr ⟨j, z⟩
    have hap : a0 ≠ p0 := fun z => na (by rw [z]; exact hmem)
    refine qn _ _ _ _ hN (s3.put (S' := F1 j) he1 hv0 xu (fun b z => .inl z) ⟨a0, ps, rfl, hF1, ?_, na, nd, by rw [List.length_set]; exact hl, hz, fun k p ds' h1 h2 => ?_⟩ (tabs_upd s3.tabs q13))
    · rw [upd_ne hap]
      exact x3.at _ _ hL1
    · have sub : ∀ b, (Hd W F1 b ∨ F1 j b) → Hd W F1 b ∨ H3 b = none := fun b z => .inl (z.elim id fun y => .inr ⟨j, y⟩)
      by_cases hk : k = m
      · subst hk
        rw [hpm] at h1
        cases h1
        rw [List.getElem?_set_self (by omega)] at h2
        cases h2
        refine ⟨xs ++ [u], upd_same, by rw [List.length_append, List.length_singleton]; omega, AtAll.app ?_ (.one ?_)⟩
        · exact (same_all x3 q3).step xh sub
        · exact t3.step xh sub
      · rw [List.getElem?_set_ne (Ne.symm hk)] at h2
        obtain ⟨ys, r1, r2, r3⟩ := hc k p ds' h1 h2
        have hpp : p ≠ p0 := fun z => by
          subst z
          have hk' := (List.getElem?_eq_some_iff.mp h1).1
          exact hk ((List.getElem_inj (h₀ := hk') (h₁ := hmp) nd).mp (by rw [hpe]; exact (List.getElem?_eq_some_iff.mp h1).2))
        exact ⟨ys, by rw [upd_ne hpp]; exact x3.at _ _ r1, r2, (same_all x3 r3).step xh sub⟩

/-! ### [tuple(part) for part in sides if len(part) > 1] -/
theorem ef_parts {δ : Type} [DecidableEq δ] [Datum δ] [KeyD δ] {i j : Nat} {ass : List (List δ)} (he : e[i]? = some (.own (LssT C (ass.map fun as => as.map fun x => Rep.toD x)))) (hj : j ∈ vs) (hjl : decide (j < e.length) = true := by rfl) :
    EF C (tLc (iList K (tVar i)) (gName j) (tTest (tOp (rI0 fun i j => .bl (decide (j < i))) (tCB (rLenQ K) (tCons (tVar j) tNil)) (tC (.int 1)))) (tCB (rTupF K) (tCons (tVar j) tNil)) vs) e ((ass.filter fun as => decide (1 < as.length)).map fun as => Tup.mk as) := fun W F σ H s Q q => by
  obtain ⟨v0, hv0, a0, ps, rfl, hF, hL, na, nd, hl, hz, hc⟩ := s.own i _ he
  rw [List.length_map] at hl
  refine ⟨_, hv0, a0, rfl, ⟨_, SqL.of hL⟩, fun D hD => ?_⟩
  have hlen : (ps.map V.ref).length = ass.length := by rw [List.length_map, hl]
  refine lc_it (n := (ps.map V.ref).length) walk_list (fun k H' => Lw C (fun _ => True) H D ((((ass.take k).filter fun as => decide (1 < as.length)).map fun as => Tup.mk as).map fun x => Rep.toD x) k H') ⟨same_new hD, [], upd_same, Nat.zero_le _, .nil⟩ (fun k H' _ p => SqL.of (p.1.at _ _ hL)) (fun k x H' H'' hk p y => ?_) (fun H' p => ?_)
  · obtain ⟨rfl, hy⟩ := y
    have hk2 : k < ps.length := by rw [List.length_map] at hk; exact hk
    rw [List.getElem?_map, List.getElem?_eq_getElem hk2] at hy
    cases hy
    have hka : k < ass.length := by omega
    obtain ⟨p1, acc, p2, p3, p4⟩ := p
    obtain ⟨xs, c1, c2, c3⟩ := hc k ps[k] _ (List.getElem?_eq_getElem hk2) (by rw [List.getElem?_map, List.getElem?_eq_getElem hka] <;> rfl)
    have c1' := p1.at _ _ c1
    have hxl : xs.length = ass[k].length := by rw [c3.length, List.length_map]
    have hself : ((L2.wipe σ vs).set j (some (V.ref ps[k])))[j]? = some (some (V.ref ps[k])) := List.getElem?_set_self (by rw [wipe_length, s.len]; exact of_decide_eq_true hjl)
    refine ⟨?_, ?_⟩
    · rw [wipe_set hj, wipe_wipe]
    · refine ⟨_, hself, ps[k], xs, rfl, .inl (SqL.of c1'), (xs.length : Int), 1, rfl, rfl, _, rfl, ?_⟩
      have e1 : decide ((1 : Int) < (xs.length : Int)) = decide (1 < ass[k].length) := decide_eq_decide.mpr (by rw [hxl]; omega)
      rw [e1]
      have hx : ass[k]? = some ass[k] := List.getElem?_eq_getElem hka
      have on := out_next (b := fun as : List δ => decide (1 < as.length)) (f := fun as => Tup.mk as) hx
      by_cases h : 1 < ass[k].length
      · have hb : decide (1 < ass[k].length) = true := decide_eq_true h
        rw [if_pos hb] at on
        refine iteT' hb ?_
        refine ⟨_, hself, ps[k], xs, rfl, .inl ⟨SqL.of c1', fun l o ho hl' => ?_⟩⟩
        have x4 : Same H'' (upd H'' l (.frz o (.tup xs))) := same_new hl'
        have hd4 : (upd H'' l (.frz o (.tup xs))) D = some (.lst acc) := x4.at _ _ p2
        have xu : Xt (fun a => a = D) (upd H'' l (.frz o (.tup xs))) (upd (upd H'' l (.frz o (.tup xs))) D (.lst (acc ++ [V.ref l]))) := xt_upd rfl hd4 fun _ _ z => nomatch z
        refine ⟨acc, hd4, Nat.lt_of_le_of_lt p3 (Nat.lt_of_lt_of_le (by omega : k < 4097) (by decide)), same_upd (p1.trans x4) hD hd4, acc ++ [V.ref l], upd_same, by rw [List.length_append, List.length_singleton]; omega, ?_⟩
        rw [show ((((ass.take (k + 1)).filter fun as => decide (1 < as.length)).map fun as => Tup.mk as).map fun x => Rep.toD x) = _ from on]
        refine AtAll.mono xu (fun _ _ => trivial) (AtAll.app (same_all x4 p4) (.one ?_))
        refine show At C _ _ _ (.tuple (ass[k].map Rep.toD)) from .tup (frz_new ho) c2 (same_all x4 (same_all p1 ?_))
        exact c3.nol (able_nolists _ (ables ass[k]))
      · have hb : decide (1 < ass[k].length) = false := decide_eq_false h
        rw [if_neg (by rw [hb]; exact Bool.false_ne_true)] at on
        refine iteF' hb ⟨p1, acc, p2, Nat.le_succ_of_le p3, ?_⟩
        rw [show ((((ass.take (k + 1)).filter fun as => decide (1 < as.length)).map fun as => Tup.mk as).map fun x => Rep.toD x) = _ from on]
        exact p4
  · obtain ⟨p1, acc, p2, p3, p4⟩ := p
    rw [hlen, List.take_length] at p4
    exact q D acc H' hD p1 p2 (by omega) (p4.sub fun _ _ => .inl trivial)
where
  iteT' {P Q : Prop} {b : Bool} (h : b = true) (p : P) : if b = true then P else Q := by rw [if_pos h]; exact p
  iteF' {P Q : Prop} {b : Bool} (h : b = false) (p : Q) : if b = true then P else Q := by rw [if_neg (by rw [h]; exact Bool.false_ne_true)]; exact p

/-! ### [x for x in .. if tt], tt takes from the pot in slot i -/
def Draws (i m : Nat) (tt : TT) : Prop := ∀ (σ : L2.St) (H : Hp) (v0 : V) (S : Addr → Prop) (k : Nat), k < m → σ[i]? = some (some v0) → LamX.Tabs Tabl.T H → (PotT k).P (fun _ => False) H v0 S → ∀ Q : Bool → Hp → Prop,
  (∀ b H' S', Xt S H H' → LamX.Tabs Tabl.T H' → (∀ a, S' a → S a ∨ H a = none) → (PotT (k + 1)).P (fun _ => False) H' v0 S' → Q b H') → tt σ H Q
theorem eg_lcDraw {δ : Type} [DecidableEq δ] [Datum δ] [KeyD δ] {wi : TI} {xs : List δ} {i j n m : Nat} (he : e[i]? = some (.own (PotT n))) (hs : ESrc C false wi (gName j) e (xs.map fun x => [(j, Rep.toD x)])) (ht : Draws i m tt) (hn : n + xs.length ≤ m)
    (hi : i ∉ vs) (hj : j ∈ vs) (hij : i ≠ j) (hjl : decide (j < e.length) = true := by rfl) : EG C (tLc wi (gName j) tt (tVar j) vs) e fun (as : List δ) e' => as.Sublist xs ∧ e' = e.set i (.own (PotT (n + xs.length))) := fun W F σ H s Q q =>
  hs W F σ H s _ fun J H1 Y G x1 w hlen hG hY D hD => by
    have s1 := s.same x1
    have wl : (xs.map fun x => [(j, Rep.toD x)]).length = xs.length := List.length_map ..
    rw [wl] at w hlen
    obtain ⟨v0, hv0, tp⟩ := s1.own i _ he
    have xk : ∀ {H' : Hp}, Xt (F i) H1 H' → Xt (Kp false (Hd W F)) H1 H' := fun z => z.mono fun a y => ⟨rfl, .inr ⟨i, y⟩⟩
    let Pv : Nat → Hp → Prop := fun k H' => Xt (F i) H1 H' ∧ LamX.Tabs Tabl.T H' ∧ ∃ S, (∀ a, S a → F i a ∨ H1 a = none) ∧ ¬ S D ∧ (PotT (n + k)).P (fun _ => False) H' v0 S ∧ ∃ acc out, H' D = some (.lst acc) ∧ acc.length ≤ k ∧ List.Sublist out (xs.take k) ∧ AtAll C (fun _ => True) H' acc (out.map fun x => Rep.toD x)
    have xn : Same H1 (upd H1 D (.lst [])) := same_new hD
    have nFD : ¬ F i D := fun z => s1.fresh hD (.inr ⟨i, z⟩)
    refine lc_it w Pv ⟨(Xt.of xn : Xt (fun _ => False) _ _).mono fun _ z => z.elim, xn.tabs s1.tabs, F i, fun a z => .inl z, nFD, (PotT n).move tp ((Xt.of xn : Xt (fun _ => False) _ _)) (fun _ z => z.elim) (fun _ _ z => z), [], [], upd_same, Nat.zero_le _, List.Sublist.refl _, .nil⟩ (fun k H' _ p => hG H' (xk p.1)) (fun k x H' H'' hk p y => ?_) (fun H' p => ?_)
    · obtain ⟨p1, p2, S, p3, p4, p5, acc, out, p6, p7, p8, p9⟩ := p
      obtain ⟨x', hx⟩ : ∃ x', xs[k]? = some x' := ⟨xs[k], List.getElem?_eq_getElem hk⟩
      obtain ⟨xx, gv⟩ := hY k [(j, Rep.toD x')] (by rw [List.getElem?_map, hx] <;> rfl) (fun _ => False) H' x H'' (fun _ z => z.elim) (xk p1) y
      refine gv _ _ fun H3 us x3 t3 => ?_
      have x03 : Same H' H3 := xx.trans x3
      obtain ⟨v, rfl, av⟩ : ∃ v, us = [v] ∧ At C (fun _ => False) H3 v (Rep.toD x') := by
        cases t3 with
        | cons r t =>
          cases t
          exact ⟨_, rfl, r⟩
      refine ⟨?_, ?_⟩
      · refine (wipe_setS fun i hi => ?_).trans wipe_wipe
        rw [List.mem_singleton.mp hi]
        exact hj
      · show tt ((L2.wipe σ vs).set j (some v)) H3 _
        have hvi : ((L2.wipe σ vs).set j (some v))[i]? = some (some v0) := by rw [List.getElem?_set_ne (Ne.symm hij), wipe_ni hi]; exact hv0
        have hvj : ((L2.wipe σ vs).set j (some v))[j]? = some (some v) := List.getElem?_set_self (by rw [wipe_length, s.len]; exact of_decide_eq_true hjl)
        have xf : ∀ {a b : Hp}, Same a b → Xt (fun _ => False) a b := fun z => Xt.of z
        have p5' : (PotT (n + k)).P (fun _ => False) H3 v0 S := (PotT (n + k)).move p5 (xf x03) (fun _ z => z.elim) (fun _ _ z => z)
        have hd3 : H3 D = some (.lst acc) := x03.at _ _ p6
        refine ht _ H3 v0 S (n + k) (by omega) hvi (x03.tabs p2) p5' _ fun b H4 S' x4 tb4 k4 t4 => ?_
        have x13 : Xt (F i) H1 H3 := p1.trans ((xf x03).mono fun _ z => z.elim)
        have hd4 : H4 D = some (.lst acc) := x4.keep _ _ p4 hd3
        have hS : ∀ a, S' a → F i a ∨ H1 a = none := fun a z => (k4 a z).elim (p3 a) fun w => .inr (x13.free a w)
        have hSD : ¬ S' D := fun z => (k4 D z).elim p4 fun w => by rw [w] at hd3; cases hd3
        have x14 : Xt (F i) H1 H4 := ⟨fun a o na q nt => x4.keep a o (fun z => (p3 a z).elim na fun w => by rw [w] at q; cases q) (x13.keep a o na q nt) nt, fun a o u q => x4.frz _ _ _ (x13.frz _ _ _ q), fun a q => x13.free a (x4.free a q)⟩
        have p9' : AtAll C (fun _ => True) H4 acc (out.map fun x => Rep.toD x) := (same_all x03 p9).mono x4 fun _ _ => trivial
        cases b with
        | false =>
          refine iteF ⟨x14, tb4, S', hS, hSD, t4, acc, out, hd4, Nat.le_succ_of_le p7, ?_, p9'⟩
          rw [List.take_add_one, hx]
          exact p8.trans (List.sublist_append_left ..)
        | true =>
          refine iteT ⟨v, hvj, acc, hd4, Nat.lt_of_le_of_lt p7 (Nat.lt_of_lt_of_le (by omega : k < 4097) (by decide)), ?_⟩
          have xu : Xt (fun a => a = D) H4 (upd H4 D (.lst (acc ++ [v]))) := xt_upd rfl hd4 fun _ _ z => nomatch z
          refine ⟨⟨fun a o na q nt => ?_, fun a o u q => xu.frz _ _ _ (x14.frz _ _ _ q), fun a q => x14.free a (xu.free a q)⟩, tabs_upd tb4 hd4, S', hS, hSD, solo_pot (n := n + k + 1) (fun a => a = D) (fun _ => False) _ _ _ ((PotT (n + k + 1)).move (solo_pot (n := n + k + 1) _ (fun a => a = D) _ _ _ t4) xu (fun a z => z) (fun b z w => hSD (by rw [← w]; exact z))), acc ++ [v], out ++ [x'], upd_same, by rw [List.length_append, List.length_singleton]; omega, ?_, ?_⟩
          · have hx14 := x14.keep a o na q nt
            refine xu.keep a o (fun z => ?_) hx14 nt
            rw [z, hD] at q
            cases q
          · rw [List.take_add_one, hx]
            exact List.Sublist.append p8 (List.Sublist.refl _)
          · rw [List.map_append]
            refine AtAll.mono xu (fun _ _ => trivial) (AtAll.app p9' (.one ?_))
            exact (av.nol (noL x')).mono x4 fun _ _ => trivial
    · obtain ⟨p1, p2, S, p3, p4, p5, acc, out, p6, p7, p8, p9⟩ := p
      rw [List.take_length] at p8
      have s2 := s1.put (S' := S) (T' := PotT (n + xs.length)) he hv0 p1 p3 p5 p2
      have kh : ∀ b, Hd W (Fs F i S) b → Hd W F b ∨ H1 b = none := hid_put p3
      have xs1 : Xt (Hd W F) H H1 := (Xt.of x1 : Xt (fun _ => False) H H1).mono fun _ z => z.elim
      refine q out _ (V.ref D) _ _ ⟨p8, rfl⟩ s2 (xs1.trans (p1.mono fun a z => .inr ⟨i, z⟩)) (fun b z => (kh b z).imp id fun w => x1.free w) (show At C _ _ _ (.list (out.map Rep.toD)) from .lst (fun z => ?_) p6 (by omega) (p9.sub fun _ _ => .inl trivial))
      rcases hd_fs D z with w | w
      · exact s1.fresh hD w
      · exact p4 w
end
end PD
end
section
set_option Elab.async false
set_option linter.all false
set_option maxRecDepth 100000
set_option maxHeartbeats 4000000
set_option autoImplicit false
namespace PD
open PySem L2
open PySem.W (Datum Tup)
variable [Tabl]
section
variable {C : Addr}
theorem rd_modN {i j : Int} (h : j ≠ 0) : RVD C rModN i j (i.fmod j) := rd_I (c := fun _ j => j ≠ 0) (g := fun i j => i.fmod j) h
theorem rd_divN {i j : Int} (h : CDivN i j) : RVD C rDivN i j (i.fdiv j) := rd_I (c := CDivN) (g := fun i j => i.fdiv j) h
theorem rd_powW {i j : Int} (h : CPowW i j) : RVD C rPowW i j (i ^ j.toNat) := rd_I (c := CPowW) (g := fun i j => i ^ j.toNat) h
theorem rd_mul1 {i j : Int} (h : CMul i j) : RVD C rMul1 i j (i * j) := rd_I (c := CMul) (g := fun i j => i * j) h
theorem fmod_in {i u : Int} (h : 0 < u) : 0 ≤ i.fmod u ∧ i.fmod u < u := by
  rw [Int.fmod_eq_emod_of_nonneg i (Int.le_of_lt h)]
  exact ⟨Int.emod_nonneg _ (by omega), Int.emod_lt_of_pos _ h⟩
theorem fdiv_in {p u : Int} (h0 : 0 ≤ p) (h : 0 < u) : 0 ≤ p.fdiv u ∧ p.fdiv u ≤ p := by
  rw [Int.fdiv_eq_ediv_of_nonneg p (Int.le_of_lt h)]
  exact ⟨Int.ediv_nonneg h0 (Int.le_of_lt h), Int.ediv_le_self _ h0⟩
theorem pow3_ok {i : Int} (h : i.natAbs < 2 ^ 64) : CPowW i 3 := ⟨by decide, PyProof.Rows.bits_mul_le h (by decide) (by decide)⟩
end
end PD
end
section
set_option Elab.async false
set_option linter.all false
set_option maxRecDepth 100000
set_option maxHeartbeats 4000000
set_option autoImplicit false
namespace PD
open PySem L2
open PySem.W (Datum Tup)
open C8 (Cal fnScope fnBody fnScope_by)
variable [Tabl]

/-! ### what is drawn -/
abbrev GdO := Thing → List PyData → (PyData → Thing → Prop) → Prop
abbrev GdF := Thing → List PyData → (List PyData → Thing → Prop) → Prop
def G__law_take : GdO := fun T ds R => ∃ (n : Nat) (u : Int), T = PotT n ∧ ds = [Rep.toD u] ∧ 0 < u ∧ u < 1073741824 ∧ n < 1000000 ∧ R = fun d T' => ∃ k : Int, d = Rep.toD k ∧ 0 ≤ k ∧ k < u ∧ T' = PotT (n + 1)
def G__law_of : GdO := fun T ds R => ∃ (n : Nat) (as : List PyData), T = PotT n ∧ ds = [.list as] ∧ as ≠ [] ∧ as.length < 4096 ∧ n < 1000000 ∧ R = fun d T' => d ∈ as ∧ T' = PotT (n + 1)
def G__law_some : GdF := fun T ds R => ∃ (n : Nat) (some : Sq Str) (many : Int), T = PotT n ∧ ds = [Rep.toD some, Rep.toD many] ∧ some.items.length ≤ 1000 ∧ 0 ≤ many ∧ many ≤ (some.items.length : Int) ∧ n < 900000 ∧
  R = fun ds' T' => ∃ fs left : List Str, ds' = fs.map (fun x => Rep.toD x) ∧ (fs ++ left).Perm some.items ∧ (fs.length : Int) = many ∧ T' = PotT (n + many.toNat)
section
variable {P : Program} {w : World} {K : PySem.W.Frag} {mg : Str → Option Value} {base : Heap} {C : Addr}
abbrev N__law_take : List Str := ["pot", "upto", "digit", "prime", "mixed"]
theorem sc__law_take : FnScope N__law_take ["pot", "upto"] (fnScope (top 55)) := fnScope_by (by decide +kernel)
def t__law_take (C : Addr) (K : PySem.W.Frag) : TS := (tSeq (tIfS (tTest (tOp (rI0 fun i j => .bl (decide (j < i))) (tOp (rIxL K) (tVar 0) (tC (.int 0))) (tC (.int 0)))) (tSeq (tAsg (tOp rModN (tCB rInt1 (tCons (tOp (rIxL K) (tVar 0) (tC (.int 0))) tNil)) (tVar 1)) (gName 2)) (tSeq (tAsg (tOp rDivN (tOp (rIxL K) (tVar 0) (tC (.int 0))) (tVar 1)) (gSub (tVar 0) (tC (.int 0)) rSetL)) (tRet (tVar 2)))) tNext) (tSeq (tAsg (tOp (rI0 fun i j => .int (i + j)) (tOp (rIxL K) (tVar 0) (tC (.int 2))) (tC (.int 1))) (gSub (tVar 0) (tC (.int 2)) rSetL)) (tSeq (tAsg (tOp (rIxL K) (tLst (tCons (tC (.int 2147483647)) (tCons (tC (.int 2147483629)) (tCons (tC (.int 2147483587)) (tCons (tC (.int 2147483579)) (tCons (tC (.int 2147483563)) tNil)))))) (tOp rModN (tCB rInt1 (tCons (tOp (rIxL K) (tVar 0) (tC (.int 2))) tNil)) (tC (.int 5)))) (gName 3)) (tSeq (tAsg (tOp rModN (tCB rInt1 (tCons (tOp rPowW (tCB rInt1 (tCons (tOp (rI0 fun i j => .int (i + j)) (tOp (rI0 fun i j => .int (i + j)) (tOp (rIxL K) (tVar 0) (tC (.int 1))) (tOp rMul1 (tOp (rI CMul fun i j => .int (i * j)) (tC (.int 88741)) (tOp (rIxL K) (tVar 0) (tC (.int 2)))) (tOp (rIxL K) (tVar 0) (tC (.int 2))))) (tC (.int 211))) tNil)) (tC (.int 3))) tNil)) (tVar 3)) (gName 4)) (tSeq (tAsg (tOp rModN (tCB rInt1 (tCons (tOp rMul1 (tVar 4) (tOp (rI0 fun i j => .int (i + j)) (tOp rModN (tCB rInt1 (tCons (tVar 4) tNil)) (tC (.int 10333))) (tOp (rI CMul fun i j => .int (i * j)) (tC (.int 127)) (tOp (rIxL K) (tVar 0) (tC (.int 2)))))) tNil)) (tC (.int 2305843009213693907))) (gName 4)) (tRet (tOp rModN (tCB rInt1 (tCons (tOp rDivN (tVar 4) (tC (.int 197))) tNil)) (tVar 1))))))))
theorem p__law_take {cdv : Value} {A : Around} {outer : List Env} {s : Shared} {H : Hp} {E : XK} {f : Addr} {k : Nat} (M : Mg mg) (S : Shf P w K mg base C)  (hr : Room 1 (A.deeper (PyProof.Rows.envOfC "_law_take" (fnScope (top 55)) s.heap.objs.size f cdv))) : PSs (cxOf C8.CX0 P w K mg base N__law_take "_law_take" (fnScope (top 55)) f cdv A outer s H E).nox (fnBody (top 55)) (t__law_take C K) :=
  have nd := sc__law_take.nd
  (pss_cons (ps_if (pt_cmpR op_gt (pe_ix ix_list (pv 0) pe_int (by intro _ _; rfl)) pe_int (nomark _)) (pss_cons (ps_set (i := 2) nd rfl (by first | exact Or.inl rfl | exact Or.inr rfl) (pe_op op_modN (pe_callTy call_int1 (by rfl) M.b_int bb_int (pa_cons (pe_ix ix_list (pv 0) pe_int (by intro _ _; rfl)) pa_nil)) (pv 1))) (pss_cons (ps_asg (pe_op op_fdivN (pe_ix ix_list (pv 0) pe_int (by intro _ _; rfl)) (pv 1)) (pg_sub (pv 0) pe_int set_list) (by rfl) (by kernel_rfl)) (pss_one (ps_ret (pv 2))))) pss_nil) (pss_cons (ps_asg (pe_op op_add (pe_ix ix_list (pv 0) pe_int (by intro _ _; rfl)) pe_int) (pg_sub (pv 0) pe_int set_list) (by rfl) (by kernel_rfl)) (pss_cons (ps_set (i := 3) nd rfl (by first | exact Or.inl rfl | exact Or.inr rfl) (pe_ix ix_list (pe_lst (pa_cons pe_int (pa_cons pe_int (pa_cons pe_int (pa_cons pe_int (pa_cons pe_int pa_nil)))))) (pe_op op_modN (pe_callTy call_int1 (by rfl) M.b_int bb_int (pa_cons (pe_ix ix_list (pv 0) pe_int (by intro _ _; rfl)) pa_nil)) pe_int) (by intro _ _; rfl))) (pss_cons (ps_set (i := 4) nd rfl (by first | exact Or.inl rfl | exact Or.inr rfl) (pe_op op_modN (pe_callTy call_int1 (by rfl) M.b_int bb_int (pa_cons (pe_op op_powW (pe_callTy call_int1 (by rfl) M.b_int bb_int (pa_cons (pe_op op_add (pe_op op_add (pe_ix ix_list (pv 0) pe_int (by intro _ _; rfl)) (pe_op op_mul (pe_op op_mul pe_int (pe_ix ix_list (pv 0) pe_int (by intro _ _; rfl))) (pe_ix ix_list (pv 0) pe_int (by intro _ _; rfl)))) pe_int) pa_nil)) pe_int) pa_nil)) (pv 3))) (pss_cons (ps_set (i := 4) nd rfl (by first | exact Or.inl rfl | exact Or.inr rfl) (pe_op op_modN (pe_callTy call_int1 (by rfl) M.b_int bb_int (pa_cons (pe_op op_mul (pv 4) (pe_op op_add (pe_op op_modN (pe_callTy call_int1 (by rfl) M.b_int bb_int (pa_cons (pv 4) pa_nil)) pe_int) (pe_op op_mul pe_int (pe_ix ix_list (pv 0) pe_int (by intro _ _; rfl))))) pa_nil)) pe_int)) (pss_one (ps_ret (pe_op op_modN (pe_callTy call_int1 (by rfl) M.b_int bb_int (pa_cons (pe_op op_fdivN (pv 4) pe_int) pa_nil)) (pv 1)))))))))
abbrev N__law_of : List Str := ["pot", "some"]
theorem sc__law_of : FnScope N__law_of ["pot", "some"] (fnScope (top 56)) := fnScope_by (by decide +kernel)
def t__law_of (C : Addr) (K : PySem.W.Frag) : TS := (tRet (tOp (rIxL K) (tVar 1) (tCall (spO C G__law_take) [] C8.E0 (tCons (tVar 0) (tCons (tCB (rLenQ K) (tCons (tVar 1) tNil)) tNil)))))
theorem p__law_of {cdv : Value} {A : Around} {outer : List Env} {s : Shared} {H : Hp} {E : XK} {f : Addr} {k : Nat} (M : Mg mg) (S : Shf P w K mg base C) (c__law_take : Cal P w K mg base 2 "_law_take" (spO C G__law_take) []) (hr : Room 2 (A.deeper (PyProof.Rows.envOfC "_law_of" (fnScope (top 56)) s.heap.objs.size f cdv))) : PSs (cxOf C8.CX0 P w K mg base N__law_of "_law_of" (fnScope (top 56)) f cdv A outer s H E).nox (fnBody (top 56)) (t__law_of C K) :=
  have nd := sc__law_of.nd
  (pss_one (ps_ret (pe_ix ix_list (pv 1) (C8.pe_c c__law_take hr (by decide) (by rfl) (pa_cons (pv 0) (pa_cons (pe_callB call_len_seq (by rfl) M.b_len bb_len (pa_cons (pv 1) pa_nil)) pa_nil))) (by intro _ _; rfl))))
abbrev N__law_some : List Str := ["pot", "some", "many", "left", "found", "lap"]
theorem sc__law_some : FnScope N__law_some ["pot", "some", "many"] (fnScope (top 58)) := fnScope_by (by decide +kernel)
def t__law_some (C : Addr) (K : PySem.W.Frag) : TS := (tSeq (tPar 3 4 (tCons (tCB (rListQ K) (tCons (tVar 1) tNil)) (tCons (tLst tNil) tNil))) (tSeq (tFor (iRng1 (tCons (tVar 2) tNil)) (gName 5) (tDrop (tBM K "list" rAppend (tVar 4) (tCons (tBM K "list" rPopAt (tVar 3) (tCons (tCall (spO C G__law_take) [] C8.E0 (tCons (tVar 0) (tCons (tCB (rLenQ K) (tCons (tVar 3) tNil)) tNil))) tNil)) tNil)))) (tRet (tVar 4))))
theorem p__law_some {cdv : Value} {A : Around} {outer : List Env} {s : Shared} {H : Hp} {E : XK} {f : Addr} {k : Nat} (M : Mg mg) (S : Shf P w K mg base C) (c__law_take : Cal P w K mg base 2 "_law_take" (spO C G__law_take) []) (hr : Room 2 (A.deeper (PyProof.Rows.envOfC "_law_some" (fnScope (top 58)) s.heap.objs.size f cdv))) : PSs (cxOf C8.CX0 P w K mg base N__law_some "_law_some" (fnScope (top 58)) f cdv A outer s H E).nox (fnBody (top 58)) (t__law_some C K) :=
  have nd := sc__law_some.nd
  (pss_cons (ps_par (i := 3) (j := 4) (by rfl) nd rfl rfl (by decide) rfl rfl (pa_cons (pe_callTy call_list_of (by rfl) M.b_list bb_list (pa_cons (pv 1) pa_nil)) (pa_cons (pe_lst pa_nil) pa_nil)) (by kernel_rfl)) (pss_cons (ps_for PassesOwn.never (by rfl) (pi_range1 (by rfl) M.b_range (pa_cons (pv 2) pa_nil)) (pg_name (i := 5) nd rfl (by first | exact Or.inl rfl | exact Or.inr rfl)) (pss_one (ps_expr (pe_bm PySem.F.plainAttrs_list PySem.F.slot_list_append PySem.F.type_list_append mt_append (pv 4) (pa_cons (pe_bm PySem.F.plainAttrs_list PySem.F.slot_list_pop PySem.F.type_list_pop mt_popAt (pv 3) (pa_cons (C8.pe_c c__law_take hr (by decide) (by rfl) (pa_cons (pv 0) (pa_cons (pe_callB call_len_seq (by rfl) M.b_len bb_len (pa_cons (pv 3) pa_nil)) pa_nil))) pa_nil)) pa_nil))))) (pss_one (ps_ret (pv 4)))))
theorem es__law_take {T : Thing} {ds : List PyData} {R : PyData → Thing → Prop} (h : G__law_take T ds R) : ES C (t__law_take C K) (startO N__law_take T ds) (fun e' => ∃ T', e'[0]? = some (.own T') ∧ ∃ T'', Imp T' T'' ∧ R .none T'') fun d e' => ∃ T', e'[0]? = some (.own T') ∧ ∃ T'', Imp T' T'' ∧ R d T'' := by
  obtain ⟨n, u, rfl, rfl, hu, hu2, hn, rfl⟩ := h
  refine es_openPot (i := 0) rfl fun p q r b => ?_
  obtain ⟨b1, b2, b3, b4, b5, b6⟩ := b
  refine es_guard (et_test (ed_op (α := Int) (β := Int) (γ := Bool) (ed_ixL (α := Int) (el_own (α := Int) (i := 0) rfl) (ed_int (i := 0)) (by rfl)) (ed_int (i := 0)) rd_cmp)) (fun h => ?_) fun h => ?_
  · have hp : 0 < p := of_decide_eq_true h
    refine es_seq1 (es_set (α := Int) (i := 2) (by decide) (ed_op (α := Int) (β := Int) (γ := Int) (ed_int1 (ed_ixL (α := Int) (el_own (α := Int) (i := 0) rfl) (ed_int (i := 0)) (by rfl))) (ed_var (α := Int) (i := 1) rfl) (rd_modN (by omega)))) ?_
    refine es_seq1 (es_setIx (i := 0) (n := 0) rfl (ed_op (α := Int) (β := Int) (γ := Int) (ed_ixL (α := Int) (el_own (α := Int) (i := 0) rfl) (ed_int (i := 0)) (by rfl)) (ed_var (α := Int) (i := 1) rfl) (rd_divN ⟨by omega, by omega⟩)) (ed_int (i := 0)) rfl) ?_
    obtain ⟨d1, d2⟩ := fdiv_in b1 hu
    obtain ⟨m1, m2⟩ := fmod_in (i := p) hu
    refine es_ret (α := Int) (ed_var (α := Int) (i := 2) rfl) ⟨_, rfl, _, pot_close (n := n + 1) (p := p.fdiv u) (q := q) (r := r) ⟨d1, Int.lt_of_le_of_lt d2 b2, b3, b4, b5, by omega⟩, _, rfl, m1, m2, rfl⟩
  · refine es_seq1 (es_setIx (i := 0) (n := 2) rfl (ed_op (α := Int) (β := Int) (γ := Int) (ed_ixL (α := Int) (el_own (α := Int) (i := 0) rfl) (ed_int (i := 2)) (by rfl)) (ed_int (i := 1)) rd_add) (ed_int (i := 2)) rfl) ?_
    show ES C _ [.own (PotL C p q (r + 1)), .dat (Rep.toD u), .emp, .emp, .emp] _ _
    have hz : 0 ≤ r + 1 ∧ r + 1 ≤ 1000000 := by omega
    have hm5 := fmod_in (i := r + 1) (u := 5) (by decide)
    obtain ⟨pr, hpr, hp0, hp1⟩ : ∃ pr : Int, atI [2147483647, 2147483629, 2147483587, 2147483579, 2147483563] ((r + 1).fmod 5) = some pr ∧ 0 < pr ∧ pr < 2147483648 := by
      generalize (r + 1).fmod 5 = z at hm5
      obtain ⟨z1, z2⟩ := hm5
      have : z = 0 ∨ z = 1 ∨ z = 2 ∨ z = 3 ∨ z = 4 := by omega
      rcases this with rfl | rfl | rfl | rfl | rfl
      · exact ⟨2147483647, rfl, by decide, by decide⟩
      · exact ⟨2147483629, rfl, by decide, by decide⟩
      · exact ⟨2147483587, rfl, by decide, by decide⟩
      · exact ⟨2147483579, rfl, by decide, by decide⟩
      · exact ⟨2147483563, rfl, by decide, by decide⟩
    refine es_seq1 (es_set (α := Int) (i := 3) (by decide) (ed_ixL (α := Int) (EF.el (pb := true) (ef_lst (α := Int) (as := [_, _, _, _, _]) (ea_cons (α := Int) (ed_int (i := 2147483647)) (ea_cons (α := Int) (ed_int (i := 2147483629)) (ea_cons (α := Int) (ed_int (i := 2147483587)) (ea_cons (α := Int) (ed_int (i := 2147483579)) (ea_cons (α := Int) (ed_int (i := 2147483563)) ea_nil))))) (show 5 ≤ 4096 by decide))) (ed_op (α := Int) (β := Int) (γ := Int) (ed_int1 (ed_ixL (α := Int) (el_own (α := Int) (i := 0) rfl) (ed_int (i := 2)) (by rfl))) (ed_int (i := 5)) (rd_modN (by decide))) hpr)) ?_
    have hq1 : (88741 * (r + 1)) * (r + 1) ≤ 88741 * 1000000 * 1000000 := by
      have h1 : 88741 * (r + 1) ≤ 88741 * 1000000 := by omega
      exact Int.mul_le_mul h1 hz.2 hz.1 (by decide)
    have hq0 : 0 ≤ (88741 * (r + 1)) * (r + 1) := Int.mul_nonneg (by omega) hz.1
    refine es_seq1 (es_set (α := Int) (i := 4) (by decide) (ed_op (α := Int) (β := Int) (γ := Int) (ed_int1 (ed_op (α := Int) (β := Int) (γ := Int) (ed_int1 (ed_op (α := Int) (β := Int) (γ := Int) (ed_op (α := Int) (β := Int) (γ := Int) (ed_ixL (α := Int) (el_own (α := Int) (i := 0) rfl) (ed_int (i := 1)) (by rfl)) (ed_op (α := Int) (β := Int) (γ := Int) (ed_op (α := Int) (β := Int) (γ := Int) (ed_int (i := 88741)) (ed_ixL (α := Int) (el_own (α := Int) (i := 0) rfl) (ed_int (i := 2)) (by rfl)) (rd_mul (Or.inl ⟨by decide, by decide⟩))) (ed_ixL (α := Int) (el_own (α := Int) (i := 0) rfl) (ed_int (i := 2)) (by rfl)) (rd_mul1 (.inl ⟨by omega, by omega⟩))) rd_add) (ed_int (i := 211)) rd_add)) (ed_int (i := 3)) (rd_powW (pow3_ok (by omega))))) (ed_var (α := Int) (i := 3) rfl) (rd_modN (by omega)))) ?_
    obtain ⟨m1, m2⟩ := fmod_in (i := (q + (88741 * (r + 1)) * (r + 1) + 211) ^ (3 : Int).toNat) hp0
    generalize hmx : ((q + (88741 * (r + 1)) * (r + 1) + 211) ^ (3 : Int).toNat).fmod pr = mx at m1 m2
    rw [show (q + 88741 * (r + 1) * (r + 1) + 211) ^ (3 : Int).toNat = _ from rfl] at hmx
    refine es_seq1 (es_set (α := Int) (i := 4) (by decide) (ed_op (α := Int) (β := Int) (γ := Int) (ed_int1 (ed_op (α := Int) (β := Int) (γ := Int) (ed_var (α := Int) (i := 4) rfl) (ed_op (α := Int) (β := Int) (γ := Int) (ed_op (α := Int) (β := Int) (γ := Int) (ed_int1 (ed_var (α := Int) (i := 4) rfl)) (ed_int (i := 10333)) (rd_modN (by decide))) (ed_op (α := Int) (β := Int) (γ := Int) (ed_int (i := 127)) (ed_ixL (α := Int) (el_own (α := Int) (i := 0) rfl) (ed_int (i := 2)) (by rfl)) (rd_mul (Or.inl ⟨by decide, by decide⟩))) rd_add) (rd_mul1 (.inl ⟨by omega, by omega⟩)))) (ed_int (i := 2305843009213693907)) (rd_modN (by decide)))) ?_
    refine es_ret (α := Int) (ed_op (α := Int) (β := Int) (γ := Int) (ed_int1 (ed_op (α := Int) (β := Int) (γ := Int) (ed_var (α := Int) (i := 4) rfl) (ed_int (i := 197)) (rd_divN ⟨by decide, by decide⟩))) (ed_var (α := Int) (i := 1) rfl) (rd_modN (by omega))) ?_
    obtain ⟨k1, k2⟩ := fmod_in (i := (((mx * (mx.fmod 10333 + 127 * (r + 1))).fmod 2305843009213693907).fdiv 197)) hu
    exact ⟨_, rfl, _, pot_close (n := n + 1) (p := p) (q := q) (r := r + 1) ⟨b1, b2, b3, b4, by omega, by omega⟩, _, rfl, k1, k2, rfl⟩
end
end PD
end
section
set_option Elab.async false
set_option linter.all false
set_option maxRecDepth 100000
set_option maxHeartbeats 4000000
set_option autoImplicit false
namespace PD
open PySem L2
open PySem.W (Datum Tup)
variable [Tabl]
section
variable {C : Addr} {K : PySem.W.Frag} {pb : Bool} {e : List Sl} {te ta tb : TE} {tt : TT} {t : TA} {ts : TS} {g : TG} {α β : Type} [Rep α] [Rep β] {N : List Sl → Prop} {R : PyData → List Sl → Prop}
theorem el_dat {i : Nat} {as : List PyData} (h : e[i]? = some (.dat (.list as))) : EL C pb (tVar i) e as := fun W F σ H s Q q => by
  obtain ⟨v, h1, h2⟩ := s.dat i _ h
  cases h2 with
  | lst n e z t => exact ⟨_, h1, q _ _ H (fun _ => n) (Same.refl H) e z (by rw [show as.map Rep.toD = as from List.map_id as]; exact t)⟩
/-- te == c, te may change something -/
theorem egt_eq0 {P : Int → List Sl → Prop} {c : Int} (h : EG C te e P) : EGT C (tTest (tOp (rEqP K false) te (tC (.int c)))) e fun b e' => ∃ k, P k e' ∧ b = decide (k = c) := fun W F σ H s Q q => h W F σ H s _ fun k e' v F' H' p s' x kk t => by
  cases at_int t
  refine ⟨.int k, .int c, .int k, .int c, rfl, rfl, by show 0 ≤ 50; decide, ?_⟩
  refine ⟨_, rfl, ?_⟩
  have e1 : PyData.eqv (Rep.toD k) (Rep.toD c) = decide (k = c) := Datum.eqv k c
  show Q (PyData.eqv (Rep.toD k) (Rep.toD c)) H'
  rw [e1]
  exact q _ e' F' H' ⟨k, p, rfl⟩ s' x kk
/-- for .. in range(te), te may change something -/
theorem es_forRG {P : Int → List Sl → Prop} (h : EG C te e P) (k : ∀ a e', P a e' → ES C (tFor (iRng1 (tCons (tC (.int a)) tNil)) g ts) e' N R) : ES C (tFor (iRng1 (tCons te tNil)) g ts) e N R := fun W F σ H s D qn qr => by
  have h2 : te σ H fun x H1 => tFor (iRng1 (tCons (tC x) tNil)) g ts D σ H1 := h W F σ H s _ fun a e' v F' H' p s' x kk t => by
    cases at_int t
    exact k a e' p W F' σ H' s' D qn qr
  exact h2
/-- ta[tb] of a text, tb may change something -/
theorem eg_ixS {x : Str} {P : Int → List Sl → Prop} {P' : Str → List Sl → Prop} (ha : ED C ta e x) (hb : EG C tb e P) (hr : ∀ j e', P j e' → ∃ c, atI x.cps.toList j = some c ∧ P' ⟨#[c]⟩ e') : EG C (tOp rIxS ta tb) e P' := fun W F σ H s Q q =>
  ha W F σ H s _ fun v H2 x2 a2 => hb W F σ H2 (s.same x2) _ fun j e' y F' H3 p s3 x3 k3 t3 => by
    obtain ⟨rfl, hz⟩ := at_str a2
    cases at_int t3
    obtain ⟨c, h1, pa⟩ := hr j e' p
    have xs2 : Xt (Hd W F) H H2 := (Xt.of x2 : Xt (fun _ => False) H H2).mono fun _ z => z.elim
    exact ⟨x, j, c, rfl, rfl, Nat.le_trans hz (by decide), h1, q _ e' _ F' H3 pa s3 (xs2.trans x3) (fun b z => (k3 b z).imp id fun w => x2.free w) (.str (by show (1 : Nat) ≤ 100000; decide))⟩
/-- te.join(a list of texts) -/
abbrev rJoin (K : PySem.W.Frag) : V → List V → Hp → VK → Prop := fun x xs H Q => ∃ a p, ∃ ys : List Str, x = .str a ∧ xs = [.ref p] ∧ (SqL K H p (ys.map V.str) ∨ SqT K H p (ys.map V.str)) ∧ (ys.map (·.length)).sum + ys.length * a.length ≤ 16777216 ∧ Q (.str (Txt.join a ys)) H
theorem ed_join {a : Str} {ys : List Str} (ho : ED C ta e a) (h : EL C pb te e ys) (hl : (ys.map (·.length)).sum + ys.length * a.length ≤ 16777216) (hz : (Txt.join a ys).length ≤ 100000) : ED C (tM1 (rJoin K) ta te) e (Txt.join a ys) := fun W F σ H s Q q =>
  ho W F σ H s _ fun v H2 x2 a2 => by
    obtain ⟨rfl, _⟩ := at_str a2
    refine ⟨⟨a, rfl⟩, h W F σ H2 (s.same x2) _ fun p xs H3 _ x3 hl3 hz3 t3 => ⟨a, p, ys, rfl, rfl, .inl (SqL.of (by rw [hl3, (all_strs t3).1])), hl, q _ H3 (x2.trans x3) (.str hz)⟩⟩
end
end PD
end
section
set_option Elab.async false
set_option linter.all false
set_option maxRecDepth 100000
set_option maxHeartbeats 4000000
set_option autoImplicit false
namespace PD
open PySem L2
open PySem.W (Datum Tup)
open C8 (Cal fnScope fnBody fnScope_by)
variable [Tabl]

/-! ### names -/
def letters : Str := "abcdefghijklmnopqrstuvwxyz"
def figures : Str := "0123456789"
structure NameOk (x : Str) : Prop where
  pos : 0 < x.length
  most : x.length ≤ 8
  first : ∃ c, atI x.cps.toList 0 = some c ∧ c ∈ letters.cps.toList
  each : ∀ c ∈ x.cps.toList, c ∈ letters.cps.toList ∨ c ∈ figures.cps.toList
abbrev G_is_name : Gd := G1p NameOk fun _ => true
def pool : List Str := ["a", "b", "c", "york", "x9", "copy", "place", "zzzzzzzz", "m1", "rome", "q", "k", "t0", "undo"]
def signs : Str := "abcdefghijklmnopqrstuvwxyz0123456789"
def nameB (x : Str) : Bool := decide (0 < x.length) && (decide (x.length ≤ 8) && ((match atI x.cps.toList 0 with | some c => decide (c ∈ letters.cps.toList) | none => false) && x.cps.toList.all fun c => decide (c ∈ letters.cps.toList) || decide (c ∈ figures.cps.toList)))
theorem nameB_ok {x : Str} (h : nameB x = true) : NameOk x := by
  unfold nameB at h
  rw [Bool.and_eq_true, Bool.and_eq_true, Bool.and_eq_true] at h
  obtain ⟨h1, h2, h3, h4⟩ := h
  refine ⟨of_decide_eq_true h1, of_decide_eq_true h2, ?_, fun c hc => ?_⟩
  · cases hq : atI x.cps.toList 0 with
    | none => rw [hq] at h3; cases h3
    | some c => rw [hq] at h3; exact ⟨c, rfl, of_decide_eq_true h3⟩
  · have := List.all_eq_true.mp h4 c hc
    rw [Bool.or_eq_true] at this
    exact this.imp (fun z => of_decide_eq_true z) fun z => of_decide_eq_true z
theorem pool_ok : ∀ x ∈ pool, NameOk x := by
  have h : pool.all nameB = true := by decide +kernel
  exact fun x hx => nameB_ok (List.all_eq_true.mp h x hx)
theorem pool_nodup : pool.Nodup := by decide +kernel
/-- none of them begins with w -/
theorem pool_w : ∀ x ∈ pool, x.cps.toList[0]? ≠ some 119 := by
  have h : (pool.all fun x => decide (x.cps.toList[0]? ≠ some 119)) = true := by decide +kernel
  exact fun x hx => of_decide_eq_true (List.all_eq_true.mp h x hx)
def G__law_names : GdO := fun T ds R => ∃ (n : Nat) (many : Int), T = PotT n ∧ ds = [Rep.toD many] ∧ 1 ≤ many ∧ many ≤ 14 ∧ n < 800000 ∧
  R = fun d T' => ∃ c : Lot, d = Rep.toD c ∧ c.items.Nodup ∧ (c.items.length : Int) = many ∧ (∀ x ∈ c.items, NameOk x) ∧ T' = PotT (n + 30)
/-- a made word -/
structure WordOk (i : Nat) (x : Str) : Prop where
  len : x.length = i + 1
  first : x.cps.toList[0]? = some 119
  each : ∀ c ∈ x.cps.toList, c ∈ letters.cps.toList ∨ c ∈ figures.cps.toList
theorem signs_ok : ∀ c ∈ signs.cps.toList, c ∈ letters.cps.toList ∨ c ∈ figures.cps.toList := by
  have h : (signs.cps.toList.all fun c => decide (c ∈ letters.cps.toList) || decide (c ∈ figures.cps.toList)) = true := by decide +kernel
  exact fun c hc => by
    have := List.all_eq_true.mp h c hc
    rw [Bool.or_eq_true] at this
    exact this.imp (fun z => of_decide_eq_true z) fun z => of_decide_eq_true z
theorem signs_len : signs.cps.toList.length = 36 := by decide +kernel
theorem word_start : WordOk 0 "w" := ⟨by decide +kernel, by decide +kernel, by
  have h : ((Str.ofString "w").cps.toList.all fun c => decide (c ∈ letters.cps.toList) || decide (c ∈ figures.cps.toList)) = true := by decide +kernel
  exact fun c hc => by
    have := List.all_eq_true.mp h c hc
    rw [Bool.or_eq_true] at this
    exact this.imp (fun z => of_decide_eq_true z) fun z => of_decide_eq_true z⟩
theorem app_list (x y : Str) : (x ++ y).cps.toList = x.cps.toList ++ y.cps.toList := by
  show (x.cps ++ y.cps).toList = _
  exact Array.toList_append
theorem word_next {i : Nat} {x : Str} (h : WordOk i x) {c : Nat} (hc : c ∈ signs.cps.toList) : WordOk (i + 1) (x ++ ⟨#[c]⟩) := by
  refine ⟨?_, ?_, ?_⟩
  · have e : (x ++ (⟨#[c]⟩ : Str)).length = x.length + 1 := by
      show (x.cps ++ #[c]).size = x.cps.size + 1
      exact Array.size_append
    rw [e, h.len]
  · rw [app_list, List.getElem?_append_left]
    · exact h.first
    · exact (List.getElem?_eq_some_iff.mp h.first).1
  · intro d hd
    rw [app_list] at hd
    rcases List.mem_append.mp hd with z | z
    · exact h.each d z
    · rw [List.mem_singleton.mp z]
      exact signs_ok c hc
theorem w_letter : (119 : Nat) ∈ letters.cps.toList := by decide +kernel
theorem word_name {i : Nat} {x : Str} (h : WordOk i x) (hi : i ≤ 7) : NameOk x := by
  refine ⟨by rw [h.len]; omega, by rw [h.len]; omega, ⟨119, ?_, w_letter⟩, h.each⟩
  have hl := (List.getElem?_eq_some_iff.mp h.first).1
  unfold atI ixN
  rw [if_pos (by decide), if_pos (by omega)]
  exact h.first
theorem nodup_set {α : Type} {x : α} : ∀ {xs : List α} (n : Nat), xs.Nodup → x ∉ xs → (xs.set n x).Nodup
  | [], _, _, _ => List.nodup_nil
  | y :: ys, 0, h, hx => List.nodup_cons.mpr ⟨fun z => hx (List.mem_cons_of_mem _ z), (List.nodup_cons.mp h).2⟩
  | y :: ys, n + 1, h, hx => by
    have h' := List.nodup_cons.mp h
    refine List.nodup_cons.mpr ⟨fun z => ?_, nodup_set n h'.2 fun z => hx (List.mem_cons_of_mem _ z)⟩
    rcases List.mem_or_eq_of_mem_set z with w | w
    · exact h'.1 w
    · exact hx (by rw [← w]; exact List.mem_cons_self)
theorem erase_perm {α : Type} : ∀ {xs : List α} {n : Nat} {a : α}, xs[n]? = some a → (a :: xs.eraseIdx n).Perm xs
  | [], _, _, h => by simp at h
  | x :: xs, 0, a, h => by
    have : x = a := by simpa using h
    subst this
    exact List.Perm.refl _
  | x :: xs, n + 1, a, h => by
    have h' : xs[n]? = some a := by simpa using h
    exact (List.Perm.swap x a _).trans ((erase_perm h').cons x)
theorem atI_in {α : Type} {as : List α} {k : Int} (h0 : 0 ≤ k) (h1 : k < (as.length : Int)) : ∃ a, atI as k = some a ∧ a ∈ as ∧ as[k.toNat]? = some a := by
  obtain ⟨n, rfl⟩ : ∃ n : Nat, k = n := ⟨k.toNat, by omega⟩
  have hn : n < as.length := by omega
  refine ⟨as[n], ?_, List.getElem_mem hn, by rw [Int.toNat_natCast]; exact List.getElem?_eq_getElem hn⟩
  unfold atI ixN
  rw [if_pos h0, if_pos h1, Int.toNat_natCast]
  show as[n]? = _
  exact List.getElem?_eq_getElem hn
theorem ef_mapStr {C : Addr} {e : List Sl} {ta te : TE} {vs : List Nat} {j : Nat} {β : Type} [Rep β] {x : Str} {f : Nat → β} (h : ED C ta e x) (hl : x.length ≤ 4096) (he : ∀ c ∈ x.cps.toList, ED C te ((wipeE e vs).set j (.dat (Rep.toD (⟨#[c]⟩ : Str)))) (f c)) (hv : noOwn e vs = true := by rfl) (h0 : 0 ∉ vs := by decide) (hj : j ∈ vs := by decide) :
    EF C (tLc (iStr ta) (gName j) tYes te vs) e (x.cps.toList.map f) := by
  have q : EF C (tLc (iStr ta) (gName j) tYes te vs) e ((x.cps.toList.filter fun _ => true).map f) := ef_lc (γ := Nat) (enc := fun c => [(j, PyData.str ⟨#[c]⟩)]) (fun _ => true) f (src_str h hl) (fun _ _ => et_yes) (fun c hc _ => he c hc) hv h0 fun c p hp => by
    rw [List.mem_singleton.mp hp]
    exact hj
  rw [List.filter_eq_self.mpr fun _ _ => rfl] at q
  exact q
section
variable {P : Program} {w : World} {K : PySem.W.Frag} {mg : Str → Option Value} {base : Heap} {C : Addr}
abbrev N_is_name : List Str := ["value", "sign"]
theorem sc_is_name : FnScope N_is_name ["value"] (fnScope (top 15)) := fnScope_by (by decide +kernel)
def t_is_name (C : Addr) (K : PySem.W.Frag) : TS := (tSeq (tIfS (tOr (tNot (tB (tCB (rIsi K) (tCons (tVar 0) (tCons (tC (.ty "str")) tNil))))) (tOr (tNot (tTest (tChain (rI0 fun i j => .bl (decide (i < j))) (rI0 fun i j => .bl (decide (i ≤ j))) (tC (.int 0)) (tCB rLenS (tCons (tVar 0) tNil)) (tC (.int 8))))) (tTest (tOp rSgN (tOp rIxS (tVar 0) (tC (.int 0))) (tC (.str "abcdefghijklmnopqrstuvwxyz")))))) (tRet (tC (.bl false))) tNext) (tRet (tCB (rAll K) (tCons (tLc (iStr (tVar 0)) (gName 1) tYes (tOrV (tOp rSg (tVar 1) (tC (.str "abcdefghijklmnopqrstuvwxyz"))) (tOp rSg (tVar 1) (tC (.str "0123456789")))) [1]) tNil))))
theorem p_is_name {cdv : Value} {A : Around} {outer : List Env} {s : Shared} {H : Hp} {E : XK} {f : Addr} {k : Nat} (M : Mg mg) (S : Shf P w K mg base C)  (hr : Room 1 (A.deeper (PyProof.Rows.envOfC "is_name" (fnScope (top 15)) s.heap.objs.size f cdv))) : PSs (cxOf C8.CX0 P w K mg base N_is_name "is_name" (fnScope (top 15)) f cdv A outer s H E).nox (fnBody (top 15)) (t_is_name C K) :=
  have nd := sc_is_name.nd
  (pss_cons (ps_if ((pw_or (pt_not (pt_val (pe_callB call_isi (by rfl) M.b_isinstance bb_isinstance (pa_cons (pv 0) (pa_cons (pe_bltn (by rfl) M.b_str bb_str (by rfl)) pa_nil))))) (pw_or (pt_not (pt_chain op_lt op_le pe_int (pe_callB call_len_str (by rfl) M.b_len bb_len (pa_cons (pv 0) pa_nil)) (pe_gI (by rfl) M.k_MOST_SIGNS))) (pw_or1 (pt_cmpR op_notIn_sign (pe_ix ix_str (pv 0) pe_int (by intro _ _; rfl)) (pe_gS (by rfl) M.k_LETTERS) (by rfl)))))).pt (pss_one (ps_ret pe_bl)) pss_nil) (pss_one (ps_ret (pe_callB (cr_all (by rfl)) (by rfl) M.b_all bb_all (pa_cons (pe_lc (own := [("sign", 1)]) (g := (gName 1)) (tt := tYes) (te := (tOrV (tOp rSg (tVar 1) (tC (.str "abcdefghijklmnopqrstuvwxyz"))) (tOp rSg (tVar 1) (tC (.str "0123456789"))))) (by rfl) nd (pi_str (pv 0)) (blkOk_by (by kernel_rfl)) (fun _ _ _ _ _ => (pg_name (i := 1) nd rfl (by first | exact Or.inl rfl | exact Or.inr rfl))) (fun _ _ _ _ _ => pts_nil) (fun _ _ _ _ _ => (pe_or (pe_cmpR op_in_sign (pv 1) (pe_gS (by rfl) M.k_LETTERS) (by rfl)) (pe_one (pe_cmpR op_in_sign (pv 1) (pe_gS (by rfl) M.k_FIGURES_words) (by rfl)))))) pa_nil)))))
abbrev N__law_names : List Str := ["pot", "many", "pool", "found", "signs", "word", "lap"]
theorem sc__law_names : FnScope N__law_names ["pot", "many"] (fnScope (top 59)) := fnScope_by (by decide +kernel)
def t__law_names (C : Addr) (K : PySem.W.Frag) : TS := (tSeq (tAsg (tLst (tCons (tC (.str "a")) (tCons (tC (.str "b")) (tCons (tC (.str "c")) (tCons (tC (.str "york")) (tCons (tC (.str "x9")) (tCons (tC (.str "copy")) (tCons (tC (.str "place")) (tCons (tC (.str "zzzzzzzz")) (tCons (tC (.str "m1")) (tCons (tC (.str "rome")) (tCons (tC (.str "q")) (tCons (tC (.str "k")) (tCons (tC (.str "t0")) (tCons (tC (.str "undo")) tNil))))))))))))))) (gName 2)) (tSeq (tPar 3 4 (tCons (tCall (spOF C G__law_some) [] C8.E0 (tCons (tVar 0) (tCons (tVar 2) (tCons (tVar 1) tNil)))) (tCons (tC (.str "abcdefghijklmnopqrstuvwxyz0123456789")) tNil))) (tSeq (tIfS (tTest (tOp (rEqP K false) (tCall (spO C G__law_take) [] C8.E0 (tCons (tVar 0) (tCons (tC (.int 3)) tNil))) (tC (.int 0)))) (tSeq (tAsg (tC (.str "w")) (gName 5)) (tSeq (tFor (iRng1 (tCons (tCall (spO C G__law_take) [] C8.E0 (tCons (tVar 0) (tCons (tC (.int 8)) tNil))) tNil)) (gName 6) (tAsg (tOp rSCat (tVar 5) (tOp rIxS (tVar 4) (tCall (spO C G__law_take) [] C8.E0 (tCons (tVar 0) (tCons (tC (.int 36)) tNil))))) (gName 5))) (tAsg (tVar 5) (gSub (tVar 3) (tCall (spO C G__law_take) [] C8.E0 (tCons (tVar 0) (tCons (tVar 1) tNil))) rSetL)))) tNext) (tRet (tCB (rTupF K) (tCons (tVar 3) tNil))))))
theorem p__law_names {cdv : Value} {A : Around} {outer : List Env} {s : Shared} {H : Hp} {E : XK} {f : Addr} {k : Nat} (M : Mg mg) (S : Shf P w K mg base C) (c__law_some : Cal P w K mg base 3 "_law_some" (spOF C G__law_some) []) (c__law_take : Cal P w K mg base 2 "_law_take" (spO C G__law_take) []) (hr : Room 3 (A.deeper (PyProof.Rows.envOfC "_law_names" (fnScope (top 59)) s.heap.objs.size f cdv))) : PSs (cxOf C8.CX0 P w K mg base N__law_names "_law_names" (fnScope (top 59)) f cdv A outer s H E).nox (fnBody (top 59)) (t__law_names C K) :=
  have nd := sc__law_names.nd
  (pss_cons (ps_set (i := 2) nd rfl (by first | exact Or.inl rfl | exact Or.inr rfl) (pe_lst (pa_cons pe_str (pa_cons pe_str (pa_cons pe_str (pa_cons pe_str (pa_cons pe_str (pa_cons pe_str (pa_cons pe_str (pa_cons pe_str (pa_cons pe_str (pa_cons pe_str (pa_cons pe_str (pa_cons pe_str (pa_cons pe_str (pa_cons pe_str pa_nil)))))))))))))))) (pss_cons (ps_par (i := 3) (j := 4) (by rfl) nd rfl rfl (by decide) rfl rfl (pa_cons (C8.pe_c c__law_some hr (by decide) (by rfl) (pa_cons (pv 0) (pa_cons (pv 2) (pa_cons (pv 1) pa_nil)))) (pa_cons pe_str pa_nil)) (by kernel_rfl)) (pss_cons (ps_if (pt_cmpR (op_eqP hr.units) (C8.pe_c c__law_take hr (by decide) (by rfl) (pa_cons (pv 0) (pa_cons pe_int pa_nil))) pe_int (nomark _)) (pss_cons (ps_set (i := 5) nd rfl (by first | exact Or.inl rfl | exact Or.inr rfl) pe_str) (pss_cons (ps_for PassesOwn.never (by rfl) (pi_range1 (by rfl) M.b_range (pa_cons (C8.pe_c c__law_take hr (by decide) (by rfl) (pa_cons (pv 0) (pa_cons pe_int pa_nil))) pa_nil)) (pg_name (i := 6) nd rfl (by first | exact Or.inl rfl | exact Or.inr rfl)) (pss_one (ps_set (i := 5) nd rfl (by first | exact Or.inl rfl | exact Or.inr rfl) (pe_op op_sCat (pv 5) (pe_ix ix_str (pv 4) (C8.pe_c c__law_take hr (by decide) (by rfl) (pa_cons (pv 0) (pa_cons pe_int pa_nil))) (by intro _ _; rfl)))))) (pss_one (ps_asg (pv 5) (pg_sub (pv 3) (C8.pe_c c__law_take hr (by decide) (by rfl) (pa_cons (pv 0) (pa_cons (pv 1) pa_nil))) set_list) (by rfl) (by kernel_rfl))))) pss_nil) (pss_one (ps_ret (pe_callTy cr_tupF (by rfl) M.b_tuple bb_tuple (pa_cons (pv 3) pa_nil)))))))
theorem es_is_name {ds : List PyData} {R : PyData → Prop} (h : G_is_name ds R) : ES C (t_is_name C K) (startE N_is_name ds) (fun _ => R .none) fun d _ => R d := by
  obtain ⟨x, rfl, hx, rfl⟩ := h
  obtain ⟨c, h1, h2⟩ := hx.first
  have hp := hx.pos
  have hm := hx.most
  refine es_guard (et_or (et_not (et_B (ed_isi (α := Str) (b := true) (ed_var (α := Str) (i := 0) rfl) rfl (kit_ty (by decide +kernel))))) (fun h_ => (et_or (et_not (et_test (ed_chain (α := Int) (β := Int) (γ := Int) (ed_int (i := 0)) (ed_len_s (ed_var (α := Str) (i := 0) rfl)) rd_cmp (fun _ => (ed_int (i := 8))) rd_cmp))) (fun h_ => (et_test (ed_op (α := Str) (β := Str) (γ := Bool) (ed_ixS (ed_var (α := Str) (i := 0) rfl) (ed_int (i := 0)) h1) (ed_str (x := "abcdefghijklmnopqrstuvwxyz") (by decide +kernel)) rd_notInSign)))))) (fun h => ?_) fun h => ?_
  · exfalso
    have a1 : decide ((0 : Int) < (x.length : Int)) = true := decide_eq_true (by omega)
    have a2 : decide ((x.length : Int) ≤ 8) = true := decide_eq_true (by omega)
    have h2' : c ∈ (Str.ofString "abcdefghijklmnopqrstuvwxyz").cps.toList := h2
    rw [a1, a2] at h
    simp [h2'] at h
  · refine es_ret (α := Bool) (ed_all (EF.el (pb := true) (ef_mapStr (f := fun c => decide (c ∈ letters.cps.toList) || decide (c ∈ figures.cps.toList)) (ed_var (α := Str) (i := 0) rfl) (by omega) fun c hc => ed_or (ed_op (α := Str) (β := Str) (γ := Bool) (ed_var (α := Str) (i := 1) rfl) (ed_str (x := "abcdefghijklmnopqrstuvwxyz") (by decide +kernel)) rd_inSign) (fun h_ => (ed_op (α := Str) (β := Str) (γ := Bool) (ed_var (α := Str) (i := 1) rfl) (ed_str (x := "0123456789") (by decide +kernel)) rd_inSign))))) ?_
    have e1 : ((x.cps.toList.map fun c => decide (c ∈ letters.cps.toList) || decide (c ∈ figures.cps.toList)).all id) = true := by
      rw [List.all_map]
      refine List.all_eq_true.mpr fun c hc => ?_
      show (decide (c ∈ letters.cps.toList) || decide (c ∈ figures.cps.toList)) = true
      rw [Bool.or_eq_true]
      exact (hx.each c hc).imp decide_eq_true decide_eq_true
    rw [e1]
theorem es__law_of {T : Thing} {ds : List PyData} {R : PyData → Thing → Prop} (h : G__law_of T ds R) : ES C (t__law_of C K) (startO N__law_of T ds) (fun e' => ∃ T', e'[0]? = some (.own T') ∧ ∃ T'', Imp T' T'' ∧ R .none T'') fun d e' => ∃ T', e'[0]? = some (.own T') ∧ ∃ T'', Imp T' T'' ∧ R d T'' := by
  obtain ⟨n, as, rfl, rfl, hne, hl, hn, rfl⟩ := h
  have hpos : 0 < as.length := List.length_pos_iff.mpr hne
  refine es_retG (α := PyData) (P := fun a e' => a ∈ as ∧ e' = [.own (PotT (n + 1)), .dat (.list as)]) (eg_ixL (α := PyData) (as := as) (P := fun k e' => 0 ≤ k ∧ k < (as.length : Int) ∧ e' = [.own (PotT (n + 1)), .dat (.list as)]) (el_dat rfl) (eg_callI (α := Int) (i := 0) rfl solo_pot (EA.eai (ea_cons (α := Int) (ed_len_l (α := PyData) (pb := true) (el_dat (i := 1) rfl)) ea_nil)) (g := ⟨n, (as.length : Int), rfl, rfl, by omega, by omega, hn, rfl⟩) fun d T' r => ?_) fun j e' p => ?_) fun a e' p => ?_
  · obtain ⟨k, rfl, k1, k2, rfl⟩ := r
    exact ⟨solo_pot, k, rfl, rfl, k1, k2, rfl⟩
  · obtain ⟨a, h1, h2, _⟩ := atI_in p.1 p.2.1
    exact ⟨a, h1, h2, p.2.2⟩
  · obtain ⟨p1, rfl⟩ := p
    exact ⟨_, rfl, _, fun _ _ _ _ q => q, p1, rfl⟩
theorem es__law_some {T : Thing} {ds : List PyData} {R : List PyData → Thing → Prop} (h : G__law_some T ds R) : ESF C (t__law_some C K) (startO N__law_some T ds) fun ds' e' => ∃ T', e'[0]? = some (.own T') ∧ ∃ T'', Imp T' T'' ∧ R ds' T'' := by
  obtain ⟨n, some, many, rfl, rfl, hl, h0, h1, hn, rfl⟩ := h
  refine esf_seq (N := fun e' => e' = [.own (PotT n), .dat (Rep.toD some), .dat (Rep.toD many), .own (LstT C (some.items.map fun x => Rep.toD x)), .own (LstT C []), .emp]) (es_par ins_c' (es_seq1 (es_setF (α := Str) (i := 3) (by decide) (ef_list_s (δ := Str) (ed_var (α := (Sq Str)) (i := 1) rfl))) ((es_setF (α := Str) (i := 4) (by decide) (ef_lst (α := Str) (as := []) ea_nil (show 0 ≤ 4096 by decide))).mono (fun e' p => p.trans rfl) fun _ _ z => z))) fun e' n1 => ?_
  subst n1
  refine esf_seq (N := fun e' => ∃ (fs left : List Str) (a5 : Sl), e' = [.own (PotT (n + many.toNat)), .dat (Rep.toD some), .dat (Rep.toD many), .own (LstT C (left.map fun x => Rep.toD x)), .own (LstT C (fs.map fun x => Rep.toD x)), a5] ∧ (fs ++ left).Perm some.items ∧ fs.length = many.toNat) (es_for (xs := List.range many.toNat) (enc := fun (k : Nat) => [(5, PyData.int (k : Int))])
    (fun i e' => ∃ (fs left : List Str) (a5 : Sl), e' = [.own (PotT (n + i)), .dat (Rep.toD some), .dat (Rep.toD many), .own (LstT C (left.map fun x => Rep.toD x)), .own (LstT C (fs.map fun x => Rep.toD x)), a5] ∧ isVal (Option.some a5) = true ∧ (fs ++ left).Perm some.items ∧ fs.length = i)
    (src_range1 (ea_cons (α := Int) (ed_var (α := Int) (i := 2) rfl) ea_nil) h0 (by omega)) ⟨[], some.items, .emp, rfl, rfl, List.Perm.refl _, rfl⟩ (fun i v e' hi I => ?_) (fun v b hb => ?_) fun e' I => ?_) fun e' n2 => ?_
  · obtain ⟨fs, left, a5, rfl, h5, hp, hf⟩ := I
    have hil : i < many.toNat := by
      have := (List.getElem?_eq_some_iff.mp hi).1
      rwa [List.length_range] at this
    have hll := hp.length_eq
    rw [List.length_append] at hll
    refine ⟨fun b hb => by rw [List.mem_singleton.mp hb]; exact h5, es_dropG (eg_appendG (α := Str) (ds := []) (i := 4) ⟨_, rfl⟩ (P := fun a e' => ∃ m, left[m]? = Option.some a ∧ e' = [.own (PotT (n + (i + 1))), .dat (Rep.toD some), .dat (Rep.toD many), .own (LstT C ((left.eraseIdx m).map fun x => Rep.toD x)), .own (LstT C (fs.map fun x => Rep.toD x)), .dat (.int (v : Int))])
      (P' := fun _ e' => ∃ a m, left[m]? = Option.some a ∧ e' = [.own (PotT (n + (i + 1))), .dat (Rep.toD some), .dat (Rep.toD many), .own (LstT C ((left.eraseIdx m).map fun x => Rep.toD x)), .own (LstT C ((fs ++ [a]).map fun x => Rep.toD x)), .dat (.int (v : Int))])
      (eg_popAt (α := Str) (i := 3) ⟨_, rfl⟩ (P := fun k e' => 0 ≤ k ∧ k < (left.length : Int) ∧ e' = [.own (PotT (n + (i + 1))), .dat (Rep.toD some), .dat (Rep.toD many), .own (LstT C (left.map fun x => Rep.toD x)), .own (LstT C (fs.map fun x => Rep.toD x)), .dat (.int (v : Int))])
        (eg_callI (α := Int) (i := 0) rfl solo_pot (EA.eai (ea_cons (α := Int) (ed_len_l (α := Str) (el_own (α := Str) (i := 3) rfl)) ea_nil)) (g := ⟨n + i, (left.length : Int), rfl, rfl, by omega, by omega, by omega, rfl⟩) fun d T' r => ?_) fun j e' p => ?_) fun a e' p => ?_) fun u e' p => ?_⟩
    · obtain ⟨k, rfl, k1, k2, rfl⟩ := r
      exact ⟨solo_pot, k, rfl, rfl, k1, k2, rfl⟩
    · obtain ⟨p1, p2, rfl⟩ := p
      obtain ⟨a, _, _, h2⟩ := atI_in p1 p2
      exact ⟨left, j.toNat, a, rfl, by omega, h2, j.toNat, h2, rfl⟩
    · obtain ⟨m, p1, rfl⟩ := p
      refine ⟨_, rfl, by rw [List.length_map]; omega, a, m, p1, ?_⟩
      rw [List.map_append]
      rfl
    · obtain ⟨a, m, p1, rfl⟩ := p
      refine ⟨fs ++ [a], left.eraseIdx m, _, rfl, rfl, ?_, by rw [List.length_append, hf]; rfl⟩
      have q := erase_perm p1
      rw [List.append_assoc]
      exact (List.Perm.append_left fs q).trans hp
  · rw [List.mem_singleton.mp hb]; exact (by decide : (5 : Nat) ≠ 0)
  · obtain ⟨fs, left, a5, rfl, _, hp, hf⟩ := I
    rw [List.length_range] at hf ⊢
    exact ⟨fs, left, a5, rfl, hp, hf⟩
  · obtain ⟨fs, left, a5, rfl, hp, hf⟩ := n2
    exact esf_retO (i := 4) (by decide) rfl ⟨_, rfl, _, fun _ _ _ _ q => q, fs, left, rfl, hp, by omega, rfl⟩
where
  ins_c' : Ins 3 (tLst tNil) := ins_lst ins_nil
end
end PD
end
section
set_option Elab.async false
set_option linter.all false
set_option maxRecDepth 100000
set_option maxHeartbeats 4000000
set_option autoImplicit false
namespace PD
open PySem L2
open PySem.W (Datum Tup)
open C8 (Cal fnScope fnBody fnScope_by)
variable [Tabl]
section
variable {P : Program} {w : World} {K : PySem.W.Frag} {mg : Str → Option Value} {base : Heap} {C : Addr}
theorem eg_take {e : List Sl} {ta : TE} {i n : Nat} {u : Int} (he : e[i]? = some (.own (PotT n))) (h : ED C ta e u) (hu : 0 < u) (hu2 : u < 1073741824) (hn : n < 1000000) : EG C (tCall (spO C G__law_take) [] C8.E0 (tCons (tVar i) (tCons ta tNil))) e fun (k : Int) e' => 0 ≤ k ∧ k < u ∧ e' = e.set i (.own (PotT (n + 1))) :=
  eg_callI (α := Int) (i := i) he solo_pot (EA.eai (ea_cons (α := Int) h ea_nil)) (g := ⟨n, u, rfl, rfl, hu, hu2, hn, rfl⟩) fun d T' r => by
    obtain ⟨k, rfl, k1, k2, rfl⟩ := r
    exact ⟨solo_pot, k, rfl, rfl, k1, k2, rfl⟩
theorem es__law_names {T : Thing} {ds : List PyData} {R : PyData → Thing → Prop} (h : G__law_names T ds R) : ES C (t__law_names C K) (startO N__law_names T ds) (fun e' => ∃ T', e'[0]? = some (.own T') ∧ ∃ T'', Imp T' T'' ∧ R .none T'') fun d e' => ∃ T', e'[0]? = some (.own T') ∧ ∃ T'', Imp T' T'' ∧ R d T'' := by
  obtain ⟨n, many, rfl, rfl, h1, h2, hn, rfl⟩ := h
  refine es_seq1 (es_setF (α := Str) (i := 2) (by decide) (ef_lst (α := Str) (as := [_, _, _, _, _, _, _, _, _, _, _, _, _, _]) (ea_cons (α := Str) (ed_str (x := "a") (by decide +kernel)) (ea_cons (α := Str) (ed_str (x := "b") (by decide +kernel)) (ea_cons (α := Str) (ed_str (x := "c") (by decide +kernel)) (ea_cons (α := Str) (ed_str (x := "york") (by decide +kernel)) (ea_cons (α := Str) (ed_str (x := "x9") (by decide +kernel)) (ea_cons (α := Str) (ed_str (x := "copy") (by decide +kernel)) (ea_cons (α := Str) (ed_str (x := "place") (by decide +kernel)) (ea_cons (α := Str) (ed_str (x := "zzzzzzzz") (by decide +kernel)) (ea_cons (α := Str) (ed_str (x := "m1") (by decide +kernel)) (ea_cons (α := Str) (ed_str (x := "rome") (by decide +kernel)) (ea_cons (α := Str) (ed_str (x := "q") (by decide +kernel)) (ea_cons (α := Str) (ed_str (x := "k") (by decide +kernel)) (ea_cons (α := Str) (ed_str (x := "t0") (by decide +kernel)) (ea_cons (α := Str) (ed_str (x := "undo") (by decide +kernel)) ea_nil)))))))))))))) (show 14 ≤ 4096 by decide))) ?_
  show ES C _ [.own (PotT n), .dat (Rep.toD many), .own (LstT C (pool.map fun x => Rep.toD x)), .emp, .emp, .emp, .emp] _ _
  refine es_seq (N1 := fun e' => ∃ (fs left : List Str), e' = [.own (PotT (n + many.toNat)), .dat (Rep.toD many), .own (LstT C (pool.map fun x => Rep.toD x)), .own (LstT C (fs.map fun x => Rep.toD x)), .dat (Rep.toD signs), .emp, .emp] ∧ (fs ++ left).Perm pool ∧ (fs.length : Int) = many)
    (es_par ins_c (es_seq (N1 := fun e' => ∃ (fs left : List Str), e' = [.own (PotT (n + many.toNat)), .dat (Rep.toD many), .own (LstT C (pool.map fun x => Rep.toD x)), .own (LstT C (fs.map fun x => Rep.toD x)), .emp, .emp, .emp] ∧ (fs ++ left).Perm pool ∧ (fs.length : Int) = many)
      (es_setOF (i := 0) (j := 3) (by decide) (by decide) rfl solo_pot (eai_own (j := 2) (by decide) rfl (EA.eai (ea_cons (α := Int) (ed_var (α := Int) (i := 1) rfl) ea_nil))) (g := ⟨n, ⟨false, pool⟩, many, rfl, rfl, (by show 14 ≤ 1000; decide), (by omega), (by show many ≤ ((14 : Nat) : Int); omega), (by omega), rfl⟩) fun ds' T' r => ?_) fun e' p => ?_)) fun e' p => ?_
  · obtain ⟨fs, left, rfl, hp, hf, rfl⟩ := r
    exact ⟨solo_pot, able_nolists _ (ables fs), fs, left, rfl, hp, hf⟩
  · obtain ⟨fs, left, rfl, hp, hf⟩ := p
    exact (es_set (α := Str) (i := 4) (by decide) (ed_str (x := signs) (by decide +kernel))).mono (fun e' z => ⟨fs, left, z.trans rfl, hp, hf⟩) fun _ _ z => z
  obtain ⟨fs, left, rfl, hp, hf⟩ := p
  have hnd : fs.Nodup := (List.nodup_append.mp (hp.nodup_iff.mpr pool_nodup)).1
  have hmem : ∀ x ∈ fs, x ∈ pool := fun x hx => hp.mem_iff.mp (List.mem_append_left _ hx)
  have hfl : fs.length = many.toNat := by omega
  refine es_seq (N1 := fun e' => ∃ (m : Nat) (c : List Str) (a4 a5 a6 : Sl), e' = [.own (PotT m), .dat (Rep.toD many), .own (LstT C (pool.map fun x => Rep.toD x)), .own (LstT C (c.map fun x => Rep.toD x)), a4, a5, a6] ∧ m ≤ n + 30 ∧ c.Nodup ∧ (c.length : Int) = many ∧ ∀ x ∈ c, NameOk x)
    (es_ifG (egt_eq0 (eg_take (i := 0) rfl (ed_int (i := 3)) (by decide) (by decide) (by omega))) (fun e' p => ?_) fun e' p => ?_) fun e' p => ?_
  · obtain ⟨k, ⟨_, _, rfl⟩, _⟩ := p
    refine es_seq1 (es_set (α := Str) (i := 5) (by decide) (ed_str (x := "w") (by decide +kernel))) ?_
    show ES C _ [.own (PotT (n + many.toNat + 1)), .dat (Rep.toD many), .own (LstT C (pool.map fun x => Rep.toD x)), .own (LstT C (fs.map fun x => Rep.toD x)), .dat (Rep.toD signs), .dat (Rep.toD (Str.ofString "w")), .emp] _ _
    refine es_seq (N1 := fun e' => ∃ (i : Nat) (x : Str) (a6 : Sl), i ≤ 7 ∧ WordOk i x ∧ e' = [.own (PotT (n + many.toNat + 2 + i)), .dat (Rep.toD many), .own (LstT C (pool.map fun x => Rep.toD x)), .own (LstT C (fs.map fun x => Rep.toD x)), .dat (Rep.toD signs), .dat (Rep.toD x), a6])
      (es_forRG (eg_take (i := 0) rfl (ed_int (i := 8)) (by decide) (by decide) (by omega)) fun a e' p => ?_) fun e' p => ?_
    · obtain ⟨a0, a1, rfl⟩ := p
      refine es_for (xs := List.range a.toNat) (enc := fun (k : Nat) => [(6, PyData.int (k : Int))])
        (fun i e' => ∃ (x : Str) (a6 : Sl), WordOk i x ∧ e' = [.own (PotT (n + many.toNat + 2 + i)), .dat (Rep.toD many), .own (LstT C (pool.map fun x => Rep.toD x)), .own (LstT C (fs.map fun x => Rep.toD x)), .dat (Rep.toD signs), .dat (Rep.toD x), a6] ∧ isVal (some a6) = true)
        (src_range1 (ea_cons (α := Int) (ed_int (i := a)) ea_nil) a0 (by omega)) ⟨_, .emp, word_start, rfl, rfl⟩ (fun i v e' hi I => ?_) (fun v b hb => ?_) fun e' I => ?_
      · obtain ⟨x, a6, hx, rfl, h6⟩ := I
        have hil : i < a.toNat := by
          have := (List.getElem?_eq_some_iff.mp hi).1
          rwa [List.length_range] at this
        refine ⟨fun b hb => by rw [List.mem_singleton.mp hb]; exact h6, es_setG (α := Str) (i := 5) (by decide) (eg_op (α := Str) (β := Str) (γ := Str) (P1 := fun y e' => y = x ∧ e' = _) (P2 := fun _ _ y e' => ∃ c, c ∈ signs.cps.toList ∧ y = ⟨#[c]⟩ ∧ e' = [.own (PotT (n + many.toNat + 2 + (i + 1))), .dat (Rep.toD many), .own (LstT C (pool.map fun x => Rep.toD x)), .own (LstT C (fs.map fun x => Rep.toD x)), .dat (Rep.toD signs), .dat (Rep.toD x), .dat (.int (v : Int))])
          (P := fun y e' => ∃ c, c ∈ signs.cps.toList ∧ y = x ++ ⟨#[c]⟩ ∧ e' = [.own (PotT (n + many.toNat + 2 + (i + 1))), .dat (Rep.toD many), .own (LstT C (pool.map fun x => Rep.toD x)), .own (LstT C (fs.map fun x => Rep.toD x)), .dat (Rep.toD signs), .dat (Rep.toD x), .dat (.int (v : Int))])
          (ED.eg (ed_var (α := Str) (i := 5) rfl)) (fun y e' p => ?_) fun y e' z e'' p q => ?_) fun y e' p => ?_⟩
        · obtain ⟨rfl, rfl⟩ := p
          refine eg_ixS (x := signs) (ed_var (α := Str) (i := 4) rfl) (eg_take (i := 0) rfl (ed_int (i := 36)) (by decide) (by decide) (by omega)) fun j e' p => ?_
          obtain ⟨p1, p2, rfl⟩ := p
          obtain ⟨c, c1, c2, _⟩ := atI_in (as := signs.cps.toList) p1 (by rw [signs_len]; exact p2)
          exact ⟨c, c1, c, c2, rfl, rfl⟩
        · obtain ⟨rfl, rfl⟩ := p
          obtain ⟨c, hc, rfl, rfl⟩ := q
          refine ⟨_, rd_sCat ?_, c, hc, rfl, rfl⟩
          rw [hx.len]
          show i + 1 + 1 ≤ 100000
          omega
        · obtain ⟨c, hc, rfl, rfl⟩ := p
          exact ⟨_, _, word_next hx hc, rfl, rfl⟩
      · rw [List.mem_singleton.mp hb]; exact (by decide : (6 : Nat) ≠ 0)
      · obtain ⟨x, a6, hx, rfl, h6⟩ := I
        rw [List.length_range] at hx ⊢
        exact ⟨a.toNat, x, a6, by omega, hx, rfl⟩
    · obtain ⟨i, x, a6, hi, hx, rfl⟩ := p
      refine es_setIxG (α := Str) (i := 3) ⟨_, rfl⟩ (ed_var (α := Str) (i := 5) rfl) (eg_take (i := 0) rfl (ed_var (α := Int) (i := 1) rfl) (by omega) (by omega) (by omega)) fun k e' p => ?_
      obtain ⟨p1, p2, rfl⟩ := p
      have hxp : x ∉ fs := fun z => pool_w x (hmem x z) hx.first
      refine ⟨_, k.toNat, rfl, ?_, n + many.toNat + 2 + i + 1, fs.set k.toNat x, .dat (Rep.toD signs), .dat (Rep.toD x), a6, ?_, by omega, nodup_set _ hnd hxp, by rw [List.length_set]; exact hf, fun y hy => ?_⟩
      · unfold ixN
        rw [List.length_map, if_pos p1, if_pos (by omega)]
      · rw [List.map_set]
        rfl
      · rcases List.mem_or_eq_of_mem_set hy with z | z
        · exact pool_ok y (hmem y z)
        · rw [z]
          exact word_name hx hi
  · obtain ⟨k, ⟨_, _, rfl⟩, _⟩ := p
    exact es_nil ⟨n + many.toNat + 1, fs, _, _, _, rfl, by omega, hnd, hf, fun y hy => pool_ok y (hmem y hy)⟩
  · obtain ⟨m, c, a4, a5, a6, rfl, hm, c1, c2, c3⟩ := p
    exact es_ret (α := (Tup Str)) (ed_tupL (α := Str) (el_own (α := Str) (i := 3) rfl)) ⟨_, rfl, _, pot_more hm, ⟨c⟩, rfl, c1, c2, c3, rfl⟩
end
end PD
end
section
set_option Elab.async false
set_option linter.all false
set_option maxRecDepth 100000
set_option maxHeartbeats 4000000
set_option autoImplicit false
namespace PD
open PySem L2
open PySem.W (Datum Tup)
variable [Tabl]

/-! ### lots that do not clash -/
def Apart (a b : Lot) : Prop := ∀ x ∈ a.items, x ∉ b.items
def Inside (a b : Lot) : Prop := ∀ x ∈ a.items, x ∈ b.items
def Nest (a b : Lot) : Prop := Apart a b ∨ Inside a b ∨ Inside b a
def InSeq (c l : Lot) : Prop := l = mInSeq c l
theorem InSeq.within {c l : Lot} (h : InSeq c l) : ∀ x ∈ l.items, x ∈ c.items := fun x hx => by
  rw [h] at hx
  exact (List.mem_filter.mp hx).1
theorem InSeq.nodup {c l : Lot} (h : InSeq c l) (hc : c.items.Nodup) : l.items.Nodup := by
  rw [h]
  exact hc.filter _
theorem both_perm {a b : Lot} (ha : a.items.Nodup) (hb : b.items.Nodup) : (a.items.filter fun c => decide (c ∈ b.items)).length = (b.items.filter fun c => decide (c ∈ a.items)).length := by
  apply List.Perm.length_eq
  rw [List.perm_ext_iff_of_nodup (ha.filter _) (hb.filter _)]
  intro x
  rw [List.mem_filter, List.mem_filter, decide_eq_true_eq, decide_eq_true_eq]
  exact ⟨fun z => ⟨z.2, z.1⟩, fun z => ⟨z.2, z.1⟩⟩
theorem pmin_comm (a b : Int) : pmin a b = pmin b a := by
  unfold pmin
  split <;> split <;> omega
theorem clash_symm {a b : Lot} (ha : a.items.Nodup) (hb : b.items.Nodup) : mClash a b = mClash b a := by
  unfold mClash
  rw [both_perm ha hb, pmin_comm]
theorem clash_apart {a b : Lot} (h : Apart a b) : mClash a b = false := by
  unfold mClash
  have e : (a.items.filter fun c => decide (c ∈ b.items)) = [] := List.filter_eq_nil_iff.mpr fun x hx => by simpa using h x hx
  rw [e]
  rfl
theorem clash_in {a b : Lot} (h : Inside a b) : mClash a b = false := by
  unfold mClash
  have e : (a.items.filter fun c => decide (c ∈ b.items)) = a.items := List.filter_eq_self.mpr fun x hx => decide_eq_true (h x hx)
  rw [e]
  have : ¬ (a.items.length : Int) < pmin (a.items.length : Int) (b.items.length : Int) := by
    unfold pmin
    split <;> omega
  rw [decide_eq_false this, Bool.and_false]
theorem clash_nest {a b : Lot} (ha : a.items.Nodup) (hb : b.items.Nodup) (h : Nest a b) : mClash a b = false := by
  rcases h with h | h | h
  · exact clash_apart h
  · exact clash_in h
  · rw [clash_symm ha hb]
    exact clash_in h
/-- lots of a stemma, in whatever sequence -/
structure Lam (c : Lot) (ls : List Lot) : Prop where
  seq : ∀ l ∈ ls, InSeq c l
  lng : ∀ l ∈ ls, long l = true
  no : ∀ a ∈ ls, ∀ b ∈ ls, mClash a b = false
theorem Lam.within {c : Lot} {ls : List Lot} (h : Lam c ls) : Within c ls := fun l hl => (h.seq l hl).within
theorem Lam.sub {c : Lot} {ls ms : List Lot} (h : Lam c ls) (k : ∀ l ∈ ms, l ∈ ls) : Lam c ms := ⟨fun l hl => h.seq l (k l hl), fun l hl => h.lng l (k l hl), fun a ha b hb => h.no a (k a ha) b (k b hb)⟩

/-! ### how they grow -/
structure GrowSt (c : Lot) (found waiting : List Lot) : Prop where
  seq : ∀ f ∈ found, InSeq c f
  lng : ∀ f ∈ found, long f = true
  nest : ∀ f ∈ found, ∀ g ∈ found, Nest f g
  wnd : ∀ w ∈ waiting, w.items.Nodup
  win : ∀ w ∈ waiting, ∀ x ∈ w.items, x ∈ c.items
  wap : waiting.Pairwise Apart
  fw : ∀ f ∈ found, ∀ w ∈ waiting, Apart f w ∨ Inside w f
theorem grow_start {c w : Lot} (hc : c.items.Nodup) (hp : w.items.Perm c.items) : GrowSt c [] [w] := ⟨by simp, by simp, by simp, fun v hv => by
  rw [List.mem_singleton.mp hv]
  exact hp.nodup_iff.mpr hc, fun v hv x hx => by
  rw [List.mem_singleton.mp hv] at hx
  exact hp.mem_iff.mp hx, List.pairwise_singleton _ _, by simp⟩
theorem grow_pop {c : Lot} {found ws : List Lot} {w : Lot} (h : GrowSt c found (ws ++ [w])) : GrowSt c found ws := ⟨h.seq, h.lng, h.nest, fun v hv => h.wnd v (List.mem_append_left _ hv), fun v hv => h.win v (List.mem_append_left _ hv), (List.pairwise_append.mp h.wap).1, fun f hf v hv => h.fw f hf v (List.mem_append_left _ hv)⟩
theorem grow_step {c : Lot} {found ws : List Lot} {w : Lot} {ass : List (List Str)} (hc : c.items.Nodup) (h : GrowSt c found (ws ++ [w])) (hl : long w = true) (hp : ass.flatten.Perm w.items) :
    GrowSt c (found ++ [mInSeq c w]) (ws ++ (ass.filter fun as => decide (1 < as.length)).map fun as => Tup.mk as) := by
  have hw : w ∈ ws ++ [w] := List.mem_append_right _ List.mem_cons_self
  have hwin := h.win w hw
  have hwnd := h.wnd w hw
  have fm : ∀ x, x ∈ (mInSeq c w).items ↔ x ∈ w.items := fun x => by
    unfold mInSeq
    rw [List.mem_filter, decide_eq_true_eq]
    exact ⟨fun z => z.2, fun z => ⟨hwin x z, z⟩⟩
  have fnd : (mInSeq c w).items.Nodup := hc.filter _
  have fp : (mInSeq c w).items.Perm w.items := (List.perm_ext_iff_of_nodup fnd hwnd).mpr fm
  have fseq : InSeq c (mInSeq c w) := by
    show Tup.mk _ = Tup.mk _
    congr 1
    exact List.filter_congr fun x hx => decide_eq_decide.mpr ⟨fun z => (fm x).mpr z, fun z => (fm x).mp z⟩
  have nf := List.pairwise_flatten.mp (show List.Pairwise (fun a b => a ≠ b) ass.flatten from hp.nodup_iff.mpr hwnd)
  have pin : ∀ p ∈ (ass.filter fun as => decide (1 < as.length)).map (fun as => Tup.mk as), ∃ as, as ∈ ass ∧ p = Tup.mk as ∧ ∀ x ∈ as, x ∈ w.items := fun p hpm => by
    obtain ⟨as, ha, rfl⟩ := List.mem_map.mp hpm
    have ha' := (List.mem_filter.mp ha).1
    exact ⟨as, ha', rfl, fun x hx => hp.mem_iff.mp (List.mem_flatten.mpr ⟨as, ha', hx⟩)⟩
  have wap := List.pairwise_append.mp h.wap
  have wv : ∀ v ∈ ws, Apart v w := fun v hv => wap.2.2 v hv w (List.mem_singleton.mpr rfl)
  refine ⟨fun f hf => ?_, fun f hf => ?_, fun f hf g hg => ?_, fun v hv => ?_, fun v hv x hx => ?_, ?_, fun f hf v hv => ?_⟩
  · rcases List.mem_append.mp hf with z | z
    · exact h.seq f z
    · rw [List.mem_singleton.mp z]; exact fseq
  · rcases List.mem_append.mp hf with z | z
    · exact h.lng f z
    · rw [List.mem_singleton.mp z]
      unfold long at hl ⊢
      rw [fp.length_eq]
      exact hl
  · have one : ∀ f ∈ found, Nest f (mInSeq c w) := fun f hf => by
      rcases h.fw f hf w hw with z | z
      · exact .inl fun x hx y => z x hx ((fm x).mp y)
      · exact .inr (.inr fun x hx => z x ((fm x).mp hx))
    rcases List.mem_append.mp hf with z | z
    · rcases List.mem_append.mp hg with y | y
      · exact h.nest f z g y
      · rw [List.mem_singleton.mp y]; exact one f z
    · rw [List.mem_singleton.mp z]
      rcases List.mem_append.mp hg with y | y
      · rcases one g y with q | q | q
        · exact .inl fun x hx k => q x k hx
        · exact .inr (.inr q)
        · exact .inr (.inl q)
      · rw [List.mem_singleton.mp y]; exact .inr (.inl fun x hx => hx)
  · rcases List.mem_append.mp hv with z | z
    · exact h.wnd v (List.mem_append_left _ z)
    · obtain ⟨as, ha, rfl, _⟩ := pin v z
      exact nf.1 as ha
  · rcases List.mem_append.mp hv with z | z
    · exact h.win v (List.mem_append_left _ z) x hx
    · obtain ⟨as, ha, rfl, k⟩ := pin v z
      exact hwin x (k x hx)
  · refine List.pairwise_append.mpr ⟨wap.1, ?_, fun v hv p hpm => ?_⟩
    · refine List.Pairwise.map (fun as => Tup.mk as) (fun a b hab => ?_) (nf.2.filter _)
      exact fun x hx y => hab x hx x y rfl
    · obtain ⟨as, ha, rfl, k⟩ := pin p hpm
      exact fun x hx y => wv v hv x hx (k x y)
  · rcases List.mem_append.mp hf with y | y
    · rcases List.mem_append.mp hv with z | z
      · exact h.fw f y v (List.mem_append_left _ z)
      · obtain ⟨as, ha, rfl, k⟩ := pin v z
        rcases h.fw f y w hw with q | q
        · exact .inl fun x hx r => q x hx (k x r)
        · exact .inr fun x hx => q x (k x hx)
    · rw [List.mem_singleton.mp y]
      rcases List.mem_append.mp hv with z | z
      · exact .inl fun x hx r => wv v z x r ((fm x).mp hx)
      · obtain ⟨as, ha, rfl, k⟩ := pin v z
        exact .inr fun x hx => (fm x).mpr (k x hx)
theorem grow_lam {c : Lot} {found ws : List Lot} (hc : c.items.Nodup) (h : GrowSt c found ws) : Lam c found := ⟨h.seq, h.lng, fun a ha b hb => clash_nest ((h.seq a ha).nodup hc) ((h.seq b hb).nodup hc) (h.nest a ha b hb)⟩
/-- a list of lists, one of them longer -/
theorem flat_set {α : Type} {x : α} : ∀ {ass : List (List α)} {k : Nat} {as : List α}, ass[k]? = some as → (ass.set k (as ++ [x])).flatten.Perm (ass.flatten ++ [x])
  | [], _, _, h => by simp at h
  | a :: ass, 0, as, h => by
    have e : a = as := by simpa using h
    subst e
    show ((a ++ [x]) ++ ass.flatten).Perm ((a ++ ass.flatten) ++ [x])
    rw [List.append_assoc, List.append_assoc]
    exact List.Perm.append_left _ List.perm_append_comm
  | a :: ass, k + 1, as, h => by
    have h' : ass[k]? = some as := by simpa using h
    show (a ++ (ass.set k (as ++ [x])).flatten).Perm ((a ++ ass.flatten) ++ [x])
    rw [List.append_assoc]
    exact List.Perm.append_left _ (flat_set h')
theorem flat_ones {α : Type} : ∀ xs : List α, (xs.map fun x => [x]).flatten = xs
  | [] => rfl
  | x :: xs => by
    show [x] ++ (xs.map fun x => [x]).flatten = _
    rw [flat_ones xs]
    rfl
end PD
end
section
set_option Elab.async false
set_option linter.all false
set_option maxRecDepth 100000
set_option maxHeartbeats 4000000
set_option autoImplicit false
namespace PD
open PySem L2
open PySem.W (Datum Tup)
open C8 (Cal fnScope fnBody fnScope_by)
variable [Tabl]

/-! ### the text of a shelf without places -/
def lineOfCopy (x : Str) : Str := Str.ofString "copy " ++ x
def textOf (c : Lot) : Str := Txt.join "\n" (c.items.map lineOfCopy)
abbrev G__law_text : Gd := G2p (fun (c : Lot) (pl : List (Str × Tup Int)) => pl = [] ∧ c.items.length ≤ 14 ∧ ∀ x ∈ c.items, NameOk x) fun c _ => textOf c
theorem str_app_len (x y : Str) : (x ++ y).length = x.length + y.length := by
  show (x.cps ++ y.cps).size = _
  exact Array.size_append
theorem line_len {x : Str} (h : NameOk x) : (lineOfCopy x).length ≤ 13 := by
  unfold lineOfCopy
  rw [str_app_len]
  have := h.most
  have e : (Str.ofString "copy ").length = 5 := by decide +kernel
  omega
theorem join_len (a : Str) : ∀ ys : List Str, (Str.join a ys).length ≤ (ys.map (·.length)).sum + ys.length * a.length
  | [] => by show (0 : Nat) ≤ _; omega
  | [x] => by show x.length ≤ _; rw [List.map_cons, List.sum_cons]; omega
  | x :: y :: r => by
    show (x ++ a ++ Str.join a (y :: r)).length ≤ _
    have h := join_len a (y :: r)
    have e : (y :: r).length * a.length + a.length = (x :: y :: r).length * a.length := by
      rw [List.length_cons (a := x), Nat.add_mul, Nat.one_mul]
    rw [str_app_len, str_app_len, List.map_cons, List.sum_cons]
    omega
theorem sum_le {α : Type} {f : α → Nat} {b : Nat} : ∀ {xs : List α}, (∀ x ∈ xs, f x ≤ b) → (xs.map f).sum ≤ xs.length * b
  | [], _ => by simp
  | x :: xs, h => by
    have h1 := h x List.mem_cons_self
    have h2 := sum_le (xs := xs) fun y hy => h y (List.mem_cons_of_mem _ hy)
    rw [List.map_cons, List.sum_cons, List.length_cons, Nat.add_mul, Nat.one_mul]
    omega
theorem text_sum {c : Lot} (hl : c.items.length ≤ 14) (hn : ∀ x ∈ c.items, NameOk x) : ((c.items.map lineOfCopy).map (·.length)).sum + (c.items.map lineOfCopy).length * (Str.ofString "\n").length ≤ 200 := by
  have e : (Str.ofString "\n").length = 1 := by decide +kernel
  have h := sum_le (f := fun x : Str => x.length) (b := 13) (xs := c.items.map lineOfCopy) fun y hy => by
    obtain ⟨x, hx, rfl⟩ := List.mem_map.mp hy
    exact line_len (hn x hx)
  rw [e]
  rw [List.length_map] at h ⊢
  have : c.items.length * 13 ≤ 14 * 13 := Nat.mul_le_mul_right 13 hl
  omega
theorem text_len {c : Lot} (hl : c.items.length ≤ 14) (hn : ∀ x ∈ c.items, NameOk x) : (textOf c).length ≤ 200 := by
  unfold textOf
  rw [TL.join_eq]
  exact Nat.le_trans (join_len _ _) (text_sum hl hn)

/-! ### what grows -/
def G__law_grown : GdO := fun T ds R => ∃ (n : Nat) (c : Lot) (wide : Int), T = PotT n ∧ ds = [Rep.toD c, Rep.toD wide] ∧ c.items.Nodup ∧ 2 ≤ c.items.length ∧ c.items.length ≤ 14 ∧ 1 ≤ wide ∧ wide ≤ 2 ∧ n < 100000 ∧
  R = fun d T' => ∃ ls : List Lot, d = Rep.toD ls ∧ Lam c ls ∧ ls.length ≤ 24 ∧ T' = PotT (n + 400)
section
variable {P : Program} {w : World} {K : PySem.W.Frag} {mg : Str → Option Value} {base : Heap} {C : Addr}
abbrev N__law_text : List Str := ["copies", "places", "lines", "copy", "name", "readings", "reading"]
theorem sc__law_text : FnScope N__law_text ["copies", "places"] (fnScope (top 60)) := fnScope_by (by decide +kernel)
def t__law_text (C : Addr) (K : PySem.W.Frag) : TS := (tSeq (tAsg (tLc (iTup K (tVar 0)) (gName 3) tYes (tOp rSCat (tC (.str "copy ")) (tVar 3)) [3]) (gName 2)) (tSeq (tFor (iList K (tVar 1)) (gTup K 2 (gCons (gName 4) (gCons (gName 5) gNil))) tNever) (tRet (tM1 (rJoin K) (tC (.str "\n")) (tVar 2)))))
theorem p__law_text {cdv : Value} {A : Around} {outer : List Env} {s : Shared} {H : Hp} {E : XK} {f : Addr} {k : Nat} (M : Mg mg) (S : Shf P w K mg base C)  (hr : Room 1 (A.deeper (PyProof.Rows.envOfC "_law_text" (fnScope (top 60)) s.heap.objs.size f cdv))) : PSs (cxOf C8.CX0 P w K mg base N__law_text "_law_text" (fnScope (top 60)) f cdv A outer s H E).nox (fnBody (top 60)) (t__law_text C K) :=
  have nd := sc__law_text.nd
  (pss_cons (ps_setLc (i := 2) (own := [("copy", 3)]) (g := (gName 3)) (tt := tYes) (te := (tOp rSCat (tC (.str "copy ")) (tVar 3))) (by rfl) nd rfl rfl (sw_true rfl rfl rfl (by decide +kernel)) (pi_tup (pv 0)) (blkOk_by (by kernel_rfl)) (fun _ _ _ _ _ => (pg_name (i := 3) nd rfl (by first | exact Or.inl rfl | exact Or.inr rfl))) (fun _ _ _ _ _ => pts_nil) (fun _ _ _ _ _ => (pe_op op_sCat pe_str (pv 3)))) (pss_cons (ps_for PassesOwn.never (by rfl) (pi_list (pv 1)) (pg_pair2 (i := 4) (j := 5) (by rfl) nd rfl rfl (by first | exact Or.inl rfl | exact Or.inr rfl) (by first | exact Or.inl rfl | exact Or.inr rfl)) (pss_one ps_never)) (pss_one (ps_ret (pe_join pe_str (pv 2))))))
abbrev N__law_grown : List Str := ["pot", "copies", "wide", "found", "waiting", "lap", "lot", "copy", "many", "sides", "part"]
theorem sc__law_grown : FnScope N__law_grown ["pot", "copies", "wide"] (fnScope (top 63)) := fnScope_by (by decide +kernel)
def t__law_grown (C : Addr) (K : PySem.W.Frag) : TS := (tSeq (tPar 3 4 (tCons (tLst tNil) (tCons (tLst (tCons (tCB (rTupF K) (tCons (tCall (spOF C G__law_some) [] C8.E0 (tCons (tVar 0) (tCons (tVar 1) (tCons (tCB (rLenQ K) (tCons (tVar 1) tNil)) tNil)))) tNil)) tNil)) tNil))) (tSeq (tFor (iRng1 (tCons (tC (.int 24)) tNil)) (gName 5) (tIfS (tTest (tOp (rEqP K true) (tVar 4) (tLst tNil))) (tSeq (tAsg (tBM0 K "list" rPop (tVar 4)) (gName 6)) (tIfS (tTest (tOp (rI0 fun i j => .bl (decide (j < i))) (tCB (rLenQ K) (tCons (tVar 6) tNil)) (tC (.int 1)))) (tSeq (tDrop (tBM K "list" rAppend (tVar 3) (tCons (tCB (rTupF K) (tCons (tLc (iTup K (tVar 1)) (gName 7) (tTest (tOp (rInP K false) (tVar 7) (tVar 6))) (tVar 7) [7]) tNil)) tNil))) (tSeq (tAsg (tOp (rI0 fun i j => .int (i + j)) (tC (.int 2)) (tCall (spO C G__law_take) [] C8.E0 (tCons (tVar 0) (tCons (tCB rMin2 (tCons (tVar 2) (tCons (tOp (rI0 fun i j => .int (i - j)) (tCB (rLenQ K) (tCons (tVar 6) tNil)) (tC (.int 1))) tNil))) tNil)))) (gName 8)) (tSeq (tAsg (tLc (iTup K (tSl (rSlF K) (tVar 6) tNoPart (tPart (tVar 8)))) (gName 7) tYes (tLst (tCons (tVar 7) tNil)) [7]) (gName 9)) (tSeq (tFor (iTup K (tSl (rSlF K) (tVar 6) (tPart (tVar 8)) tNoPart)) (gName 7) (tDrop (tBM K "list" rAppend (tOp (rIxL K) (tVar 9) (tCall (spO C G__law_take) [] C8.E0 (tCons (tVar 0) (tCons (tVar 8) tNil)))) (tCons (tVar 7) tNil)))) (tDrop (tBM K "list" rExtend (tVar 4) (tCons (tLc (iList K (tVar 9)) (gName 10) (tTest (tOp (rI0 fun i j => .bl (decide (j < i))) (tCB (rLenQ K) (tCons (tVar 10) tNil)) (tC (.int 1)))) (tCB (rTupF K) (tCons (tVar 10) tNil)) [10]) tNil))))))) tNext)) tNext)) (tRet (tVar 3))))
theorem p__law_grown {cdv : Value} {A : Around} {outer : List Env} {s : Shared} {H : Hp} {E : XK} {f : Addr} {k : Nat} (M : Mg mg) (S : Shf P w K mg base C) (c__law_some : Cal P w K mg base 3 "_law_some" (spOF C G__law_some) []) (c__law_take : Cal P w K mg base 2 "_law_take" (spO C G__law_take) []) (hr : Room 3 (A.deeper (PyProof.Rows.envOfC "_law_grown" (fnScope (top 63)) s.heap.objs.size f cdv))) : PSs (cxOf C8.CX0 P w K mg base N__law_grown "_law_grown" (fnScope (top 63)) f cdv A outer s H E).nox (fnBody (top 63)) (t__law_grown C K) :=
  have nd := sc__law_grown.nd
  (pss_cons (ps_par (i := 3) (j := 4) (by rfl) nd rfl rfl (by decide) rfl rfl (pa_cons (pe_lst pa_nil) (pa_cons (pe_lst (pa_cons (pe_callTy cr_tupF (by rfl) M.b_tuple bb_tuple (pa_cons (C8.pe_c c__law_some hr (by decide) (by rfl) (pa_cons (pv 0) (pa_cons (pv 1) (pa_cons (pe_callB call_len_seq (by rfl) M.b_len bb_len (pa_cons (pv 1) pa_nil)) pa_nil)))) pa_nil)) pa_nil)) pa_nil)) (by kernel_rfl)) (pss_cons (ps_for PassesOwn.never (by rfl) (pi_range1 (by rfl) M.b_range (pa_cons pe_int pa_nil)) (pg_name (i := 5) nd rfl (by first | exact Or.inl rfl | exact Or.inr rfl)) (pss_one (ps_if (pt_cmpR (op_neP hr.units) (pv 4) (pe_lst pa_nil) (nomark _)) (pss_cons (ps_set (i := 6) nd rfl (by first | exact Or.inl rfl | exact Or.inr rfl) (pe_bm0 PySem.F.plainAttrs_list PySem.F.slot_list_pop PySem.F.type_list_pop mt_pop (pv 4))) (pss_one (ps_if (pt_cmpR op_gt (pe_callB call_len_seq (by rfl) M.b_len bb_len (pa_cons (pv 6) pa_nil)) pe_int (nomark _)) (pss_cons (ps_expr (pe_bm PySem.F.plainAttrs_list PySem.F.slot_list_append PySem.F.type_list_append mt_append (pv 3) (pa_cons (pe_callTy cr_tupF (by rfl) M.b_tuple bb_tuple (pa_cons (pe_lc (own := [("copy", 7)]) (g := (gName 7)) (tt := (tTest (tOp (rInP K false) (tVar 7) (tVar 6)))) (te := (tVar 7)) (by rfl) nd (pi_tup (pv 1)) (blkOk_by (by kernel_rfl)) (fun _ _ _ _ _ => (pg_name (i := 7) nd rfl (by first | exact Or.inl rfl | exact Or.inr rfl))) (fun _ _ _ _ _ => (pts_one (pt_cmpR (op_inP hr.units) (pv 7) (pv 6) (by rfl)))) (fun _ _ _ _ _ => (pv 7))) pa_nil)) pa_nil))) (pss_cons (ps_set (i := 8) nd rfl (by first | exact Or.inl rfl | exact Or.inr rfl) (pe_op op_add pe_int (C8.pe_c c__law_take hr (by decide) (by rfl) (pa_cons (pv 0) (pa_cons (pe_callB (call_min2 (by rfl)) (by rfl) M.b_min bb_min (pa_cons (pv 2) (pa_cons (pe_op op_sub (pe_callB call_len_seq (by rfl) M.b_len bb_len (pa_cons (pv 6) pa_nil)) pe_int) pa_nil))) pa_nil))))) (pss_cons (ps_setLc (i := 9) (own := [("copy", 7)]) (g := (gName 7)) (tt := tYes) (te := (tLst (tCons (tVar 7) tNil))) (by rfl) nd rfl rfl (sw_true rfl rfl rfl (by decide +kernel)) (pi_tup (pe_slice sl_tupF (pv 6) po_none (po_some (pv 8)))) (blkOk_by (by kernel_rfl)) (fun _ _ _ _ _ => (pg_name (i := 7) nd rfl (by first | exact Or.inl rfl | exact Or.inr rfl))) (fun _ _ _ _ _ => pts_nil) (fun _ _ _ _ _ => (pe_lst (pa_cons (pv 7) pa_nil)))) (pss_cons (ps_for PassesOwn.never (by rfl) (pi_tup (pe_slice sl_tupF (pv 6) (po_some (pv 8)) po_none)) (pg_name (i := 7) nd rfl (by first | exact Or.inl rfl | exact Or.inr rfl)) (pss_one (ps_expr (pe_bm PySem.F.plainAttrs_list PySem.F.slot_list_append PySem.F.type_list_append mt_append (pe_ix ix_list (pv 9) (C8.pe_c c__law_take hr (by decide) (by rfl) (pa_cons (pv 0) (pa_cons (pv 8) pa_nil))) (by intro _ _; rfl)) (pa_cons (pv 7) pa_nil))))) (pss_one (ps_expr (pe_bm PySem.F.plainAttrs_list PySem.F.slot_list_extend PySem.F.type_list_extend mt_extend (pv 4) (pa_cons (pe_lc (own := [("part", 10)]) (g := (gName 10)) (tt := (tTest (tOp (rI0 fun i j => .bl (decide (j < i))) (tCB (rLenQ K) (tCons (tVar 10) tNil)) (tC (.int 1))))) (te := (tCB (rTupF K) (tCons (tVar 10) tNil))) (by rfl) nd (pi_list (pv 9)) (blkOk_by (by kernel_rfl)) (fun _ _ _ _ _ => (pg_name (i := 10) nd rfl (by first | exact Or.inl rfl | exact Or.inr rfl))) (fun _ _ _ _ _ => (pts_one (pt_cmpR op_gt (pe_callB call_len_seq (by rfl) M.b_len bb_len (pa_cons (pv 10) pa_nil)) pe_int (nomark _)))) (fun _ _ _ _ _ => (pe_callTy cr_tupF (by rfl) M.b_tuple bb_tuple (pa_cons (pv 10) pa_nil)))) pa_nil)))))))) pss_nil))) pss_nil))) (pss_one (ps_ret (pv 3)))))
theorem es__law_text {ds : List PyData} {R : PyData → Prop} (h : G__law_text ds R) : ES C (t__law_text C K) (startE N__law_text ds) (fun _ => R .none) fun d _ => R d := by
  obtain ⟨c, pl, rfl, ⟨rfl, hl, hn⟩, rfl⟩ := h
  refine es_seq1 (es_setF (α := Str) (i := 2) (by decide) (ef_map (β := Str) (src_tup (α := Str) (ED.eu (K := K) (ed_var (α := (Tup Str)) (i := 0) rfl))) (fun x hx => (ed_op (α := Str) (β := Str) (γ := Str) (ed_str (x := "copy ") (by decide +kernel)) (ed_var (α := Str) (i := 3) rfl) (rd_sCat ?h1))))) ?_
  case h1 =>
    have := (hn x hx).most
    have e : (Str.ofString "copy ").length = 5 := by decide +kernel
    omega
  refine es_seq1 (e1 := [.dat (Rep.toD c), .dat (.list []), .own (LstT C ((c.items.map lineOfCopy).map fun x => Rep.toD x)), .emp, .emp, .emp, .emp]) (es_for (xs := ([] : List (Str × Tup Int))) (enc := fun x => [(4, Rep.toD x.1), (5, Rep.toD x.2)]) (fun _ e' => e' = [.dat (Rep.toD c), .dat (.list []), .own (LstT C ((c.items.map lineOfCopy).map fun x => Rep.toD x)), .emp, .emp, .emp, .emp]) (src_pairs (α := Str) (β := (Tup Int)) (ED.el (ed_var (α := (List (Str × (Tup Int)))) (i := 1) rfl))) rfl (fun i x e' hi _ => by simp at hi) (fun x b hb => ?_) fun e' I => I) ?_
  · rcases List.mem_cons.mp hb with z | z
    · rw [z]; exact (by decide : (4 : Nat) ≠ 0)
    · rw [List.mem_singleton.mp z]; exact (by decide : (5 : Nat) ≠ 0)
  have hs := text_sum hl hn
  have ht := text_len hl hn
  exact es_ret (α := Str) (ed_join (a := "\n") (ys := c.items.map lineOfCopy) (ed_str (x := "\n") (by decide +kernel)) (el_own (α := Str) (i := 2) rfl) (Nat.le_trans hs (by decide)) (Nat.le_trans ht (by decide))) rfl
theorem nodup_len {α : Type} [DecidableEq α] : ∀ {a b : List α}, a.Nodup → (∀ x ∈ a, x ∈ b) → a.length ≤ b.length
  | [], _, _, _ => Nat.zero_le _
  | x :: a, b, h, k => by
    have h' := List.nodup_cons.mp h
    have hx : x ∈ b := k x List.mem_cons_self
    have e := List.length_erase_of_mem hx
    have hp := List.length_pos_of_mem hx
    have := nodup_len (a := a) (b := b.erase x) h'.2 fun y hy => (List.mem_erase_of_ne (fun z => h'.1 (by rw [← z]; exact hy))).mpr (k y (List.mem_cons_of_mem _ hy))
    rw [List.length_cons]
    omega
theorem flat_len {α : Type} {as : List α} : ∀ {ass : List (List α)}, as ∈ ass → as.length ≤ ass.flatten.length
  | a :: ass, h => by
    show as.length ≤ (a ++ ass.flatten).length
    rw [List.length_append]
    rcases List.mem_cons.mp h with z | z
    · rw [z]; omega
    · have := flat_len z
      omega
theorem es__law_grown {T : Thing} {ds : List PyData} {R : PyData → Thing → Prop} (h : G__law_grown T ds R) : ES C (t__law_grown C K) (startO N__law_grown T ds) (fun e' => ∃ T', e'[0]? = some (.own T') ∧ ∃ T'', Imp T' T'' ∧ R .none T'') fun d e' => ∃ T', e'[0]? = some (.own T') ∧ ∃ T'', Imp T' T'' ∧ R d T'' := by
  obtain ⟨n, c, wide, rfl, rfl, hc, hc2, hcl, hw1, hw2, hn, rfl⟩ := h
  refine es_seq (N1 := fun e' => ∃ w : Lot, w.items.Perm c.items ∧ e' = [.own (PotT (n + c.items.length)), .dat (Rep.toD c), .dat (Rep.toD wide), .own (LstT C []), .own (LstT C [Rep.toD w]), .emp, .emp, .emp, .emp, .emp, .emp])
    (es_par ?hi (es_seq1 (es_setF (α := (Tup Str)) (i := 3) (by decide) (ef_lst (α := (Tup Str)) (as := []) ea_nil (show 0 ≤ 4096 by decide))) (es_setL1 (α := Lot) (j := 4) (by decide) (eg_tupOF (δ := Str) (i := 0) (P' := fun w e' => w.items.Perm c.items ∧ e' = [.own (PotT (n + c.items.length)), .dat (Rep.toD c), .dat (Rep.toD wide), .own (LstT C []), .emp, .emp, .emp, .emp, .emp, .emp, .emp]) rfl solo_pot (EA.eai (ea_cons (α := Lot) (ed_var (α := Lot) (i := 1) rfl) (ea_cons (α := Int) (ed_len_u (K := K) (α := Str) (ED.eu (K := K) (ed_var (α := Lot) (i := 1) rfl))) ea_nil))) (g := ⟨n, ⟨true, c.items⟩, (c.items.length : Int), rfl, rfl, (by show c.items.length ≤ 1000; omega), (by omega), (by show (c.items.length : Int) ≤ (c.items.length : Int); omega), (by omega), rfl⟩) fun ds' T' r => ?_) fun a e' p => ?_))) fun e' p => ?_
  case hi => repeat' (first | exact ins_c | exact ins_nil | exact ins_var (by decide) | apply ins_op | apply ins_cons | apply ins_cb | apply ins_lst | apply ins_call)
  · obtain ⟨fs, left, rfl, hp, hf, rfl⟩ := r
    have hl0 : left = [] := by
      have := hp.length_eq
      rw [List.length_append] at this
      exact List.length_eq_zero_iff.mp (by show left.length = 0; have h2 : (c.items.length) = fs.length := by omega
                                           have h3 : fs.length + left.length = c.items.length := this
                                           omega)
    subst hl0
    rw [List.append_nil] at hp
    exact ⟨solo_pot, fs, rfl, hp, by rw [Int.toNat_natCast]; rfl⟩
  · obtain ⟨hp, rfl⟩ := p
    exact ⟨a, hp, rfl⟩
  obtain ⟨w0, hw0, rfl⟩ := p
  refine es_seq (N1 := fun e' => ∃ (m : Nat) (found : List Lot) (a4 a5 a6 a7 a8 a9 a10 : Sl), e' = [.own (PotT m), .dat (Rep.toD c), .dat (Rep.toD wide), .own (LstT C (found.map fun x => Rep.toD x)), a4, a5, a6, a7, a8, a9, a10] ∧ m ≤ n + 400 ∧ Lam c found ∧ found.length ≤ 24)
    (es_for (xs := List.range 24) (enc := fun (k : Nat) => [(5, PyData.int (k : Int))])
      (fun i e' => ∃ (m : Nat) (found waiting : List Lot) (a5 a6 a7 a8 a9 a10 : Sl), e' = [.own (PotT m), .dat (Rep.toD c), .dat (Rep.toD wide), .own (LstT C (found.map fun x => Rep.toD x)), .own (LstT C (waiting.map fun x => Rep.toD x)), a5, a6, a7, a8, a9, a10] ∧
        isVal (some a5) = true ∧ isVal (some a7) = true ∧ isVal (some a10) = true ∧ m ≤ n + c.items.length + 15 * i ∧ GrowSt c found waiting ∧ found.length ≤ i ∧ waiting.length ≤ 1 + 14 * i)
      (src_range1 (ea_cons (α := Int) (ed_int (i := 24)) ea_nil) (by omega) (by omega)) ⟨_, [], [w0], .emp, .emp, .emp, .emp, .emp, .emp, rfl, rfl, rfl, rfl, by omega, grow_start hc hw0, Nat.le_refl _, by show 1 ≤ 1 + 14 * 0; omega⟩ (fun i v e' hi I => ?_) (fun v b hb => ?_) fun e' I => ?_) fun e' p => ?_
  · obtain ⟨m, found, waiting, a5, a6, a7, a8, a9, a10, rfl, h5, h7, h10, hm, hg, hfl, hwl⟩ := I
    have hil : i < 24 := by
      have := (List.getElem?_eq_some_iff.mp hi).1
      rwa [List.length_range] at this
    refine ⟨fun b hb => by rw [List.mem_singleton.mp hb]; exact h5, es_if (et_test (ed_ne (EL.er (K := K) (el_own (α := (Tup Str)) (i := 4) rfl)) (EL.er (K := K) (EF.el (pb := true) (ef_lst (α := (Tup Str)) (as := []) ea_nil (show 0 ≤ 4096 by decide)))))) (fun h => ?_) fun h => es_nil ⟨m, found, waiting, .dat (.int (v : Int)), a6, a7, a8, a9, a10, rfl, rfl, h7, h10, by omega, hg, by omega, by omega⟩⟩
    have hne : waiting ≠ [] := of_decide_eq_true h
    obtain ⟨ws, lot, rfl⟩ : ∃ ws lot, waiting = ws ++ [lot] := ⟨waiting.dropLast, waiting.getLast hne, (List.dropLast_concat_getLast hne).symm⟩
    rw [List.length_append, List.length_singleton] at hwl
    refine es_seq (N1 := fun e' => e' = [.own (PotT m), .dat (Rep.toD c), .dat (Rep.toD wide), .own (LstT C (found.map fun x => Rep.toD x)), .own (LstT C (ws.map fun x => Rep.toD x)), .dat (.int (v : Int)), .dat (Rep.toD lot), a7, a8, a9, a10]) (es_setG (α := Lot) (i := 6) (by decide) (eg_pop (α := Lot) (as := ws) (a := lot) rfl) fun a e' p => by rw [p.1, p.2]; rfl) fun e' p => ?_
    subst p
    have hlot := hg.win lot (List.mem_append_right _ List.mem_cons_self)
    have hlnd := hg.wnd lot (List.mem_append_right _ List.mem_cons_self)
    have hll : lot.items.length ≤ 14 := Nat.le_trans (nodup_len hlnd hlot) hcl
    refine es_if (et_test (ed_op (α := Int) (β := Int) (γ := Bool) (ed_len_u (ED.eu (K := K) (ed_var (α := (Tup Str)) (i := 6) rfl))) (ed_int (i := 1)) rd_cmp)) (fun h => ?_) fun h => es_nil ⟨m, found, ws, .dat (.int (v : Int)), .dat (Rep.toD lot), a7, a8, a9, a10, rfl, rfl, h7, h10, by omega, grow_pop hg, by omega, by omega⟩
    have hlong : long lot = true := h
    have hl1 : (1 : Int) < (lot.items.length : Int) := of_decide_eq_true h
    refine es_seq (N1 := fun e' => e' = [.own (PotT m), .dat (Rep.toD c), .dat (Rep.toD wide), .own (LstT C ((found ++ [mInSeq c lot]).map fun x => Rep.toD x)), .own (LstT C (ws.map fun x => Rep.toD x)), .dat (.int (v : Int)), .dat (Rep.toD lot), a7, a8, a9, a10])
      (es_dropG (eg_append (α := Lot) (i := 3) (a := mInSeq c lot) rfl (ed_tupL (α := Str) (EF.el (pb := true) (ef_filter (src_tup (α := Str) (ED.eu (K := K) (ed_var (α := (Tup Str)) (i := 1) rfl))) (fun x hx => (et_test (ed_inU (ED.er (K := K) (ed_var (α := Str) (i := 7) rfl)) (ED.eu (K := K) (ed_var (α := (Tup Str)) (i := 6) rfl))))) (noOwn1 h7)))) (by rw [List.length_map]; omega)) fun _ e' p => p.trans (by rw [List.map_append]; rfl)) fun e' p => ?_
    subst p
    obtain ⟨u, hu, hu0, hu2⟩ : ∃ u : Int, u = (if (lot.items.length : Int) - 1 < wide then (lot.items.length : Int) - 1 else wide) ∧ 1 ≤ u ∧ u ≤ (lot.items.length : Int) - 1 := by
      refine ⟨_, rfl, ?_, ?_⟩ <;> split <;> omega
    refine es_seq (N1 := fun e' => ∃ many : Nat, 2 ≤ many ∧ many ≤ lot.items.length ∧ e' = [.own (PotT (m + 1)), .dat (Rep.toD c), .dat (Rep.toD wide), .own (LstT C ((found ++ [mInSeq c lot]).map fun x => Rep.toD x)), .own (LstT C (ws.map fun x => Rep.toD x)), .dat (.int (v : Int)), .dat (Rep.toD lot), a7, .dat (Rep.toD (many : Int)), a9, a10])
      (es_setG (α := Int) (i := 8) (by decide) (eg_op (α := Int) (β := Int) (γ := Int) (P1 := fun a e' => a = 2 ∧ e' = [.own (PotT m), .dat (Rep.toD c), .dat (Rep.toD wide), .own (LstT C ((found ++ [mInSeq c lot]).map fun x => Rep.toD x)), .own (LstT C (ws.map fun x => Rep.toD x)), .dat (.int (v : Int)), .dat (Rep.toD lot), a7, a8, a9, a10])
        (P2 := fun _ _ k e' => 0 ≤ k ∧ k < u ∧ e' = [.own (PotT (m + 1)), .dat (Rep.toD c), .dat (Rep.toD wide), .own (LstT C ((found ++ [mInSeq c lot]).map fun x => Rep.toD x)), .own (LstT C (ws.map fun x => Rep.toD x)), .dat (.int (v : Int)), .dat (Rep.toD lot), a7, a8, a9, a10])
        (P := fun k e' => 2 ≤ k ∧ k ≤ (lot.items.length : Int) ∧ e' = [.own (PotT (m + 1)), .dat (Rep.toD c), .dat (Rep.toD wide), .own (LstT C ((found ++ [mInSeq c lot]).map fun x => Rep.toD x)), .own (LstT C (ws.map fun x => Rep.toD x)), .dat (.int (v : Int)), .dat (Rep.toD lot), a7, a8, a9, a10])
        (ED.eg (ed_int (i := 2))) (fun a e' p => ?_) fun a e' k e'' p q => ?_) fun k e' p => ?_) fun e' p => ?_
    · obtain ⟨rfl, rfl⟩ := p
      refine (eg_take (i := 0) (u := u) rfl (ED.is (ed_min2 (ed_var (α := Int) (i := 2) rfl) (ed_op (α := Int) (β := Int) (γ := Int) (ed_len_u (K := K) (α := Str) (ED.eu (K := K) (ed_var (α := Lot) (i := 6) rfl))) (ed_int (i := 1)) rd_sub)) hu.symm) (by omega) (by omega) (by omega)).mono fun k e' q => ⟨q.1, q.2.1, q.2.2.trans rfl⟩
    · obtain ⟨rfl, rfl⟩ := p
      obtain ⟨q1, q2, rfl⟩ := q
      exact ⟨_, rd_add, by omega, by omega, rfl⟩
    · obtain ⟨p1, p2, rfl⟩ := p
      obtain ⟨many, rfl⟩ : ∃ many : Nat, k = many := ⟨k.toNat, by omega⟩
      exact ⟨many, by omega, by omega, rfl⟩
    obtain ⟨many, hm2, hml, rfl⟩ := p
    have e1 : cutL lot.items none (some (many : Int)) = lot.items.take many := by rw [cutL_to (Int.natCast_nonneg _), Int.toNat_natCast]
    have e2 : cutL lot.items (some (many : Int)) none = lot.items.drop many := by rw [cutL_from (Int.natCast_nonneg _), Int.toNat_natCast]
    refine es_seq (N1 := fun e' => ∃ ass : List (List Str), ass.length = many ∧ ass.flatten = lot.items.take many ∧ e' = [.own (PotT (m + 1)), .dat (Rep.toD c), .dat (Rep.toD wide), .own (LstT C ((found ++ [mInSeq c lot]).map fun x => Rep.toD x)), .own (LstT C (ws.map fun x => Rep.toD x)), .dat (.int (v : Int)), .dat (Rep.toD lot), a7, .dat (Rep.toD (many : Int)), .own (LssT C (ass.map fun as => as.map fun x => Rep.toD x)), a10])
      ((es_setH (i := 9) (by decide) (eh_sides (γ := Str) (δ := Str) (j := 7) (f := fun x => x) (src_tup (α := Str) (ED.eu (K := K) (ed_cutU (α := Str) (ed_var (α := Lot) (i := 6) rfl) eo_none (eo_some (ed_var (α := Int) (i := 8) rfl))))) (fun x hx => ed_var (α := Str) (i := 7) rfl) (noOwn1 h7))).mono (fun e' p => ?_) fun _ _ z => z) fun e' p => ?_
    · refine ⟨(lot.items.take many).map fun x => [x], by rw [List.length_map, List.length_take]; omega, flat_ones _, p.trans ?_⟩
      show List.set _ 9 (Sl.own (LssT C ((cutL lot.items none (some (many : Int))).map fun x => [Rep.toD x]))) = _
      rw [e1, List.map_map]
      rfl
    obtain ⟨ass, ha1, ha2, rfl⟩ := p
    refine es_seq (N1 := fun e' => ∃ (ass : List (List Str)) (a7 : Sl), ass.flatten.Perm lot.items ∧ ass.length = many ∧ isVal (some a7) = true ∧ e' = [.own (PotT (m + 1 + (lot.items.drop many).length)), .dat (Rep.toD c), .dat (Rep.toD wide), .own (LstT C ((found ++ [mInSeq c lot]).map fun x => Rep.toD x)), .own (LstT C (ws.map fun x => Rep.toD x)), .dat (.int (v : Int)), .dat (Rep.toD lot), a7, .dat (Rep.toD (many : Int)), .own (LssT C (ass.map fun as => as.map fun x => Rep.toD x)), a10])
      (es_for (xs := lot.items.drop many) (enc := fun x => [(7, Rep.toD x)]) (fun k e' => ∃ (ass : List (List Str)) (a7 : Sl), ass.flatten.Perm (lot.items.take (many + k)) ∧ ass.length = many ∧ isVal (some a7) = true ∧ e' = [.own (PotT (m + 1 + k)), .dat (Rep.toD c), .dat (Rep.toD wide), .own (LstT C ((found ++ [mInSeq c lot]).map fun x => Rep.toD x)), .own (LstT C (ws.map fun x => Rep.toD x)), .dat (.int (v : Int)), .dat (Rep.toD lot), a7, .dat (Rep.toD (many : Int)), .own (LssT C (ass.map fun as => as.map fun x => Rep.toD x)), a10])
        (by rw [← e2]; exact src_tup (α := Str) (ED.eu (K := K) (ed_cutU (α := Str) (ed_var (α := Lot) (i := 6) rfl) (eo_some (ed_var (α := Int) (i := 8) rfl)) eo_none))) ⟨ass, a7, by rw [ha2]; exact List.Perm.refl _, ha1, h7, rfl⟩ (fun k x e' hk I => ?_) (fun x b hb => ?_) fun e' I => ?_) fun e' p => ?_
    · obtain ⟨ass, b7, hp, hla, h7', rfl⟩ := I
      have hkl : k < (lot.items.drop many).length := (List.getElem?_eq_some_iff.mp hk).1
      rw [List.length_drop] at hkl
      refine ⟨fun b hb => by rw [List.mem_singleton.mp hb]; exact h7', es_sideAppend (α := Str) (j := 9) ⟨_, rfl⟩ (eg_take (i := 0) (u := (many : Int)) rfl (ed_var (α := Int) (i := 8) rfl) (by omega) (by omega) (by omega)) fun q e' p => ?_⟩
      obtain ⟨p1, p2, rfl⟩ := p
      obtain ⟨q, rfl⟩ : ∃ q' : Nat, q = q' := ⟨q.toNat, by omega⟩
      have hq : q < ass.length := by omega
      have hqs : ass[q]? = some ass[q] := List.getElem?_eq_getElem hq
      refine ⟨_, q, ass[q].map (fun x => Rep.toD x), x, rfl, ?_, by rw [List.getElem?_map, hqs] <;> rfl, ?_, ed_var (α := Str) (i := 7) rfl, rfl, ass.set q (ass[q] ++ [x]), .dat (Rep.toD x), ?_, by rw [List.length_set]; exact hla, rfl, ?_⟩
      · unfold ixN
        rw [List.length_map, if_pos (Int.natCast_nonneg _), if_pos (by omega), Int.toNat_natCast]
      · rw [List.length_map]
        have h1 := flat_len (List.getElem_mem hq)
        have h2 := hp.length_eq
        rw [List.length_take] at h2
        omega
      · refine (flat_set hqs).trans ?_
        have e3 : lot.items.take (many + (k + 1)) = lot.items.take (many + k) ++ [x] := by
          rw [← Nat.add_assoc, List.take_add_one]
          congr 1
          rw [List.getElem?_drop] at hk
          rw [hk]
          rfl
        rw [e3]
        exact List.Perm.append_right _ hp
      · rw [List.map_set, List.map_append (l₁ := ass[q])]
        rfl
    · rw [List.mem_singleton.mp hb]; exact (by decide : (7 : Nat) ≠ 0)
    · obtain ⟨ass, b7, hp, hla, h7', rfl⟩ := I
      refine ⟨ass, b7, ?_, hla, h7', rfl⟩
      rw [List.length_drop, List.take_of_length_le (by omega)] at hp
      exact hp
    obtain ⟨ass, b7, hp, hla, h7', rfl⟩ := p
    have hfl2 := List.length_filter_le (fun as : List Str => decide (1 < as.length)) ass
    refine es_dropG (eg_extend (α := Lot) (i := 4) (as := (ass.filter fun as => decide (1 < as.length)).map fun as => Tup.mk as) rfl (EF.el (pb := true) (ef_parts (δ := Str) (i := 9) (j := 10) rfl (by decide))) (by rw [List.length_map, List.length_map]; omega)) fun _ e' p => ?_
    refine ⟨m + 1 + (lot.items.drop many).length, found ++ [mInSeq c lot], ws ++ (ass.filter fun as => decide (1 < as.length)).map (fun as => Tup.mk as), .dat (.int (v : Int)), .dat (Rep.toD lot), b7, .dat (Rep.toD (many : Int)), .own (LssT C (ass.map fun as => as.map fun x => Rep.toD x)), a10, p.trans ?_, rfl, h7', h10, ?_, grow_step hc hg hlong hp, by rw [List.length_append, List.length_singleton]; omega, by rw [List.length_append, List.length_map]; omega⟩
    · rw [List.map_append (f := fun x => Rep.toD x) (l₁ := ws)]
      rfl
    · rw [List.length_drop]
      omega
  · rw [List.mem_singleton.mp hb]; exact (by decide : (5 : Nat) ≠ 0)
  · obtain ⟨m, found, waiting, a5, a6, a7, a8, a9, a10, rfl, h5, h7, h10, hm, hg, hfl, hwl⟩ := I
    rw [List.length_range] at hm hfl
    exact ⟨m, found, _, _, _, _, _, _, _, rfl, by omega, grow_lam hc hg, hfl⟩
  · obtain ⟨m, found, a4, a5, a6, a7, a8, a9, a10, rfl, hm, hlam, hfl⟩ := p
    exact es_retO (i := 3) (by decide) rfl ⟨_, rfl, _, pot_more hm, found, rfl, hlam, hfl, rfl⟩
where
  noOwn1 {e : List Sl} {j : Nat} (h : isVal e[j]? = true) : noOwn e [j] = true := by
    unfold noOwn
    rw [List.all_cons, h]
    rfl
end
end PD
end
section
set_option Elab.async false
set_option linter.all false
set_option maxRecDepth 100000
set_option maxHeartbeats 4000000
set_option autoImplicit false
namespace PD
open PySem L2
open PySem.W (Datum Tup)
variable [Tabl]

/-! ### a stemma by its lots alone -/
def idxs (c l : Lot) : List Int := l.items.map fun x => ((c.items.idxOf x : Nat) : Int)
theorem leD_int (a b : Int) : leD a b = !decide (b < a) := by
  unfold leD PySem.W.dataLe PySem.W.sortLe
  show (!(PyProof.Rows.itemLt (.inl b) (.inl a) || (!PyProof.Rows.itemLt (.inl a) (.inl b) && false))) = _
  rw [Bool.and_false, Bool.or_false]
  rfl
theorem idx_up {c l : Lot} (hc : c.items.Nodup) (h : InSeq c l) : (idxs c l).Pairwise (fun a b => a < b) := by
  have h0 : c.items.Pairwise fun x y => ((c.items.idxOf x : Nat) : Int) < ((c.items.idxOf y : Nat) : Int) := by
    rw [List.pairwise_iff_getElem]
    intro i j hi hj hij
    rw [hc.idxOf_getElem i hi, hc.idxOf_getElem j hj]
    omega
  have hs : l.items.Sublist c.items := by
    rw [h]
    exact List.filter_sublist
  unfold idxs
  rw [List.pairwise_map]
  exact h0.sublist hs
theorem sort_idx {c l : Lot} (hc : c.items.Nodup) (h : InSeq c l) : sortD (idxs c l) = idxs c l :=
  up_unique (sortD_perm _) (sortD_up _) ((idx_up hc h).imp fun {a b} z => by rw [leD_int, decide_eq_false (by omega)]; rfl)
theorem name_idx {c : Lot} {x : Str} (hx : x ∈ c.items) : nameAt c ((c.items.idxOf x : Nat) : Int) = x := by
  unfold nameAt
  rw [Int.toNat_natCast]
  have h := List.idxOf_lt_length_of_mem hx
  rw [List.getD_eq_getElem?_getD, List.getElem?_eq_getElem h]
  show c.items[List.idxOf x c.items] = x
  exact List.getElem_idxOf h
def back (c : Lot) (p : Line) : Lot := ⟨p.2.items.map (nameAt c)⟩
theorem back_line {c l : Lot} (hc : c.items.Nodup) (h : InSeq c l) : back c (lineOf c l) = l := by
  unfold back lineOf
  show Tup.mk ((sortD (idxs c l)).map (nameAt c)) = l
  rw [sort_idx hc h]
  unfold idxs
  rw [List.map_map]
  show Tup.mk _ = Tup.mk l.items
  congr 1
  have e : l.items.map (nameAt c ∘ fun x => ((c.items.idxOf x : Nat) : Int)) = l.items.map id := List.map_congr_left fun x hx => name_idx (h.within x hx)
  rw [e, List.map_id]
theorem le_key {c a b : Lot} (hc : c.items.Nodup) (ha : InSeq c a) (hb : InSeq c b) : leK (sizeKey c) a b = leD (lineOf c a) (lineOf c b) := by
  unfold leK leD PySem.W.dataLe PySem.W.sortLe lineOf
  show (!(PyProof.Rows.listOrd PyProof.Rows.itemOrd).blt (PySem.W.keyToks (keyD (sizeKey c b))) (PySem.W.keyToks (keyD (sizeKey c a)))) = !(PyProof.Rows.listOrd PyProof.Rows.itemOrd).blt (PySem.W.keyToks (Rep.toD ((0 - (b.items.length : Int), ⟨sortD (idxs c b)⟩) : Line))) (PySem.W.keyToks (Rep.toD ((0 - (a.items.length : Int), ⟨sortD (idxs c a)⟩) : Line)))
  rw [sort_idx hc ha, sort_idx hc hb]
  rfl
/-! ### keys of a dict -/
theorem putD_keys {α β : Type} [DecidableEq α] (acc : List (α × β)) (p : α × β) (h : (acc.map (·.1)).Nodup) : ((putD acc p).map (·.1)).Nodup ∧ ∀ x, x ∈ (putD acc p).map (·.1) ↔ x ∈ acc.map (·.1) ∨ x = p.1 := by
  unfold putD
  split
  · rename_i hy
    have e : (acc.map fun x => if x.1 = p.1 then (x.1, p.2) else x).map (·.1) = acc.map (·.1) := by
      rw [List.map_map]
      exact List.map_congr_left fun x _ => by show (if x.1 = p.1 then (x.1, p.2) else x).1 = x.1; split <;> rfl
    rw [e]
    refine ⟨h, fun x => ⟨.inl, fun z => z.elim id fun w => ?_⟩⟩
    obtain ⟨y, hy1, hy2⟩ := List.any_eq_true.mp hy
    rw [w, ← of_decide_eq_true hy2]
    exact List.mem_map_of_mem hy1
  · rename_i hn
    rw [List.map_append]
    refine ⟨List.nodup_append.mpr ⟨h, by simp, fun a ha b hb => ?_⟩, fun x => by simp⟩
    rintro rfl
    obtain ⟨y, hy1, hy2⟩ := List.mem_map.mp ha
    refine hn (List.any_eq_true.mpr ⟨y, hy1, decide_eq_true ?_⟩)
    rw [hy2]
    simpa using hb
theorem foldD_keys {α β : Type} [DecidableEq α] : ∀ (ps acc : List (α × β)), (acc.map (·.1)).Nodup → ((ps.foldl putD acc).map (·.1)).Nodup ∧ ∀ x, x ∈ (ps.foldl putD acc).map (·.1) ↔ x ∈ acc.map (·.1) ∨ x ∈ ps.map (·.1)
  | [], acc, h => ⟨h, fun x => by simp⟩
  | p :: ps, acc, h => by
    obtain ⟨h1, h2⟩ := putD_keys acc p h
    obtain ⟨h3, h4⟩ := foldD_keys ps (putD acc p) h1
    refine ⟨h3, fun x => ?_⟩
    rw [List.foldl_cons, h4, h2, List.map_cons, List.mem_cons]
    exact ⟨fun z => z.elim (fun w => w.elim .inl fun y => .inr (.inl y)) fun w => .inr (.inr w), fun z => z.elim (fun w => .inl (.inl w)) fun w => w.elim (fun y => .inl (.inr y)) .inr⟩
theorem firsts_nodup (A : List Lot) : (firsts A).Nodup := (foldD_keys (A.map fun l => (l, true)) [] List.nodup_nil).1
theorem mem_firsts {A : List Lot} {l : Lot} : l ∈ firsts A ↔ l ∈ A := by
  unfold firsts dictOf
  rw [(foldD_keys (A.map fun l => (l, true)) [] List.nodup_nil).2 l, List.map_map]
  have e : A.map ((fun x : Lot × Bool => x.1) ∘ fun l => (l, true)) = A := List.map_id A
  rw [e]
  simp
theorem mem_bySize {c : Lot} {A : List Lot} {l : Lot} : l ∈ (bySize c A).items ↔ l ∈ A := by
  exact (List.mergeSort_perm (firsts A) (leK (sizeKey c))).mem_iff.trans mem_firsts
theorem bySize_nodup (c : Lot) (A : List Lot) : (bySize c A).items.Nodup := (List.mergeSort_perm (firsts A) (leK (sizeKey c))).nodup_iff.mpr (firsts_nodup A)
theorem bySize_lines {c : Lot} {A : List Lot} (hc : c.items.Nodup) (h : ∀ l ∈ A, InSeq c l) : (bySize c A).items = (sortD (uniq (A.map (lineOf c)))).map (back c) := by
  have hD : ∀ l ∈ firsts A, InSeq c l := fun l hl => h l (mem_firsts.mp hl)
  have e1 : (sortBy (sizeKey c) (firsts A)).map (lineOf c) = sortD ((firsts A).map (lineOf c)) := List.map_mergeSort fun a ha b hb => le_key hc (hD a ha) (hD b hb)
  have e2 : ((sortBy (sizeKey c) (firsts A)).map (lineOf c)).map (back c) = sortBy (sizeKey c) (firsts A) := by
    rw [List.map_map]
    have e : (sortBy (sizeKey c) (firsts A)).map (back c ∘ lineOf c) = (sortBy (sizeKey c) (firsts A)).map id := List.map_congr_left fun l hl => back_line hc (hD l ((List.mergeSort_perm (firsts A) _).mem_iff.mp hl))
    rw [e, List.map_id]
  have inj : ∀ a ∈ A, ∀ b ∈ A, lineOf c a = lineOf c b → a = b := fun a ha b hb e => by rw [← back_line hc (h a ha), e, back_line hc (h b hb)]
  have p : ((firsts A).map (lineOf c)).Perm (uniq (A.map (lineOf c))) := by
    refine (List.perm_ext_iff_of_nodup ?_ (nodup_uniq _)).mpr fun x => ?_
    · refine List.Pairwise.map (lineOf c) (fun a b hab => hab) ?_
      refine (firsts_nodup A).imp_of_mem fun {a b} ha hb hab e => hab (inj a (mem_firsts.mp ha) b (mem_firsts.mp hb) e)
    · rw [mem_uniq, List.mem_map, List.mem_map]
      exact ⟨fun ⟨a, ha, e⟩ => ⟨a, mem_firsts.mp ha, e⟩, fun ⟨a, ha, e⟩ => ⟨a, mem_firsts.mpr ha, e⟩⟩
  show sortBy (sizeKey c) (firsts A) = _
  rw [← e2, e1, sortD_congr p]
theorem bySize_congr {c : Lot} {A B : List Lot} (hc : c.items.Nodup) (h : ∀ l ∈ A, InSeq c l) (k : ∀ l, l ∈ A ↔ l ∈ B) : bySize c A = bySize c B := by
  have hB : ∀ l ∈ B, InSeq c l := fun l hl => h l ((k l).mpr hl)
  show Tup.mk (bySize c A).items = Tup.mk (bySize c B).items
  rw [bySize_lines hc h, bySize_lines hc hB]
  congr 2
  refine sortD_congr ((List.perm_ext_iff_of_nodup (nodup_uniq _) (nodup_uniq _)).mpr fun x => ?_)
  rw [mem_uniq, mem_uniq, List.mem_map, List.mem_map]
  exact ⟨fun ⟨a, ha, e⟩ => ⟨a, (k a).mp ha, e⟩, fun ⟨a, ha, e⟩ => ⟨a, (k a).mpr ha, e⟩⟩
/-! ### the stemma of some lots -/
def stem (c : Lot) (ls : List Lot) : Stemma := bySize c (ls.filter long ++ [c])
theorem inSeq_self (c : Lot) : InSeq c c := by
  show Tup.mk c.items = Tup.mk _
  congr 1
  exact (List.filter_eq_self.mpr fun x hx => decide_eq_true hx).symm
theorem stemmaOf_eq {c : Lot} {b : Bool} {ls : List Lot} (hl : long c = true) : mStemmaOf c ⟨b, ls⟩ = stem c ls := by
  unfold mStemmaOf stem
  rw [if_pos hl]
theorem good_stem {c : Lot} {ls : List Lot} (h : ∀ l ∈ ls, InSeq c l) : ∀ l ∈ ls.filter long ++ [c], InSeq c l := fun l hl => by
  rcases List.mem_append.mp hl with z | z
  · exact h l (List.mem_filter.mp z).1
  · rw [List.mem_singleton.mp z]; exact inSeq_self c
theorem told_eq {c : Lot} {ls : List Lot} (hc : c.items.Nodup) (hl : long c = true) (h : ∀ l ∈ ls, InSeq c l) : mTold c ls = stem c ls := by
  have e : (ls ++ [c]).filter long = ls.filter long ++ [c] := by
    rw [List.filter_append, List.filter_cons_of_pos hl, List.filter_nil]
  show Tup.mk ((sortD (uniq (linesOf c ls))).map (back c)) = stem c ls
  unfold linesOf
  rw [e, ← bySize_lines hc (good_stem h)]
  rfl
theorem mem_stem {c l : Lot} {ls : List Lot} (h : Lam c ls) : l ∈ (stem c ls).items ↔ l ∈ ls ∨ l = c := by
  unfold stem
  rw [mem_bySize, List.mem_append, List.mem_filter, List.mem_singleton]
  exact ⟨fun z => z.imp (fun w => w.1) id, fun z => z.imp (fun w => ⟨w, h.lng l w⟩) id⟩
theorem lam_more {c : Lot} {ls : List Lot} (hc : c.items.Nodup) (hl : long c = true) (h : Lam c ls) {ms : List Lot} (k : ∀ l ∈ ms, l ∈ ls ∨ l = c) : Lam c ms := by
  refine ⟨fun l hl => ?_, fun l hl' => ?_, fun a ha b hb => ?_⟩
  · rcases k l hl with z | z
    · exact h.seq l z
    · rw [z]; exact inSeq_self c
  · rcases k l hl' with z | z
    · exact h.lng l z
    · rw [z]; exact hl
  · have ina : ∀ l ∈ ms, Inside l c := fun l hl x hx => by
      rcases k l hl with z | z
      · exact (h.seq l z).within x hx
      · rw [← z]; exact hx
    rcases k b hb with y | y
    · rcases k a ha with z | z
      · exact h.no a z b y
      · rw [z, clash_symm hc ((h.seq b y).nodup hc)]
        exact clash_in (ina b hb)
    · rw [y]
      exact clash_in (ina a ha)
theorem lam_stem {c : Lot} {ls : List Lot} (hc : c.items.Nodup) (hl : long c = true) (h : Lam c ls) : Lam c (stem c ls).items := lam_more hc hl h fun l hl => (mem_stem h).mp hl
theorem clashFree_of : ∀ {ls : List Lot}, (∀ a ∈ ls, ∀ b ∈ ls, mClash a b = false) → clashFree ls = true
  | [], _ => rfl
  | l :: ls, h => by
    show (!(ls.any fun o => mClash l o) && clashFree ls) = true
    rw [clashFree_of fun a ha b hb => h a (List.mem_cons_of_mem _ ha) b (List.mem_cons_of_mem _ hb)]
    have e : (ls.any fun o => mClash l o) = false := List.any_eq_false.mpr fun o ho => by rw [h l List.mem_cons_self o (List.mem_cons_of_mem _ ho)]; exact Bool.false_ne_true
    rw [e]
    rfl
theorem stem_same {c : Lot} {ls ms : List Lot} (hc : c.items.Nodup) (h : Lam c ls) (k : ∀ l, (l ∈ ls ∨ l = c) ↔ (l ∈ ms ∨ l = c)) (hm : Lam c ms) : stem c ls = stem c ms := by
  refine bySize_congr hc (good_stem h.seq) fun l => ?_
  rw [List.mem_append, List.mem_append, List.mem_filter, List.mem_filter, List.mem_singleton]
  constructor
  · intro z
    rcases (k l).mp (z.imp (fun w => w.1) id) with w | w
    · exact .inl ⟨w, hm.lng l w⟩
    · exact .inr w
  · intro z
    rcases (k l).mpr (z.imp (fun w => w.1) id) with w | w
    · exact .inl ⟨w, h.lng l w⟩
    · exact .inr w
/-- these lots, with that of all among them, in their own sequence, are a stemma -/
theorem isStemma_stem {c : Lot} {ls : List Lot} (hc : c.items.Nodup) (hl : long c = true) (h : Lam c ls) : mIsStemma c (stem c ls) = true := by
  have hs := lam_stem hc hl h
  unfold mIsStemma mAreLots
  rw [Bool.and_eq_true, Bool.and_eq_true]
  refine ⟨⟨List.all_eq_true.mpr fun l hl' => ?_, clashFree_of hs.no⟩, decide_eq_true ?_⟩
  · rw [Bool.and_eq_true]
    exact ⟨decide_eq_true (hs.seq l hl'), hs.lng l hl'⟩
  · rw [stemmaOf_eq hl]
    refine stem_same hc h (fun l => ?_) hs
    rw [mem_stem h]
    exact ⟨.inl, fun z => z.elim id .inr⟩
end PD
end
section
set_option Elab.async false
set_option linter.all false
set_option maxRecDepth 100000
set_option maxHeartbeats 4000000
set_option autoImplicit false
namespace PD
open PySem L2
open PySem.W (Datum Tup)
open C8 (Cal fnScope fnBody fnScope_by)
variable [Tabl]

/-! ### drawn stemmata -/
theorem toD_inj {α : Type} [DecidableEq α] [Datum α] {a b : α} (h : (Rep.toD a : PyData) = Rep.toD b) : a = b := by
  have h1 : PyData.eqv (Rep.toD a) (Rep.toD b) = decide (a = b) := Datum.eqv a b
  have h2 : PyData.eqv (Rep.toD b) (Rep.toD b) = decide (b = b) := Datum.eqv b b
  rw [h, h2] at h1
  exact of_decide_eq_true (by rw [← h1]; exact decide_eq_true rfl)
structure Drawn (c : Lot) (v : Stemma) : Prop where
  ok : mIsStemma c v = true
  lam : Lam c v.items
  has : c ∈ v.items
  nodup : v.items.Nodup
  len : v.items.length ≤ 26
theorem drawn_stem {c : Lot} {ls : List Lot} (hc : c.items.Nodup) (hl : long c = true) (h : Lam c ls) (hn : ls.length ≤ 25) : Drawn c (stem c ls) := by
  refine ⟨isStemma_stem hc hl h, lam_stem hc hl h, (mem_stem h).mpr (.inr rfl), bySize_nodup _ _, Nat.le_trans (bySize_len _ _) ?_⟩
  rw [List.length_append, List.length_singleton]
  have := List.length_filter_le long ls
  omega
theorem lam_nil (c : Lot) : Lam c [] := ⟨by simp, by simp, by simp⟩
theorem drawn_one {c : Lot} (hc : c.items.Nodup) (hl : long c = true) : Drawn c ⟨[c]⟩ := by
  have e : stem c [] = ⟨[c]⟩ := by
    show Tup.mk (List.mergeSort [c] _) = _
    rw [List.mergeSort_singleton]
  rw [← e]
  exact drawn_stem hc hl (lam_nil c) (Nat.zero_le _)
def G__law_drawn : GdO := fun T ds R => ∃ (n : Nat) (c : Lot), T = PotT n ∧ ds = [Rep.toD c] ∧ c.items.Nodup ∧ 2 ≤ c.items.length ∧ c.items.length ≤ 14 ∧ n < 10000 ∧
  R = fun d T' => ∃ vs : Stemmata, d = Rep.toD vs ∧ vs.items ≠ [] ∧ vs.items.length ≤ 6 ∧ (∀ v ∈ vs.items, Drawn c v) ∧ T' = PotT (n + 10000)
section
variable {P : Program} {w : World} {K : PySem.W.Frag} {mg : Str → Option Value} {base : Heap} {C : Addr} {e : List Sl}
abbrev N__law_drawn : List Str := ["pot", "copies", "first", "found", "at", "way", "lot"]
theorem sc__law_drawn : FnScope N__law_drawn ["pot", "copies"] (fnScope (top 65)) := fnScope_by (by decide +kernel)
def t__law_drawn (C : Addr) (K : PySem.W.Frag) : TS := (tSeq (tAsg (tCall (spD C G__law_told) [] C8.E0 (tCons (tVar 1) (tCons (tCall (spO C G__law_grown) [] C8.E0 (tCons (tVar 0) (tCons (tVar 1) (tCons (tCall (spO C G__law_of) [] C8.E0 (tCons (tVar 0) (tCons (tLst (tCons (tC (.int 1)) (tCons (tC (.int 1)) (tCons (tC (.int 2)) tNil)))) tNil))) tNil)))) tNil))) (gName 2)) (tSeq (tAsg (tLst (tCons (tVar 2) tNil)) (gName 3)) (tSeq (tFor (iRng1 (tCons (tCall (spO C G__law_of) [] C8.E0 (tCons (tVar 0) (tCons (tLst (tCons (tC (.int 0)) (tCons (tC (.int 1)) (tCons (tC (.int 1)) (tCons (tC (.int 1)) (tCons (tC (.int 2)) (tCons (tC (.int 3)) (tCons (tC (.int 3)) (tCons (tC (.int 5)) tNil))))))))) tNil))) tNil)) (gName 4) (tSeq (tAsg (tCall (spO C G__law_take) [] C8.E0 (tCons (tVar 0) (tCons (tC (.int 4)) tNil))) (gName 5)) (tIfS (tTest (tOp (rEqP K false) (tVar 5) (tC (.int 0)))) (tDrop (tBM K "list" rAppend (tVar 3) (tCons (tTupF (tCons (tVar 1) tNil)) tNil))) (tIfS (tTest (tOp (rEqP K false) (tVar 5) (tC (.int 1)))) (tDrop (tBM K "list" rAppend (tVar 3) (tCons (tCall (spD C G__law_told) [] C8.E0 (tCons (tVar 1) (tCons (tLc (iTup K (tVar 2)) (gName 6) (tTest (tOp (rEqP K false) (tCall (spO C G__law_take) [] C8.E0 (tCons (tVar 0) (tCons (tC (.int 2)) tNil))) (tC (.int 0)))) (tVar 6) [6]) tNil))) tNil))) (tIfS (tTest (tOp (rEqP K false) (tVar 5) (tC (.int 2)))) (tDrop (tBM K "list" rAppend (tVar 3) (tCons (tCall (spD C G__law_told) [] C8.E0 (tCons (tVar 1) (tCons (tCall (spO C G__law_grown) [] C8.E0 (tCons (tVar 0) (tCons (tVar 1) (tCons (tC (.int 1)) tNil)))) tNil))) tNil))) (tDrop (tBM K "list" rAppend (tVar 3) (tCons (tCall (spO C G__law_of) [] C8.E0 (tCons (tVar 0) (tCons (tVar 3) tNil))) tNil)))))))) (tRet (tCB (rTupF K) (tCons (tVar 3) tNil))))))
theorem p__law_drawn {cdv : Value} {A : Around} {outer : List Env} {s : Shared} {H : Hp} {E : XK} {f : Addr} {k : Nat} (M : Mg mg) (S : Shf P w K mg base C) (c__law_grown : Cal P w K mg base 4 "_law_grown" (spO C G__law_grown) []) (c__law_of : Cal P w K mg base 3 "_law_of" (spO C G__law_of) []) (c__law_take : Cal P w K mg base 2 "_law_take" (spO C G__law_take) []) (c__law_told : Cal P w K mg base 2 "_law_told" (spD C G__law_told) []) (hr : Room 4 (A.deeper (PyProof.Rows.envOfC "_law_drawn" (fnScope (top 65)) s.heap.objs.size f cdv))) : PSs (cxOf C8.CX0 P w K mg base N__law_drawn "_law_drawn" (fnScope (top 65)) f cdv A outer s H E).nox (fnBody (top 65)) (t__law_drawn C K) :=
  have nd := sc__law_drawn.nd
  (pss_cons (ps_set (i := 2) nd rfl (by first | exact Or.inl rfl | exact Or.inr rfl) (C8.pe_c c__law_told hr (by decide) (by rfl) (pa_cons (pv 1) (pa_cons (C8.pe_c c__law_grown hr (by decide) (by rfl) (pa_cons (pv 0) (pa_cons (pv 1) (pa_cons (C8.pe_c c__law_of hr (by decide) (by rfl) (pa_cons (pv 0) (pa_cons (pe_lst (pa_cons pe_int (pa_cons pe_int (pa_cons pe_int pa_nil)))) pa_nil))) pa_nil)))) pa_nil)))) (pss_cons (ps_set (i := 3) nd rfl (by first | exact Or.inl rfl | exact Or.inr rfl) (pe_lst (pa_cons (pv 2) pa_nil))) (pss_cons (ps_for PassesOwn.never (by rfl) (pi_range1 (by rfl) M.b_range (pa_cons (C8.pe_c c__law_of hr (by decide) (by rfl) (pa_cons (pv 0) (pa_cons (pe_lst (pa_cons pe_int (pa_cons pe_int (pa_cons pe_int (pa_cons pe_int (pa_cons pe_int (pa_cons pe_int (pa_cons pe_int (pa_cons pe_int pa_nil))))))))) pa_nil))) pa_nil)) (pg_name (i := 4) nd rfl (by first | exact Or.inl rfl | exact Or.inr rfl)) (pss_cons (ps_set (i := 5) nd rfl (by first | exact Or.inl rfl | exact Or.inr rfl) (C8.pe_c c__law_take hr (by decide) (by rfl) (pa_cons (pv 0) (pa_cons pe_int pa_nil)))) (pss_one (ps_if (pt_cmpR (op_eqP hr.units) (pv 5) pe_int (nomark _)) (pss_one (ps_expr (pe_bm PySem.F.plainAttrs_list PySem.F.slot_list_append PySem.F.type_list_append mt_append (pv 3) (pa_cons (pe_tupF (pa_cons (pv 1) pa_nil)) pa_nil)))) (pss_one (ps_if (pt_cmpR (op_eqP hr.units) (pv 5) pe_int (nomark _)) (pss_one (ps_expr (pe_bm PySem.F.plainAttrs_list PySem.F.slot_list_append PySem.F.type_list_append mt_append (pv 3) (pa_cons (C8.pe_c c__law_told hr (by decide) (by rfl) (pa_cons (pv 1) (pa_cons (pe_lc (own := [("lot", 6)]) (g := (gName 6)) (tt := (tTest (tOp (rEqP K false) (tCall (spO C G__law_take) [] C8.E0 (tCons (tVar 0) (tCons (tC (.int 2)) tNil))) (tC (.int 0))))) (te := (tVar 6)) (by rfl) nd (pi_tup (pv 2)) (blkOk_by (by kernel_rfl)) (fun _ _ _ _ _ => (pg_name (i := 6) nd rfl (by first | exact Or.inl rfl | exact Or.inr rfl))) (fun _ _ _ _ _ => (pts_one (pt_cmpR (op_eqP hr.units) (C8.pe_c c__law_take hr (by decide) (by rfl) (pa_cons (pv 0) (pa_cons pe_int pa_nil))) pe_int (nomark _)))) (fun _ _ _ _ _ => (pv 6))) pa_nil))) pa_nil)))) (pss_one (ps_if (pt_cmpR (op_eqP hr.units) (pv 5) pe_int (nomark _)) (pss_one (ps_expr (pe_bm PySem.F.plainAttrs_list PySem.F.slot_list_append PySem.F.type_list_append mt_append (pv 3) (pa_cons (C8.pe_c c__law_told hr (by decide) (by rfl) (pa_cons (pv 1) (pa_cons (C8.pe_c c__law_grown hr (by decide) (by rfl) (pa_cons (pv 0) (pa_cons (pv 1) (pa_cons pe_int pa_nil)))) pa_nil))) pa_nil)))) (pss_one (ps_expr (pe_bm PySem.F.plainAttrs_list PySem.F.slot_list_append PySem.F.type_list_append mt_append (pv 3) (pa_cons (C8.pe_c c__law_of hr (by decide) (by rfl) (pa_cons (pv 0) (pa_cons (pv 3) pa_nil))) pa_nil)))))))))))) (pss_one (ps_ret (pe_callTy cr_tupF (by rfl) M.b_tuple bb_tuple (pa_cons (pv 3) pa_nil)))))))
theorem eg_of {γ : Type} [DecidableEq γ] [Datum γ] [KeyD γ] {te : TE} {n : Nat} {as : List γ} (he : e[0]? = some (.own (PotT n))) (h : EAi C 0 (tCons te tNil) e [.list (as.map fun x => Rep.toD x)]) (hne : as ≠ []) (hl : as.length < 4096) (hn : n < 1000000) :
    EG C (tCall (spO C G__law_of) [] C8.E0 (tCons (tVar 0) (tCons te tNil))) e fun (a : γ) e' => a ∈ as ∧ e' = e.set 0 (.own (PotT (n + 1))) :=
  eg_callI (α := γ) (i := 0) he solo_pot h (g := ⟨n, _, rfl, rfl, (fun z => hne (List.map_eq_nil_iff.mp z)), (by rw [List.length_map]; exact hl), hn, rfl⟩) fun d T' r => by
    obtain ⟨hd, rfl⟩ := r
    obtain ⟨a, ha, rfl⟩ := List.mem_map.mp hd
    exact ⟨solo_pot, a, rfl, noL a, ha, rfl⟩
theorem eg_told {te : TE} {c : Lot} {P1 : List Lot → List Sl → Prop} (he : e[1]? = some (.dat (Rep.toD c))) (h : EG C te e P1) (hc : c.items.Nodup) (hl : long c = true) (hp : ∀ ls e', P1 ls e' → Lam c ls ∧ ls.length ≤ 30) :
    EG C (tCall (spD C G__law_told) [] C8.E0 (tCons (tVar 1) (tCons te tNil))) e fun (v : Stemma) e' => ∃ ls, P1 ls e' ∧ v = stem c ls :=
  eg_callD (P := fun ds e' => ∃ ls, P1 ls e' ∧ ds = [Rep.toD c, Rep.toD ls]) (R := fun ds d => ∃ ls : List Lot, ds = [Rep.toD c, Rep.toD ls] ∧ d = Rep.toD (mTold c ls))
    (fun W F σ H s Q q => ega_cons (α := Lot) (ED.eg (ed_var (α := Lot) (i := 1) he)) (P2 := fun _ _ ds' e' => ∃ ls, P1 ls e' ∧ ds' = [Rep.toD ls]) (fun a e' p => by
      obtain ⟨rfl, rfl⟩ := p
      exact fun W F σ H s Q q => ega_cons (α := List Lot) h (fun ls e' p => EA.ega ea_nil) W F σ H s Q fun ds e'' vs F' H' z => by
        obtain ⟨ls, e1, ds1, p1, ⟨rfl, rfl⟩, rfl⟩ := z
        exact q _ _ vs F' H' ⟨ls, p1, rfl⟩) W F σ H s Q fun ds e' vs F' H' z => by
      obtain ⟨a, e1, ds1, ⟨rfl, rfl⟩, ⟨ls, p1, rfl⟩, rfl⟩ := z
      exact q _ _ vs F' H' ⟨ls, p1, rfl⟩)
    (fun ds e' p => by
      obtain ⟨ls, p1, rfl⟩ := p
      obtain ⟨h1, h2⟩ := hp ls e' p1
      refine ⟨c, ⟨false, ls⟩, rfl, ⟨hc, h1.within, Nat.lt_of_le_of_lt h2 (by decide)⟩, ?_⟩
      funext d
      refine propext ⟨fun z => ?_, fun z => ⟨ls, rfl, z⟩⟩
      obtain ⟨ls', e2, rfl⟩ := z
      injection e2 with _ e2
      injection e2 with e2 _
      rw [toD_inj e2])
    (fun ds e' d p r => by
      obtain ⟨ls, p1, rfl⟩ := p
      obtain ⟨ls', e2, rfl⟩ := r
      injection e2 with _ e2
      injection e2 with e2 _
      obtain rfl := toD_inj e2
      exact ⟨_, rfl, ls, p1, told_eq hc hl (hp ls e' p1).1.seq⟩)
theorem eg_grown {tw : TE} {m : Nat} {c : Lot} (he : ∃ T, e[0]? = some (.own T)) (hc1 : e[1]? = some (.dat (Rep.toD c))) (h : EG C tw e fun (k : Int) e' => 1 ≤ k ∧ k ≤ 2 ∧ e' = e.set 0 (.own (PotT m))) (hc : c.items.Nodup) (h2 : 2 ≤ c.items.length) (h3 : c.items.length ≤ 14) (hm : m < 100000) :
    EG C (tCall (spO C G__law_grown) [] C8.E0 (tCons (tVar 0) (tCons (tVar 1) (tCons tw tNil)))) e fun (ls : List Lot) e' => Lam c ls ∧ ls.length ≤ 24 ∧ e' = e.set 0 (.own (PotT (m + 400))) := by
  have hl : 0 < e.length := by
    obtain ⟨T, q⟩ := he
    exact (List.getElem?_eq_some_iff.mp q).1
  refine eg_callO (i := 0) (P := fun ds e' => ∃ k : Int, 1 ≤ k ∧ k ≤ 2 ∧ ds = [Rep.toD c, Rep.toD k] ∧ e' = e.set 0 (.own (PotT m))) he (fun W F σ H s Q q => ega_cons (α := Lot) (ED.eg (ed_var (α := Lot) (i := 1) hc1)) (P2 := fun _ _ ds' e' => ∃ k : Int, 1 ≤ k ∧ k ≤ 2 ∧ ds' = [Rep.toD k] ∧ e' = e.set 0 (.own (PotT m))) (fun a e' p => by
      obtain ⟨rfl, rfl⟩ := p
      exact fun W F σ H s Q q => ega_cons (α := Int) h (fun ls e' p => EA.ega ea_nil) W F σ H s Q fun ds e'' vs F' H' z => by
        obtain ⟨k, e1, ds1, ⟨k1, k2, rfl⟩, ⟨rfl, rfl⟩, rfl⟩ := z
        exact q _ _ vs F' H' ⟨k, k1, k2, rfl, rfl⟩) W F σ H s Q fun ds e' vs F' H' z => by
      obtain ⟨a, e1, ds1, ⟨rfl, rfl⟩, ⟨k, k1, k2, rfl, rfl⟩, rfl⟩ := z
      exact q _ _ vs F' H' ⟨k, k1, k2, rfl, rfl⟩) fun ds e' p => ?_
  obtain ⟨k, k1, k2, rfl, rfl⟩ := p
  refine ⟨PotT m, List.getElem?_set_self hl, _, ⟨m, c, k, rfl, rfl, hc, h2, h3, k1, k2, hm, rfl⟩, fun d T' r => ?_⟩
  obtain ⟨ls, rfl, r1, r2, rfl⟩ := r
  exact ⟨ls, rfl, r1, r2, by rw [List.set_set]⟩
abbrev tDraw (C : Addr) (K : PySem.W.Frag) : TT := tTest (tOp (rEqP K false) (tCall (spO C G__law_take) [] C8.E0 (tCons (tVar 0) (tCons (tC (.int 2)) tNil))) (tC (.int 0)))
theorem draws_two : Draws 0 1000000 (tDraw C K) := fun σ H v0 S k hk hσ tb hp Q q => by
  refine ⟨v0, hσ, v0, [.int 2], S, S, PotT k, [Rep.toD (2 : Int)], _, rfl, fun a z => (PotT k).known hp z, tb, fun a z => z, solo_pot _ _ _ _ _ hp, .cons (.int 2) .nil, ⟨k, 2, rfl, rfl, by decide, by decide, hk, rfl⟩, fun v d T' S' H2 r x tb2 k3 t3 a3 => ?_⟩
  obtain ⟨j, rfl, j0, j1, rfl⟩ := r
  cases at_int a3
  refine ⟨.int j, .int 0, .int j, .int 0, rfl, rfl, by show 0 ≤ 50; decide, _, rfl, q _ H2 S' x tb2 k3 (solo_pot _ _ _ _ _ t3)⟩
theorem es__law_drawn {T : Thing} {ds : List PyData} {R : PyData → Thing → Prop} (h : G__law_drawn T ds R) : ES C (t__law_drawn C K) (startO N__law_drawn T ds) (fun e' => ∃ T', e'[0]? = some (.own T') ∧ ∃ T'', Imp T' T'' ∧ R .none T'') fun d e' => ∃ T', e'[0]? = some (.own T') ∧ ∃ T'', Imp T' T'' ∧ R d T'' := by
  obtain ⟨n, c, rfl, rfl, hc, hc2, hcl, hn, rfl⟩ := h
  have hl : long c = true := decide_eq_true (by omega)
  refine es_seq (N1 := fun e' => ∃ v : Stemma, Drawn c v ∧ e' = [.own (PotT (n + 401)), .dat (Rep.toD c), .dat (Rep.toD v), .emp, .emp, .emp, .emp])
    (es_setG (α := Stemma) (i := 2) (by decide) (eg_told (c := c) rfl (eg_grown (m := n + 1) (c := c) ⟨_, rfl⟩ rfl ((eg_of (γ := Int) (as := [1, 1, 2]) rfl (EA.eai (ea_cons (α := List Int) (EF.ed (ef_lst (α := Int) (as := [_, _, _]) (ea_cons (α := Int) (ed_int (i := 1)) (ea_cons (α := Int) (ed_int (i := 1)) (ea_cons (α := Int) (ed_int (i := 2)) ea_nil))) (show 3 ≤ 4096 by decide))) ea_nil)) (by decide) (by decide) (by omega)).mono fun k e' p => ?_) hc hc2 hcl (by omega)) hc hl fun ls e' p => ⟨p.1, by omega⟩) fun v e' p => ?_) fun e' p => ?_
  · obtain ⟨p1, rfl⟩ := p
    have : k = 1 ∨ k = 2 := by simpa using p1
    exact ⟨by omega, by omega, rfl⟩
  · obtain ⟨ls, ⟨p1, p2, rfl⟩, rfl⟩ := p
    exact ⟨_, drawn_stem hc hl p1 (by omega), rfl⟩
  obtain ⟨first, hf, rfl⟩ := p
  refine es_seq1 (es_setF (α := Stemma) (i := 3) (by decide) (ef_lst (α := Stemma) (as := [first]) (ea_cons (α := Stemma) (ed_var (α := Stemma) (i := 2) rfl) ea_nil) (show 1 ≤ 4096 by decide))) ?_
  show ES C _ [.own (PotT (n + 401)), .dat (Rep.toD c), .dat (Rep.toD first), .own (LstT C ([first].map fun x => Rep.toD x)), .emp, .emp, .emp] _ _
  refine es_seq (N1 := fun e' => ∃ (m : Nat) (vs : List Stemma) (a4 a5 a6 : Sl), e' = [.own (PotT m), .dat (Rep.toD c), .dat (Rep.toD first), .own (LstT C (vs.map fun x => Rep.toD x)), a4, a5, a6] ∧ m ≤ n + 10000 ∧ vs ≠ [] ∧ vs.length ≤ 6 ∧ ∀ v ∈ vs, Drawn c v)
    (es_forRG (P := fun k e' => k ∈ [0, 1, 1, 1, 2, 3, 3, 5] ∧ e' = [.own (PotT (n + 402)), .dat (Rep.toD c), .dat (Rep.toD first), .own (LstT C ([first].map fun x => Rep.toD x)), .emp, .emp, .emp])
      ((eg_of (γ := Int) (as := [0, 1, 1, 1, 2, 3, 3, 5]) rfl (EA.eai (ea_cons (α := List Int) (EF.ed (ef_lst (α := Int) (as := [_, _, _, _, _, _, _, _]) (ea_cons (α := Int) (ed_int (i := 0)) (ea_cons (α := Int) (ed_int (i := 1)) (ea_cons (α := Int) (ed_int (i := 1)) (ea_cons (α := Int) (ed_int (i := 1)) (ea_cons (α := Int) (ed_int (i := 2)) (ea_cons (α := Int) (ed_int (i := 3)) (ea_cons (α := Int) (ed_int (i := 3)) (ea_cons (α := Int) (ed_int (i := 5)) ea_nil)))))))) (show 8 ≤ 4096 by decide))) ea_nil)) (by decide) (by decide) (by omega)).mono fun k e' p => ⟨p.1, p.2⟩) fun k e' p => ?_) fun e' p => ?_
  · obtain ⟨p1, rfl⟩ := p
    have hk : 0 ≤ k ∧ k ≤ 5 := by
      have : k = 0 ∨ k = 1 ∨ k = 1 ∨ k = 1 ∨ k = 2 ∨ k = 3 ∨ k = 3 ∨ k = 5 := by simpa using p1
      omega
    refine es_for (xs := List.range k.toNat) (enc := fun (k : Nat) => [(4, PyData.int (k : Int))])
      (fun i e' => ∃ (m : Nat) (vs : List Stemma) (a4 a5 a6 : Sl), e' = [.own (PotT m), .dat (Rep.toD c), .dat (Rep.toD first), .own (LstT C (vs.map fun x => Rep.toD x)), a4, a5, a6] ∧ isVal (some a4) = true ∧ isVal (some a5) = true ∧ isVal (some a6) = true ∧ m ≤ n + 402 + 500 * i ∧ vs.length = 1 + i ∧ ∀ v ∈ vs, Drawn c v)
      (src_range1 (ea_cons (α := Int) (ed_int (i := k)) ea_nil) hk.1 (by omega)) ⟨n + 402, [first], .emp, .emp, .emp, rfl, rfl, rfl, rfl, by omega, rfl, fun v hv => by rw [List.mem_singleton.mp hv]; exact hf⟩ (fun i v e' hi I => ?_) (fun v b hb => ?_) fun e' I => ?_
    · obtain ⟨m, vs, a4, a5, a6, rfl, h4, h5, h6, hm, hvl, hvs⟩ := I
      have hil : i < k.toNat := by
        have := (List.getElem?_eq_some_iff.mp hi).1
        rwa [List.length_range] at this
      have hi5 : i < 5 := by omega
      refine ⟨fun b hb => by rw [List.mem_singleton.mp hb]; exact h4, es_seq (N1 := fun e' => ∃ j : Int, 0 ≤ j ∧ j < 4 ∧ e' = [.own (PotT (m + 1)), .dat (Rep.toD c), .dat (Rep.toD first), .own (LstT C (vs.map fun x => Rep.toD x)), .dat (.int (v : Int)), .dat (Rep.toD j), a6]) (es_setG (α := Int) (i := 5) (by decide) (eg_take (i := 0) rfl (ed_int (i := 4)) (by decide) (by decide) (by omega)) fun j e' p => ⟨j, p.1, p.2.1, by rw [p.2.2]; rfl⟩) fun e' p => ?_⟩
      obtain ⟨j, j0, j4, rfl⟩ := p
      have fin : ∀ {e' : List Sl} (u : Stemma) (m' : Nat) (b6 : Sl), Drawn c u → m' ≤ m + 500 → isVal (some b6) = true → e' = [.own (PotT m'), .dat (Rep.toD c), .dat (Rep.toD first), .own (LstT C (vs.map (fun x => Rep.toD x) ++ [Rep.toD u])), .dat (.int (v : Int)), .dat (Rep.toD j), b6] →
          ∃ (m : Nat) (vs : List Stemma) (a4 a5 a6 : Sl), e' = [.own (PotT m), .dat (Rep.toD c), .dat (Rep.toD first), .own (LstT C (vs.map fun x => Rep.toD x)), a4, a5, a6] ∧ isVal (some a4) = true ∧ isVal (some a5) = true ∧ isVal (some a6) = true ∧ m ≤ n + 402 + 500 * (i + 1) ∧ vs.length = 1 + (i + 1) ∧ ∀ v ∈ vs, Drawn c v := fun {e'} u m' b6 hu hm' hb6 he => by
        refine ⟨m', vs ++ [u], _, _, b6, he.trans (by rw [List.map_append] <;> rfl), rfl, rfl, hb6, by omega, by rw [List.length_append, hvl]; rfl, fun w hw => ?_⟩
        rcases List.mem_append.mp hw with z | z
        · exact hvs w z
        · rw [List.mem_singleton.mp z]; exact hu
      refine es_if (et_test (ed_eq (ED.er (K := K) (ed_var (α := Int) (i := 5) rfl)) (ED.er (K := K) (ed_int (i := 0))))) (fun _ => es_dropG (eg_append (α := Stemma) (i := 3) (a := ⟨[c]⟩) rfl (ed_tups (α := Lot) (as := [c]) (ea_cons (α := Lot) (ed_var (α := Lot) (i := 1) rfl) ea_nil) (show 1 ≤ 4096 by decide)) (by rw [List.length_map]; omega)) fun _ e' p => fin ⟨[c]⟩ (m + 1) a6 (drawn_one hc hl) (by omega) h6 (p.trans rfl)) fun _ => ?_
      refine es_if (et_test (ed_eq (ED.er (K := K) (ed_var (α := Int) (i := 5) rfl)) (ED.er (K := K) (ed_int (i := 1))))) (fun _ => es_dropG (eg_appendG (α := Stemma) (ds := []) (i := 3) (P' := fun _ e' => ∃ u, Drawn c u ∧ e' = [.own (PotT (m + 1 + first.items.length)), .dat (Rep.toD c), .dat (Rep.toD first), .own (LstT C (vs.map (fun x => Rep.toD x) ++ [Rep.toD u])), .dat (.int (v : Int)), .dat (Rep.toD j), a6]) ⟨_, rfl⟩
          (eg_told (c := c) rfl (eg_lcDraw (δ := Lot) (i := 0) (j := 6) (n := m + 1) (m := 1000000) (xs := first.items) rfl (src_tup (α := Lot) (ED.eu (K := K) (ed_var (α := Stemma) (i := 2) rfl))) draws_two (by have := hf.len; omega) (by decide) (by decide) (by decide)) hc hl fun ls e' p => ⟨hf.lam.sub fun l hl => p.1.subset hl, Nat.le_trans p.1.length_le (Nat.le_trans hf.len (by decide))⟩) fun u e' p => ?_) fun _ e' p => ?_) fun _ => ?_
      · obtain ⟨ls, ⟨p1, rfl⟩, rfl⟩ := p
        have hlen : ls.length ≤ 26 := Nat.le_trans p1.length_le hf.len
        refine ⟨vs.map fun x => Rep.toD x, rfl, by rw [List.length_map]; omega, stem c ls, ?_, rfl⟩
        have hlam : Lam c ls := hf.lam.sub fun l hl => p1.subset hl
        refine ⟨isStemma_stem hc hl hlam, lam_stem hc hl hlam, (mem_stem hlam).mpr (.inr rfl), bySize_nodup _ _, ?_⟩
        refine Nat.le_trans (nodup_len (bySize_nodup _ _) (b := first.items) fun l hl' => ?_) hf.len
        rcases (mem_stem hlam).mp hl' with z | z
        · exact p1.subset z
        · rw [z]; exact hf.has
      · obtain ⟨u, hu, rfl⟩ := p
        exact fin u _ a6 hu (by have := hf.len; omega) h6 rfl
      refine es_if (et_test (ed_eq (ED.er (K := K) (ed_var (α := Int) (i := 5) rfl)) (ED.er (K := K) (ed_int (i := 2))))) (fun _ => es_dropG (eg_appendG (α := Stemma) (ds := []) (i := 3) (P' := fun _ e' => ∃ u, Drawn c u ∧ e' = [.own (PotT (m + 1 + 400)), .dat (Rep.toD c), .dat (Rep.toD first), .own (LstT C (vs.map (fun x => Rep.toD x) ++ [Rep.toD u])), .dat (.int (v : Int)), .dat (Rep.toD j), a6]) ⟨_, rfl⟩
          (eg_told (c := c) rfl (eg_grown (m := m + 1) (c := c) ⟨_, rfl⟩ rfl ((ED.eg (ed_int (i := 1))).mono fun k e' p => ?_) hc hc2 hcl (by omega)) hc hl fun ls e' p => ⟨p.1, by omega⟩) fun u e' p => ?_) fun _ e' p => ?_) fun _ => ?_
      · obtain ⟨rfl, rfl⟩ := p
        exact ⟨by decide, by decide, rfl⟩
      · obtain ⟨ls, ⟨p1, p2, rfl⟩, rfl⟩ := p
        exact ⟨vs.map fun x => Rep.toD x, rfl, by rw [List.length_map]; omega, stem c ls, drawn_stem hc hl p1 (by omega), rfl⟩
      · obtain ⟨u, hu, rfl⟩ := p
        exact fin u _ a6 hu (by omega) h6 rfl
      refine es_dropG (eg_appendG (α := Stemma) (ds := []) (i := 3) (P' := fun _ e' => ∃ u, Drawn c u ∧ e' = [.own (PotT (m + 1 + 1)), .dat (Rep.toD c), .dat (Rep.toD first), .own (LstT C (vs.map (fun x => Rep.toD x) ++ [Rep.toD u])), .dat (.int (v : Int)), .dat (Rep.toD j), a6]) ⟨_, rfl⟩
          (eg_of (γ := Stemma) (as := vs) rfl (eai_own (j := 3) (by decide) rfl (EA.eai ea_nil)) (by rintro rfl; simp at hvl; omega) (by omega) (by omega)) fun u e' p => ?_) fun _ e' p => ?_
      · obtain ⟨p1, rfl⟩ := p
        exact ⟨vs.map fun x => Rep.toD x, rfl, by rw [List.length_map]; omega, u, hvs u p1, rfl⟩
      · obtain ⟨u, hu, rfl⟩ := p
        exact fin u _ a6 hu (by omega) h6 rfl
    · rw [List.mem_singleton.mp hb]; exact (by decide : (4 : Nat) ≠ 0)
    · obtain ⟨m, vs, a4, a5, a6, rfl, h4, h5, h6, hm, hvl, hvs⟩ := I
      rw [List.length_range] at hm hvl
      exact ⟨m, vs, a4, a5, a6, rfl, by omega, (by rintro rfl; simp at hvl; omega), by omega, hvs⟩
  · obtain ⟨m, vs, a4, a5, a6, rfl, hm, hne, hvl, hvs⟩ := p
    exact es_ret (α := Stemmata) (ed_tupL (α := Stemma) (el_own (α := Stemma) (i := 3) rfl)) ⟨_, rfl, _, pot_more hm, ⟨vs⟩, rfl, hne, hvl, hvs, rfl⟩
end
end PD
end
section
set_option Elab.async false
set_option linter.all false
set_option maxRecDepth 100000
set_option maxHeartbeats 4000000
set_option autoImplicit false
namespace PD
open PySem L2
open PySem.W (Datum Tup)
open C8 (Cal fnScope fnBody fnScope_by)
variable [Tabl]

/-! ### _law_many -/
def nearOf (lots : List Lot) (l : Lot) : List Int := ((nums lots).filter fun p => !mClash l p.2).map fun p => (p.1 : Int)
def restOf (near : List (List Int)) (rest : List Int) (p : Nat × Int) : List Int := (cutL rest (some ((p.1 : Int) + 1)) none).filter fun t => decide (t ∈ near.getD p.2.toNat [])
def manyStep (near : List (List Int)) (s : List (List Int) × Int) : List (List Int) × Int := if s.1 = [] then s else (s.1.dropLast ++ (nums (s.1.getLastD [])).map (restOf near (s.1.getLastD [])), s.2 + 1)
def manyAt (lots : List Lot) : Nat → List (List Int) × Int
  | 0 => ([upTo (lots.length : Int)], 0)
  | k + 1 => manyStep (lots.map (nearOf lots)) (manyAt lots k)
def mMany (lots : List Lot) : Int := (manyAt lots 402).2
abbrev G__law_many : Gd := G1p (fun (lots : List Lot) => lots.length < 64) mMany
section
variable {P : Program} {w : World} {K : PySem.W.Frag} {mg : Str → Option Value} {base : Heap} {C : Addr}
abbrev N__law_many : List Str := ["lots", "near", "lot", "at", "other", "waiting", "many", "lap", "rest", "spot", "to"]
theorem sc__law_many : FnScope N__law_many ["lots"] (fnScope (top 66)) := fnScope_by (by decide +kernel)
def t__law_many (C : Addr) (K : PySem.W.Frag) : TS := (tSeq (tAsg (tLst tNil) (gName 1)) (tSeq (tFor (iList K (tVar 0)) (gName 2) (tDrop (tBM K "list" rAppend (tVar 1) (tCons (tLc (iEnum K (tCons (tVar 0) tNil)) (gTup K 2 (gCons (gName 3) (gCons (gName 4) gNil))) (tNot (tB (tCall (spD C G__law_clash) [] C8.E0 (tCons (tVar 2) (tCons (tVar 4) tNil))))) (tVar 3) [3, 4]) tNil)))) (tSeq (tPar 5 6 (tCons (tLst (tCons (tLstRg (tRg1 (tCB (rLenQ K) (tCons (tVar 0) tNil)))) tNil)) (tCons (tC (.int 0)) tNil))) (tSeq (tFor (iRng1 (tCons (tC (.int 402)) tNil)) (gName 7) (tIfS (tTest (tOp (rEqP K true) (tVar 5) (tLst tNil))) (tSeq (tPar 8 6 (tCons (tBM0 K "list" rPop (tVar 5)) (tCons (tOp (rI0 fun i j => .int (i + j)) (tVar 6) (tC (.int 1))) tNil))) (tFor (iEnum K (tCons (tVar 8) tNil)) (gTup K 2 (gCons (gName 9) (gCons (gName 3) gNil))) (tDrop (tBM K "list" rAppend (tVar 5) (tCons (tLc (iList K (tSl (rSlL K) (tVar 8) (tPart (tOp (rI0 fun i j => .int (i + j)) (tVar 9) (tC (.int 1)))) tNoPart)) (gName 10) (tTest (tOp (rInP K false) (tVar 10) (tOp (rIxL K) (tVar 1) (tVar 3)))) (tVar 10) [10]) tNil))))) tNext)) (tRet (tVar 6))))))
theorem p__law_many {cdv : Value} {A : Around} {outer : List Env} {s : Shared} {H : Hp} {E : XK} {f : Addr} {k : Nat} (M : Mg mg) (S : Shf P w K mg base C) (c__law_clash : Cal P w K mg base 2 "_law_clash" (spD C G__law_clash) []) (hr : Room 2 (A.deeper (PyProof.Rows.envOfC "_law_many" (fnScope (top 66)) s.heap.objs.size f cdv))) : PSs (cxOf C8.CX0 P w K mg base N__law_many "_law_many" (fnScope (top 66)) f cdv A outer s H E).nox (fnBody (top 66)) (t__law_many C K) :=
  have nd := sc__law_many.nd
  (pss_cons (ps_set (i := 1) nd rfl (by first | exact Or.inl rfl | exact Or.inr rfl) (pe_lst pa_nil)) (pss_cons (ps_for PassesOwn.never (by rfl) (pi_list (pv 0)) (pg_name (i := 2) nd rfl (by first | exact Or.inl rfl | exact Or.inr rfl)) (pss_one (ps_expr (pe_bm PySem.F.plainAttrs_list PySem.F.slot_list_append PySem.F.type_list_append mt_append (pv 1) (pa_cons (pe_lc (own := [("at", 3), ("other", 4)]) (g := (gTup K 2 (gCons (gName 3) (gCons (gName 4) gNil)))) (tt := (tNot (tB (tCall (spD C G__law_clash) [] C8.E0 (tCons (tVar 2) (tCons (tVar 4) tNil)))))) (te := (tVar 3)) (by rfl) nd (pi_enum (by rfl) M.b_enumerate (pa_cons (pv 0) pa_nil)) (blkOk_by (by kernel_rfl)) (fun _ _ _ _ _ => (pg_pair2 (i := 3) (j := 4) (by rfl) nd rfl rfl (by first | exact Or.inl rfl | exact Or.inr rfl) (by first | exact Or.inl rfl | exact Or.inr rfl))) (fun _ _ _ _ _ => (pts_one (pt_not (pt_val (C8.pe_c c__law_clash hr (by decide) (by rfl) (pa_cons (pv 2) (pa_cons (pv 4) pa_nil))))))) (fun _ _ _ _ _ => (pv 3))) pa_nil))))) (pss_cons (ps_par (i := 5) (j := 6) (by rfl) nd rfl rfl (by decide) rfl rfl (pa_cons (pe_lst (pa_cons (pe_listRg (by rfl) (by rfl) M.b_list (prg_1 (by rfl) M.b_range (pe_callB call_len_seq (by rfl) M.b_len bb_len (pa_cons (pv 0) pa_nil)))) pa_nil)) (pa_cons pe_int pa_nil)) (by kernel_rfl)) (pss_cons (ps_for PassesOwn.never (by rfl) (pi_range1 (by rfl) M.b_range (pa_cons pe_int pa_nil)) (pg_name (i := 7) nd rfl (by first | exact Or.inl rfl | exact Or.inr rfl)) (pss_one (ps_if (pt_cmpR (op_neP hr.units) (pv 5) (pe_lst pa_nil) (nomark _)) (pss_cons (ps_par (i := 8) (j := 6) (by rfl) nd rfl rfl (by decide) rfl rfl (pa_cons (pe_bm0 PySem.F.plainAttrs_list PySem.F.slot_list_pop PySem.F.type_list_pop mt_pop (pv 5)) (pa_cons (pe_op op_add (pv 6) pe_int) pa_nil)) (by kernel_rfl)) (pss_one (ps_for PassesOwn.never (by rfl) (pi_enum (by rfl) M.b_enumerate (pa_cons (pv 8) pa_nil)) (pg_pair2 (i := 9) (j := 3) (by rfl) nd rfl rfl (by first | exact Or.inl rfl | exact Or.inr rfl) (by first | exact Or.inl rfl | exact Or.inr rfl)) (pss_one (ps_expr (pe_bm PySem.F.plainAttrs_list PySem.F.slot_list_append PySem.F.type_list_append mt_append (pv 5) (pa_cons (pe_lc (own := [("to", 10)]) (g := (gName 10)) (tt := (tTest (tOp (rInP K false) (tVar 10) (tOp (rIxL K) (tVar 1) (tVar 3))))) (te := (tVar 10)) (by rfl) nd (pi_list (pe_slice sl_list (pv 8) (po_some (pe_op op_add (pv 9) pe_int)) po_none)) (blkOk_by (by kernel_rfl)) (fun _ _ _ _ _ => (pg_name (i := 10) nd rfl (by first | exact Or.inl rfl | exact Or.inr rfl))) (fun _ _ _ _ _ => (pts_one (pt_cmpR (op_inP hr.units) (pv 10) (pe_ix ix_list (pv 1) (pv 3) (by intro _ _; rfl)) (by rfl)))) (fun _ _ _ _ _ => (pv 10))) pa_nil))))))) pss_nil))) (pss_one (ps_ret (pv 6)))))))
end
end PD
end
section
set_option Elab.async false
set_option linter.all false
set_option maxRecDepth 100000
set_option maxHeartbeats 4000000
set_option autoImplicit false
namespace PD
open PySem L2
open PySem.W (Datum Tup)
variable [Tabl]

/-! ### how many lists wait -/
/-- from bottom to top the lengths lie under a strictly falling row of bounds below b -/
def Under {α : Type} : Nat → List (List α) → Prop
  | _, [] => True
  | b, x :: xs => ∃ c, c < b ∧ x.length ≤ c ∧ Under c xs
theorem Under.len {α : Type} : ∀ {b : Nat} {xs : List (List α)}, Under b xs → xs.length ≤ b
  | _, [], _ => Nat.zero_le _
  | b, x :: xs, ⟨c, h1, _, h3⟩ => by
    have := h3.len
    rw [List.length_cons]
    omega
theorem Under.mono {α : Type} : ∀ {b c : Nat} {xs : List (List α)}, Under b xs → b ≤ c → Under c xs
  | _, _, [], _, _ => trivial
  | b, c, x :: xs, ⟨d, h1, h2, h3⟩, h => ⟨d, Nat.lt_of_lt_of_le h1 h, h2, h3⟩
theorem Under.swap {α : Type} {r : List α} {ys : List (List α)} (hy : Under r.length ys) : ∀ {as : List (List α)} {b : Nat}, Under b (as ++ [r]) → Under b (as ++ ys)
  | [], b, ⟨c, h1, h2, _⟩ => hy.mono (Nat.le_trans h2 (Nat.le_of_lt h1))
  | a :: as, b, ⟨c, h1, h2, h3⟩ => ⟨c, h1, h2, Under.swap hy h3⟩
theorem restOf_len (near : List (List Int)) (rest : List Int) (p : Nat × Int) : (restOf near rest p).length ≤ rest.length - (p.1 + 1) := by
  unfold restOf
  rw [cut_tail]
  refine Nat.le_trans (List.length_filter_le ..) ?_
  rw [List.length_drop]
  exact Nat.le_refl _
theorem kids_under (near : List (List Int)) (rest : List Int) : ∀ (xs : List Int) (k : Nat), k + xs.length = rest.length → Under xs.length (((xs.zipIdx k).map fun p => (p.2, p.1)).map (restOf near rest))
  | [], k, _ => trivial
  | x :: xs, k, h => by
    rw [List.length_cons] at h
    refine ⟨xs.length, Nat.lt_succ_self _, ?_, kids_under near rest xs (k + 1) (by omega)⟩
    have := restOf_len near rest (k, x)
    show (restOf near rest (k, x)).length ≤ _
    have e : rest.length - (k + 1) = xs.length := by omega
    omega

theorem near_len (lots : List Lot) : (lots.map (nearOf lots)).length = lots.length := List.length_map ..
def InUp (n : Nat) (w : List (List Int)) : Prop := ∀ r ∈ w, ∀ x ∈ r, ∃ j, j < n ∧ x = ((j : Nat) : Int)
theorem last_split {α : Type} : ∀ {w : List (List α)}, w ≠ [] → w = w.dropLast ++ [w.getLastD []]
  | w, h => by
    obtain ⟨as, r, rfl⟩ : ∃ as r, w = as ++ [r] := ⟨w.dropLast, w.getLast h, (List.dropLast_concat_getLast h).symm⟩
    rw [List.dropLast_concat, List.getLastD_concat]
theorem many_ok (lots : List Lot) : ∀ k, Under (lots.length + 1) (manyAt lots k).1 ∧ InUp lots.length (manyAt lots k).1
  | 0 => ⟨⟨lots.length, Nat.lt_succ_self _, by unfold upTo; rw [List.length_map, List.length_range]; exact Nat.le_of_eq (Int.toNat_natCast _), trivial⟩, fun r hr x hx => by
    rw [List.mem_singleton.mp hr] at hx
    obtain ⟨j, hj, rfl⟩ := List.mem_map.mp hx
    rw [List.mem_range, Int.toNat_natCast] at hj
    exact ⟨j, hj, rfl⟩⟩
  | k + 1 => by
    obtain ⟨h1, h2⟩ := many_ok lots k
    unfold manyAt manyStep
    by_cases h : (manyAt lots k).1 = []
    · rw [if_pos h]
      exact ⟨h1, h2⟩
    · rw [if_neg h]
      have e := last_split h
      generalize (manyAt lots k).1 = w at h1 h2 h e ⊢
      generalize hr : w.getLastD [] = r at e ⊢
      have hmem : r ∈ w := by rw [e]; exact List.mem_append_right _ List.mem_cons_self
      refine ⟨Under.swap (r := r) (kids_under _ r r 0 (Nat.zero_add _)) (by rw [← e]; exact h1), fun q hq x hx => ?_⟩
      rcases List.mem_append.mp hq with z | z
      · exact h2 q (List.dropLast_subset w z) x hx
      · obtain ⟨p, hp, rfl⟩ := List.mem_map.mp z
        unfold restOf at hx
        rw [cut_tail] at hx
        exact h2 r hmem x (List.mem_of_mem_drop (List.mem_filter.mp hx).1)
end PD
end
section
set_option Elab.async false
set_option linter.all false
set_option maxRecDepth 100000
set_option maxHeartbeats 4000000
set_option autoImplicit false
namespace PD
open PySem L2
open PySem.W (Datum Tup)
open C8 (Cal fnScope fnBody fnScope_by)
variable [Tabl]
section
variable {P : Program} {w : World} {K : PySem.W.Frag} {mg : Str → Option Value} {base : Heap} {C : Addr}
theorem es__law_many {ds : List PyData} {R : PyData → Prop} (h : G__law_many ds R) : ES C (t__law_many C K) (startE N__law_many ds) (fun _ => R .none) fun d _ => R d := by
  obtain ⟨lots, rfl, hl, rfl⟩ := h
  refine es_seq1 (es_setF (α := (List Int)) (i := 1) (by decide) (ef_lst (α := (List Int)) (as := []) ea_nil (show 0 ≤ 4096 by decide))) ?_
  refine es_seq (N1 := fun e' => ∃ x, e' = [.dat (Rep.toD lots), .own (LstT C ((lots.map (nearOf lots)).map fun x => Rep.toD x)), x, .emp, .emp, .emp, .emp, .emp, .emp, .emp, .emp]) (es_for (xs := lots) (enc := fun v => [(2, Rep.toD v)])
    (fun i e' => ∃ x, e' = [.dat (Rep.toD lots), .own (LstT C (((lots.take i).map (nearOf lots)).map fun x => Rep.toD x)), x, .emp, .emp, .emp, .emp, .emp, .emp, .emp, .emp] ∧ isVal (some x) = true)
    (src_list (α := (Tup Str)) (ED.el (ed_var (α := (List (Tup Str))) (i := 0) rfl))) ⟨.emp, rfl, rfl⟩ (fun i v e' hi I => ?_) (fun v b hb => ?_) fun e' I => ?_) fun e' n => ?_
  · obtain ⟨x, rfl, hx⟩ := I
    refine ⟨fun b hb => by rw [List.mem_singleton.mp hb]; exact hx, es_dropG (eg_append (α := List Int) rfl (EF.ed (ef_both2 (δ := Int) (src_enumL (ED.el (ed_var (α := (List (Tup Str))) (i := 0) rfl))) (fun x hx => (et_not (et_B (ed_call (α := Bool) (ea_cons (α := (Tup Str)) (ed_var (α := (Tup Str)) (i := 2) rfl) (ea_cons (α := (Tup Str)) (ed_var (α := (Tup Str)) (i := 4) rfl) ea_nil)) ⟨_, _, rfl, rfl⟩)))) (fun x hx hb => (ed_var (α := Int) (i := 3) rfl)))) ?_) fun _ e' p => ⟨.dat (Rep.toD v), p.trans ?_, rfl⟩⟩
    · rw [List.length_map, List.length_map, List.length_take]
      omega
    · rw [List.take_add_one, hi, Option.toList_some, List.map_append, List.map_append]
      rfl
  · rw [List.mem_singleton.mp hb]; exact (by decide : (2 : Nat) ≠ 0)
  · obtain ⟨x, rfl, hx⟩ := I
    rw [List.take_length]
    exact ⟨x, rfl⟩
  · obtain ⟨x, rfl⟩ := n
    refine es_seq1 (es_par (by repeat' (first | exact ins_c | exact ins_nil | exact ins_var (by decide) | apply ins_op | apply ins_cons | apply ins_cb | apply ins_lst | apply ins_call)) (es_seq1 (es_setF (α := (List Int)) (i := 5) (by decide) (ef_lst (α := (List Int)) (as := [_]) (ea_cons (α := (List Int)) (EF.ed (ef_listRg (ed_len_l (K := K) (ED.el (pb := true) (ed_var (α := (List (Tup Str))) (i := 0) rfl))) ?_ ?_)) ea_nil) (show 1 ≤ 4096 by decide))) (es_set (α := Int) (i := 6) (by decide) (ed_int (i := 0))))) ?_
    · omega
    · show (lots.length : Int) ≤ 4096
      omega
    refine es_seq (N1 := fun e' => e'[6]? = some (.dat (Rep.toD (mMany lots)))) (es_for (xs := List.range 402) (enc := fun (k : Nat) => [(7, PyData.int (k : Int))])
      (fun k e' => ∃ a3 a7 a8 a9, e' = [.dat (Rep.toD lots), .own (LstT C ((lots.map (nearOf lots)).map fun x => Rep.toD x)), x, a3, .emp, .own (LstT C ((manyAt lots k).1.map fun x => Rep.toD x)), .dat (Rep.toD (manyAt lots k).2), a7, a8, a9, .emp] ∧ isVal (some a3) = true ∧ isVal (some a7) = true ∧ isVal (some a8) = true ∧ isVal (some a9) = true)
      (src_range1 (ea_cons (α := Int) (ed_int (i := 402)) ea_nil) ?_ ?_) ⟨.emp, .emp, .emp, .emp, rfl, rfl, rfl, rfl, rfl⟩ (fun k v e' hi I => ?_) (fun v b hb => ?_) fun e' I => ?_) fun e' n => ?_
    · omega
    · omega
    · obtain ⟨a3, a7, a8, a9, rfl, h3, h7, h8, h9⟩ := I
      refine ⟨fun b hb => by rw [List.mem_singleton.mp hb]; exact h7, es_if (et_test (ed_ne (EL.er (K := K) (el_own (α := (List Int)) (i := 5) rfl)) (EL.er (K := K) (EF.el (pb := true) (ef_lst (α := (List Int)) (as := []) ea_nil (show 0 ≤ 4096 by decide)))))) (fun h => ?_) fun h => es_nil ⟨a3, .dat (.int (v : Int)), a8, a9, ?_, h3, rfl, h8, h9⟩⟩
      · have hne : (manyAt lots k).1 ≠ [] := of_decide_eq_true h
        obtain ⟨hu, hin⟩ := many_ok lots k
        obtain ⟨hu2, _⟩ := many_ok lots (k + 1)
        have hst : manyAt lots (k + 1) = ((manyAt lots k).1.dropLast ++ (nums ((manyAt lots k).1.getLastD [])).map (restOf (lots.map (nearOf lots)) ((manyAt lots k).1.getLastD [])), (manyAt lots k).2 + 1) := by
          show manyStep _ _ = _
          unfold manyStep
          rw [if_neg hne]
        have hw := last_split hne
        generalize hr : (manyAt lots k).1.getLastD [] = r at hw hst
        generalize has : (manyAt lots k).1.dropLast = as at hw hst
        have hri : ∀ y ∈ r, ∃ j, j < lots.length ∧ y = ((j : Nat) : Int) := hin r (by rw [hw]; exact List.mem_append_right _ List.mem_cons_self)
        have hlen := hu2.len
        rw [hst, List.length_append, List.length_map] at hlen
        rw [hst, hw]
        refine es_seq1 (es_par (by repeat' (first | exact ins_c | exact ins_nil | exact ins_var (by decide) | apply ins_op | apply ins_cons | apply ins_cb | apply ins_lst | apply ins_call)) (es_seq (N1 := fun e' => e' = [.dat (Rep.toD lots), .own (LstT C ((lots.map (nearOf lots)).map fun x => Rep.toD x)), x, a3, .emp, .own (LstT C (as.map fun x => Rep.toD x)), .dat (Rep.toD (manyAt lots k).2), .dat (.int (v : Int)), .dat (Rep.toD r), a9, .emp]) (es_setG (i := 8) (by decide) (eg_pop (α := List Int) (as := as) (a := r) rfl) fun a e' p => ?_) fun e' n => by rw [n]; exact (es_set (α := Int) (i := 6) (by decide) (ed_op (α := Int) (β := Int) (γ := Int) (ed_var (α := Int) (i := 6) rfl) (ed_int (i := 1)) rd_add)))) ?_
        · rw [p.1, p.2]
          rfl
        refine es_for (xs := nums r) (enc := encE 9 3) (fun i e' => ∃ a3 a9, e' = [.dat (Rep.toD lots), .own (LstT C ((lots.map (nearOf lots)).map fun x => Rep.toD x)), x, a3, .emp, .own (LstT C ((as ++ ((nums r).take i).map (restOf (lots.map (nearOf lots)) r)).map fun x => Rep.toD x)), .dat (Rep.toD ((manyAt lots k).2 + 1)), .dat (.int (v : Int)), .dat (Rep.toD r), a9, .emp] ∧ isVal (some a3) = true ∧ isVal (some a9) = true)
          (src_enumL (ED.el (ed_var (α := (List Int)) (i := 8) rfl))) ⟨a3, a9, by rw [List.take_zero, List.map_nil, List.append_nil]; rfl, h3, h9⟩ (fun i p e' hi I => ?_) (fun b q hb => ?_) fun e' I => ?_
        · obtain ⟨b3, b9, rfl, g3, g9⟩ := I
          obtain ⟨hp, hpi⟩ := nums_get hi
          obtain ⟨j, hj, hpj⟩ := hri p.2 (List.mem_of_getElem? hp)
          have hat : atI (lots.map (nearOf lots)) p.2 = some ((lots.map (nearOf lots)).getD p.2.toNat []) := by
            rw [hpj]
            unfold atI ixN
            rw [List.length_map, if_pos (by omega), if_pos (by omega)]
            show (lots.map (nearOf lots))[(((j : Nat) : Int)).toNat]? = _
            rw [Int.toNat_natCast, List.getD_eq_getElem?_getD, List.getElem?_eq_getElem (by rw [List.length_map]; exact hj)]
            rfl
          refine ⟨fun b hb => ?_, es_dropG (eg_append (α := List Int) rfl (EF.ed (ef_filter (src_list (α := Int) (EF.el (ef_cutL (α := Int) (ED.el (pb := true) (ed_var (α := (List Int)) (i := 8) rfl)) (eo_some (ed_op (α := Int) (β := Int) (γ := Int) (ed_var (α := Int) (i := 9) rfl) (ed_int (i := 1)) rd_add)) eo_none))) (fun x hx => (et_test (ed_inL (ED.er (K := K) (ed_var (α := Int) (i := 10) rfl)) (ED.el (pb := true) (ed_ixL (α := (List Int)) (el_own (α := (List Int)) (i := 1) rfl) (ed_var (α := Int) (i := 3) rfl) hat))))))) ?_) fun _ e' p' => ⟨.dat (Rep.toD p.2), .dat (.int (p.1 : Int)), p'.trans ?_, rfl, rfl⟩⟩
          · rcases List.mem_cons.mp hb with z | z
            · rw [z]; exact g9
            · rw [List.mem_singleton.mp z]; exact g3
          · have hil : i < (nums r).length := (List.getElem?_eq_some_iff.mp hi).1
            rw [List.length_map, List.length_append, List.length_map, List.length_take]
            omega
          · simp only [List.take_add_one, hi, Option.toList_some, List.map_append, List.append_assoc, List.map_cons, List.map_nil]
            rfl
        · rcases List.mem_cons.mp hb with z | z
          · rw [z]; exact (by decide : (9 : Nat) ≠ 0)
          · rw [List.mem_singleton.mp z]; exact (by decide : (3 : Nat) ≠ 0)
        · obtain ⟨b3, b9, rfl, g3, g9⟩ := I
          rw [List.take_length]
          exact ⟨b3, _, _, b9, rfl, g3, rfl, rfl, g9⟩
      · have hne : (manyAt lots k).1 = [] := by
          have := of_decide_eq_false h
          exact Decidable.not_not.mp this
        have hst : manyAt lots (k + 1) = manyAt lots k := by
          show manyStep _ _ = _
          unfold manyStep
          rw [if_pos hne]
        rw [hst]
        rfl
    · rw [List.mem_singleton.mp hb]; exact (by decide : (7 : Nat) ≠ 0)
    · obtain ⟨a3, a7, a8, a9, rfl, h3, h7, h8, h9⟩ := I
      rw [List.length_range]
      rfl
    · exact es_ret (α := Int) (ed_var (α := Int) (i := 6) n) rfl
end
end PD
end
section
/-! Lists of things no two of which clash: how many, and that their sequence does not matter. Plain Lean. -/
namespace PL
section
variable {α : Type}
/-- one more thing: each list that it does not clash with, with it too -/
def addTo (clash : α → α → Bool) (found : List (List α)) (l : α) : List (List α) :=
  found ++ (found.filter fun s => !s.any fun o => clash l o).map fun s => s ++ [l]
def rowsFrom (clash : α → α → Bool) (found : List (List α)) (ls : List α) : List (List α) := ls.foldl (addTo clash) found
/-- how many lists no two of which clash -/
def cntL (clash : α → α → Bool) : Nat → List α → Nat
  | _, [] => 1
  | 0, _ :: _ => 1
  | n + 1, a :: r => cntL clash n r + cntL clash n (r.filter fun o => !clash o a)
theorem cntL_more (clash : α → α → Bool) : ∀ (n m : Nat) (ls : List α), ls.length ≤ n → ls.length ≤ m → cntL clash n ls = cntL clash m ls
  | 0, 0, [], _, _ => rfl
  | 0, _ + 1, [], _, _ => rfl
  | _ + 1, 0, [], _, _ => rfl
  | _ + 1, _ + 1, [], _, _ => rfl
  | n + 1, m + 1, a :: r, h1, h2 => by
    have e1 : r.length ≤ n := Nat.le_of_succ_le_succ h1
    have e2 : r.length ≤ m := Nat.le_of_succ_le_succ h2
    have e3 := List.length_filter_le (fun o => !clash o a) r
    unfold cntL
    rw [cntL_more clash n m r e1 e2, cntL_more clash n m _ (Nat.le_trans e3 e1) (Nat.le_trans e3 e2)]
def cnt (clash : α → α → Bool) (ls : List α) : Nat := cntL clash ls.length ls
theorem cnt_nil (clash : α → α → Bool) : cnt clash [] = 1 := rfl
theorem cnt_cons (clash : α → α → Bool) (a : α) (r : List α) : cnt clash (a :: r) = cnt clash r + cnt clash (r.filter fun o => !clash o a) := by
  show cntL clash (r.length + 1) (a :: r) = _
  unfold cntL cnt
  rw [cntL_more clash r.length _ (r.filter fun o => !clash o a) (List.length_filter_le ..) (Nat.le_refl _)]
theorem cnt_pos (clash : α → α → Bool) : ∀ (n : Nat) (ls : List α), 0 < cntL clash n ls
  | 0, [] => Nat.one_pos
  | 0, _ :: _ => Nat.one_pos
  | _ + 1, [] => Nat.one_pos
  | n + 1, a :: r => Nat.lt_of_lt_of_le (cnt_pos clash n r) (Nat.le_add_right ..)
/-- those that clash with none of s -/
def fit (clash : α → α → Bool) (s ls : List α) : List α := ls.filter fun l => !s.any fun o => clash l o
theorem rows_len (clash : α → α → Bool) : ∀ (ls : List α) (found : List (List α)), (rowsFrom clash found ls).length = (found.map fun s => cnt clash (fit clash s ls)).sum
  | [], found => by
    show found.length = _
    have e : (fun s : List α => cnt clash (fit clash s [])) = fun _ => 1 := rfl
    rw [e]
    induction found with
    | nil => rfl
    | cons x r ih => rw [List.map_cons, List.sum_cons, ← ih, List.length_cons, Nat.add_comm]
  | l :: ls, found => by
    show (rowsFrom clash (addTo clash found l) ls).length = _
    rw [rows_len clash ls]
    unfold addTo
    rw [List.map_append, List.sum_append]
    induction found with
    | nil => rfl
    | cons s r ih =>
      rw [List.map_cons, List.sum_cons, List.map_cons, List.sum_cons, ← ih]
      by_cases h : (!s.any fun o => clash l o) = true
      · rw [List.filter_cons_of_pos (p := fun s : List α => !s.any fun o => clash l o) h, List.map_cons, List.map_cons, List.sum_cons]
        have e1 : fit clash s (l :: ls) = l :: fit clash s ls := by
          unfold fit
          rw [List.filter_cons_of_pos (p := fun l => !s.any fun o => clash l o) h]
        have e2 : fit clash (s ++ [l]) ls = (fit clash s ls).filter fun o => !clash o l := by
          unfold fit
          rw [List.filter_filter]
          congr 1
          funext o
          rw [List.any_append, List.any_cons, List.any_nil, Bool.or_false, Bool.not_or, Bool.and_comm]
        rw [e1, e2, cnt_cons]
        omega
      · rw [List.filter_cons_of_neg (p := fun s : List α => !s.any fun o => clash l o) h]
        have e1 : fit clash s (l :: ls) = fit clash s ls := by
          unfold fit
          rw [List.filter_cons_of_neg (p := fun l => !s.any fun o => clash l o) h]
        rw [e1]
        omega
theorem rows_count (clash : α → α → Bool) (ls : List α) : (rowsFrom clash [[]] ls).length = cnt clash ls := by
  rw [rows_len]
  have e : fit clash [] ls = ls := List.filter_eq_self.mpr fun _ _ => rfl
  rw [List.map_cons, List.map_nil, List.sum_cons, List.sum_nil, Nat.add_zero, e]
/-- more things, no fewer lists -/
theorem rows_grow (clash : α → α → Bool) (found : List (List α)) (ls ms : List α) : (rowsFrom clash found ls).length ≤ (rowsFrom clash found (ls ++ ms)).length := by
  unfold rowsFrom
  rw [List.foldl_append]
  generalize ls.foldl (addTo clash) found = g
  induction ms generalizing g with
  | nil => exact Nat.le_refl _
  | cons m ms ih =>
    refine Nat.le_trans ?_ (ih (addTo clash g m))
    unfold addTo
    rw [List.length_append]
    exact Nat.le_add_right ..
/-- a front that clashes with none stays in front -/
theorem rows_front (clash : α → α → Bool) (s : List α) : ∀ (ls : List α) (found : List (List α)), (∀ l ∈ ls, ∀ o ∈ s, clash l o = false) → rowsFrom clash (found.map fun r => s ++ r) ls = (rowsFrom clash found ls).map fun r => s ++ r
  | [], found, _ => rfl
  | l :: ls, found, h => by
    have e : addTo clash (found.map fun r => s ++ r) l = (addTo clash found l).map fun r => s ++ r := by
      unfold addTo
      rw [List.map_append, List.filter_map, List.map_map, List.map_map]
      have e1 : ((fun s : List α => !s.any fun o => clash l o) ∘ fun r => s ++ r) = fun r => !r.any fun o => clash l o := by
        funext r
        show (!(s ++ r).any fun o => clash l o) = _
        rw [List.any_append]
        have : (s.any fun o => clash l o) = false := List.any_eq_false.mpr fun o ho => by rw [h l List.mem_cons_self o ho]; exact Bool.false_ne_true
        rw [this, Bool.false_or]
      rw [e1]
      congr 1
      apply List.map_congr_left
      intro r _
      show (s ++ r) ++ [l] = s ++ (r ++ [l])
      exact List.append_assoc ..
    show rowsFrom clash (addTo clash _ l) ls = (rowsFrom clash (addTo clash found l) ls).map _
    rw [e]
    exact rows_front clash s ls _ fun l' h' => h l' (List.mem_cons_of_mem _ h')
/-! ### what is in a list alone matters -/
open Classical in
noncomputable def chi (s : List α) : α → Bool := fun x => decide (x ∈ s)
open Classical in
noncomputable def okC (clash : α → α → Bool) (l : α) (c : α → Bool) : Bool := decide (∀ x, c x = true → clash l x = false)
open Classical in
noncomputable def putC (l : α) (c : α → Bool) : α → Bool := fun x => c x || decide (x = l)
noncomputable def addC (clash : α → α → Bool) (found : List (α → Bool)) (l : α) : List (α → Bool) := found ++ (found.filter (okC clash l)).map (putC l)
noncomputable def rowsC (clash : α → α → Bool) (found : List (α → Bool)) (ls : List α) : List (α → Bool) := ls.foldl (addC clash) found
theorem chi_put (s : List α) (l : α) : chi (s ++ [l]) = putC l (chi s) := by
  funext x
  unfold chi putC
  rw [Bool.eq_iff_iff]
  simp
theorem ok_chi (clash : α → α → Bool) (l : α) (s : List α) : okC clash l (chi s) = !s.any fun o => clash l o := by
  unfold okC chi
  rw [Bool.eq_iff_iff]
  simp
theorem rows_chi (clash : α → α → Bool) : ∀ (ls : List α) (found : List (List α)), (rowsFrom clash found ls).map chi = rowsC clash (found.map chi) ls
  | [], _ => rfl
  | l :: ls, found => by
    show (rowsFrom clash (addTo clash found l) ls).map chi = rowsC clash (addC clash (found.map chi) l) ls
    rw [rows_chi clash ls]
    congr 1
    unfold addTo addC
    rw [List.map_append, List.filter_map, List.map_map, List.map_map]
    have e1 : (okC clash l ∘ chi) = fun s : List α => !s.any fun o => clash l o := funext fun s => ok_chi clash l s
    have e2 : (chi ∘ fun s : List α => s ++ [l]) = putC l ∘ chi := funext fun s => chi_put s l
    rw [e1, e2]
theorem rowsC_perm (clash : α → α → Bool) : ∀ (ls : List α) {f g : List (α → Bool)}, f.Perm g → (rowsC clash f ls).Perm (rowsC clash g ls)
  | [], _, _, h => h
  | l :: ls, _, _, h => rowsC_perm clash ls (List.Perm.append h ((h.filter _).map _))
theorem ok_put (clash : α → α → Bool) (a b : α) (c : α → Bool) : okC clash b (putC a c) = (okC clash b c && !clash b a) := by
  unfold okC putC
  rw [Bool.eq_iff_iff]
  simp only [decide_eq_true_eq, Bool.or_eq_true, Bool.and_eq_true, Bool.not_eq_true']
  constructor
  · intro h
    exact ⟨fun x hx => h x (.inl hx), h a (.inr rfl)⟩
  · rintro ⟨h1, h2⟩ x (hx | rfl)
    · exact h1 x hx
    · exact h2
theorem put_comm (a b : α) (c : α → Bool) : putC a (putC b c) = putC b (putC a c) := by
  funext x
  unfold putC
  rw [Bool.or_assoc, Bool.or_assoc]
  congr 1
  exact Bool.or_comm _ _
theorem two_perm {clash : α → α → Bool} (hs : ∀ a b, clash a b = clash b a) (a b : α) (f : List (α → Bool)) : (addC clash (addC clash f a) b).Perm (addC clash (addC clash f b) a) := by
  have key : ∀ a b : α, ((((f.filter (okC clash a)).map (putC a)).filter (okC clash b)).map (putC b)) = (f.filter fun c => okC clash a c && okC clash b c && !clash a b).map (fun c => putC b (putC a c)) := fun a b => by
    rw [List.filter_map, List.map_map, List.filter_filter]
    have e : (fun c => (okC clash b ∘ putC a) c && okC clash a c) = fun c => okC clash a c && okC clash b c && !clash a b := by
      funext c
      show (okC clash b (putC a c) && okC clash a c) = _
      rw [ok_put, hs b a]
      cases okC clash a c <;> cases okC clash b c <;> cases clash a b <;> rfl
    rw [e]
    rfl
  have k1 := key a b
  have k2 := key b a
  have e3 : (f.filter fun c => okC clash b c && okC clash a c && !clash b a).map (fun c => putC a (putC b c)) = (f.filter fun c => okC clash a c && okC clash b c && !clash a b).map (fun c => putC b (putC a c)) := by
    have e4 : (fun c => okC clash b c && okC clash a c && !clash b a) = fun c => okC clash a c && okC clash b c && !clash a b := by
      funext c
      rw [hs b a, Bool.and_comm (okC clash b c)]
    rw [e4]
    exact List.map_congr_left fun c _ => put_comm a b c
  unfold addC
  rw [List.filter_append, List.map_append, List.filter_append, List.map_append, k1, k2, e3]
  generalize (f.filter fun c => okC clash a c && okC clash b c && !clash a b).map (fun c => putC b (putC a c)) = z
  generalize (f.filter (okC clash a)).map (putC a) = x
  generalize (f.filter (okC clash b)).map (putC b) = y
  rw [List.append_assoc, List.append_assoc]
  refine List.Perm.append_left _ ?_
  rw [← List.append_assoc, ← List.append_assoc]
  exact List.Perm.append_right _ List.perm_append_comm
theorem rowsC_seq {clash : α → α → Bool} (hs : ∀ a b, clash a b = clash b a) {ls ms : List α} (h : ls.Perm ms) : ∀ f : List (α → Bool), (rowsC clash f ls).Perm (rowsC clash f ms) := by
  induction h with
  | nil => exact fun f => .refl _
  | cons a _ ih => exact fun f => ih (addC clash f a)
  | swap a b r => exact fun f => rowsC_perm clash r (two_perm hs b a f)
  | trans _ _ i1 i2 => exact fun f => (i1 f).trans (i2 f)
/-- whatever the sequence: the same lists, each told alike -/
theorem rows_seq {β : Type} {clash : α → α → Bool} (hs : ∀ a b, clash a b = clash b a) {ls ms : List α} (h : ls.Perm ms) (found : List (List α)) (f : List α → β) (hf : ∀ s t, (∀ x, x ∈ s ↔ x ∈ t) → f s = f t) :
    ((rowsFrom clash found ls).map f).Perm ((rowsFrom clash found ms).map f) := by
  have e : ∃ g : (α → Bool) → β, ∀ s, f s = g (chi s) := by
    classical
    refine ⟨fun c => if h : ∃ s, chi s = c then f h.choose else f [], fun s => ?_⟩
    have hx : ∃ t, chi t = chi s := ⟨s, rfl⟩
    show f s = dite _ _ _
    rw [dif_pos hx]
    refine hf _ _ fun x => ?_
    have hc := congrFun hx.choose_spec x
    unfold chi at hc
    have hc' := decide_eq_decide.mp hc
    exact hc'.symm
  obtain ⟨g, hg⟩ := e
  have e2 : f = g ∘ chi := funext hg
  rw [e2, ← List.map_map, ← List.map_map, rows_chi, rows_chi]
  exact (rowsC_seq hs h _).map g
end
end PL
end
section
/-! The search that counts them. Plain Lean. -/
namespace PL
section
variable {α β : Type}
def kidsOf (clash : α → α → Bool) : List α → List (List α)
  | [] => []
  | a :: r => (r.filter fun o => !clash o a) :: kidsOf clash r
def sumC (clash : α → α → Bool) (w : List (List α)) : Nat := (w.map (cnt clash)).sum
theorem kids_sum (clash : α → α → Bool) : ∀ r : List α, sumC clash (kidsOf clash r) + 1 = cnt clash r
  | [] => rfl
  | a :: r => by
    have h := kids_sum clash r
    rw [cnt_cons, ← h]
    show ((cnt clash (r.filter fun o => !clash o a)) :: (kidsOf clash r).map (cnt clash)).sum + 1 = _
    rw [List.sum_cons]
    unfold sumC
    omega
def oneStep (clash : α → α → Bool) (s : List (List α) × Int) : List (List α) × Int := if s.1.isEmpty then s else (s.1.dropLast ++ kidsOf clash (s.1.getLastD []), s.2 + 1)
def stepsAt (clash : α → α → Bool) (r : List α) : Nat → List (List α) × Int
  | 0 => ([r], 0)
  | k + 1 => oneStep clash (stepsAt clash r k)
theorem last_two : ∀ {w : List (List α)}, w ≠ [] → w = w.dropLast ++ [w.getLastD []]
  | w, h => by
    obtain ⟨as, r, rfl⟩ : ∃ as r, w = as ++ [r] := ⟨w.dropLast, w.getLast h, (List.dropLast_concat_getLast h).symm⟩
    rw [List.dropLast_concat, List.getLastD_concat]
theorem steps_inv (clash : α → α → Bool) (r : List α) : ∀ k, (stepsAt clash r k).2 + (sumC clash (stepsAt clash r k).1 : Int) = (cnt clash r : Int) ∧ ((stepsAt clash r k).1 = [] ∨ (stepsAt clash r k).2 = (k : Int))
  | 0 => ⟨by show (0 : Int) + ((cnt clash r + 0 : Nat) : Int) = _; omega, .inr rfl⟩
  | k + 1 => by
    obtain ⟨h1, h2⟩ := steps_inv clash r k
    show (oneStep clash (stepsAt clash r k)).2 + (sumC clash (oneStep clash (stepsAt clash r k)).1 : Int) = _ ∧ ((oneStep clash (stepsAt clash r k)).1 = [] ∨ (oneStep clash (stepsAt clash r k)).2 = _)
    unfold oneStep
    generalize stepsAt clash r k = s at h1 h2 ⊢
    obtain ⟨w, m⟩ := s
    by_cases hw : w = []
    · subst hw
      exact ⟨h1, .inl rfl⟩
    · have e : w.isEmpty = false := by cases w <;> first | exact absurd rfl hw | rfl
      simp only [e, Bool.false_eq_true, if_false]
      rcases h2 with h2 | h2
      · exact absurd h2 hw
      have e2 := last_two hw
      have h1' : m + (sumC clash w : Int) = cnt clash r := h1
      rw [e2] at h1'
      have k1 := kids_sum clash (w.getLastD [])
      unfold sumC at h1' k1 ⊢
      rw [List.map_append, List.sum_append] at h1' ⊢
      rw [List.map_cons, List.map_nil, List.sum_cons, List.sum_nil] at h1'
      refine ⟨by omega, .inr ?_⟩
      have h3 : m = (k : Int) := h2
      show m + 1 = ((k + 1 : Nat) : Int)
      omega
theorem sum_pos (clash : α → α → Bool) : ∀ {w : List (List α)}, w ≠ [] → 0 < sumC clash w
  | [], h => absurd rfl h
  | x :: w, _ => by
    unfold sumC
    rw [List.map_cons, List.sum_cons]
    exact Nat.lt_of_lt_of_le (cnt_pos clash x.length x) (Nat.le_add_right ..)
/-- 402 turns tell whether there are more than 400 -/
theorem steps_told (clash : α → α → Bool) (r : List α) : (stepsAt clash r 402).2 ≤ 400 ↔ cnt clash r ≤ 400 := by
  obtain ⟨h1, h2⟩ := steps_inv clash r 402
  by_cases hw : (stepsAt clash r 402).1 = []
  · rw [hw] at h1
    have e : sumC clash ([] : List (List α)) = 0 := rfl
    rw [e] at h1
    omega
  · have p := sum_pos clash hw
    rcases h2 with h2 | h2
    · exact absurd h2 hw
    · omega
theorem cnt_map (clash : β → β → Bool) (g : α → β) : ∀ (n : Nat) (r : List α), r.length ≤ n → cnt (fun a b => clash (g a) (g b)) r = cnt clash (r.map g)
  | _, [], _ => rfl
  | 0, _ :: _, h => absurd h (Nat.not_succ_le_zero _)
  | n + 1, a :: r, h => by
    have h' : r.length ≤ n := Nat.le_of_succ_le_succ h
    rw [List.map_cons, cnt_cons, cnt_cons, cnt_map clash g n r h', cnt_map clash g n _ (Nat.le_trans (List.length_filter_le ..) h'), List.filter_map]
    rfl
theorem cnt_congr (c c' : α → α → Bool) : ∀ (n : Nat) (r : List α), r.length ≤ n → (∀ a ∈ r, ∀ b ∈ r, c a b = c' a b) → cnt c r = cnt c' r
  | _, [], _, _ => rfl
  | 0, _ :: _, h, _ => absurd h (Nat.not_succ_le_zero _)
  | n + 1, a :: r, h, hc => by
    have h' : r.length ≤ n := Nat.le_of_succ_le_succ h
    have e : r.filter (fun o => !c o a) = r.filter fun o => !c' o a := List.filter_congr fun o ho => by rw [hc o (List.mem_cons_of_mem _ ho) a List.mem_cons_self]
    rw [cnt_cons, cnt_cons, e, cnt_congr c c' n r h' fun x hx y hy => hc x (List.mem_cons_of_mem _ hx) y (List.mem_cons_of_mem _ hy), cnt_congr c c' n _ (Nat.le_trans (List.length_filter_le ..) h') fun x hx y hy => hc x (List.mem_cons_of_mem _ (List.mem_filter.mp hx).1) y (List.mem_cons_of_mem _ (List.mem_filter.mp hy).1)]
end
end PL
end
section
/-! How far lists of things are from one another, summed thing by thing. Plain Lean. -/
namespace PL
section
variable {α : Type} [DecidableEq α]
def bit (b : Bool) : Int := if b = true then 1 else 0
theorem len_bits (p : α → Bool) : ∀ A : List α, ((A.filter p).length : Int) = (A.map fun l => bit (p l)).sum
  | [] => rfl
  | a :: A => by
    rw [List.map_cons, List.sum_cons, ← len_bits p A]
    unfold bit
    by_cases h : p a = true
    · rw [List.filter_cons_of_pos h, if_pos h, List.length_cons]
      omega
    · rw [List.filter_cons_of_neg h, if_neg h]
      omega
theorem nodup_filter_len {A s : List α} (hA : A.Nodup) (hs : s.Nodup) (hsub : ∀ x ∈ s, x ∈ A) (p : α → Bool) : (s.filter p).length = (A.filter fun l => decide (l ∈ s) && p l).length := by
  apply List.Perm.length_eq
  rw [List.perm_ext_iff_of_nodup (hs.filter _) (hA.filter _)]
  intro x
  rw [List.mem_filter, List.mem_filter, Bool.and_eq_true, decide_eq_true_eq]
  exact ⟨fun h => ⟨hsub x h.1, h.1, h.2⟩, fun h => ⟨h.2.1, h.2.2⟩⟩
def farI (s v : List α) : Int := ((s.filter fun l => decide (¬ l ∈ v)).length : Int) + ((v.filter fun l => decide (¬ l ∈ s)).length : Int)
theorem sum_add (f g : α → Int) : ∀ A : List α, (A.map f).sum + (A.map g).sum = (A.map fun l => f l + g l).sum
  | [] => rfl
  | a :: A => by
    have h := sum_add f g A
    simp only [List.map_cons, List.sum_cons]
    omega
theorem sum_congr {f g : α → Int} : ∀ {A : List α}, (∀ l ∈ A, f l = g l) → (A.map f).sum = (A.map g).sum := fun {A} h => by
  rw [List.map_congr_left h]
theorem far_bits {A s v : List α} (hA : A.Nodup) (hs : s.Nodup) (hv : v.Nodup) (h1 : ∀ x ∈ s, x ∈ A) (h2 : ∀ x ∈ v, x ∈ A) :
    farI s v = (A.map fun l => if l ∈ v then bit (decide (¬ l ∈ s)) else bit (decide (l ∈ s))).sum := by
  unfold farI
  rw [nodup_filter_len hA hs h1, nodup_filter_len hA hv h2, len_bits, len_bits, sum_add]
  refine sum_congr fun l _ => ?_
  unfold bit
  by_cases a : l ∈ v <;> by_cases b : l ∈ s <;> simp [a, b]
theorem sum_swap {β : Type} (g : β → α → Int) (A : List α) : ∀ ss : List β, (ss.map fun s => (A.map fun l => g s l).sum).sum = (A.map fun l => (ss.map fun s => g s l).sum).sum
  | [] => by
    induction A with
    | nil => rfl
    | cons a A ih => simpa using ih
  | s :: ss => by
    rw [List.map_cons, List.sum_cons, sum_swap g A ss, sum_add]
    exact sum_congr fun l _ => by rw [List.map_cons, List.sum_cons]
def manyI (ss : List (List α)) (l : α) : Int := ((ss.filter fun s => decide (l ∈ s)).length : Int)
theorem many_not (ss : List (List α)) (l : α) : ((ss.filter fun s => decide (¬ l ∈ s)).length : Int) = (ss.length : Int) - manyI ss l := by
  unfold manyI
  induction ss with
  | nil => rfl
  | cons s ss ih =>
    by_cases h : l ∈ s
    · rw [List.filter_cons_of_neg (by simp [h]), List.filter_cons_of_pos (by simp [h]), List.length_cons, List.length_cons]
      omega
    · rw [List.filter_cons_of_pos (by simp [h]), List.filter_cons_of_neg (by simp [h]), List.length_cons, List.length_cons]
      omega
theorem far_sum {A v : List α} {ss : List (List α)} (hA : A.Nodup) (hs : ∀ s ∈ ss, s.Nodup ∧ ∀ x ∈ s, x ∈ A) (hv : v.Nodup) (h2 : ∀ x ∈ v, x ∈ A) :
    (ss.map fun s => farI s v).sum = (A.map fun l => if l ∈ v then (ss.length : Int) - manyI ss l else manyI ss l).sum := by
  have e : ss.map (fun s => farI s v) = ss.map fun s => (A.map fun l => if l ∈ v then bit (decide (¬ l ∈ s)) else bit (decide (l ∈ s))).sum :=
    List.map_congr_left fun s h => far_bits hA (hs s h).1 hv (hs s h).2 h2
  rw [e, sum_swap]
  refine sum_congr fun l _ => ?_
  by_cases h : l ∈ v
  · simp only [h, if_true]
    rw [← many_not, len_bits (α := List α)]
  · simp only [h, if_false]
    unfold manyI
    rw [len_bits (α := List α)]
def minI (a b : Int) : Int := if b < a then b else a
theorem near_sum {A v : List α} {ss : List (List α)} (h1 : ∀ l ∈ A, l ∈ v → (ss.length : Int) ≤ 2 * manyI ss l) (h2 : ∀ l ∈ A, l ∉ v → 2 * manyI ss l ≤ (ss.length : Int)) :
    (A.map fun l => if l ∈ v then (ss.length : Int) - manyI ss l else manyI ss l).sum = (A.map fun l => minI (manyI ss l) ((ss.length : Int) - manyI ss l)).sum := sum_congr fun l hl => by
  unfold minI
  by_cases h : l ∈ v
  · have := h1 l hl h
    rw [if_pos h]
    split <;> omega
  · have := h2 l hl h
    rw [if_neg h]
    split <;> omega
/-- without one of them -/
theorem less_sum {A v : List α} {ss : List (List α)} {x : α} (hA : A.Nodup) (hx : x ∈ A) (hv : x ∈ v) :
    (A.map fun l => if l ∈ v.filter (fun o => decide (o ≠ x)) then (ss.length : Int) - manyI ss l else manyI ss l).sum = (A.map fun l => if l ∈ v then (ss.length : Int) - manyI ss l else manyI ss l).sum + (2 * manyI ss x - (ss.length : Int)) := by
  obtain ⟨a, b, rfl⟩ := List.append_of_mem hx
  have hn := List.nodup_append.mp hA
  have ha : ∀ l ∈ a, l ≠ x := fun l h => hn.2.2 l h x List.mem_cons_self
  have hb : ∀ l ∈ b, l ≠ x := fun l h e => (List.nodup_cons.mp hn.2.1).1 (e ▸ h)
  have key : ∀ c : List α, (∀ l ∈ c, l ≠ x) → (c.map fun l => if l ∈ v.filter (fun o => decide (o ≠ x)) then (ss.length : Int) - manyI ss l else manyI ss l).sum = (c.map fun l => if l ∈ v then (ss.length : Int) - manyI ss l else manyI ss l).sum := fun c hc => sum_congr fun l hl => by
    have e : (l ∈ v.filter fun o => decide (o ≠ x)) ↔ l ∈ v := by
      rw [List.mem_filter, decide_eq_true_eq]
      exact ⟨fun z => z.1, fun z => ⟨z, hc l hl⟩⟩
    simp only [e]
  rw [List.map_append, List.map_append, List.sum_append, List.sum_append, List.map_cons, List.map_cons, List.sum_cons, List.sum_cons, key a ha, key b hb]
  have e1 : x ∉ v.filter fun o => decide (o ≠ x) := fun z => by
    have := (List.mem_filter.mp z).2
    exact of_decide_eq_true this rfl
  rw [if_neg e1, if_pos hv]
  omega
end
end PL
end
section
set_option Elab.async false
set_option linter.all false
set_option maxRecDepth 100000
set_option maxHeartbeats 4000000
set_option autoImplicit false
namespace PD
open PySem L2
open PySem.W (Datum Tup)
variable [Tabl]

/-! ### what is drawn, once for all -/
structure Base (s : Sh) (vs : Stemmata) : Prop where
  nd : s.copies.items.Nodup
  lng : long s.copies = true
  ne : vs.items ≠ []
  six : vs.items.length ≤ 6
  dr : ∀ v ∈ vs.items, Drawn s.copies v
theorem flat_sum_le {α β : Type} {f : α → List β} {b : Nat} : ∀ {xs : List α}, (∀ x ∈ xs, (f x).length ≤ b) → (xs.flatMap f).length ≤ xs.length * b
  | [], _ => by simp
  | x :: xs, h => by
    have h1 := h x List.mem_cons_self
    have h2 := flat_sum_le (xs := xs) fun y hy => h y (List.mem_cons_of_mem _ hy)
    rw [List.flatMap_cons, List.length_append, List.length_cons, Nat.add_mul, Nat.one_mul]
    omega
section
variable {s : Sh} {vs : Stemmata}
theorem Base.tot (B : Base s vs) : (allLots vs).length ≤ 156 := by
  have h := flat_sum_le (f := fun v : Stemma => v.items) (b := 26) (xs := vs.items) fun v hv => (B.dr v hv).len
  have h2 : vs.items.length * 26 ≤ 6 * 26 := Nat.mul_le_mul_right 26 B.six
  exact Nat.le_trans h h2
theorem Base.pos (B : Base s vs) : 0 < vs.items.length := List.length_pos_iff.mpr B.ne
theorem Base.wf (B : Base s vs) : Wf s vs := by
  refine ⟨?_, Nat.lt_of_le_of_lt B.tot (by decide)⟩
  unfold mAreStemmata
  have h1 := B.pos
  have h2 := B.six
  rw [Bool.and_eq_true, Bool.and_eq_true]
  exact ⟨⟨decide_eq_true (by omega), decide_eq_true (by omega)⟩, List.all_eq_true.mpr fun v hv => (B.dr v hv).ok⟩
abbrev lotsOf (s : Sh) (vs : Stemmata) : List Lot := (mLotsIn s vs).items
theorem mem_lots {l : Lot} : l ∈ lotsOf s vs ↔ ∃ v ∈ vs.items, l ∈ v.items := by
  unfold lotsOf mLotsIn
  rw [mem_bySize, List.mem_flatMap]
theorem lots_nodup : (lotsOf s vs).Nodup := bySize_nodup _ _
theorem Base.lot (B : Base s vs) {l : Lot} (h : l ∈ lotsOf s vs) : InSeq s.copies l ∧ long l = true := by
  obtain ⟨v, hv, hl⟩ := mem_lots.mp h
  exact ⟨(B.dr v hv).lam.seq l hl, (B.dr v hv).lam.lng l hl⟩
abbrev manyL (vs : Stemmata) (l : Lot) : Int := mManyOf vs l
/-- two lots that stand in more than all of them together stand in one -/
theorem pigeon {α : Type} {p q : α → Bool} : ∀ {L : List α}, L.length < (L.filter p).length + (L.filter q).length → ∃ x ∈ L, p x = true ∧ q x = true
  | [], h => by simp at h
  | x :: L, h => by
    by_cases hp : p x = true
    · by_cases hq : q x = true
      · exact ⟨x, List.mem_cons_self, hp, hq⟩
      · rw [List.filter_cons_of_pos hp, List.filter_cons_of_neg hq, List.length_cons, List.length_cons] at h
        obtain ⟨y, hy, z⟩ := pigeon (p := p) (q := q) (L := L) (by omega)
        exact ⟨y, List.mem_cons_of_mem _ hy, z⟩
    · have hq : (L.filter q).length ≤ ((x :: L).filter q).length := by
        by_cases hq : q x = true
        · rw [List.filter_cons_of_pos hq, List.length_cons]; omega
        · rw [List.filter_cons_of_neg hq]; exact Nat.le_refl _
      have hq2 : ((x :: L).filter q).length ≤ (L.filter q).length + 1 := by
        by_cases hq : q x = true
        · rw [List.filter_cons_of_pos hq, List.length_cons]; omega
        · rw [List.filter_cons_of_neg hq]; omega
      rw [List.filter_cons_of_neg hp, List.length_cons] at h
      obtain ⟨y, hy, z⟩ := pigeon (p := p) (q := q) (L := L) (by omega)
      exact ⟨y, List.mem_cons_of_mem _ hy, z⟩
theorem Base.no_clash (B : Base s vs) {a b : Lot} (h : (vs.items.length : Int) < manyL vs a + manyL vs b) : mClash a b = false := by
  obtain ⟨v, hv, h1, h2⟩ := pigeon (L := vs.items) (p := fun v : Stemma => decide (a ∈ v.items)) (q := fun v : Stemma => decide (b ∈ v.items)) (by
    unfold manyL mManyOf at h
    omega)
  exact (B.dr v hv).lam.no a (of_decide_eq_true h1) b (of_decide_eq_true h2)
abbrev sureOf (s : Sh) (vs : Stemmata) : List Lot := mMoreThan s vs (vs.items.length : Int)
def halfOf (s : Sh) (vs : Stemmata) : List Lot := (lotsOf s vs).filter fun l => decide (2 * mManyOf vs l = (vs.items.length : Int))
theorem mem_sure {l : Lot} : l ∈ sureOf s vs ↔ l ∈ lotsOf s vs ∧ (vs.items.length : Int) < 2 * mManyOf vs l := by
  unfold sureOf mMoreThan
  rw [List.mem_filter, decide_eq_true_eq]
theorem mem_half {l : Lot} : l ∈ halfOf s vs ↔ l ∈ lotsOf s vs ∧ 2 * mManyOf vs l = (vs.items.length : Int) := by
  unfold halfOf
  rw [List.mem_filter, decide_eq_true_eq]
theorem half_nodup : (halfOf s vs).Nodup := lots_nodup.filter _
theorem Base.sure_lam (B : Base s vs) : Lam s.copies (sureOf s vs) := ⟨fun l hl => (B.lot (mem_sure.mp hl).1).1, fun l hl => (B.lot (mem_sure.mp hl).1).2, fun a ha b hb => B.no_clash (by
  have h1 := (mem_sure.mp ha).2
  have h2 := (mem_sure.mp hb).2
  show _ < mManyOf vs a + mManyOf vs b
  omega)⟩
theorem Base.half_sure (B : Base s vs) {a b : Lot} (ha : a ∈ halfOf s vs) (hb : b ∈ sureOf s vs) : mClash a b = false := B.no_clash (by
  have h1 := (mem_half.mp ha).2
  have h2 := (mem_sure.mp hb).2
  show _ < mManyOf vs a + mManyOf vs b
  omega)
/-- that of all is sure -/
theorem Base.has_all (B : Base s vs) : s.copies ∈ sureOf s vs := by
  obtain ⟨v, hv⟩ := List.exists_mem_of_ne_nil _ B.ne
  refine mem_sure.mpr ⟨mem_lots.mpr ⟨v, hv, (B.dr v hv).has⟩, ?_⟩
  have e : mManyOf vs s.copies = (vs.items.length : Int) := by
    unfold mManyOf
    rw [List.filter_eq_self.mpr fun v hv => decide_eq_true (B.dr v hv).has]
  have := B.pos
  rw [e]
  omega

/-! ### rows of lots -/
abbrev mLists (ls : List Lot) : List (List Lot) := PL.rowsFrom mClash [[]] ls
theorem rows_all {α : Type} {clash : α → α → Bool} {G : List α → Prop} : ∀ {ls : List α} {found : List (List α)}, (∀ r ∈ found, G r) → (∀ r l, G r → l ∈ ls → (r.any fun o => clash l o) = false → G (r ++ [l])) → ∀ r ∈ PL.rowsFrom clash found ls, G r
  | [], found, h, _, r, hr => h r hr
  | l :: ls, found, h, k, r, hr => by
    refine rows_all (ls := ls) (found := PL.addTo clash found l) (fun r hr => ?_) (fun r l' hg hl => k r l' hg (List.mem_cons_of_mem _ hl)) r hr
    rcases List.mem_append.mp hr with z | z
    · exact h r z
    · obtain ⟨r0, hr0, rfl⟩ := List.mem_map.mp z
      obtain ⟨h1, h2⟩ := List.mem_filter.mp hr0
      exact k r0 l (h r0 h1) List.mem_cons_self (by simpa using h2)
theorem rows_sub {α : Type} {clash : α → α → Bool} : ∀ {ls pre : List α} {found : List (List α)}, (∀ r ∈ found, List.Sublist r pre) → ∀ r ∈ PL.rowsFrom clash found ls, List.Sublist r (pre ++ ls)
  | [], pre, found, h, r, hr => by rw [List.append_nil]; exact h r hr
  | l :: ls, pre, found, h, r, hr => by
    have e : pre ++ l :: ls = (pre ++ [l]) ++ ls := by rw [List.append_assoc]; rfl
    rw [e]
    refine rows_sub (ls := ls) (found := PL.addTo clash found l) (fun r hr => ?_) r hr
    rcases List.mem_append.mp hr with z | z
    · exact (h r z).trans (List.sublist_append_left ..)
    · obtain ⟨r0, hr0, rfl⟩ := List.mem_map.mp z
      exact List.Sublist.append (h r0 (List.mem_filter.mp hr0).1) (List.Sublist.refl _)
theorem lists_sub {ls r : List Lot} (h : r ∈ mLists ls) : List.Sublist r ls := rows_sub (pre := []) (fun r hr => by rw [List.mem_singleton.mp hr]; exact List.Sublist.refl _) r h
theorem lists_free {c : Lot} {ls r : List Lot} (hc : c.items.Nodup) (hs : ∀ l ∈ ls, InSeq c l) (h : r ∈ mLists ls) : ∀ a ∈ r, ∀ b ∈ r, mClash a b = false := by
  have key : ∀ r ∈ mLists ls, (∀ l ∈ r, l ∈ ls) ∧ ∀ a ∈ r, ∀ b ∈ r, mClash a b = false := by
    refine rows_all (fun r hr => ?_) fun r l hg hl hn => ⟨fun x hx => ?_, fun a ha b hb => ?_⟩
    · rw [List.mem_singleton.mp hr]
      exact ⟨by simp, by simp⟩
    · rcases List.mem_append.mp hx with z | z
      · exact hg.1 x z
      · rw [List.mem_singleton.mp z]; exact hl
    · have one : ∀ a ∈ r, mClash l a = false := fun a ha => by
        have := List.any_eq_false.mp hn a ha
        simpa using this
      rcases List.mem_append.mp ha with z | z
      · rcases List.mem_append.mp hb with y | y
        · exact hg.2 a z b y
        · rw [List.mem_singleton.mp y, clash_symm ((hs a (hg.1 a z)).nodup hc) ((hs l hl).nodup hc)]
          exact one a z
      · rw [List.mem_singleton.mp z]
        rcases List.mem_append.mp hb with y | y
        · exact one b y
        · rw [List.mem_singleton.mp y]
          exact clash_in fun x hx => hx
  exact (key r h).2
theorem Base.row_lam (B : Base s vs) {hs r : List Lot} (hh : ∀ l, l ∈ hs ↔ l ∈ halfOf s vs) (hr : r ∈ mLists hs) : Lam s.copies (sureOf s vs ++ r) := by
  have hin : ∀ l ∈ hs, InSeq s.copies l := fun l hl => (B.lot (mem_half.mp ((hh l).mp hl)).1).1
  have hm : ∀ l ∈ r, l ∈ halfOf s vs := fun l hl => (hh l).mp ((lists_sub hr).subset hl)
  have sl := B.sure_lam
  have hf := lists_free B.nd hin hr
  have hq : ∀ l ∈ r, InSeq s.copies l := fun l hl => (B.lot (mem_half.mp (hm l hl)).1).1
  refine ⟨fun l hl => ?_, fun l hl => ?_, fun a ha b hb => ?_⟩
  · rcases List.mem_append.mp hl with z | z
    · exact sl.seq l z
    · exact hq l z
  · rcases List.mem_append.mp hl with z | z
    · exact sl.lng l z
    · exact (B.lot (mem_half.mp (hm l z)).1).2
  · rcases List.mem_append.mp ha with z | z
    · rcases List.mem_append.mp hb with y | y
      · exact sl.no a z b y
      · rw [clash_symm ((sl.seq a z).nodup B.nd) ((hq b y).nodup B.nd)]
        exact B.half_sure (hm b y) z
    · rcases List.mem_append.mp hb with y | y
      · exact B.half_sure (hm a z) y
      · exact hf a z b y
def rowsOf (s : Sh) (vs : Stemmata) : List (List Lot) := PL.rowsFrom mClash [sureOf s vs] (halfOf s vs)
theorem Base.rows_eq (B : Base s vs) : rowsOf s vs = (mLists (halfOf s vs)).map fun r => sureOf s vs ++ r := by
  have h := PL.rows_front mClash (sureOf s vs) (halfOf s vs) [[]] fun l hl o ho => B.half_sure hl ho
  rw [← h]
  unfold rowsOf
  congr 1
  simp
def mAllNearest (s : Sh) (vs : Stemmata) : Stemmata := ⟨sortD ((rowsOf s vs).map fun r => mStemmaOf s.copies ⟨false, r⟩)⟩
end
end PD
end
section
set_option Elab.async false
set_option linter.all false
set_option maxRecDepth 100000
set_option maxHeartbeats 4000000
set_option autoImplicit false
namespace PD
open PySem L2
open PySem.W (Datum Tup)
variable [Tabl]

/-! ### how many there are, by the search -/
def clN (near : List (List Int)) : Int → Int → Bool := fun o a => !decide (o ∈ near.getD a.toNat [])
theorem kids_eq (near : List (List Int)) (r : List Int) : ∀ (xs : List Int) (k : Nat), r.drop k = xs → ((xs.zipIdx k).map fun p => (p.2, p.1)).map (restOf near r) = PL.kidsOf (clN near) xs
  | [], k, _ => rfl
  | x :: xs, k, h => by
    have h2 : r.drop (k + 1) = xs := by
      rw [← List.drop_drop, h]
      rfl
    have e : restOf near r (k, x) = xs.filter fun o => !clN near o x := by
      unfold restOf clN
      rw [cut_tail, h2]
      refine List.filter_congr fun o _ => ?_
      rw [Bool.not_not]
    show restOf near r (k, x) :: ((xs.zipIdx (k + 1)).map fun p => (p.2, p.1)).map (restOf near r) = _ :: PL.kidsOf (clN near) xs
    rw [kids_eq near r xs (k + 1) h2, e]
theorem many_steps (lots : List Lot) : ∀ k, manyAt lots k = PL.stepsAt (clN (lots.map (nearOf lots))) (upTo (lots.length : Int)) k
  | 0 => rfl
  | k + 1 => by
    show manyStep _ (manyAt lots k) = PL.oneStep _ (PL.stepsAt _ _ k)
    rw [many_steps lots k]
    generalize PL.stepsAt (clN (lots.map (nearOf lots))) (upTo (lots.length : Int)) k = st
    obtain ⟨w, m⟩ := st
    unfold manyStep PL.oneStep
    cases w with
    | nil => rfl
    | cons a w =>
      rw [if_neg (by simp)]
      show ((a :: w).dropLast ++ (nums ((a :: w).getLastD [])).map (restOf _ ((a :: w).getLastD [])), m + 1) = ((a :: w).dropLast ++ PL.kidsOf _ ((a :: w).getLastD []), m + 1)
      have := kids_eq (lots.map (nearOf lots)) ((a :: w).getLastD []) ((a :: w).getLastD []) 0 rfl
      unfold nums
      rw [this]
theorem mem_near {lots : List Lot} {l : Lot} {i : Nat} (hi : i < lots.length) : ((i : Nat) : Int) ∈ nearOf lots l ↔ mClash l lots[i] = false := by
  unfold nearOf
  rw [List.mem_map]
  constructor
  · rintro ⟨p, hp, e⟩
    obtain ⟨h1, h2⟩ := List.mem_filter.mp hp
    obtain ⟨k, hk⟩ := List.mem_iff_getElem?.mp h1
    obtain ⟨h3, h4⟩ := nums_get hk
    have e2 : p.1 = i := by omega
    have e3 : k = i := by omega
    subst e3
    rw [List.getElem?_eq_getElem hi] at h3
    injection h3 with h3
    rw [h3]
    simpa using h2
  · intro h
    refine ⟨(i, lots[i]), List.mem_filter.mpr ⟨?_, by simpa using h⟩, rfl⟩
    unfold nums
    refine List.mem_map.mpr ⟨(lots[i], i), ?_, rfl⟩
    rw [List.mem_zipIdx_iff_getElem?]
    exact List.getElem?_eq_getElem hi
theorem many_told {lots : List Lot} (hn : ∀ l ∈ lots, l.items.Nodup) : mMany lots ≤ 400 ↔ (mLists lots).length ≤ 400 := by
  unfold mMany
  rw [many_steps, PL.steps_told, show (mLists lots).length = PL.cnt mClash lots from PL.rows_count mClash lots]
  have e : PL.cnt (clN (lots.map (nearOf lots))) (upTo (lots.length : Int)) = PL.cnt mClash lots := by
    let g : Int → Lot := fun i => lots.getD i.toNat ⟨[]⟩
    have hmem : ∀ a ∈ upTo (lots.length : Int), ∃ j, ∃ h : j < lots.length, a = ((j : Nat) : Int) := fun a ha => by
      obtain ⟨j, hj, rfl⟩ := List.mem_map.mp ha
      rw [List.mem_range, Int.toNat_natCast] at hj
      exact ⟨j, hj, rfl⟩
    have hg : ∀ (j : Nat) (h : j < lots.length), g ((j : Nat) : Int) = lots[j] := fun j h => by
      show lots.getD ((j : Nat) : Int).toNat _ = _
      rw [Int.toNat_natCast, List.getD_eq_getElem?_getD, List.getElem?_eq_getElem h]
      rfl
    rw [PL.cnt_congr (clN (lots.map (nearOf lots))) (fun o a => mClash (g o) (g a)) _ (upTo (lots.length : Int)) (Nat.le_refl _) (fun o ho a ha => ?_), PL.cnt_map mClash g _ _ (Nat.le_refl _)]
    · congr 1
      unfold upTo
      rw [List.map_map, Int.toNat_natCast]
      apply List.ext_getElem
      · rw [List.length_map, List.length_range]
      · intro i h1 h2
        rw [List.getElem_map, List.getElem_range]
        exact hg i h2
    · obtain ⟨j, hj, rfl⟩ := hmem a ha
      obtain ⟨i, hi, rfl⟩ := hmem o ho
      rw [hg i hi, hg j hj, clash_symm (hn _ (List.getElem_mem hi)) (hn _ (List.getElem_mem hj))]
      unfold clN
      rw [Int.toNat_natCast, List.getD_eq_getElem?_getD, List.getElem?_map, List.getElem?_eq_getElem hj]
      show (!decide (((i : Nat) : Int) ∈ nearOf lots lots[j])) = _
      cases h : mClash lots[j] lots[i] with
      | false => rw [decide_eq_true ((mem_near hi).mpr h)]; rfl
      | true => rw [decide_eq_false (fun z => by rw [(mem_near hi).mp z] at h; cases h)]; rfl
  rw [e]

/-! ### all of them, whatever the sequence -/
def clash2 (a b : Lot) : Bool := mClash a b || mClash b a
theorem rows_congr {α : Type} {c c' : α → α → Bool} {U : α → Prop} (h : ∀ a b, U a → U b → c a b = c' a b) : ∀ {ls : List α} {found : List (List α)}, (∀ l ∈ ls, U l) → (∀ r ∈ found, ∀ l ∈ r, U l) → PL.rowsFrom c found ls = PL.rowsFrom c' found ls
  | [], _, _, _ => rfl
  | l :: ls, found, hl, hf => by
    have e : PL.addTo c found l = PL.addTo c' found l := by
      unfold PL.addTo
      congr 2
      refine List.filter_congr fun r hr => ?_
      congr 1
      rw [Bool.eq_iff_iff, List.any_eq_true, List.any_eq_true]
      exact ⟨fun ⟨o, ho, z⟩ => ⟨o, ho, by rw [← h l o (hl l List.mem_cons_self) (hf r hr o ho)]; exact z⟩, fun ⟨o, ho, z⟩ => ⟨o, ho, by rw [h l o (hl l List.mem_cons_self) (hf r hr o ho)]; exact z⟩⟩
    show PL.rowsFrom c (PL.addTo c found l) ls = PL.rowsFrom c' (PL.addTo c' found l) ls
    rw [e]
    refine rows_congr h (fun l' hl' => hl l' (List.mem_cons_of_mem _ hl')) fun r hr x hx => ?_
    rcases List.mem_append.mp hr with z | z
    · exact hf r z x hx
    · obtain ⟨r0, hr0, rfl⟩ := List.mem_map.mp z
      rcases List.mem_append.mp hx with y | y
      · exact hf r0 (List.mem_filter.mp hr0).1 x y
      · rw [List.mem_singleton.mp y]; exact hl l List.mem_cons_self
section
variable {s : Sh} {vs : Stemmata}
theorem lists2 {c : Lot} (hc : c.items.Nodup) {ls : List Lot} (h : ∀ l ∈ ls, InSeq c l) : mLists ls = PL.rowsFrom clash2 [[]] ls :=
  rows_congr (U := fun l => l.items.Nodup) (fun a b ha hb => by
    unfold clash2
    rw [clash_symm hb ha, Bool.or_self]) (fun l hl => (h l hl).nodup hc) fun r hr l hl => by
    rw [List.mem_singleton.mp hr] at hl
    cases hl
theorem clash2_symm (a b : Lot) : clash2 a b = clash2 b a := Bool.or_comm _ _
theorem Base.half_seq (B : Base s vs) {hs : List Lot} (hh : ∀ l, l ∈ hs ↔ l ∈ halfOf s vs) : ∀ l ∈ hs, InSeq s.copies l := fun l hl => (B.lot (mem_half.mp ((hh l).mp hl)).1).1
theorem Base.lists_perm (B : Base s vs) {hs : List Lot} (hh : hs.Perm (halfOf s vs)) {β : Type} (f : List Lot → β) (hf : ∀ r t, (∀ x, x ∈ r ↔ x ∈ t) → f r = f t) : ((mLists (halfOf s vs)).map f).Perm ((mLists hs).map f) := by
  rw [lists2 B.nd (B.half_seq fun l => Iff.rfl), lists2 B.nd (B.half_seq fun l => hh.mem_iff)]
  exact PL.rows_seq clash2_symm hh.symm [[]] f hf
theorem Base.lists_len (B : Base s vs) {hs : List Lot} (hh : hs.Perm (halfOf s vs)) : (mLists hs).length = (mLists (halfOf s vs)).length := by
  have h := (B.lists_perm hh (fun _ => ()) fun _ _ _ => rfl).length_eq
  rw [List.length_map, List.length_map] at h
  exact h.symm
theorem Base.told_lists (B : Base s vs) {sure hs : List Lot} (hs1 : ∀ l, l ∈ sure ↔ l ∈ sureOf s vs) (hh : hs.Perm (halfOf s vs)) : mAllNearest s vs = ⟨sortD ((mLists hs).map fun r => mTold s.copies (sure ++ r))⟩ := by
  let f : List Lot → Stemma := fun r => stem s.copies ((sureOf s vs) ++ r.filter fun l => decide (l ∈ halfOf s vs))
  have hsub : ∀ {hs : List Lot}, (∀ l, l ∈ hs ↔ l ∈ halfOf s vs) → ∀ r ∈ mLists hs, r.filter (fun l => decide (l ∈ halfOf s vs)) = r := fun h r hr => List.filter_eq_self.mpr fun l hl => decide_eq_true ((h l).mp ((lists_sub hr).subset hl))
  have e1 : (rowsOf s vs).map (fun r => mStemmaOf s.copies ⟨false, r⟩) = (mLists (halfOf s vs)).map f := by
    rw [B.rows_eq, List.map_map]
    refine List.map_congr_left fun r hr => ?_
    show mStemmaOf s.copies ⟨false, sureOf s vs ++ r⟩ = stem s.copies (sureOf s vs ++ r.filter _)
    rw [stemmaOf_eq B.lng, hsub (fun l => Iff.rfl) r hr]
  have e2 : ((mLists hs).map fun r => mTold s.copies (sure ++ r)) = (mLists hs).map f := by
    refine List.map_congr_left fun r hr => ?_
    have L := B.row_lam (fun l => hh.mem_iff) hr
    have L2 : Lam s.copies (sure ++ r) := L.sub fun l hl => by
      rcases List.mem_append.mp hl with z | z
      · exact List.mem_append_left _ ((hs1 l).mp z)
      · exact List.mem_append_right _ z
    rw [told_eq B.nd B.lng L2.seq]
    show stem s.copies (sure ++ r) = stem s.copies (sureOf s vs ++ r.filter _)
    rw [hsub (fun l => hh.mem_iff) r hr]
    refine stem_same B.nd L2 (fun l => ?_) L
    rw [List.mem_append, List.mem_append, hs1]
  unfold mAllNearest
  rw [e1, e2]
  congr 1
  refine sortD_congr (B.lists_perm hh f fun r t h => ?_)
  refine bySize_congr B.nd (good_stem fun l hl => ?_) fun l => ?_
  · rcases List.mem_append.mp hl with z | z
    · exact B.sure_lam.seq l z
    · exact B.half_seq (fun l => Iff.rfl) l (of_decide_eq_true (List.mem_filter.mp z).2)
  · simp only [List.mem_append, List.mem_filter, List.mem_singleton, h]
theorem Base.told_mem (B : Base s vs) {v : Stemma} (h : v ∈ (mAllNearest s vs).items) : ∃ r, r ∈ mLists (halfOf s vs) ∧ v = stem s.copies (sureOf s vs ++ r) := by
  have h1 := (sortD_perm _).mem_iff.mp (show v ∈ sortD _ from h)
  rw [B.rows_eq, List.map_map] at h1
  obtain ⟨r, hr, rfl⟩ := List.mem_map.mp h1
  exact ⟨r, hr, stemmaOf_eq B.lng⟩
theorem told_len : (mAllNearest s vs).items.length = (rowsOf s vs).length := by
  show (sortD _).length = _
  rw [(sortD_perm _).length_eq, List.length_map]
end
end PD
end
section
set_option Elab.async false
set_option linter.all false
set_option maxRecDepth 100000
set_option maxHeartbeats 4000000
set_option autoImplicit false
namespace PD
open PySem L2
open PySem.W (Datum Tup)
variable [Tabl]

/-! ### that of all stands first; without one it stays a stemma -/
theorem line_lt {a b : Line} (h : b.1 < a.1) : leD a b = false := by
  obtain ⟨a1, a2⟩ := a
  obtain ⟨b1, b2⟩ := b
  have h' : b1 < a1 := h
  unfold leD PySem.W.dataLe PySem.W.sortLe
  show (!(PyProof.Rows.itemLt (.inl 1) (.inl 1) || (!PyProof.Rows.itemLt (.inl 1) (.inl 1) && (PyProof.Rows.itemLt (.inl b1) (.inl a1) || _)))) = false
  have e1 : PyProof.Rows.itemLt (.inl 1) (.inl 1) = false := by decide
  have e2 : PyProof.Rows.itemLt (.inl b1) (.inl a1) = true := decide_eq_true h'
  rw [e1, e2]
  simp
theorem bySize_sorted {c : Lot} {A : List Lot} (hc : c.items.Nodup) (h : ∀ l ∈ A, InSeq c l) : ((bySize c A).items.map (lineOf c)).Pairwise fun a b => leD a b = true := by
  have e : (bySize c A).items.map (lineOf c) = sortD ((firsts A).map (lineOf c)) := List.map_mergeSort fun a ha b hb => le_key hc (h a (mem_firsts.mp ha)) (h b (mem_firsts.mp hb))
  rw [e]
  exact sortD_up _
theorem shorter {c l : Lot} (h : InSeq c l) (hne : l ≠ c) : l.items.length < c.items.length := by
  have hs : l.items.Sublist c.items := by
    rw [h]
    exact List.filter_sublist
  rcases Nat.lt_or_ge l.items.length c.items.length with z | z
  · exact z
  · exfalso
    apply hne
    show Tup.mk l.items = Tup.mk c.items
    rw [hs.eq_of_length_le z]
theorem stem_head {c : Lot} {ls : List Lot} (hc : c.items.Nodup) (h : Lam c ls) : ∃ rest, (stem c ls).items = c :: rest ∧ c ∉ rest := by
  have hm : c ∈ (stem c ls).items := (mem_stem h).mpr (.inr rfl)
  have hs := bySize_sorted hc (good_stem h.seq)
  have hn := bySize_nodup c (ls.filter long ++ [c])
  have hg : ∀ l ∈ (stem c ls).items, InSeq c l := fun l hl => good_stem h.seq l (mem_bySize.mp hl)
  have hs' : ((stem c ls).items.map (lineOf c)).Pairwise fun a b => leD a b = true := hs
  have hn' : (stem c ls).items.Nodup := hn
  generalize (stem c ls).items = L at hm hs' hn' hg
  cases L with
  | nil => cases hm
  | cons x rest =>
    have hx : x = c := by
      rcases List.mem_cons.mp hm with z | z
      · exact z.symm
      · by_cases e : x = c
        · exact e
        · exfalso
          have h1 := (List.pairwise_cons.mp hs').1 (lineOf c c) (List.mem_map_of_mem z)
          have h2 := shorter (hg x List.mem_cons_self) e
          rw [line_lt (by show 0 - (c.items.length : Int) < 0 - (x.items.length : Int); omega)] at h1
          cases h1
    subst hx
    exact ⟨rest, rfl, (List.nodup_cons.mp hn').1⟩
theorem stem_less {c : Lot} {ls : List Lot} (hc : c.items.Nodup) (hl : long c = true) (h : Lam c ls) (p : Lot → Bool) (hp : p c = true) : stem c ((stem c ls).items.filter p) = ⟨(stem c ls).items.filter p⟩ := by
  have hL := lam_stem hc hl h
  have hF : Lam c ((stem c ls).items.filter p) := hL.sub fun l hl => (List.mem_filter.mp hl).1
  have hs := (bySize_sorted hc (good_stem hF.seq))
  have e : ∀ l, l ∈ (stem c ((stem c ls).items.filter p)).items ↔ l ∈ (stem c ls).items.filter p := fun l => by
    rw [mem_stem hF]
    refine ⟨fun z => z.elim id fun w => ?_, .inl⟩
    rw [w]
    exact List.mem_filter.mpr ⟨(mem_stem h).mpr (.inr rfl), hp⟩
  have s2 : (((stem c ls).items.filter p).map (lineOf c)).Pairwise fun a b => leD a b = true := by
    have h1 := bySize_sorted hc (good_stem h.seq)
    rw [List.pairwise_map] at h1 ⊢
    exact h1.sublist List.filter_sublist
  have n1 : (stem c ((stem c ls).items.filter p)).items.Nodup := bySize_nodup _ _
  have n2 : ((stem c ls).items.filter p).Nodup := (bySize_nodup _ _).filter _
  have pm := (List.perm_ext_iff_of_nodup n1 n2).mpr e
  have e3 : (stem c ((stem c ls).items.filter p)).items.map (lineOf c) = ((stem c ls).items.filter p).map (lineOf c) := up_unique (pm.map _) hs s2
  have bk : ∀ L : List Lot, (∀ l ∈ L, InSeq c l) → (L.map (lineOf c)).map (back c) = L := fun L hL => by
    rw [List.map_map]
    have e : L.map (back c ∘ lineOf c) = L.map id := List.map_congr_left fun l hl => back_line hc (hL l hl)
    rw [e, List.map_id]
  have e4 : (stem c ((stem c ls).items.filter p)).items = (stem c ls).items.filter p := by rw [← bk _ (lam_stem hc hl hF).seq, e3, bk _ hF.seq]
  exact congrArg Tup.mk e4

/-! ### sums -/
section
variable {s : Sh} {vs : Stemmata}
abbrev setsOf (vs : Stemmata) : List (List Lot) := vs.items.map fun v => v.items
theorem many_eq (l : Lot) : mManyOf vs l = PL.manyI (setsOf vs) l := by
  unfold mManyOf PL.manyI setsOf
  rw [List.filter_map, List.length_map]
  rfl
theorem far_eq (a b : Stemma) : mFarOf a b = PL.farI a.items b.items := rfl
theorem far_comm (a b : Stemma) : mFarOf a b = mFarOf b a := Int.add_comm _ _
theorem sum_eq (p : Stemma) : (vs.items.map fun v => mFarOf v p).sum = ((setsOf vs).map fun t => PL.farI t p.items).sum := by
  unfold setsOf
  rw [List.map_map]
  rfl
theorem least_eq : mLeast s vs = ((lotsOf s vs).map fun l => PL.minI (PL.manyI (setsOf vs) l) (((setsOf vs).length : Int) - PL.manyI (setsOf vs) l)).sum := by
  unfold mLeast
  rw [List.map_map]
  congr 1
  refine List.map_congr_left fun l _ => ?_
  show pmin (mManyOf vs l) ((vs.items.length : Int) - mManyOf vs l) = _
  rw [many_eq, show (setsOf vs).length = vs.items.length from List.length_map ..]
  rfl
theorem Base.sets (B : Base s vs) : ∀ t ∈ setsOf vs, t.Nodup ∧ ∀ x ∈ t, x ∈ lotsOf s vs := fun t ht => by
  obtain ⟨v, hv, rfl⟩ := List.mem_map.mp ht
  exact ⟨(B.dr v hv).nodup, fun x hx => mem_lots.mpr ⟨v, hv, hx⟩⟩
/-- a nearest one -/
structure Near (s : Sh) (vs : Stemmata) (v : Stemma) : Prop where
  ok : mIsStemma s.copies v = true
  nd : v.items.Nodup
  few : v.items.length < 4096
  sub : ∀ l ∈ v.items, l ∈ lotsOf s vs
  yes : ∀ l ∈ lotsOf s vs, l ∈ v.items → (vs.items.length : Int) ≤ 2 * mManyOf vs l
  no : ∀ l ∈ lotsOf s vs, l ∉ v.items → 2 * mManyOf vs l ≤ (vs.items.length : Int)
theorem Near.sum (B : Base s vs) {v : Stemma} (h : Near s vs v) : (vs.items.map fun u => mFarOf u v).sum = mLeast s vs := by
  rw [sum_eq, PL.far_sum lots_nodup B.sets h.nd h.sub, PL.near_sum (fun l hl hv => ?_) (fun l hl hv => ?_), least_eq]
  · rw [← many_eq, show (setsOf vs).length = vs.items.length from List.length_map ..]
    exact h.yes l hl hv
  · rw [← many_eq, show (setsOf vs).length = vs.items.length from List.length_map ..]
    exact h.no l hl hv
theorem Near.shows (B : Base s vs) {v : Stemma} (h : Near s vs v) : mShows s vs (mLeast s vs, v) = true := by
  unfold mShows
  rw [h.ok, h.sum B]
  simp
theorem shows_other {v : Stemma} {k : Int} (h : k ≠ mLeast s vs) : mShows s vs (k, v) = false := by
  unfold mShows
  rw [decide_eq_false h]
  rfl
theorem Base.sure_stem (B : Base s vs) {r : List Lot} (hL : Lam s.copies (sureOf s vs ++ r)) (hr : ∀ l ∈ r, l ∈ halfOf s vs) : Near s vs (stem s.copies (sureOf s vs ++ r)) := by
  have hm : ∀ l, l ∈ (stem s.copies (sureOf s vs ++ r)).items ↔ l ∈ sureOf s vs ∨ l ∈ r := fun l => by
    rw [mem_stem hL, List.mem_append]
    exact ⟨fun z => z.elim id fun w => by rw [w]; exact .inl B.has_all, .inl⟩
  have hsub : ∀ l ∈ (stem s.copies (sureOf s vs ++ r)).items, l ∈ lotsOf s vs := fun l hl => by
    rcases (hm l).mp hl with z | z
    · exact (mem_sure.mp z).1
    · exact (mem_half.mp (hr l z)).1
  refine ⟨isStemma_stem B.nd B.lng hL, bySize_nodup _ _, ?_, hsub, fun l _ hl => ?_, fun l hA hl => ?_⟩
  · refine Nat.lt_of_le_of_lt (nodup_len (bySize_nodup _ _) hsub) ?_
    exact Nat.lt_of_le_of_lt (Nat.le_trans (bySize_len _ _) B.tot) (by decide)
  · rcases (hm l).mp hl with z | z
    · have := (mem_sure.mp z).2
      omega
    · have := (mem_half.mp (hr l z)).2
      omega
  · rcases (by omega : (vs.items.length : Int) < 2 * mManyOf vs l ∨ 2 * mManyOf vs l ≤ (vs.items.length : Int)) with z | z
    · exact absurd ((hm l).mpr (.inl (mem_sure.mpr ⟨hA, z⟩))) hl
    · exact z
theorem Base.told_near (B : Base s vs) {v : Stemma} (h : v ∈ (mAllNearest s vs).items) : Near s vs v := by
  obtain ⟨r, hr, rfl⟩ := B.told_mem h
  exact B.sure_stem (B.row_lam (fun l => Iff.rfl) hr) fun l hl => (lists_sub hr).subset hl
/-- a LOT less -/
theorem Base.less (B : Base s vs) {v : Stemma} (h : v ∈ (mAllNearest s vs).items) {x : Lot} (hx : x ∈ v.items.drop 1) :
    mShows s vs (mLeast s vs, ⟨v.items.filter fun o => decide (o ≠ x)⟩) = decide (x ∈ halfOf s vs) := by
  have N := B.told_near h
  obtain ⟨r, hr, rfl⟩ := B.told_mem h
  have hL := B.row_lam (fun l => Iff.rfl) hr
  obtain ⟨rest, e, hc⟩ := stem_head B.nd hL
  have hxr : x ∈ rest := by
    rw [e] at hx
    exact hx
  have hxc : s.copies ≠ x := fun z => hc (by rw [z]; exact hxr)
  have hxv : x ∈ (stem s.copies (sureOf s vs ++ r)).items := by rw [e]; exact List.mem_cons_of_mem _ hxr
  generalize hv : stem s.copies (sureOf s vs ++ r) = v at *
  have hok : mIsStemma s.copies ⟨v.items.filter fun o => decide (o ≠ x)⟩ = true := by
    have q := stem_less B.nd B.lng hL (fun o => decide (o ≠ x)) (decide_eq_true hxc)
    rw [hv] at q
    rw [← q]
    refine isStemma_stem B.nd B.lng ?_
    have := lam_stem B.nd B.lng hL
    rw [hv] at this
    exact this.sub fun l hl => (List.mem_filter.mp hl).1
  have hA := N.sub x hxv
  have hsum : (vs.items.map fun u => mFarOf u ⟨v.items.filter fun o => decide (o ≠ x)⟩).sum = mLeast s vs + (2 * mManyOf vs x - (vs.items.length : Int)) := by
    rw [← N.sum B, sum_eq, sum_eq, PL.far_sum lots_nodup B.sets (N.nd.filter _) (fun l hl => N.sub l (List.mem_filter.mp hl).1), PL.far_sum lots_nodup B.sets N.nd N.sub, PL.less_sum lots_nodup hA hxv, many_eq, show (setsOf vs).length = vs.items.length from List.length_map ..]
  unfold mShows
  rw [hok, hsum, decide_eq_true (show (mLeast s vs, Tup.mk (v.items.filter fun o => decide (o ≠ x))).1 = mLeast s vs from rfl), Bool.true_and, Bool.true_and]
  refine decide_eq_decide.mpr ?_
  rw [mem_half]
  exact ⟨fun z => ⟨hA, by omega⟩, fun z => by have := z.2; omega⟩
end
end PD
end
section
set_option Elab.async false
set_option linter.all false
set_option maxRecDepth 100000
set_option maxHeartbeats 4000000
set_option autoImplicit false
namespace PD
open PySem L2
open PySem.W (Datum Tup)
open C8 (Cal fnScope fnBody fnScope_by)
variable [Tabl]

/-! ### all lists, all nearest ones -/
abbrev G__law_lists : Gd := G1p (fun (lots : List Lot) => lots.length < 64 ∧ (mLists lots).length ≤ 400) mLists
abbrev G_all_nearest : Gd := G2p (fun (s : Sh) (vs : Stemmata) => Base s vs ∧ (mLists (halfOf s vs)).length ≤ 400) mAllNearest
theorem add_any (found : List (List Lot)) (l : Lot) : found ++ (found.filter fun x => !((x.map fun o => mClash l o).any id)).map (fun x => x ++ [l]) = PL.addTo mClash found l := by
  unfold PL.addTo
  congr 2
  refine List.filter_congr fun x _ => ?_
  rw [List.any_map]
  rfl
theorem rows_next {clash : Lot → Lot → Bool} {found : List (List Lot)} {ls : List Lot} {i : Nat} {l : Lot} (h : ls[i]? = some l) : PL.rowsFrom clash found (ls.take (i + 1)) = PL.addTo clash (PL.rowsFrom clash found (ls.take i)) l := by
  rw [List.take_add_one, h, Option.toList_some]
  unfold PL.rowsFrom
  rw [List.foldl_append]
  rfl
theorem rows_le {clash : Lot → Lot → Bool} {found : List (List Lot)} {ls : List Lot} (i : Nat) : (PL.rowsFrom clash found (ls.take i)).length ≤ (PL.rowsFrom clash found ls).length := by
  have h := PL.rows_grow clash found (ls.take i) (ls.drop i)
  rw [List.take_append_drop] at h
  exact h
theorem half_len {s : Sh} {vs : Stemmata} (B : Base s vs) : (halfOf s vs).length ≤ 156 := Nat.le_trans (List.length_filter_le ..) (Nat.le_trans (bySize_len _ _) B.tot)
theorem sortable_st {L : List Stemma} (h : ∀ v ∈ L, v.items ≠ []) : PySem.W.Sortable (L.map fun x => Rep.toD x) := .inl fun d hd => by
  obtain ⟨v, hv, rfl⟩ := List.mem_map.mp hd
  obtain ⟨its⟩ := v
  cases its with
  | nil => exact absurd rfl (h _ hv)
  | cons a r => exact ⟨_, _, rfl⟩
theorem row_lam2 {s : Sh} {vs : Stemmata} (B : Base s vs) {r : List Lot} (hr : r ∈ rowsOf s vs) : Lam s.copies r ∧ r.length < 4096 := by
  have h5 : List.Sublist r (sureOf s vs ++ halfOf s vs) := rows_sub (pre := sureOf s vs) (fun r hr => by rw [List.mem_singleton.mp hr]; exact List.Sublist.refl _) r hr
  have h6 := h5.length_le
  rw [List.length_append] at h6
  have h7 : (sureOf s vs).length ≤ 156 := Nat.le_trans (moreLen ..) B.tot
  have h8 := half_len B
  rw [B.rows_eq] at hr
  obtain ⟨r0, hr0, rfl⟩ := List.mem_map.mp hr
  exact ⟨B.row_lam (fun l => Iff.rfl) hr0, by omega⟩
theorem row_ne {s : Sh} {vs : Stemmata} (B : Base s vs) {r : List Lot} (hr : r ∈ rowsOf s vs) {b : Bool} : (mStemmaOf s.copies ⟨b, r⟩).items ≠ [] := by
  rw [stemmaOf_eq B.lng]
  exact List.ne_nil_of_mem ((mem_stem (row_lam2 B hr).1).mpr (.inr rfl))
section
variable {P : Program} {w : World} {K : PySem.W.Frag} {mg : Str → Option Value} {base : Heap} {C : Addr}
abbrev N__law_lists : List Str := ["lots", "found", "lot", "some", "other"]
theorem sc__law_lists : FnScope N__law_lists ["lots"] (fnScope (top 67)) := fnScope_by (by decide +kernel)
def t__law_lists (C : Addr) (K : PySem.W.Frag) : TS := (tSeq (tAsg (tLst (tCons (tLst tNil) tNil)) (gName 1)) (tSeq (tFor (iList K (tVar 0)) (gName 2) (tAsg (tOp rCat (tVar 1) (tLc (iList K (tVar 1)) (gName 3) (tNot (tB (tCB (rAny K) (tCons (tLc (iList K (tVar 3)) (gName 4) tYes (tCall (spD C G__law_clash) [] C8.E0 (tCons (tVar 2) (tCons (tVar 4) tNil))) [4]) tNil)))) (tOp rCat (tVar 3) (tLst (tCons (tVar 2) tNil))) [3])) (gName 1))) (tRet (tVar 1))))
theorem p__law_lists {cdv : Value} {A : Around} {outer : List Env} {s : Shared} {H : Hp} {E : XK} {f : Addr} {k : Nat} (M : Mg mg) (S : Shf P w K mg base C) (c__law_clash : Cal P w K mg base 2 "_law_clash" (spD C G__law_clash) []) (hr : Room 2 (A.deeper (PyProof.Rows.envOfC "_law_lists" (fnScope (top 67)) s.heap.objs.size f cdv))) : PSs (cxOf C8.CX0 P w K mg base N__law_lists "_law_lists" (fnScope (top 67)) f cdv A outer s H E).nox (fnBody (top 67)) (t__law_lists C K) :=
  have nd := sc__law_lists.nd
  (pss_cons (ps_set (i := 1) nd rfl (by first | exact Or.inl rfl | exact Or.inr rfl) (pe_lst (pa_cons (pe_lst pa_nil) pa_nil))) (pss_cons (ps_for PassesOwn.never (by rfl) (pi_list (pv 0)) (pg_name (i := 2) nd rfl (by first | exact Or.inl rfl | exact Or.inr rfl)) (pss_one (ps_set (i := 1) nd rfl (by first | exact Or.inl rfl | exact Or.inr rfl) (pe_op op_cat (pv 1) (pe_lc (own := [("some", 3)]) (g := (gName 3)) (tt := (tNot (tB (tCB (rAny K) (tCons (tLc (iList K (tVar 3)) (gName 4) tYes (tCall (spD C G__law_clash) [] C8.E0 (tCons (tVar 2) (tCons (tVar 4) tNil))) [4]) tNil))))) (te := (tOp rCat (tVar 3) (tLst (tCons (tVar 2) tNil)))) (by rfl) nd (pi_list (pv 1)) (blkOk_by (by kernel_rfl)) (fun _ _ _ _ _ => (pg_name (i := 3) nd rfl (by first | exact Or.inl rfl | exact Or.inr rfl))) (fun _ _ _ _ _ => (pts_one (pt_not (pt_val (pe_callB (cr_any (by rfl)) (by rfl) M.b_any bb_any (pa_cons (pe_lc (own := [("other", 4)]) (g := (gName 4)) (tt := tYes) (te := (tCall (spD C G__law_clash) [] C8.E0 (tCons (tVar 2) (tCons (tVar 4) tNil)))) (by rfl) nd (pi_list (pv 3)) (blkOk_by (by kernel_rfl)) (fun _ _ _ _ _ => (pg_name (i := 4) nd rfl (by first | exact Or.inl rfl | exact Or.inr rfl))) (fun _ _ _ _ _ => pts_nil) (fun _ _ _ _ _ => (C8.pe_c c__law_clash hr (by decide) (by rfl) (pa_cons (pv 2) (pa_cons (pv 4) pa_nil))))) pa_nil)))))) (fun _ _ _ _ _ => (pe_op op_cat (pv 3) (pe_lst (pa_cons (pv 2) pa_nil))))))))) (pss_one (ps_ret (pv 1)))))
abbrev N_all_nearest : List Str := ["shelf", "stemmata", "sure", "half", "lot", "rows", "row", "other"]
theorem sc_all_nearest : FnScope N_all_nearest ["shelf", "stemmata"] (fnScope (top 52)) := fnScope_by (by decide +kernel)
def t_all_nearest (C : Addr) (K : PySem.W.Frag) : TS := (tSeq (tDrop (tCall (spD C G_check_stemmata) [] C8.E0 (tCons (tVar 0) (tCons (tVar 1) tNil)))) (tSeq (tAsg (tCall (spD C G_more_than) [] C8.E0 (tCons (tVar 0) (tCons (tVar 1) (tCons (tCB (rLenQ K) (tCons (tVar 1) tNil)) tNil)))) (gName 2)) (tSeq (tAsg (tLc (iTup K (tCall (spD C G_lots_in) [] C8.E0 (tCons (tVar 0) (tCons (tVar 1) tNil)))) (gName 4) (tTest (tOp (rEqP K false) (tOp (rI CMul fun i j => .int (i * j)) (tC (.int 2)) (tCall (spD C G_many_of) [] C8.E0 (tCons (tVar 1) (tCons (tVar 4) tNil)))) (tCB (rLenQ K) (tCons (tVar 1) tNil)))) (tVar 4) [4]) (gName 3)) (tSeq (tAsg (tLst (tCons (tVar 2) tNil)) (gName 5)) (tSeq (tFor (iList K (tVar 3)) (gName 4) (tSeq (tAsg (tOp rCat (tVar 5) (tLc (iList K (tVar 5)) (gName 6) (tNot (tB (tCB (rAny K) (tCons (tLc (iList K (tVar 6)) (gName 7) tYes (tCall (spD C G_do_clash) [] C8.E0 (tCons (tVar 4) (tCons (tVar 7) tNil))) [7]) tNil)))) (tOp rCat (tVar 6) (tLst (tCons (tVar 4) tNil))) [6])) (gName 5)) (tIfS (tTest (tOp (rI0 fun i j => .bl (decide (j < i))) (tCB (rLenQ K) (tCons (tVar 5) tNil)) (tC (.int 400)))) tNever tNext))) (tRet (tCB (rTupF K) (tCons (tCB (rSortD K (Tup (Tup Str))) (tCons (tLc (iList K (tVar 5)) (gName 6) tYes (tCall (spD C G_stemma_of) [] C8.E0 (tCons (tProp C (getSp C "own_copies") [] C8.E0 (tVar 0)) (tCons (tVar 6) tNil))) [6]) tNil)) tNil))))))))
theorem p_all_nearest {cdv : Value} {A : Around} {outer : List Env} {s : Shared} {H : Hp} {E : XK} {f : Addr} {k : Nat} (M : Mg mg) (S : Shf P w K mg base C) (c_check_stemmata : Cal P w K mg base 10 "check_stemmata" (spD C G_check_stemmata) []) (c_do_clash : Cal P w K mg base 2 "do_clash" (spD C G_do_clash) []) (c_lots_in : Cal P w K mg base 7 "lots_in" (spD C G_lots_in) []) (c_many_of : Cal P w K mg base 2 "many_of" (spD C G_many_of) []) (c_more_than : Cal P w K mg base 8 "more_than" (spD C G_more_than) []) (c_stemma_of : Cal P w K mg base 7 "stemma_of" (spD C G_stemma_of) []) (hr : Room 10 (A.deeper (PyProof.Rows.envOfC "all_nearest" (fnScope (top 52)) s.heap.objs.size f cdv))) : PSs (cxOf C8.CX0 P w K mg base N_all_nearest "all_nearest" (fnScope (top 52)) f cdv A outer s H E).nox (fnBody (top 52)) (t_all_nearest C K) :=
  have nd := sc_all_nearest.nd
  (pss_cons (ps_expr (C8.pe_c c_check_stemmata hr (by decide) (by rfl) (pa_cons (pv 0) (pa_cons (pv 1) pa_nil)))) (pss_cons (ps_set (i := 2) nd rfl (by first | exact Or.inl rfl | exact Or.inr rfl) (C8.pe_c c_more_than hr (by decide) (by rfl) (pa_cons (pv 0) (pa_cons (pv 1) (pa_cons (pe_callB call_len_seq (by rfl) M.b_len bb_len (pa_cons (pv 1) pa_nil)) pa_nil))))) (pss_cons (ps_setLc (i := 3) (own := [("lot", 4)]) (g := (gName 4)) (tt := (tTest (tOp (rEqP K false) (tOp (rI CMul fun i j => .int (i * j)) (tC (.int 2)) (tCall (spD C G_many_of) [] C8.E0 (tCons (tVar 1) (tCons (tVar 4) tNil)))) (tCB (rLenQ K) (tCons (tVar 1) tNil))))) (te := (tVar 4)) (by rfl) nd rfl rfl (sw_true rfl rfl rfl (by decide +kernel)) (pi_tup (C8.pe_c c_lots_in hr (by decide) (by rfl) (pa_cons (pv 0) (pa_cons (pv 1) pa_nil)))) (blkOk_by (by kernel_rfl)) (fun _ _ _ _ _ => (pg_name (i := 4) nd rfl (by first | exact Or.inl rfl | exact Or.inr rfl))) (fun _ _ _ _ _ => (pts_one (pt_cmpR (op_eqP hr.units) (pe_op op_mul pe_int (C8.pe_c c_many_of hr (by decide) (by rfl) (pa_cons (pv 1) (pa_cons (pv 4) pa_nil)))) (pe_callB call_len_seq (by rfl) M.b_len bb_len (pa_cons (pv 1) pa_nil)) (nomark _)))) (fun _ _ _ _ _ => (pv 4))) (pss_cons (ps_set (i := 5) nd rfl (by first | exact Or.inl rfl | exact Or.inr rfl) (pe_lst (pa_cons (pv 2) pa_nil))) (pss_cons (ps_for PassesOwn.never (by rfl) (pi_list (pv 3)) (pg_name (i := 4) nd rfl (by first | exact Or.inl rfl | exact Or.inr rfl)) (pss_cons (ps_set (i := 5) nd rfl (by first | exact Or.inl rfl | exact Or.inr rfl) (pe_op op_cat (pv 5) (pe_lc (own := [("row", 6)]) (g := (gName 6)) (tt := (tNot (tB (tCB (rAny K) (tCons (tLc (iList K (tVar 6)) (gName 7) tYes (tCall (spD C G_do_clash) [] C8.E0 (tCons (tVar 4) (tCons (tVar 7) tNil))) [7]) tNil))))) (te := (tOp rCat (tVar 6) (tLst (tCons (tVar 4) tNil)))) (by rfl) nd (pi_list (pv 5)) (blkOk_by (by kernel_rfl)) (fun _ _ _ _ _ => (pg_name (i := 6) nd rfl (by first | exact Or.inl rfl | exact Or.inr rfl))) (fun _ _ _ _ _ => (pts_one (pt_not (pt_val (pe_callB (cr_any (by rfl)) (by rfl) M.b_any bb_any (pa_cons (pe_lc (own := [("other", 7)]) (g := (gName 7)) (tt := tYes) (te := (tCall (spD C G_do_clash) [] C8.E0 (tCons (tVar 4) (tCons (tVar 7) tNil)))) (by rfl) nd (pi_list (pv 6)) (blkOk_by (by kernel_rfl)) (fun _ _ _ _ _ => (pg_name (i := 7) nd rfl (by first | exact Or.inl rfl | exact Or.inr rfl))) (fun _ _ _ _ _ => pts_nil) (fun _ _ _ _ _ => (C8.pe_c c_do_clash hr (by decide) (by rfl) (pa_cons (pv 4) (pa_cons (pv 7) pa_nil))))) pa_nil)))))) (fun _ _ _ _ _ => (pe_op op_cat (pv 6) (pe_lst (pa_cons (pv 4) pa_nil))))))) (pss_one (ps_if (pt_cmpR op_gt (pe_callB call_len_seq (by rfl) M.b_len bb_len (pa_cons (pv 5) pa_nil)) (pe_gI (by rfl) M.k_MOST_NEAREST) (nomark _)) (pss_one ps_never) pss_nil)))) (pss_one (ps_ret (pe_callTy cr_tupF (by rfl) M.b_tuple bb_tuple (pa_cons (pe_callB (cr_sortD (α := (Tup (Tup Str))) (by decide) hr.units) (by rfl) M.b_sorted bb_sorted (pa_cons (pe_lc (own := [("row", 6)]) (g := (gName 6)) (tt := tYes) (te := (tCall (spD C G_stemma_of) [] C8.E0 (tCons (tProp C (getSp C "own_copies") [] C8.E0 (tVar 0)) (tCons (tVar 6) tNil)))) (by rfl) nd (pi_list (pv 5)) (blkOk_by (by kernel_rfl)) (fun _ _ _ _ _ => (pg_name (i := 6) nd rfl (by first | exact Or.inl rfl | exact Or.inr rfl))) (fun _ _ _ _ _ => pts_nil) (fun _ _ _ _ _ => (C8.pe_c c_stemma_of hr (by decide) (by rfl) (pa_cons (pe_copies S hr (pv 0)) (pa_cons (pv 6) pa_nil))))) pa_nil)) pa_nil)))))))))
theorem es__law_lists {ds : List PyData} {R : PyData → Prop} (h : G__law_lists ds R) : ES C (t__law_lists C K) (startE N__law_lists ds) (fun _ => R .none) fun d _ => R d := by
  obtain ⟨lots, rfl, ⟨h1, h2⟩, rfl⟩ := h
  refine es_seq1 (es_setF (α := (List (Tup Str))) (i := 1) (by decide) (ef_lst (α := (List (Tup Str))) (as := [_]) (ea_cons (α := (List (Tup Str))) (EF.ed (ef_lst (α := (Tup Str)) (as := []) ea_nil (show 0 ≤ 4096 by decide))) ea_nil) (show 1 ≤ 4096 by decide))) ?_
  refine es_seq (N1 := fun e' => ∃ x, e' = [.dat (Rep.toD lots), .own (LstT C ((mLists lots).map fun x => Rep.toD x)), x, .emp, .emp]) (es_for (xs := lots) (enc := fun v => [(2, Rep.toD v)])
    (fun i e' => ∃ x, e' = [.dat (Rep.toD lots), .own (LstT C ((mLists (lots.take i)).map fun x => Rep.toD x)), x, .emp, .emp] ∧ isVal (some x) = true)
    (src_list (α := (Tup Str)) (ED.el (ed_var (α := (List (Tup Str))) (i := 0) rfl))) ⟨.emp, rfl, rfl⟩ (fun i v e' hi I => ?_) (fun v b hb => ?_) fun e' I => ?_) fun e' n => ?_
  · obtain ⟨x, rfl, hx⟩ := I
    have hle := rows_le (clash := mClash) (found := [[]]) (ls := lots) i
    have hn := rows_next (clash := mClash) (found := [[]]) hi
    have hle2 := rows_le (clash := mClash) (found := [[]]) (ls := lots) (i + 1)
    refine ⟨fun b hb => by rw [List.mem_singleton.mp hb]; exact hx, ((es_setF (α := (List (Tup Str))) (i := 1) (by decide) (ef_cat (α := (List (Tup Str))) (el_own (α := (List (Tup Str))) (i := 1) rfl) (EF.el (pb := true) (ef_both (β := (List (Tup Str))) (src_list (α := (List (Tup Str))) (el_own (α := (List (Tup Str))) (i := 1) rfl)) (fun x hx => (et_not (et_B (ed_any (EF.el (pb := true) (ef_map (β := Bool) (src_list (α := (Tup Str)) (ED.el (ed_var (α := (List (Tup Str))) (i := 3) rfl))) (fun x1 hx1 => (ed_call (α := Bool) (ea_cons (α := (Tup Str)) (ed_var (α := (Tup Str)) (i := 2) rfl) (ea_cons (α := (Tup Str)) (ed_var (α := (Tup Str)) (i := 4) rfl) ea_nil)) ⟨_, _, rfl, rfl⟩)))))))) (fun x hx hb => (EF.ed (ef_cat (α := (Tup Str)) (ED.el (pb := true) (ed_var (α := (List (Tup Str))) (i := 3) rfl)) (EF.el (pb := true) (ef_lst (α := (Tup Str)) (as := [_]) (ea_cons (α := (Tup Str)) (ed_var (α := (Tup Str)) (i := 2) rfl) ea_nil) (show 1 ≤ 4096 by decide))) ?h3))))) ?h4))).mono (fun e' p => ⟨.dat (Rep.toD v), p.trans ?_, rfl⟩) fun _ _ z => z⟩
    case h3 =>
      have := (lists_sub hx).length_le
      rw [List.length_take] at this
      show x.length + 1 ≤ 4096
      omega
    case h4 =>
      rw [← List.length_append, add_any, ← hn]
      exact Nat.le_trans hle2 (Nat.le_trans h2 (by decide))
    · rw [add_any, ← hn]
      rfl
  · rw [List.mem_singleton.mp hb]; exact (by decide : (2 : Nat) ≠ 0)
  · obtain ⟨x, rfl, hx⟩ := I
    rw [List.take_length]
    exact ⟨x, rfl⟩
  · obtain ⟨x, rfl⟩ := n
    exact es_retO (i := 1) (by decide) rfl rfl
theorem es_all_nearest {ds : List PyData} {R : PyData → Prop} (h : G_all_nearest ds R) : ES C (t_all_nearest C K) (startE N_all_nearest ds) (fun _ => R .none) fun d _ => R d := by
  obtain ⟨s, vs, rfl, ⟨B, h2⟩, rfl⟩ := h
  have hrl : (rowsOf s vs).length ≤ 400 := by
    rw [B.rows_eq, List.length_map]
    exact h2
  refine es_seq1 (es_drop (ed_call (α := Unit) (ea_cons (α := Sh) (ed_var (α := Sh) (i := 0) rfl) (ea_cons (α := (Tup (Tup (Tup Str)))) (ed_var (α := (Tup (Tup (Tup Str)))) (i := 1) rfl) ea_nil)) ⟨_, _, rfl, ?_, rfl⟩)) ?_
  · exact B.wf
  refine es_seq1 (es_set (α := (List (Tup Str))) (i := 2) (by decide) (ed_call (α := (List (Tup Str))) (ea_cons (α := Sh) (ed_var (α := Sh) (i := 0) rfl) (ea_cons (α := (Tup (Tup (Tup Str)))) (ed_var (α := (Tup (Tup (Tup Str)))) (i := 1) rfl) (ea_cons (α := Int) (ed_len_u (ED.eu (K := K) (ed_var (α := (Tup (Tup (Tup Str)))) (i := 1) rfl))) ea_nil))) ⟨_, _, _, rfl, ?_, rfl⟩)) ?_
  · exact B.wf
  refine es_seq1 (es_set (α := (List (Tup Str))) (i := 3) (by decide) (EF.ed (ef_filter (src_tup (α := (Tup Str)) (ED.eu (K := K) (ed_call (α := (Tup (Tup Str))) (ea_cons (α := Sh) (ed_var (α := Sh) (i := 0) rfl) (ea_cons (α := (Tup (Tup (Tup Str)))) (ed_var (α := (Tup (Tup (Tup Str)))) (i := 1) rfl) ea_nil)) ⟨_, _, rfl, ?_, rfl⟩))) (fun x hx => (et_test (ed_eq (ED.er (K := K) (ed_op (α := Int) (β := Int) (γ := Int) (ed_int (i := 2)) (ed_call (α := Int) (ea_cons (α := (Tup (Tup (Tup Str)))) (ed_var (α := (Tup (Tup (Tup Str)))) (i := 1) rfl) (ea_cons (α := (Tup Str)) (ed_var (α := (Tup Str)) (i := 4) rfl) ea_nil)) ⟨_, _, rfl, rfl⟩) (rd_mul (Or.inl ⟨by decide, by decide⟩)))) (ED.er (K := K) (ed_len_u (ED.eu (K := K) (ed_var (α := (Tup (Tup (Tup Str)))) (i := 1) rfl)))))))))) ?_
  · exact B.wf
  refine es_seq1 (es_setF (α := (List (Tup Str))) (i := 5) (by decide) (ef_lst (α := (List (Tup Str))) (as := [_]) (ea_cons (α := (List (Tup Str))) (ed_var (α := (List (Tup Str))) (i := 2) rfl) ea_nil) (show 1 ≤ 4096 by decide))) ?_
  show ES C _ [.dat (Rep.toD s), .dat (Rep.toD vs), .dat (Rep.toD (sureOf s vs)), .dat (Rep.toD (halfOf s vs)), .emp, .own (LstT C ([sureOf s vs].map fun x => Rep.toD x)), .emp, .emp] _ _
  refine es_seq (N1 := fun e' => ∃ x, e' = [.dat (Rep.toD s), .dat (Rep.toD vs), .dat (Rep.toD (sureOf s vs)), .dat (Rep.toD (halfOf s vs)), x, .own (LstT C ((rowsOf s vs).map fun x => Rep.toD x)), .emp, .emp]) (es_for (xs := halfOf s vs) (enc := fun v => [(4, Rep.toD v)])
    (fun i e' => ∃ x, e' = [.dat (Rep.toD s), .dat (Rep.toD vs), .dat (Rep.toD (sureOf s vs)), .dat (Rep.toD (halfOf s vs)), x, .own (LstT C ((PL.rowsFrom mClash [sureOf s vs] ((halfOf s vs).take i)).map fun x => Rep.toD x)), .emp, .emp] ∧ isVal (some x) = true)
    (src_list (α := (Tup Str)) (ED.el (ed_var (α := (List (Tup Str))) (i := 3) rfl))) ⟨.emp, rfl, rfl⟩ (fun i v e' hi I => ?_) (fun v b hb => ?_) fun e' I => ?_) fun e' n => ?_
  · obtain ⟨x, rfl, hx⟩ := I
    have hn := rows_next (clash := mClash) (found := [sureOf s vs]) hi
    have hle2 : (PL.rowsFrom mClash [sureOf s vs] ((halfOf s vs).take (i + 1))).length ≤ 400 := Nat.le_trans (rows_le (clash := mClash) (found := [sureOf s vs]) (ls := halfOf s vs) (i + 1)) hrl
    refine ⟨fun b hb => by rw [List.mem_singleton.mp hb]; exact hx, es_seq (N1 := fun e' => e' = [.dat (Rep.toD s), .dat (Rep.toD vs), .dat (Rep.toD (sureOf s vs)), .dat (Rep.toD (halfOf s vs)), .dat (Rep.toD v), .own (LstT C ((PL.rowsFrom mClash [sureOf s vs] ((halfOf s vs).take (i + 1))).map fun x => Rep.toD x)), .emp, .emp]) (((es_setF (α := (List (Tup Str))) (i := 5) (by decide) (ef_cat (α := (List (Tup Str))) (el_own (α := (List (Tup Str))) (i := 5) rfl) (EF.el (pb := true) (ef_both (β := (List (Tup Str))) (src_list (α := (List (Tup Str))) (el_own (α := (List (Tup Str))) (i := 5) rfl)) (fun x hx => (et_not (et_B (ed_any (EF.el (pb := true) (ef_map (β := Bool) (src_list (α := (Tup Str)) (ED.el (ed_var (α := (List (Tup Str))) (i := 6) rfl))) (fun x1 hx1 => (ed_call (α := Bool) (ea_cons (α := (Tup Str)) (ed_var (α := (Tup Str)) (i := 4) rfl) (ea_cons (α := (Tup Str)) (ed_var (α := (Tup Str)) (i := 7) rfl) ea_nil)) ⟨_, _, rfl, rfl⟩)))))))) (fun x hx hb => (EF.ed (ef_cat (α := (Tup Str)) (ED.el (pb := true) (ed_var (α := (List (Tup Str))) (i := 6) rfl)) (EF.el (pb := true) (ef_lst (α := (Tup Str)) (as := [_]) (ea_cons (α := (Tup Str)) (ed_var (α := (Tup Str)) (i := 4) rfl) ea_nil) (show 1 ≤ 4096 by decide))) ?h3))))) ?h4))).mono (fun e' p => p.trans ?_) fun _ _ z => z) fun e' p => ?_⟩
    case h3 =>
      have h5 : List.Sublist x (sureOf s vs ++ (halfOf s vs).take i) := rows_sub (pre := sureOf s vs) (fun r hr => by rw [List.mem_singleton.mp hr]; exact List.Sublist.refl _) x hx
      have h6 := h5.length_le
      rw [List.length_append, List.length_take] at h6
      have h7 : (sureOf s vs).length ≤ 156 := Nat.le_trans (moreLen ..) B.tot
      have h8 := half_len B
      show x.length + 1 ≤ 4096
      omega
    case h4 =>
      rw [← List.length_append, add_any, ← hn]
      exact Nat.le_trans hle2 (by decide)
    · rw [add_any, ← hn]
      rfl
    · subst p
      exact es_never (et_test (ed_op (α := Int) (β := Int) (γ := Bool) (ed_len_l (K := K) (el_own (α := (List (Tup Str))) (i := 5) rfl)) (ed_int (i := 400)) rd_cmp)) (decide_eq_false (by omega)) ⟨.dat (Rep.toD v), rfl, rfl⟩
  · rw [List.mem_singleton.mp hb]; exact (by decide : (4 : Nat) ≠ 0)
  · obtain ⟨x, rfl, hx⟩ := I
    rw [List.take_length]
    exact ⟨x, rfl⟩
  · obtain ⟨x, rfl⟩ := n
    refine es_ret (α := Stemmata) (ed_tupL (α := (Tup (Tup Str))) (EF.el (pb := true) (ef_sortD (α := (Tup (Tup Str))) (EF.el (pb := true) (ef_map (β := (Tup (Tup Str))) (src_list (α := (List (Tup Str))) (el_own (α := (List (Tup Str))) (i := 5) rfl)) (fun x hx => (ed_call (α := (Tup (Tup Str))) (ea_cons (α := (Tup Str)) (ed_copies (ed_var (α := Sh) (i := 0) rfl)) (ea_cons (α := (Sq (Tup Str))) (ED.sqL (α := (Tup Str)) (ed_var (α := (List (Tup Str))) (i := 6) rfl)) ea_nil)) ⟨_, _, rfl, ?h9, rfl⟩)))) (allAlike _) ?h10))) rfl
    case h10 =>
      refine sortable_st fun v hv => ?_
      obtain ⟨r, hr, rfl⟩ := List.mem_map.mp hv
      exact row_ne B hr
    case h9 =>
      obtain ⟨hL, hlen⟩ := row_lam2 B hx
      exact ⟨hL.within, hlen⟩
end
end PD
end
section
set_option Elab.async false
set_option linter.all false
set_option maxRecDepth 100000
set_option maxHeartbeats 4000000
set_option autoImplicit false
namespace PD
open PySem L2
open PySem.W (Datum Tup)
open C8 (Cal fnScope fnBody fnScope_by)
variable [Tabl]

/-! ### no more lots stand in half of them than two stemmata have -/
theorem sum_mono {α : Type} {f g : α → Int} : ∀ {A : List α}, (∀ l ∈ A, f l ≤ g l) → (A.map f).sum ≤ (A.map g).sum
  | [], _ => Int.le_refl _
  | a :: A, h => by
    have h1 := h a List.mem_cons_self
    have h2 := sum_mono (A := A) fun l hl => h l (List.mem_cons_of_mem _ hl)
    simp only [List.map_cons, List.sum_cons]
    omega
theorem sum_scale {α : Type} (k : Int) (f : α → Int) : ∀ A : List α, (A.map fun l => k * f l).sum = k * (A.map f).sum
  | [] => by simp
  | a :: A => by
    simp only [List.map_cons, List.sum_cons]
    rw [sum_scale k f A, Int.mul_add]
theorem Base.few {s : Sh} {vs : Stemmata} (B : Base s vs) : (sureOf s vs).length + (halfOf s vs).length ≤ 52 := by
  have hn := B.pos
  have e1 : ((lotsOf s vs).map fun l => mManyOf vs l).sum = ((setsOf vs).map fun t => (t.length : Int)).sum := by
    have h1 : ((setsOf vs).map fun t => ((lotsOf s vs).map fun l => PL.bit (decide (l ∈ t))).sum).sum = ((lotsOf s vs).map fun l => ((setsOf vs).map fun t => PL.bit (decide (l ∈ t))).sum).sum := PL.sum_swap (fun t l => PL.bit (decide (l ∈ t))) (lotsOf s vs) (setsOf vs)
    have h2 : ((setsOf vs).map fun t => ((lotsOf s vs).map fun l => PL.bit (decide (l ∈ t))).sum) = (setsOf vs).map fun t => (t.length : Int) := List.map_congr_left fun t ht => by
      rw [← PL.len_bits (fun l => decide (l ∈ t))]
      have h3 := PL.nodup_filter_len lots_nodup (B.sets t ht).1 (B.sets t ht).2 (fun _ => true)
      rw [List.filter_eq_self.mpr fun _ _ => rfl] at h3
      simp only [Bool.and_true] at h3
      rw [h3]
    rw [h2] at h1
    rw [h1]
    congr 1
    refine List.map_congr_left fun l _ => ?_
    rw [many_eq]
    unfold PL.manyI
    rw [PL.len_bits (α := List Lot)]
  have e2 : ((setsOf vs).map fun t => (t.length : Int)).sum ≤ 26 * (vs.items.length : Int) := by
    have h1 : ∀ L : List (List Lot), (∀ t ∈ L, t.length ≤ 26) → (L.map fun t => (t.length : Int)).sum ≤ 26 * (L.length : Int) := by
      intro L
      induction L with
      | nil => intro _; simp
      | cons t L ih =>
        intro h
        have h2 := h t List.mem_cons_self
        have h3 := ih fun u hu => h u (List.mem_cons_of_mem _ hu)
        simp only [List.map_cons, List.sum_cons, List.length_cons]
        omega
    have h2 := h1 (setsOf vs) fun t ht => by
      obtain ⟨v, hv, rfl⟩ := List.mem_map.mp ht
      exact (B.dr v hv).len
    rw [List.length_map] at h2
    exact h2
  have e3 : ((lotsOf s vs).map fun l => (vs.items.length : Int) * PL.bit (decide ((vs.items.length : Int) ≤ 2 * mManyOf vs l))).sum ≤ ((lotsOf s vs).map fun l => 2 * mManyOf vs l).sum := sum_mono fun l _ => by
    unfold PL.bit
    split
    · rename_i h
      have := of_decide_eq_true h
      omega
    · have : 0 ≤ mManyOf vs l := by unfold mManyOf; omega
      omega
  rw [sum_scale, sum_scale, e1, ← PL.len_bits] at e3
  have e4 : ((lotsOf s vs).filter fun l => decide ((vs.items.length : Int) ≤ 2 * mManyOf vs l)).length = (sureOf s vs).length + (halfOf s vs).length := by
    unfold sureOf mMoreThan halfOf
    show _ = ((lotsOf s vs).filter fun l => decide ((vs.items.length : Int) < 2 * mManyOf vs l)).length + _
    generalize lotsOf s vs = A
    induction A with
    | nil => rfl
    | cons a A ih =>
      simp only [List.filter_cons]
      by_cases h1 : (vs.items.length : Int) < 2 * mManyOf vs a
      · have h2 : (vs.items.length : Int) ≤ 2 * mManyOf vs a := by omega
        have h3 : ¬ 2 * mManyOf vs a = (vs.items.length : Int) := by omega
        simp only [h1, h2, h3, decide_true, decide_false, if_true, Bool.false_eq_true, if_false, List.length_cons, ih]
        omega
      · by_cases h2 : 2 * mManyOf vs a = (vs.items.length : Int)
        · have h3 : (vs.items.length : Int) ≤ 2 * mManyOf vs a := by omega
          simp only [h1, h2, h3, decide_true, decide_false, if_true, Bool.false_eq_true, if_false, List.length_cons, ih, Int.le_refl, Int.lt_irrefl]
          omega
        · have h3 : ¬ (vs.items.length : Int) ≤ 2 * mManyOf vs a := by omega
          simp only [h1, h2, h3, decide_false, Bool.false_eq_true, if_false, ih]
  rw [e4] at e3
  have e5 : (vs.items.length : Int) * (((sureOf s vs).length + (halfOf s vs).length : Nat) : Int) ≤ (vs.items.length : Int) * 52 := by omega
  have := Int.le_of_mul_le_mul_left e5 (by omega)
  omega
theorem ed_neg {C : Addr} {e : List Sl} {te : TE} {i : Int} (h : ED C te e i) : ED C (tUn (rU fun i => .int (-i)) te) e (-i) := fun W F σ H s Q q => h W F σ H s _ fun v H2 x t => by
  cases at_int t
  exact ⟨i, rfl, q _ H2 x (.int _)⟩
abbrev G__law_are_told_right : Gd := fun ds R => ∃ (c : Lot) (s : Sh) (vs : Stemmata) (sure half : List Lot) (least : Int), ds = [Rep.toD c, Rep.toD s, Rep.toD vs, Rep.toD sure, Rep.toD half, Rep.toD least] ∧
  (c = s.copies ∧ Base s vs ∧ (mLists (halfOf s vs)).length ≤ 400 ∧ sure.Perm (sureOf s vs) ∧ half.Perm (halfOf s vs) ∧ least = mLeast s vs) ∧ R = fun d => d = Rep.toD true
section
variable {P : Program} {w : World} {K : PySem.W.Frag} {mg : Str → Option Value} {base : Heap} {C : Addr}
abbrev N__law_are_told_right : List Str := ["copies", "shelf", "stemmata", "sure", "half", "least", "told", "some", "stemma", "other", "lot", "less"]
theorem sc__law_are_told_right : FnScope N__law_are_told_right ["copies", "shelf", "stemmata", "sure", "half", "least"] (fnScope (top 68)) := fnScope_by (by decide +kernel)
def t__law_are_told_right (C : Addr) (K : PySem.W.Frag) : TS := (tSeq (tAsg (tCall (spD C G_all_nearest) [] C8.E0 (tCons (tVar 1) (tCons (tVar 2) tNil))) (gName 6)) (tSeq (tIfS (tTest (tOp (rEqP K true) (tVar 6) (tCB (rTupF K) (tCons (tCB (rSortD K (Tup (Tup Str))) (tCons (tLc (iList K (tCall (spD C G__law_lists) [] C8.E0 (tCons (tVar 4) tNil))) (gName 7) tYes (tCall (spD C G__law_told) [] C8.E0 (tCons (tVar 0) (tCons (tOp rCat (tVar 3) (tVar 7)) tNil))) [7]) tNil)) tNil)))) (tRet (tC (.bl false))) tNext) (tSeq (tFor (iTup K (tOp (rCatF K) (tSl (rSlF K) (tVar 6) tNoPart (tPart (tC (.int 3)))) (tSl (rSlF K) (tVar 6) (tPart (tUn (rU fun i => .int (-i)) (tC (.int 1)))) tNoPart))) (gName 8) (tSeq (tIfS (tTest (tOp (rEqP K true) (tCB (rSum K) (tCons (tLc (iTup K (tVar 2)) (gName 9) tYes (tCall (spD C G_far) [] C8.E0 (tCons (tVar 1) (tCons (tVar 8) (tCons (tVar 9) tNil)))) [9]) tNil)) (tVar 5))) (tRet (tC (.bl false))) tNext) (tSeq (tIfS (tTest (tOp rNotB (tCall (spD C G_shows_nearest) [] C8.E0 (tCons (tVar 1) (tCons (tVar 2) (tCons (tTupF (tCons (tVar 5) (tCons (tVar 8) tNil))) tNil)))) (tC (.bl true)))) (tRet (tC (.bl false))) tNext) (tSeq (tIfS (tTest (tOp rNotB (tCall (spD C G_shows_nearest) [] C8.E0 (tCons (tVar 1) (tCons (tVar 2) (tCons (tTupF (tCons (tOp (rI0 fun i j => .int (i + j)) (tVar 5) (tC (.int 1))) (tCons (tVar 8) tNil))) tNil)))) (tC (.bl false)))) (tRet (tC (.bl false))) tNext) (tFor (iTup K (tSl (rSlF K) (tVar 8) (tPart (tC (.int 1))) tNoPart)) (gName 10) (tSeq (tAsg (tCB (rTupF K) (tCons (tLc (iTup K (tVar 8)) (gName 9) (tTest (tOp (rEqP K true) (tVar 9) (tVar 10))) (tVar 9) [9]) tNil)) (gName 11)) (tIfS (tTest (tOp (rEqP K true) (tOp rIsB (tCall (spD C G_shows_nearest) [] C8.E0 (tCons (tVar 1) (tCons (tVar 2) (tCons (tTupF (tCons (tVar 5) (tCons (tVar 11) tNil))) tNil)))) (tC (.bl true))) (tOp (rInP K false) (tVar 10) (tVar 4)))) (tRet (tC (.bl false))) tNext))))))) (tRet (tC (.bl true))))))
theorem p__law_are_told_right {cdv : Value} {A : Around} {outer : List Env} {s : Shared} {H : Hp} {E : XK} {f : Addr} {k : Nat} (M : Mg mg) (S : Shf P w K mg base C) (c__law_lists : Cal P w K mg base 3 "_law_lists" (spD C G__law_lists) []) (c__law_told : Cal P w K mg base 2 "_law_told" (spD C G__law_told) []) (c_all_nearest : Cal P w K mg base 11 "all_nearest" (spD C G_all_nearest) []) (c_far : Cal P w K mg base 11 "far" (spD C G_far) []) (c_shows_nearest : Cal P w K mg base 11 "shows_nearest" (spD C G_shows_nearest) []) (hr : Room 12 (A.deeper (PyProof.Rows.envOfC "_law_are_told_right" (fnScope (top 68)) s.heap.objs.size f cdv))) : PSs (cxOf C8.CX0 P w K mg base N__law_are_told_right "_law_are_told_right" (fnScope (top 68)) f cdv A outer s H E).nox (fnBody (top 68)) (t__law_are_told_right C K) :=
  have nd := sc__law_are_told_right.nd
  (pss_cons (ps_set (i := 6) nd rfl (by first | exact Or.inl rfl | exact Or.inr rfl) (C8.pe_c c_all_nearest hr (by decide) (by rfl) (pa_cons (pv 1) (pa_cons (pv 2) pa_nil)))) (pss_cons (ps_if (pt_cmpR (op_neP hr.units) (pv 6) (pe_callTy cr_tupF (by rfl) M.b_tuple bb_tuple (pa_cons (pe_callB (cr_sortD (α := (Tup (Tup Str))) (by decide) hr.units) (by rfl) M.b_sorted bb_sorted (pa_cons (pe_lc (own := [("some", 7)]) (g := (gName 7)) (tt := tYes) (te := (tCall (spD C G__law_told) [] C8.E0 (tCons (tVar 0) (tCons (tOp rCat (tVar 3) (tVar 7)) tNil)))) (by rfl) nd (pi_list (C8.pe_c c__law_lists hr (by decide) (by rfl) (pa_cons (pv 4) pa_nil))) (blkOk_by (by kernel_rfl)) (fun _ _ _ _ _ => (pg_name (i := 7) nd rfl (by first | exact Or.inl rfl | exact Or.inr rfl))) (fun _ _ _ _ _ => pts_nil) (fun _ _ _ _ _ => (C8.pe_c c__law_told hr (by decide) (by rfl) (pa_cons (pv 0) (pa_cons (pe_op op_cat (pv 3) (pv 7)) pa_nil))))) pa_nil)) pa_nil)) (nomark _)) (pss_one (ps_ret pe_bl)) pss_nil) (pss_cons (ps_for PassesOwn.never (by rfl) (pi_tup (pe_op op_catF (pe_slice sl_tupF (pv 6) po_none (po_some pe_int)) (pe_slice sl_tupF (pv 6) (po_some (pe_un un_neg pe_int)) po_none))) (pg_name (i := 8) nd rfl (by first | exact Or.inl rfl | exact Or.inr rfl)) (pss_cons (ps_if (pt_cmpR (op_neP hr.units) (pe_callB (cr_sum (by rfl)) (by rfl) M.b_sum bb_sum (pa_cons (pe_lc (own := [("other", 9)]) (g := (gName 9)) (tt := tYes) (te := (tCall (spD C G_far) [] C8.E0 (tCons (tVar 1) (tCons (tVar 8) (tCons (tVar 9) tNil))))) (by rfl) nd (pi_tup (pv 2)) (blkOk_by (by kernel_rfl)) (fun _ _ _ _ _ => (pg_name (i := 9) nd rfl (by first | exact Or.inl rfl | exact Or.inr rfl))) (fun _ _ _ _ _ => pts_nil) (fun _ _ _ _ _ => (C8.pe_c c_far hr (by decide) (by rfl) (pa_cons (pv 1) (pa_cons (pv 8) (pa_cons (pv 9) pa_nil)))))) pa_nil)) (pv 5) (nomark _)) (pss_one (ps_ret pe_bl)) pss_nil) (pss_cons (ps_if (pt_cmpR op_notBl (C8.pe_c c_shows_nearest hr (by decide) (by rfl) (pa_cons (pv 1) (pa_cons (pv 2) (pa_cons (pe_tupF (pa_cons (pv 5) (pa_cons (pv 8) pa_nil))) pa_nil)))) pe_bl (nomark _)) (pss_one (ps_ret pe_bl)) pss_nil) (pss_cons (ps_if (pt_cmpR op_notBl (C8.pe_c c_shows_nearest hr (by decide) (by rfl) (pa_cons (pv 1) (pa_cons (pv 2) (pa_cons (pe_tupF (pa_cons (pe_op op_add (pv 5) pe_int) (pa_cons (pv 8) pa_nil))) pa_nil)))) pe_bl (nomark _)) (pss_one (ps_ret pe_bl)) pss_nil) (pss_one (ps_for PassesOwn.never (by rfl) (pi_tup (pe_slice sl_tupF (pv 8) (po_some pe_int) po_none)) (pg_name (i := 10) nd rfl (by first | exact Or.inl rfl | exact Or.inr rfl)) (pss_cons (ps_set (i := 11) nd rfl (by first | exact Or.inl rfl | exact Or.inr rfl) (pe_callTy cr_tupF (by rfl) M.b_tuple bb_tuple (pa_cons (pe_lc (own := [("other", 9)]) (g := (gName 9)) (tt := (tTest (tOp (rEqP K true) (tVar 9) (tVar 10)))) (te := (tVar 9)) (by rfl) nd (pi_tup (pv 8)) (blkOk_by (by kernel_rfl)) (fun _ _ _ _ _ => (pg_name (i := 9) nd rfl (by first | exact Or.inl rfl | exact Or.inr rfl))) (fun _ _ _ _ _ => (pts_one (pt_cmpR (op_neP hr.units) (pv 9) (pv 10) (nomark _)))) (fun _ _ _ _ _ => (pv 9))) pa_nil))) (pss_one (ps_if (pt_cmpR (op_neP hr.units) (pe_cmpR op_isBl (C8.pe_c c_shows_nearest hr (by decide) (by rfl) (pa_cons (pv 1) (pa_cons (pv 2) (pa_cons (pe_tupF (pa_cons (pv 5) (pa_cons (pv 11) pa_nil))) pa_nil)))) pe_bl (nomark _)) (pe_cmpR (op_inP hr.units) (pv 10) (pv 4) (by rfl)) (nomark _)) (pss_one (ps_ret pe_bl)) pss_nil))))))))) (pss_one (ps_ret pe_bl)))))
theorem es__law_are_told_right {ds : List PyData} {R : PyData → Prop} (h : G__law_are_told_right ds R) : ES C (t__law_are_told_right C K) (startE N__law_are_told_right ds) (fun _ => R .none) fun d _ => R d := by
  obtain ⟨c, s, vs, sure, half, least, rfl, ⟨rfl, B, h4, hsu, hha, rfl⟩, rfl⟩ := h
  have hlh : half.length = (halfOf s vs).length := hha.length_eq
  have hls : sure.length = (sureOf s vs).length := hsu.length_eq
  have hfew := B.few
  have hhm : ∀ l, l ∈ half ↔ l ∈ halfOf s vs := fun l => hha.mem_iff
  refine es_seq1 (es_set (α := (Tup (Tup (Tup Str)))) (i := 6) (by decide) (ed_call (α := (Tup (Tup (Tup Str)))) (ea_cons (α := Sh) (ed_var (α := Sh) (i := 1) rfl) (ea_cons (α := (Tup (Tup (Tup Str)))) (ed_var (α := (Tup (Tup (Tup Str)))) (i := 2) rfl) ea_nil)) ⟨_, _, rfl, ?_, rfl⟩)) ?_
  · exact ⟨B, h4⟩
  refine es_never1 (et_test (ed_ne (ED.er (K := K) (ed_var (α := (Tup (Tup (Tup Str)))) (i := 6) rfl)) (ED.er (K := K) (ed_tupL (α := (Tup (Tup Str))) (EF.el (pb := true) (ef_sortD (α := (Tup (Tup Str))) (EF.el (pb := true) (ef_map (β := (Tup (Tup Str))) (src_list (α := (List (Tup Str))) (ED.el (ed_call (α := (List (List (Tup Str)))) (ea_cons (α := (List (Tup Str))) (ed_var (α := (List (Tup Str))) (i := 4) rfl) ea_nil) ⟨_, rfl, ?p0, rfl⟩))) (fun x hx => (ed_call (α := (Tup (Tup Str))) (ea_cons (α := (Tup Str)) (ed_var (α := (Tup Str)) (i := 0) rfl) (ea_cons (α := (Sq (Tup Str))) (ED.sqL (α := (Tup Str)) (EF.ed (ef_cat (α := (Tup Str)) (ED.el (pb := true) (ed_var (α := (List (Tup Str))) (i := 3) rfl)) (ED.el (pb := true) (ed_var (α := (List (Tup Str))) (i := 7) rfl)) ?p1))) ea_nil)) ⟨_, _, rfl, ?p2, rfl⟩)))) (allAlike _) ?p3)))))) ?p4 ?_
  case p0 => exact ⟨by omega, by rw [B.lists_len hha]; exact h4⟩
  case p1 =>
    have := (lists_sub hx).length_le
    omega
  case p2 =>
    have h5 := (lists_sub hx).length_le
    refine ⟨B.nd, fun l hl => ?_, ?_⟩
    · rcases List.mem_append.mp hl with z | z
      · exact (B.sure_lam.seq l (hsu.mem_iff.mp z)).within
      · exact (B.half_seq hhm l ((lists_sub hx).subset z)).within
    · show (sure ++ x).length < 63
      rw [List.length_append]
      omega
  case p3 =>
    refine sortable_st fun v hv => ?_
    obtain ⟨r, hr, rfl⟩ := List.mem_map.mp hv
    have L := B.row_lam hhm hr
    have L2 : Lam s.copies (sure ++ r) := L.sub fun l hl => by
      rcases List.mem_append.mp hl with z | z
      · exact List.mem_append_left _ (hsu.mem_iff.mp z)
      · exact List.mem_append_right _ z
    show (mTold s.copies (sure ++ r)).items ≠ []
    rw [told_eq B.nd B.lng L2.seq]
    exact List.ne_nil_of_mem ((mem_stem L2).mpr (.inr rfl))
  case p4 =>
    refine decide_eq_false fun z => z ?_
    exact B.told_lists (fun l => hsu.mem_iff) hha
  have hsrc : ∀ v ∈ cutL (mAllNearest s vs).items none (some 3) ++ cutL (mAllNearest s vs).items (some (-1)) none, v ∈ (mAllNearest s vs).items := fun v hv => by
    rcases List.mem_append.mp hv with z | z
    · exact List.mem_of_mem_drop (List.mem_of_mem_take z)
    · exact List.mem_of_mem_drop (List.mem_of_mem_take z)
  have htl : (mAllNearest s vs).items.length ≤ 400 := by
    rw [told_len, B.rows_eq, List.length_map]
    exact h4
  refine es_seq (N1 := fun _ => True) (es_for (xs := cutL (mAllNearest s vs).items none (some 3) ++ cutL (mAllNearest s vs).items (some (-1)) none) (enc := fun v => [(8, Rep.toD v)])
    (fun i e' => ∃ x8 x10 x11, e' = [.dat (Rep.toD s.copies), .dat (Rep.toD s), .dat (Rep.toD vs), .dat (Rep.toD sure), .dat (Rep.toD half), .dat (Rep.toD (mLeast s vs)), .dat (Rep.toD (mAllNearest s vs)), .emp, x8, .emp, x10, x11] ∧ isVal (some x8) = true ∧ isVal (some x10) = true ∧ isVal (some x11) = true)
    (src_tup (α := (Tup (Tup Str))) (ED.eu (K := K) (ed_catU (α := (Tup (Tup Str))) (ed_cutU (α := (Tup (Tup Str))) (ed_var (α := (Tup (Tup (Tup Str)))) (i := 6) rfl) eo_none (eo_some (ed_int (i := 3)))) (ed_cutU (α := (Tup (Tup Str))) (ed_var (α := (Tup (Tup (Tup Str)))) (i := 6) rfl) (eo_some (ed_neg (ed_int (i := 1)))) eo_none) ?p5))) ⟨.emp, .emp, .emp, rfl, rfl, rfl, rfl⟩ (fun i v e' hi I => ?_) (fun v b hb => ?_) fun e' I => trivial) fun e' n => es_ret (α := Bool) (ed_bl (b := true)) rfl
  case p5 =>
    have h1 := cutL_len (mAllNearest s vs).items none (some 3)
    have h2 := cutL_len (mAllNearest s vs).items (some (-1)) none
    show (cutL (mAllNearest s vs).items none (some 3)).length + (cutL (mAllNearest s vs).items (some (-1)) none).length ≤ 4096
    omega
  · obtain ⟨x8, x10, x11, rfl, h8, h10, h11⟩ := I
    have hv := hsrc v (List.mem_of_getElem? hi)
    have N := B.told_near hv
    refine ⟨fun b hb => by rw [List.mem_singleton.mp hb]; exact h8, ?_⟩
    refine es_never1 (et_test (ed_ne (ED.er (K := K) (ed_sum (EF.el (pb := true) (ef_map (β := Int) (src_tup (α := (Tup (Tup Str))) (ED.eu (K := K) (ed_var (α := (Tup (Tup (Tup Str)))) (i := 2) rfl))) (fun x hx => (ed_call (α := Int) (ea_cons (α := Sh) (ed_var (α := Sh) (i := 1) rfl) (ea_cons (α := (Tup (Tup Str))) (ed_var (α := (Tup (Tup Str))) (i := 8) rfl) (ea_cons (α := (Tup (Tup Str))) (ed_var (α := (Tup (Tup Str))) (i := 9) rfl) ea_nil))) ⟨_, _, _, rfl, ?q1, rfl⟩)))))) (ED.er (K := K) (ed_var (α := Int) (i := 5) rfl)))) ?q2 ?_
    case q1 => exact ⟨N.few, Nat.lt_of_le_of_lt (B.dr x hx).len (by decide), N.ok, (B.dr x hx).ok⟩
    case q2 =>
      refine decide_eq_false fun z => z ?_
      have e : (vs.items.map fun x => mFarOf v x) = vs.items.map fun u => mFarOf u v := List.map_congr_left fun u _ => far_comm v u
      show (vs.items.map fun x => mFarOf v x).sum = _
      rw [e, N.sum B]
    refine es_never1 (et_test (ed_op (α := Bool) (β := Bool) (γ := Bool) (ed_call (α := Bool) (ea_cons (α := Sh) (ed_var (α := Sh) (i := 1) rfl) (ea_cons (α := (Tup (Tup (Tup Str)))) (ed_var (α := (Tup (Tup (Tup Str)))) (i := 2) rfl) (ea_cons (α := (Int × (Tup (Tup Str)))) (ed_pair (α := Int) (β := (Tup (Tup Str))) (ed_var (α := Int) (i := 5) rfl) (ed_var (α := (Tup (Tup Str))) (i := 8) rfl)) ea_nil))) ⟨_, _, _, rfl, ?q3, rfl⟩) (ed_bl (b := true)) rd_notB)) ?q4 ?_
    case q3 => exact ⟨B.wf, N.few⟩
    case q4 => rw [N.shows B]; rfl
    refine es_never1 (et_test (ed_op (α := Bool) (β := Bool) (γ := Bool) (ed_call (α := Bool) (ea_cons (α := Sh) (ed_var (α := Sh) (i := 1) rfl) (ea_cons (α := (Tup (Tup (Tup Str)))) (ed_var (α := (Tup (Tup (Tup Str)))) (i := 2) rfl) (ea_cons (α := (Int × (Tup (Tup Str)))) (ed_pair (α := Int) (β := (Tup (Tup Str))) (ed_op (α := Int) (β := Int) (γ := Int) (ed_var (α := Int) (i := 5) rfl) (ed_int (i := 1)) rd_add) (ed_var (α := (Tup (Tup Str))) (i := 8) rfl)) ea_nil))) ⟨_, _, _, rfl, ?q5, rfl⟩) (ed_bl (b := false)) rd_notB)) ?q6 ?_
    case q5 => exact ⟨B.wf, N.few⟩
    case q6 => rw [shows_other (by omega)]; rfl
    have e1 : cutL v.items (some 1) none = v.items.drop 1 := cutL_from (by decide)
    refine es_for (xs := cutL v.items (some 1) none) (enc := fun l => [(10, Rep.toD l)])
      (fun i e' => ∃ x10 x11, e' = [.dat (Rep.toD s.copies), .dat (Rep.toD s), .dat (Rep.toD vs), .dat (Rep.toD sure), .dat (Rep.toD half), .dat (Rep.toD (mLeast s vs)), .dat (Rep.toD (mAllNearest s vs)), .emp, .dat (Rep.toD v), .emp, x10, x11] ∧ isVal (some x10) = true ∧ isVal (some x11) = true)
      (src_tup (α := (Tup Str)) (ED.eu (K := K) (ed_cutU (α := (Tup Str)) (ed_var (α := (Tup (Tup Str))) (i := 8) rfl) (eo_some (ed_int (i := 1))) eo_none))) ⟨x10, x11, rfl, h10, h11⟩ (fun k l e' hk I => ?_) (fun v b hb => ?_) fun e' I => ?_
    · obtain ⟨y10, y11, rfl, g10, g11⟩ := I
      refine ⟨fun b hb => by rw [List.mem_singleton.mp hb]; exact g10, ?_⟩
      refine es_seq (N1 := fun e' => e' = [.dat (Rep.toD s.copies), .dat (Rep.toD s), .dat (Rep.toD vs), .dat (Rep.toD sure), .dat (Rep.toD half), .dat (Rep.toD (mLeast s vs)), .dat (Rep.toD (mAllNearest s vs)), .emp, .dat (Rep.toD v), .emp, .dat (Rep.toD l), .dat (Rep.toD (Tup.mk (v.items.filter fun o => decide (o ≠ l))))]) (((es_set (α := (Tup (Tup Str))) (i := 11) (by decide) (ed_tupL (α := (Tup Str)) (EF.el (pb := true) (ef_filter (src_tup (α := (Tup Str)) (ED.eu (K := K) (ed_var (α := (Tup (Tup Str))) (i := 8) rfl))) (fun x hx => (et_test (ed_ne (ED.er (K := K) (ed_var (α := (Tup Str)) (i := 9) rfl)) (ED.er (K := K) (ed_var (α := (Tup Str)) (i := 10) rfl)))))))))).mono (fun e' p => p.trans rfl) fun _ _ z => z) fun e' p => ?_
      subst p
      refine es_never (et_test (ed_ne (ED.er (K := K) (ed_op (α := Bool) (β := Bool) (γ := Bool) (ed_call (α := Bool) (ea_cons (α := Sh) (ed_var (α := Sh) (i := 1) rfl) (ea_cons (α := (Tup (Tup (Tup Str)))) (ed_var (α := (Tup (Tup (Tup Str)))) (i := 2) rfl) (ea_cons (α := (Int × (Tup (Tup Str)))) (ed_pair (α := Int) (β := (Tup (Tup Str))) (ed_var (α := Int) (i := 5) rfl) (ed_var (α := (Tup (Tup Str))) (i := 11) rfl)) ea_nil))) ⟨_, _, _, rfl, ?q7, rfl⟩) (ed_bl (b := true)) rd_isB)) (ED.er (K := K) (ed_inL (ED.er (K := K) (ed_var (α := (Tup Str)) (i := 10) rfl)) (ED.el (pb := true) (ed_var (α := (List (Tup Str))) (i := 4) rfl)))))) ?q8 ⟨_, _, rfl, rfl, rfl⟩
      case q7 => exact ⟨B.wf, Nat.lt_of_le_of_lt (List.length_filter_le ..) N.few⟩
      case q8 =>
        have hl := B.less hv (x := l) (by rw [← e1]; exact List.mem_of_getElem? hk)
        refine decide_eq_false fun z => z ?_
        show decide (mShows s vs (mLeast s vs, ⟨v.items.filter fun o => decide (o ≠ l)⟩) = true) = decide (l ∈ half)
        rw [hl]
        exact decide_eq_decide.mpr (by rw [decide_eq_true_eq]; exact (hhm l).symm)
    · rw [List.mem_singleton.mp hb]; exact (by decide : (10 : Nat) ≠ 0)
    · obtain ⟨y10, y11, rfl, g10, g11⟩ := I
      exact ⟨_, _, _, rfl, rfl, g10, g11⟩
  · rw [List.mem_singleton.mp hb]; exact (by decide : (8 : Nat) ≠ 0)
end
end PD
end
section
set_option Elab.async false
set_option linter.all false
set_option maxRecDepth 100000
set_option maxHeartbeats 4000000
set_option autoImplicit false
namespace PD
open PySem L2
open PySem.W (Datum Tup)
open C8 (Cal Met Mak fnScope fnBody fnScope_by)
variable [Tabl]

/-! ### an attribute as a target within a tuple of targets -/
section
open PySem.Calls PySem.Spec PyProof.Rows
variable {X : Cx}
def gAtt (K : PySem.W.Frag) (to : TE) (f : Str) : TG := fun v σ H Q => to σ H fun x H1 => ∃ a C dx fs, x = V.ref a ∧ H1 a = some (.ins C dx fs) ∧ Cls K C ∧ NoAttr K C f ∧ fs.length < 1000 ∧ Q σ (upd H1 a (.ins C dx (putF f v fs)))
theorem pg_att {o : Expr} {f : Str} {pos : Pos} {to : TE} (ho : PE X o to) : PG X (.Attribute o f pos) (gAtt X.K to f) := by
  refine ⟨fun pins s σ H v u Q I r h => ?_⟩
  rw [arm_assign_Attribute]
  refine wpAny_bind (wpAny_holding (thn (ho.run pins s σ H _ I h) fun ov s1 ⟨x, H1, I1, rx, a, C, dx, fs, ex, ea, c, n, l, q⟩ => ?_))
  subst ex
  obtain rfl : ov = Value.ref a := rx
  refine wpAny_bind (wpAny_standAt (wpAny_bind (wpAny_holding (setattr_ok I1 ea c n l r fun s2 I2 => ?_))))
  exact wpAny_release ⟨σ, _, I2, q⟩
theorem pe_mk0 {x : Str} {k j : Nat} {C : Addr} {sp : Sp} {dvs : List V} {p pos : Pos} (c : Mak X.prog X.w X.K X.mg X.base k x C sp dvs) (hr : Room j X.A) (hk : k + 1 ≤ j) (hg : Gl X x) (hdb : (x == ("__debug__" : Str)) = false := by decide) :
    PE X (.Call (.Name x p) [] [] pos) (tMake C sp dvs C8.E0 tNil) := by
  obtain ⟨f, fd, ps, ds, M, F, hm, b, d⟩ := c.ex
  exact pe_make0 M F (hr.mono hk) hg hm b d C8.pass0 hdb
end

/-! ### the reader -/
def rdFs (l p : Addr) : List (Str × V) := [("own_copies", V.ref l), ("own_places", V.ref p)]
def RdT (CR : Addr) (cs : List Str) : Thing where
  P h H v S := ∃ a dx l p, v = V.ref a ∧ S = (fun b => b = a ∨ b = l ∨ b = p) ∧ H a = some (.ins CR dx (rdFs l p)) ∧ l ≠ p ∧ H l = some (.lst (cs.map V.str)) ∧ cs.length ≤ 4096 ∧ (∀ x ∈ cs, x.length ≤ 100000) ∧ H p = some (.lst [])
  known := fun ⟨a, dx, l, p, _, e, h1, _, h2, _, _, h3⟩ z => by
    subst e
    rcases z with z | z | z
    · subst z; rw [h1]; intro q; cases q
    · subst z; rw [h2]; intro q; cases q
    · subst z; rw [h3]; intro q; cases q
  move := fun ⟨a, dx, l, p, ev, e, h1, n, h2, hz, ht, h3⟩ x k m => by
    subst e
    exact ⟨a, dx, l, p, ev, rfl, x.keep _ _ (m a (.inl rfl)) h1, n, x.keep _ _ (m l (.inr (.inl rfl))) h2, hz, ht, x.keep _ _ (m p (.inr (.inr rfl))) h3⟩
  sub := fun q _ => q
theorem solo_rd {CR : Addr} {cs : List Str} : Solo (RdT CR cs) := fun _ _ _ _ _ q => q
/-- what the class Reader is -/
structure RdF (K : PySem.W.Frag) (CR : Addr) : Prop where
  cl : Cls K CR
  nc : NoAttr K CR "own_copies"
  np : NoAttr K CR "own_places"
theorem at_strs {C : Addr} {h : Addr → Prop} {H : Hp} : ∀ {cs : List Str}, (∀ x ∈ cs, x.length ≤ 100000) → AtAll C h H (cs.map V.str) (cs.map Rep.toD)
  | [], _ => .nil
  | x :: r, hx => .cons (.str (hx x List.mem_cons_self)) (at_strs fun y hy => hx y (List.mem_cons_of_mem _ hy))
section
variable {C CR : Addr} {K : PySem.W.Frag} {e : List Sl} {te ta tb : TE} {t : TA} {i : Nat} {cs : List Str}
theorem el_rc (F : RdF K CR) (he : e[i]? = some (.own (RdT CR cs))) : EL C true (tFld K (tVar i) "own_copies") e cs := fun W G σ H s Q q => by
  obtain ⟨v, hv, a, dx, l, p, rfl, hF, hA, hlp, hL, hz, ht, hP⟩ := s.own i _ he
  exact ⟨_, hv, a, CR, dx, rdFs l p, V.ref l, rfl, hA, F.cl, F.nc, rfl, q l (cs.map V.str) H (fun z => nomatch z) (Same.refl H) hL (by rw [List.length_map]; exact hz) (at_strs ht)⟩
theorem el_rp (F : RdF K CR) (he : e[i]? = some (.own (RdT CR cs))) : EL C true (tFld K (tVar i) "own_places") e ([] : List Str) := fun W G σ H s Q q => by
  obtain ⟨v, hv, a, dx, l, p, rfl, hF, hA, hlp, hL, hz, ht, hP⟩ := s.own i _ he
  exact ⟨_, hv, a, CR, dx, rdFs l p, V.ref p, rfl, hA, F.cl, F.np, rfl, q p [] H (fun z => nomatch z) (Same.refl H) hP (by show 0 ≤ 4096; omega) .nil⟩
/-- self.own_copies.append(te) -/
theorem eg_rap (F : RdF K CR) {c : Str} (he : e[i]? = some (.own (RdT CR cs))) (h : ED C te e c) (hl : cs.length < 4096) (hc : c.length ≤ 100000) : EG C (tBM K "list" rAppend (tFld K (tVar i) "own_copies") (tCons te tNil)) e fun (_ : Unit) e' => e' = e.set i (.own (RdT CR (cs ++ [c]))) := fun W G σ H s Q q => by
  obtain ⟨v, hv, a, dx, l, p, rfl, hF, hA, hlp, hL, hz, ht, hP⟩ := s.own i _ he
  refine ⟨_, hv, a, CR, dx, rdFs l p, V.ref l, rfl, hA, F.cl, F.nc, rfl, ⟨.inl ⟨rfl, _, SqL.of hL⟩, h W G σ H s _ fun w H2 x t2 => ?_⟩⟩
  obtain ⟨rfl, _⟩ := at_str t2
  have hL2 := x.at _ _ hL
  refine ⟨l, _, V.str c, rfl, rfl, hL2, Nat.lt_of_lt_of_le (by rw [List.length_map]; omega : (cs.map V.str).length < 4096) (by decide), ?_⟩
  have s2 := s.same x
  have la : l ≠ a := fun z => by rw [z, hA] at hL; cases hL
  have pa : p ≠ l := fun z => hlp z.symm
  have xx : Xt (G i) H2 (upd H2 l (.lst (cs.map V.str ++ [V.str c]))) := xt_upd (by rw [hF]; exact .inr (.inl rfl)) hL2 fun _ _ z => nomatch z
  have s3 := s2.put (T' := RdT CR (cs ++ [c])) he hv xx (S' := G i) (fun b z => .inl z) ⟨a, dx, l, p, rfl, hF, by rw [upd_ne la.symm]; exact x.at _ _ hA, hlp, by rw [upd_same, List.map_append]; rfl, by rw [List.length_append]; show cs.length + 1 ≤ 4096; omega, fun y hy => by
    rcases List.mem_append.mp hy with z | z
    · exact ht y z
    · rw [List.mem_singleton.mp z]; exact hc, by rw [upd_ne pa]; exact x.at _ _ hP⟩ (tabs_upd s2.tabs hL2)
  refine q () _ _ _ _ rfl s3 (Xt.trans ((Xt.of x : Xt (fun _ => False) H H2).mono fun _ z => z.elim) (xx.mono fun b z => .inr ⟨i, z⟩)) (fun b z => .inl ?_) .non
  exact (hd_fs b z).elim id fun w => .inr ⟨i, w⟩
/-- a method of the reader, which alone it may change -/
theorem eg_rmeth {m : Str} {α : Type} [Rep α] {G : Thing → List PyData → (PyData → Thing → Prop) → Prop} {ds : List PyData} {P' : α → List Sl → Prop} (he : e[i]? = some (.own (RdT CR cs))) (m1 : (m == ("own_copies" : Str)) = false) (m2 : (m == ("own_places" : Str)) = false) (h : EAi C i t e ds)
    {R : PyData → Thing → Prop} (g : G (RdT CR cs) ds R) (k : ∀ d T', R d T' → Solo T' ∧ ∃ a, d = Rep.toD a ∧ nolist (Rep.toD a) = true ∧ P' a (e.set i (.own T'))) : EG C (tMeth CR m (spO C G) [] C8.E0 (tVar i) t) e P' := fun W F σ H s Q q => by
  obtain ⟨v0, hv0, a0, dx, l, p, rfl, hF, hA, _⟩ := s.own i _ he
  have hlk : (rdFs l p).lookup m = none := by
    unfold rdFs
    simp only [List.lookup, m1, m2]
  refine ⟨_, hv0, a0, dx, rdFs l p, rfl, hA, hlk, h W F σ H s _ fun vs H' x t2 => ?_⟩
  have s' := s.same x
  obtain ⟨v1, hv1, tp⟩ := s'.own i _ he
  rw [hv0] at hv1
  cases hv1
  refine ⟨V.ref a0, vs, F i, F i, RdT CR cs, ds, R, by rw [List.append_nil], fun b z => s'.hdk b (.inr ⟨i, z⟩), s'.tabs, fun b z => z, solo_rd _ _ _ _ _ tp, t2, g, fun v d T' S' H3 r x3 tb k3 t3 a3 => ?_⟩
  obtain ⟨hs', a, rfl, nl, pa⟩ := k d T' r
  have s3 := s'.put he hv0 x3 k3 (hs' _ _ _ _ _ t3) tb
  have kh : ∀ b, Hd W (Fs F i S') b → Hd W F b ∨ H' b = none := hid_put k3
  have xs : Xt (Hd W F) H H' := (Xt.of x : Xt (fun _ => False) H H').mono fun _ z => z.elim
  exact q a _ v _ H3 pa s3 (xs.trans (x3.mono fun b z => .inr ⟨i, z⟩)) (fun b z => (kh b z).imp id fun w => x.free w) (a3.nol nl)
end

/-! ### a text cut -/
abbrev rSplit : V → List V → Hp → VK → Prop := fun x xs H Q => ∃ a b, x = .str a ∧ xs = [.str b] ∧ (b.length == 0) = false ∧ a.length + 2 ≤ sizeLine ∧ rNewStrs (Txt.split a b) H Q
theorem ef_split {C : Addr} {e : List Sl} {ta tb : TE} {a b : Str} (ha : ED C ta e a) (hb : ED C tb e b) (h0 : (b.length == 0) = false) (hz : (Txt.split a b).length ≤ 4096) (hp : ∀ p ∈ Txt.split a b, p.length ≤ 100000) : EF C (tM1 rSplit ta tb) e (Txt.split a b) := fun W F σ H s Q q =>
  ha W F σ H s _ fun v H2 x2 a2 => by
    obtain ⟨rfl, z2⟩ := at_str a2
    refine ⟨⟨a, rfl⟩, hb W F σ H2 (s.same x2) _ fun u H3 x3 a3 => ?_⟩
    obtain ⟨rfl, z3⟩ := at_str a3
    refine ⟨a, b, rfl, rfl, h0, Nat.le_trans (by omega : a.length + 2 ≤ 100002) (by decide), fun p hp' => ?_⟩
    exact q p ((Txt.split a b).map V.str) _ (x2.free (x3.free hp')) ((x2.trans x3).trans (same_new hp')) upd_same (by rw [List.length_map]; exact hz) (at_strs hp)
end PD
end
section
set_option Elab.async false
set_option linter.all false
set_option maxRecDepth 100000
set_option maxHeartbeats 4000000
set_option autoImplicit false
namespace PD
open PySem L2
open PySem.W (Datum Tup)
open C8 (Cal Met Mak fnScope fnBody fnScope_by)
variable [Tabl]

/-! ### the class Reader: takes_copy, takes, found -/
def inC (i k : Nat) : Stmt := (C8.clsBody (top i)).getD k (.Pass ⟨0, 0, 0, 0⟩)
abbrev Go : Type := Thing → List PyData → (PyData → Thing → Prop) → Prop
def G_takes_copy (CR : Addr) : Go := fun T ds R => ∃ (cs : List Str) (c : Str), T = RdT CR cs ∧ ds = [Rep.toD (["copy", c] : List Str)] ∧ (NameOk c ∧ c ∉ cs ∧ cs.length < 12) ∧ R = fun d T' => d = Rep.toD true ∧ T' = RdT CR (cs ++ [c])
def G_takes (CR : Addr) : Go := fun T ds R => ∃ (cs : List Str) (c : Str), T = RdT CR cs ∧ ds = [Rep.toD (lineOfCopy c)] ∧ (NameOk c ∧ c ∉ cs ∧ cs.length < 12) ∧ R = fun d T' => d = Rep.toD true ∧ T' = RdT CR (cs ++ [c])
def G_found (CR : Addr) : Go := fun T ds R => ∃ (cs : List Str), T = RdT CR cs ∧ ds = [] ∧ R = fun d T' => d = Rep.toD ((⟨cs⟩ : Tup Str), (⟨[]⟩ : Tup Str)) ∧ T' = RdT CR cs
abbrev N_takes_copy : List Str := ["self", "words"]
abbrev N_takes : List Str := ["self", "line", "words"]
abbrev N_found : List Str := ["self"]
theorem sc_takes_copy : FnScope N_takes_copy ["self", "words"] (fnScope (inC 23 2)) := fnScope_by (by decide +kernel)
theorem sc_takes : FnScope N_takes ["self", "line"] (fnScope (inC 23 1)) := fnScope_by (by decide +kernel)
theorem sc_found : FnScope N_found ["self"] (fnScope (inC 23 4)) := fnScope_by (by decide +kernel)
section
variable {P : Program} {w : World} {K : PySem.W.Frag} {mg : Str → Option Value} {base : Heap} {C CR : Addr}
def t_takes_copy (C : Addr) (K : PySem.W.Frag) : TS :=
  tSeq (tIfS (tOr (tTest (tOp (rEqP K true) (tCB (rLenQ K) (tCons (tVar 1) tNil)) (tC (.int 2)))) (tOr (tTest (tOp (rEqP K true) (tFld K (tVar 0) "own_places") (tLst tNil))) (tTest (tOp (rEqP K false) (tCB (rLenQ K) (tCons (tFld K (tVar 0) "own_copies") tNil)) (tC (.int 12)))))) (tRet (tC (.bl false))) tNext)
  (tSeq (tIfS (tOr (tNot (tB (tCall (spD C G_is_name) [] C8.E0 (tCons (tOp (rIxL K) (tVar 1) (tC (.int 1))) tNil)))) (tTest (tOp (rInP K false) (tOp (rIxL K) (tVar 1) (tC (.int 1))) (tFld K (tVar 0) "own_copies")))) (tRet (tC (.bl false))) tNext)
  (tSeq (tDrop (tBM K "list" rAppend (tFld K (tVar 0) "own_copies") (tCons (tOp (rIxL K) (tVar 1) (tC (.int 1))) tNil))) (tRet (tC (.bl true)))))
theorem p_takes_copy {cdv : Value} {A : Around} {outer : List Env} {s : Shared} {H : Hp} {E : XK} {f : Addr} (M : Mg mg) (c_is_name : Cal P w K mg base 2 "is_name" (spD C G_is_name) []) (hr : Room 2 (A.deeper (PyProof.Rows.envOfC "Reader.takes_copy" (fnScope (inC 23 2)) s.heap.objs.size f cdv))) :
    PSs (cxOf C8.CX0 P w K mg base N_takes_copy "Reader.takes_copy" (fnScope (inC 23 2)) f cdv A outer s H E).nox (fnBody (inC 23 2)) (t_takes_copy C K) :=
  have nd := sc_takes_copy.nd
  pss_cons (ps_if (pw_or (pt_cmpR (op_neP hr.units) (pe_callB call_len_seq (by rfl) M.b_len bb_len (pa_cons (pv 1) pa_nil)) pe_int (nomark _)) (pw_or (pt_cmpR (op_neP hr.units) (pe_fld (pv 0) (by rfl)) (pe_lst pa_nil) (nomark _)) (pw_or1 (pt_cmpR (op_eqP hr.units) (pe_callB call_len_seq (by rfl) M.b_len bb_len (pa_cons (pe_fld (pv 0) (by rfl)) pa_nil)) (pe_gI (by rfl) M.k_MOST_COPIES) (nomark _))))).pt (pss_one (ps_ret pe_bl)) pss_nil)
  (pss_cons (ps_if (pw_or (pt_not (pt_val (C8.pe_c c_is_name hr (by decide) (by rfl) (pa_cons (pe_ix ix_list (pv 1) pe_int (by intro _ _; rfl)) pa_nil)))) (pw_or1 (pt_cmpR (op_inP hr.units) (pe_ix ix_list (pv 1) pe_int (by intro _ _; rfl)) (pe_fld (pv 0) (by rfl)) (by rfl)))).pt (pss_one (ps_ret pe_bl)) pss_nil)
  (pss_cons (ps_expr (pe_bm PySem.F.plainAttrs_list PySem.F.slot_list_append PySem.F.type_list_append mt_append (pe_fld (pv 0) (by rfl)) (pa_cons (pe_ix ix_list (pv 1) pe_int (by intro _ _; rfl)) pa_nil))) (pss_one (ps_ret pe_bl))))
theorem es_takes_copy (F : RdF K CR) {T : Thing} {ds : List PyData} {R : PyData → Thing → Prop} (h : G_takes_copy CR T ds R) :
    ES C (t_takes_copy C K) (startO N_takes_copy T ds) (fun e' => ∃ T', e'[0]? = some (.own T') ∧ R .none T') fun d e' => ∃ T', e'[0]? = some (.own T') ∧ R d T' := by
  obtain ⟨cs, c, rfl, rfl, ⟨hn, hc, hl⟩, rfl⟩ := h
  show ES C (t_takes_copy C K) [.own (RdT CR cs), .dat (Rep.toD (["copy", c] : List Str))] _ _
  have ew : ED C (tVar 1) [.own (RdT CR cs), .dat (Rep.toD (["copy", c] : List Str))] (["copy", c] : List Str) := ed_var (α := List Str) (i := 1) rfl
  have e1 : ED C (tOp (rIxL K) (tVar 1) (tC (.int 1))) [.own (RdT CR cs), .dat (Rep.toD (["copy", c] : List Str))] c := ed_ixL (α := Str) (ED.el (pb := true) ew) (ed_int (i := 1)) rfl
  refine es_never1 (et_or (et_test (ed_ne (ED.er (K := K) (ed_len_l (K := K) (ED.el (pb := true) ew))) (ED.er (K := K) (ed_int (i := 2))))) fun _ => et_or (et_test (ed_ne (EL.er (K := K) (el_rp F rfl)) (EL.er (K := K) (EF.el (pb := true) (ef_lst (α := Str) (as := []) ea_nil (by decide)))))) fun _ => et_test (ed_eq (ED.er (K := K) (ed_len_l (K := K) (el_rc F rfl))) (ED.er (K := K) (ed_int (i := 12))))) ?_ ?_
  · rw [Bool.or_eq_false_iff, Bool.or_eq_false_iff]
    exact ⟨decide_eq_false fun z => z rfl, decide_eq_false fun z => z rfl, decide_eq_false (by omega)⟩
  refine es_never1 (et_or (et_not (et_B (ed_call (α := Bool) (ea_cons (α := Str) e1 ea_nil) ⟨_, rfl, hn, rfl⟩))) fun _ => et_test (ed_inL (ED.er (K := K) e1) (el_rc F rfl))) ?_ ?_
  · rw [Bool.or_eq_false_iff]
    exact ⟨rfl, decide_eq_false hc⟩
  refine es_seq (N1 := fun e' => e' = [.own (RdT CR (cs ++ [c])), .dat (Rep.toD (["copy", c] : List Str))]) (es_dropG (eg_rap F rfl e1 (by omega) (Nat.le_trans hn.most (by decide))) fun _ e' p => p.trans rfl) fun e' p => ?_
  subst p
  exact es_ret (α := Bool) (ed_bl (b := true)) ⟨_, rfl, rfl, rfl⟩
end
end PD
end
section
set_option Elab.async false
set_option linter.all false
set_option maxRecDepth 100000
set_option maxHeartbeats 4000000
set_option autoImplicit false
namespace PD
open PySem L2
open PySem.W (Datum Tup)
open C8 (Cal Met Mak fnScope fnBody fnScope_by)
variable [Tabl]

/-! ### lines, words -/
theorem no_sign {c : Str} (h : NameOk c) {k : Nat} (hk : k ∉ letters.cps.toList) (hf : k ∉ figures.cps.toList) : k ∉ TL.tl c := fun z => (h.each k z).elim hk hf
theorem split_line {c : Str} (h : NameOk c) : Txt.split (lineOfCopy c) " " = (["copy", c] : List Str) := by
  have e : lineOfCopy c = Txt.join " " (["copy", c] : List Str) := by
    rw [TL.join_eq]
    refine TL.ext_tl ?_
    rw [TL.tl_join]
    unfold lineOfCopy
    rw [TL.tl_append]
    have e1 : TL.tl "copy " = TL.tl "copy" ++ TL.tl " " := by decide +kernel
    rw [e1, List.append_assoc]
    rfl
  rw [e]
  refine TL.split_join (s := 32) (S := []) (by decide +kernel) (by decide +kernel) (by simp) fun p hp => ?_
  rcases List.mem_cons.mp hp with z | z
  · rw [z]; decide +kernel
  · rw [List.mem_singleton.mp z]
    exact no_sign h (by decide +kernel) (by decide +kernel)
theorem split_text {c : Lot} (hne : c.items ≠ []) (h : ∀ x ∈ c.items, NameOk x) : Txt.split (textOf c) "\n" = c.items.map lineOfCopy := by
  unfold textOf
  refine TL.split_join (s := 10) (S := []) (by decide +kernel) (by decide +kernel) (by simpa using hne) fun p hp => ?_
  obtain ⟨x, hx, rfl⟩ := List.mem_map.mp hp
  unfold lineOfCopy
  rw [TL.tl_append]
  intro z
  rcases List.mem_append.mp z with z | z
  · exact absurd z (by decide +kernel)
  · exact no_sign (h x hx) (by decide +kernel) (by decide +kernel) z
section
variable {P : Program} {w : World} {K : PySem.W.Frag} {mg : Str → Option Value} {base : Heap} {C CR : Addr}
def t_takes (C CR : Addr) (K : PySem.W.Frag) : TS :=
  tSeq (tAsg (tM1 rSplit (tVar 1) (tC (.str " "))) (gName 2)) (tSeq (tIfS (tTest (tOp (rEqP K false) (tOp (rIxL K) (tVar 2) (tC (.int 0))) (tC (.str "copy")))) (tRet (tMeth CR "takes_copy" (spO C (G_takes_copy CR)) [] C8.E0 (tVar 0) (tCons (tVar 2) tNil))) tNext) tNever)
theorem p_takes {cdv : Value} {A : Around} {outer : List Env} {s : Shared} {H : Hp} {E : XK} {f : Addr} (M : Mg mg) (m_copy : Met P w K mg base 3 CR "takes_copy" (spO C (G_takes_copy CR)) []) (hr : Room 3 (A.deeper (PyProof.Rows.envOfC "Reader.takes" (fnScope (inC 23 1)) s.heap.objs.size f cdv))) :
    PSs (cxOf C8.CX0 P w K mg base N_takes "Reader.takes" (fnScope (inC 23 1)) f cdv A outer s H E).nox (fnBody (inC 23 1)) (t_takes C CR K) :=
  have nd := sc_takes.nd
  pss_cons (ps_set (i := 2) nd rfl (by first | exact Or.inl rfl | exact Or.inr rfl) (pe_split (pv 1) pe_str))
  (pss_cons (ps_if (pt_cmpR (op_eqP hr.units) (pe_ix ix_list (pv 2) pe_int (by intro _ _; rfl)) (pe_gS (by rfl) M.k_COPY) (nomark _)) (pss_one (ps_ret (C8.pe_mt m_copy hr (by decide) (pv 0) (pa_cons (pv 2) pa_nil)))) pss_nil)
  (pss_one ps_never))
theorem es_takes {T : Thing} {ds : List PyData} {R : PyData → Thing → Prop} (h : G_takes CR T ds R) :
    ES C (t_takes C CR K) (startO N_takes T ds) (fun e' => ∃ T', e'[0]? = some (.own T') ∧ R .none T') fun d e' => ∃ T', e'[0]? = some (.own T') ∧ R d T' := by
  obtain ⟨cs, c, rfl, rfl, ⟨hn, hc, hl⟩, rfl⟩ := h
  show ES C (t_takes C CR K) [.own (RdT CR cs), .dat (Rep.toD (lineOfCopy c)), .emp] _ _
  have hw := split_line hn
  have hlen : ∀ p ∈ (["copy", c] : List Str), p.length ≤ 100000 := fun p hp => by
    rcases List.mem_cons.mp hp with z | z
    · rw [z]; decide +kernel
    · rw [List.mem_singleton.mp z]
      exact Nat.le_trans hn.most (by decide)
  refine es_seq (N1 := fun e' => e' = [.own (RdT CR cs), .dat (Rep.toD (lineOfCopy c)), .own (LstT C ((["copy", c] : List Str).map Rep.toD))]) ((es_setF (α := Str) (i := 2) (by decide) (ef_split (ed_var (α := Str) (i := 1) rfl) (ed_str (x := " ") (by decide +kernel)) (by decide +kernel) (by rw [hw]; show 2 ≤ 4096; decide) (by rw [hw]; exact hlen))).mono (fun e' p => by rw [p, hw]; rfl) fun _ _ z => z) fun e' p => ?_
  subst p
  refine es_guard (et_test (ed_eq (ED.er (K := K) (ed_ixL (α := Str) (a := "copy") (el_own (α := Str) (as := ["copy", c]) (i := 2) rfl) (ed_int (i := 0)) rfl)) (ED.er (K := K) (ed_str (x := "copy") (by decide +kernel))))) (fun _ => ?_) fun z => absurd z (by simp)
  refine es_retG (α := Bool) (eg_rmeth (cs := cs) rfl (by decide +kernel) (by decide +kernel) (eai_own (i := 0) (j := 2) (by decide) rfl (EA.eai ea_nil)) ⟨cs, c, rfl, rfl, ⟨hn, hc, hl⟩, rfl⟩ fun d T' z => ?_) (P := fun a e' => a = true ∧ e'[0]? = some (.own (RdT CR (cs ++ [c])))) fun a e' p => ?_
  · obtain ⟨rfl, rfl⟩ := z
    exact ⟨solo_rd, true, rfl, rfl, rfl, rfl⟩
  · obtain ⟨rfl, p⟩ := p
    exact ⟨_, p, rfl, rfl⟩
def t_found (C CR : Addr) (K : PySem.W.Frag) : TS := tRet (tTupF (tCons (tCB (rTupF K) (tCons (tFld K (tVar 0) "own_copies") tNil)) (tCons (tCB (rTupF K) (tCons (tFld K (tVar 0) "own_places") tNil)) tNil)))
theorem p_found {cdv : Value} {A : Around} {outer : List Env} {s : Shared} {H : Hp} {E : XK} {f : Addr} (M : Mg mg) (hr : Room 1 (A.deeper (PyProof.Rows.envOfC "Reader.found" (fnScope (inC 23 4)) s.heap.objs.size f cdv))) :
    PSs (cxOf C8.CX0 P w K mg base N_found "Reader.found" (fnScope (inC 23 4)) f cdv A outer s H E).nox (fnBody (inC 23 4)) (t_found C CR K) :=
  have nd := sc_found.nd
  pss_one (ps_ret (pe_tupF (pa_cons (pe_callTy cr_tupF (by rfl) M.b_tuple bb_tuple (pa_cons (pe_fld (pv 0) (by rfl)) pa_nil)) (pa_cons (pe_callTy cr_tupF (by rfl) M.b_tuple bb_tuple (pa_cons (pe_fld (pv 0) (by rfl)) pa_nil)) pa_nil))))
theorem es_found (F : RdF K CR) {T : Thing} {ds : List PyData} {R : PyData → Thing → Prop} (h : G_found CR T ds R) :
    ES C (t_found C CR K) (startO N_found T ds) (fun e' => ∃ T', e'[0]? = some (.own T') ∧ R .none T') fun d e' => ∃ T', e'[0]? = some (.own T') ∧ R d T' := by
  obtain ⟨cs, rfl, rfl, rfl⟩ := h
  show ES C (t_found C CR K) [.own (RdT CR cs)] _ _
  exact es_ret (α := Lot × Lot) (ed_pair (α := Lot) (β := Lot) (ed_tupL (α := Str) (el_rc F rfl)) (ed_tupL (α := Str) (el_rp F rfl))) ⟨_, rfl, rfl, rfl⟩
end
end PD
end
section
set_option Elab.async false
set_option linter.all false
set_option maxRecDepth 100000
set_option maxHeartbeats 4000000
set_option autoImplicit false
namespace PD
open PySem L2
open PySem.W (Datum Tup)
open C8 (Cal Met Mak fnScope fnBody fnScope_by)
variable [Tabl]

/-! ### Reader() -/
def spRI (CR : Addr) : Sp := fun vs H Q _ => ∃ x dx, vs = [V.ref x] ∧ H x = some (.ins CR dx []) ∧ ∀ l p H2, H l = none → H p = none → l ≠ p → H2 x = some (.ins CR dx (rdFs l p)) → H2 l = some (.lst []) → H2 p = some (.lst []) →
  (∀ a, a ≠ x → a ≠ l → a ≠ p → H2 a = H a) → Q .non H2
abbrev N_rinit : List Str := ["self"]
theorem sc_rinit : FnScope N_rinit ["self"] (fnScope (inC 23 0)) := fnScope_by (by decide +kernel)
section
variable {P : Program} {w : World} {K : PySem.W.Frag} {mg : Str → Option Value} {base : Heap} {C CR : Addr}
def t_rinit (K : PySem.W.Frag) : TS := tSeq (sFld K (tVar 0) (tLst tNil) "own_copies") (sFld K (tVar 0) (tLst tNil) "own_places")
theorem p_rinit {cdv : Value} {A : Around} {outer : List Env} {s : Shared} {H : Hp} {E : XK} {f : Addr} :
    PSs (cxOf C8.CX0 P w K mg base N_rinit "Reader.__init__" (fnScope (inC 23 0)) f cdv A outer s H E).nox (fnBody (inC 23 0)) (t_rinit K) :=
  have nd := sc_rinit.nd
  pss_cons (ps_fld (pv 0) (pe_lst pa_nil) (by rfl)) (pss_one (ps_fld (pv 0) (pe_lst pa_nil) (by rfl)))
theorem pure_rinit (F : RdF K CR) (vs : List V) (H : Hp) (Q : VK) (E : XK) (h : spRI CR vs H Q E) : t_rinit K { nx := fun _ H' => Q .non H', rt := Q } (L2.start N_rinit vs) H := by
  obtain ⟨x, dx, rfl, hx, q⟩ := h
  refine ⟨by show 0 ≤ sizeLine; omega, fun l hl => ⟨V.ref x, rfl, x, CR, dx, [], rfl, by rw [upd_ne (ne_of_none hx hl)]; exact hx, F.cl, F.nc, by show 0 < 1000; omega, ?_⟩⟩
  refine ⟨by show 0 ≤ sizeLine; omega, fun p hp => ?_⟩
  have hlx : l ≠ x := fun z => by rw [z, hx] at hl; cases hl
  have hpx : p ≠ x := fun z => by rw [z, upd_same] at hp; cases hp
  have hpl : p ≠ l := fun z => by rw [upd_ne hpx, z, upd_same] at hp; cases hp
  refine ⟨V.ref x, rfl, x, CR, dx, _, rfl, by rw [upd_ne hpx.symm, upd_same], F.cl, F.np, by show 1 < 1000; omega, ?_⟩
  refine q l p _ hl (by rw [upd_ne hpx, upd_ne hpl] at hp; exact hp) hpl.symm (by rw [upd_same]; rfl) ?_ ?_ fun a h1 h2 h3 => ?_
  · rw [upd_ne hlx, upd_ne hpl.symm, upd_ne hlx, upd_same]
  · rw [upd_ne hpx, upd_same]
  · rw [upd_ne h1, upd_ne h3, upd_ne h1, upd_ne h2]
theorem eh_reader {e : List Sl} : EH C (tMake CR (spRI CR) [] C8.E0 tNil) e (RdT CR []) := fun W F σ H s Q q => by
  refine fun x dx hx hd hne => ?_
  refine ⟨x, dx, rfl, upd_same, fun l p H2 hl hp hlp h1 h2 h3 h4 => ⟨rfl, ?_⟩⟩
  have old : ∀ {a : Addr}, upd (upd H dx (.own x)) x (.ins CR dx []) a = none → H a = none := fun {a} z => by
    by_cases e1 : a = x
    · rw [e1]; exact hx
    · rw [upd_ne e1] at z
      by_cases e2 : a = dx
      · rw [e2]; exact hd
      · rw [upd_ne e2] at z; exact z
  have hl' := old hl
  have hp' := old hp
  refine q _ H2 (fun b => b = x ∨ b = l ∨ b = p) (fun a z => ?_) (.of fun b u e => ?_) ⟨x, dx, l, p, rfl, rfl, h1, hlp, h2, by show 0 ≤ 4096; omega, (fun y hy => nomatch hy), h3⟩
  · rcases z with z | z | z
    · rw [z]; exact hx
    · rw [z]; exact hl'
    · rw [z]; exact hp'
  · rw [h4 b (ne_of_none e hx) (ne_of_none e hl') (ne_of_none e hp'), upd_ne (ne_of_none e hx), upd_ne (ne_of_none e hd)]
    exact e
end

/-! ### Shelf(text) -/
/-- an instance of C with these attributes, all of them texts or tuples of texts -/
def InT (C : Addr) (fs : List (Str × PyData)) : Thing where
  P h H v S := ∃ a dx vs, v = V.ref a ∧ S = (fun b => b = a) ∧ H a = some (.ins C dx ((fs.map (·.1)).zip vs)) ∧ AtAll C (fun _ => False) H vs (fs.map (·.2)) ∧ nolist.nolistAll (fs.map (·.2)) = true
  known := fun ⟨a, dx, vs, _, e, h1, _⟩ z => by subst e; cases z; rw [h1]; intro q; cases q
  move := fun {h m H H' v S} ⟨a, dx, vs, ev, e, h1, t, nl⟩ x k n => by
    subst e
    exact ⟨a, dx, vs, ev, rfl, x.keep _ _ (n a rfl) h1, ((t.nol (h' := h) nl).mono x k).nol nl, nl⟩
  sub := fun q _ => q
def noPl : Tup (Str × Tup Int) := ⟨[]⟩
def shFs (x : Str) (c : Lot) : List (Str × PyData) := [("own_text", Rep.toD x), ("own_copies", Rep.toD c), ("own_places", Rep.toD noPl)]
structure ShF (K : PySem.W.Frag) (C : Addr) : Prop where
  cl : Cls K C
  nt : NoAttr K C "own_text"
  nc : NoAttr K C "own_copies"
  np : NoAttr K C "own_places"
/-- copies that a shelf takes -/
structure CopOk (c : Lot) : Prop where
  ne : c.items ≠ []
  few : c.items.length ≤ 12
  nd : c.items.Nodup
  ok : ∀ x ∈ c.items, NameOk x
def G_sinit (C : Addr) : Go := fun T ds R => ∃ c : Lot, T = InT C [] ∧ ds = [Rep.toD (textOf c)] ∧ CopOk c ∧ R = fun d T' => d = .none ∧ T' = InT C (shFs (textOf c) c)
abbrev N_sinit : List Str := ["self", "text", "reader", "number", "line"]
theorem sc_sinit : FnScope N_sinit ["self", "text"] (fnScope (inC 24 0)) := fnScope_by (by decide +kernel)
section
variable {P : Program} {w : World} {K : PySem.W.Frag} {mg : Str → Option Value} {base : Heap} {C CR : Addr}
def t_sinit (C CR : Addr) (K : PySem.W.Frag) : TS :=
  tSeq (tIfS (tNot (tB (tCB (rIsi K) (tCons (tVar 1) (tCons (tC (.ty "str")) tNil))))) tNever tNext)
  (tSeq (tAsg (tMake CR (spRI CR) [] C8.E0 tNil) (gName 2))
  (tSeq (tFor (iEnum K (tCons (tM1 rSplit (tVar 1) (tC (.str "\n"))) tNil)) (gTup K 2 (gCons (gName 3) (gCons (gName 4) gNil))) (tIfS (tNot (tB (tMeth CR "takes" (spO C (G_takes CR)) [] C8.E0 (tVar 2) (tCons (tVar 4) tNil)))) tNever tNext))
  (tSeq (sFld K (tVar 0) (tVar 1) "own_text")
  (tAsg (tMeth CR "found" (spO C (G_found CR)) [] C8.E0 (tVar 2) tNil) (gTup K 2 (gCons (gAtt K (tVar 0) "own_copies") (gCons (gAtt K (tVar 0) "own_places") gNil)))))))
theorem p_sinit {cdv : Value} {A : Around} {outer : List Env} {s : Shared} {H : Hp} {E : XK} {f : Addr} (M : Mg mg) (mk : Mak P w K mg base 2 "Reader" CR (spRI CR) []) (m_takes : Met P w K mg base 4 CR "takes" (spO C (G_takes CR)) []) (m_found : Met P w K mg base 2 CR "found" (spO C (G_found CR)) [])
    (hr : Room 5 (A.deeper (PyProof.Rows.envOfC "Shelf.__init__" (fnScope (inC 24 0)) s.heap.objs.size f cdv))) :
    PSs (cxOf C8.CX0 P w K mg base N_sinit "Shelf.__init__" (fnScope (inC 24 0)) f cdv A outer s H E).nox (fnBody (inC 24 0)) (t_sinit C CR K) :=
  have nd := sc_sinit.nd
  pss_cons (ps_if (pt_not (pt_val (pe_callB call_isi (by rfl) M.b_isinstance bb_isinstance (pa_cons (pv 1) (pa_cons (pe_bltn (by rfl) M.b_str bb_str (by rfl)) pa_nil))))) (pss_one ps_never) pss_nil)
  (pss_cons (ps_set (i := 2) nd rfl (by first | exact Or.inl rfl | exact Or.inr rfl) (pe_mk0 mk hr (by decide) (by rfl)))
  (pss_cons (ps_for PassesOwn.never (by rfl) (pi_enum (by rfl) M.b_enumerate (pa_cons (pe_split (pv 1) pe_str) pa_nil)) (pg_pair2 (i := 3) (j := 4) (by rfl) nd rfl rfl (by first | exact Or.inl rfl | exact Or.inr rfl) (by first | exact Or.inl rfl | exact Or.inr rfl))
    (pss_one (ps_if (pt_not (pt_val (C8.pe_mt m_takes hr (by decide) (pv 2) (pa_cons (pv 4) pa_nil)))) (pss_one ps_never) pss_nil)))
  (pss_cons (ps_fld (pv 0) (pv 1) (by rfl))
  (pss_one (ps_asg (C8.pe_mt0 m_found hr (by decide) (pv 2)) (pg_tup rfl (pgs_cons (pg_att (pv 0)) (pgs_cons (pg_att (pv 0)) pgs_nil))) (by rfl) (by kernel_rfl))))))
theorem at_pr {h : Addr → Prop} {H : Hp} {v : V} {a b : Lot} (q : At C h H v (Rep.toD (a, b))) : ∃ p vs, v = V.ref p ∧ TupA H p vs ∧ vs.length ≤ 4096 ∧ AtAll C h H vs [Rep.toD a, Rep.toD b] := by
  have q' : At C h H v (.tuple [Rep.toD a, Rep.toD b]) := q
  cases q' with
  | tup e z t => exact ⟨_, _, rfl, e, z, t⟩
theorem egt_not {e : List Sl} {tt : TT} {P1 : Bool → List Sl → Prop} (h : EGT C tt e P1) : EGT C (tNot tt) e fun b e' => P1 (!b) e' := fun W F σ H s Q q => h W F σ H s _ fun b e' F' H' p s' x k => q (!b) e' F' H' (by show P1 (!!b) e'; rw [Bool.not_not]; exact p) s' x k
theorem es_text {e : List Sl} {x : Str} {R : PyData → List Sl → Prop} (F : ShF K C) (h0 : e[0]? = some (.own (InT C []))) (h1 : e[1]? = some (.dat (Rep.toD x))) : ES C (sFld K (tVar 0) (tVar 1) "own_text") e (fun e' => e' = e.set 0 (.own (InT C [("own_text", Rep.toD x)]))) R := fun W G σ H s D qn qr => by
  obtain ⟨v1, hv1, a1⟩ := s.dat 1 _ h1
  obtain ⟨rfl, hz⟩ := at_str a1
  obtain ⟨v0, hv0, a, dx, vs, rfl, hF, hA, t, nl⟩ := s.own 0 _ h0
  cases t
  have hA' : H a = some (.ins C dx []) := hA
  refine ⟨_, hv1, _, hv0, a, C, dx, _, rfl, hA', F.cl, F.nt, by show 0 < 1000; omega, ?_⟩
  exact qn _ _ _ _ rfl (s.put h0 hv0 (xt_upd (by rw [hF]) hA' fun _ _ z => nomatch z) (S' := G 0) (fun b z => .inl z) ⟨a, dx, [V.str x], rfl, hF, upd_same, .cons (.str hz) .nil, rfl⟩ (tabs_upd s.tabs hA'))
theorem es_found2 {e : List Sl} {x : Str} {c : Lot} {R : PyData → List Sl → Prop} (F : ShF K C) (h0 : e[0]? = some (.own (InT C [("own_text", Rep.toD x)]))) (h2 : e[2]? = some (.own (RdT CR c.items))) :
    ES C (tAsg (tMeth CR "found" (spO C (G_found CR)) [] C8.E0 (tVar 2) tNil) (gTup K 2 (gCons (gAtt K (tVar 0) "own_copies") (gCons (gAtt K (tVar 0) "own_places") gNil)))) e (fun e' => e'[0]? = some (.own (InT C (shFs x c)))) R := fun W G σ H s D qn qr => by
  refine (eg_rmeth (α := Lot × Lot) (P' := fun a e' => a = (⟨c.items⟩, ⟨[]⟩) ∧ e' = e.set 2 (.own (RdT CR c.items))) h2 (by decide +kernel) (by decide +kernel) (EA.eai ea_nil) (R := fun d T' => d = Rep.toD ((⟨c.items⟩ : Tup Str), (⟨[]⟩ : Tup Str)) ∧ T' = RdT CR c.items) ⟨c.items, rfl, rfl, rfl⟩ fun d T' z => ?_) W G σ H s _ fun p e' v G' H' pe s' xx kk at_ => ?_
  · obtain ⟨rfl, rfl⟩ := z
    exact ⟨solo_rd, _, rfl, noL _, rfl, rfl⟩
  obtain ⟨rfl, rfl⟩ := pe
  obtain ⟨tp, vs, rfl, t1, t2, t3⟩ := at_pr at_
  have h0' : (e.set 2 (.own (RdT CR c.items)))[0]? = some (.own (InT C [("own_text", Rep.toD x)])) := by rw [List.getElem?_set_ne (by decide)]; exact h0
  obtain ⟨v0, hv0, a, dx, vs0, rfl, hF, hA, t, nl⟩ := s'.own 0 _ h0'
  cases t3 with
  | cons r1 r2 =>
    cases r2 with
    | cons r2 r3 =>
      cases r3
      rename_i vc vp
      cases t with
      | cons q1 q2 =>
        cases q2
        rename_i vt
        have hA' : H' a = some (.ins C dx [("own_text", vt)]) := hA
        refine ⟨tp, [vc, vp], rfl, t1.sq, rfl, vc, [vp], rfl, _, hv0, a, C, dx, _, rfl, hA', F.cl, F.nc, by show 1 < 1000; omega, vp, [], rfl, _, hv0, a, C, dx, _, rfl, upd_same, F.cl, F.np, by show 2 < 1000; omega, rfl, ?_⟩
        have e1 : ∀ o1 o2 : HO, upd (upd H' a o1) a o2 = upd H' a o2 := fun o1 o2 => funext fun b => by
          by_cases z : b = a
          · rw [z, upd_same, upd_same]
          · rw [upd_ne z, upd_ne z, upd_ne z]
        rw [e1]
        have xt : Xt (G' 0) H' (upd H' a (.ins C dx [("own_text", vt), ("own_copies", vc), ("own_places", vp)])) := xt_upd (by rw [hF]) hA' fun _ _ z => nomatch z
        have nlc : nolist (Rep.toD c) = true := noL c
        have epf : putF "own_places" vp (putF "own_copies" vc [(("own_text" : Str), vt)]) = ([("own_text", vt), ("own_copies", vc), ("own_places", vp)] : List (Str × V)) := by rfl
        rw [epf]
        refine qn _ _ _ _ ?_ (s'.put (T' := InT C (shFs x c)) h0' hv0 xt (S' := G' 0) (fun b z => .inl z) ⟨a, dx, [vt, vc, vp], rfl, hF, upd_same, .cons ?_ (.cons ?_ (.cons ?_ .nil)), ?_⟩ (tabs_upd s'.tabs hA'))
        · exact List.getElem?_set_self (List.getElem?_eq_some_iff.mp h0').1
        · have q1' : At C (fun _ => False) H' vt (Rep.toD x) := q1
          exact (q1'.nol (h' := G' 0) rfl).mono xt (fun _ z => z) |>.nol rfl
        · have r1' : At C (Hd W G') H' vc (Rep.toD c) := r1
          exact ((r1'.nol (h' := G' 0) nlc).mono xt (fun _ z => z)).nol nlc
        · have r2' : At C (Hd W G') H' vp (Rep.toD noPl) := r2
          exact ((r2'.nol (h' := G' 0) rfl).mono xt (fun _ z => z)).nol rfl
        · show (nolist (Rep.toD x) && (nolist (Rep.toD c) && (nolist (Rep.toD noPl) && true))) = true
          rw [nlc]
          rfl
theorem es_sinit (F : ShF K C) {T : Thing} {ds : List PyData} {R : PyData → Thing → Prop} (h : G_sinit C T ds R) :
    ES C (t_sinit C CR K) (startO N_sinit T ds) (fun e' => ∃ T', e'[0]? = some (.own T') ∧ R .none T') fun d e' => ∃ T', e'[0]? = some (.own T') ∧ R d T' := by
  obtain ⟨c, rfl, rfl, ok, rfl⟩ := h
  show ES C (t_sinit C CR K) [.own (InT C []), .dat (Rep.toD (textOf c)), .emp, .emp, .emp] _ _
  refine es_never1 (et_not (et_B (ed_isi (α := Str) (b := true) (ed_var (α := Str) (i := 1) rfl) rfl (kit_ty (by decide +kernel))))) rfl ?_
  refine es_seq1 (es_setH (i := 2) (by decide) eh_reader) ?_
  have hsp := split_text ok.ne ok.ok
  have hlen : (c.items.map lineOfCopy).length ≤ 4096 := by rw [List.length_map]; exact Nat.le_trans ok.few (by decide)
  refine es_seq (N1 := fun e' => ∃ x3 x4, e' = [.own (InT C []), .dat (Rep.toD (textOf c)), .own (RdT CR c.items), x3, x4]) (es_for (xs := nums (Txt.split (textOf c) "\n")) (enc := encE 3 4)
    (fun i e' => ∃ x3 x4, e' = [.own (InT C []), .dat (Rep.toD (textOf c)), .own (RdT CR (c.items.take i)), x3, x4] ∧ isVal (some x3) = true ∧ isVal (some x4) = true)
    (src_enumL (EF.el (ef_split (ed_var (α := Str) (i := 1) rfl) (ed_str (x := "\n") (by decide +kernel)) (by decide +kernel) (by rw [hsp]; exact hlen) (by
      rw [hsp]
      intro p hp
      obtain ⟨x, hx, rfl⟩ := List.mem_map.mp hp
      exact Nat.le_trans (line_len (ok.ok x hx)) (by decide))))) ⟨.emp, .emp, rfl, rfl, rfl⟩ (fun i p e' hi I => ?_) (fun p b hb => ?_) fun e' I => ?_) fun e' n => ?_
  · obtain ⟨x3, x4, rfl, h3, h4⟩ := I
    obtain ⟨hp, hpi⟩ := nums_get hi
    rw [hsp, List.getElem?_map] at hp
    obtain ⟨y, hy, e2⟩ := Option.map_eq_some_iff.mp hp
    refine ⟨fun b hb => ?_, ?_⟩
    · rcases List.mem_cons.mp hb with z | z
      · rw [z]; exact h3
      · rw [List.mem_singleton.mp z]; exact h4
    have hlt := (List.getElem?_eq_some_iff.mp hy).1
    have hnot : y ∉ c.items.take i := fun z => by
      obtain ⟨j, hj, ej⟩ := List.getElem_of_mem z
      rw [List.length_take] at hj
      rw [List.getElem_take] at ej
      have h5 := (List.getElem?_eq_some_iff.mp hy).2
      have := (List.getElem_inj ok.nd).mp (ej.trans h5.symm)
      omega
    have hfew := ok.few
    refine es_ifG (egt_not (egt_B (eg_rmeth (α := Bool) (cs := c.items.take i) (P' := fun a e' => a = true ∧ e' = [.own (InT C []), .dat (Rep.toD (textOf c)), .own (RdT CR (c.items.take (i + 1))), .dat (.int (p.1 : Int)), .dat (Rep.toD p.2)]) rfl (by decide +kernel) (by decide +kernel) (EA.eai (ea_cons (α := Str) (ed_var (α := Str) (i := 4) rfl) ea_nil)) (R := fun d T' => d = Rep.toD true ∧ T' = RdT CR (c.items.take i ++ [y])) ⟨c.items.take i, y, rfl, by rw [← e2], ⟨ok.ok y (List.mem_of_getElem? hy), hnot, by rw [List.length_take]; omega⟩, rfl⟩ fun d T' z => ?_)))
      (fun e' q => absurd q.1 (by decide)) fun e' q => es_nil ?_
    · obtain ⟨rfl, rfl⟩ := z
      refine ⟨solo_rd, true, rfl, rfl, rfl, ?_⟩
      rw [List.take_add_one, hy]
      rfl
    · exact ⟨_, _, q.2, rfl, rfl⟩
  · rcases List.mem_cons.mp hb with z | z
    · rw [z]; exact (by decide : (3 : Nat) ≠ 0)
    · rw [List.mem_singleton.mp z]; exact (by decide : (4 : Nat) ≠ 0)
  · obtain ⟨x3, x4, rfl, h3, h4⟩ := I
    refine ⟨x3, x4, ?_⟩
    rw [show (nums (Txt.split (textOf c) "\n")).length = c.items.length from by unfold nums; rw [List.length_map, List.length_zipIdx, hsp, List.length_map], List.take_length]
  · obtain ⟨x3, x4, rfl⟩ := n
    refine es_seq1 (es_text F rfl rfl) ?_
    exact (es_found2 (x := textOf c) (c := c) F rfl rfl).mono (fun e' p => ⟨_, p, rfl, rfl⟩) fun _ _ z => z
end
end PD
end
section
set_option Elab.async false
set_option linter.all false
set_option maxRecDepth 100000
set_option maxHeartbeats 4000000
set_option autoImplicit false
namespace PD
open PySem L2
open PySem.W (Datum Tup)
open C8 (Cal Met Mak fnScope fnBody fnScope_by)
variable [Tabl]

/-! ### Shelf(text), as data -/
def shOf (c : Lot) : Sh := ⟨textOf c, c, noPl⟩
section
variable {C : Addr} {e : List Sl} {ta : TE} {c : Lot}
theorem ed_shelf (ok : CopOk c) (h : ED C ta e (textOf c)) : ED C (tMake C (spO C (G_sinit C)) [] C8.E0 (tCons ta tNil)) e (shOf c) := fun W F σ H s Q q => h W F σ H s _ fun v H1 x1 a1 => by
  intro x dx hx hd hne
  obtain ⟨rfl, hz⟩ := at_str a1
  have s1 := s.same x1
  have sm : Same H1 (upd (upd H1 dx (.own x)) x (.ins C dx [])) := .of fun b u q => by
    rw [upd_ne (ne_of_none q hx), upd_ne (ne_of_none q hd)]
    exact q
  refine ⟨V.ref x, [V.str (textOf c)], fun b => b = x, fun b => b = x, InT C [], [Rep.toD (textOf c)], _, rfl, (fun a z => by
    have z' : a = x := z
    rw [z', upd_same]
    intro q
    cases q), sm.tabs s1.tabs, fun a z => z, ⟨x, dx, [], rfl, rfl, upd_same, .nil, rfl⟩, .cons (.str hz) .nil, ⟨c, rfl, rfl, ok, rfl⟩, fun u d T' S' H2 r xx tb k3 t3 a3 => ?_⟩
  obtain ⟨rfl, rfl⟩ := r
  have hu : u = V.non := by
    cases a3
    rfl
  refine ⟨hu, ?_⟩
  have sm2 : Same H1 H2 := ⟨fun b o q n => xx.keep b o (fun z => by
    have z' : b = x := z
    rw [z', hx] at q
    cases q) (sm.keep b o q n) n, fun {b} q => sm.free (xx.free b q), fun _ => tb⟩
  obtain ⟨a, dx2, vs, ev, eS, hA, t, nl⟩ := t3
  cases ev
  cases t with
  | cons q1 t =>
    cases t with
    | cons q2 t =>
      cases t with
      | cons q3 t =>
        cases t
        have n2 : nolist (Rep.toD c) = true := noL c
        refine q _ H2 (x1.trans sm2) (At.shf (s1.fresh hx) hA ?_ ?_ ?_)
        · exact At.nol (d := Rep.toD (textOf c)) q1 rfl
        · exact At.nol (d := Rep.toD c) q2 n2
        · exact At.nol (d := Rep.toD noPl) q3 rfl
end
end PD
end
section
set_option Elab.async false
set_option linter.all false
set_option maxRecDepth 100000
set_option maxHeartbeats 4000000
set_option autoImplicit false
namespace PD
open PySem L2
open PySem.W (Datum Tup)
open C8 (Cal fnScope fnBody fnScope_by)
variable [Tabl]

/-! ### all_nearest where it raises -/
section
variable {P : Program} {w : World} {K : PySem.W.Frag} {mg : Str → Option Value} {base : Heap} {C : Addr}
def t_anX (rho : TS) (C : Addr) (K : PySem.W.Frag) : TS := (tSeq (tDrop (tCall (spD C G_check_stemmata) [] C8.E0 (tCons (tVar 0) (tCons (tVar 1) tNil)))) (tSeq (tAsg (tCall (spD C G_more_than) [] C8.E0 (tCons (tVar 0) (tCons (tVar 1) (tCons (tCB (rLenQ K) (tCons (tVar 1) tNil)) tNil)))) (gName 2)) (tSeq (tAsg (tLc (iTup K (tCall (spD C G_lots_in) [] C8.E0 (tCons (tVar 0) (tCons (tVar 1) tNil)))) (gName 4) (tTest (tOp (rEqP K false) (tOp (rI CMul fun i j => .int (i * j)) (tC (.int 2)) (tCall (spD C G_many_of) [] C8.E0 (tCons (tVar 1) (tCons (tVar 4) tNil)))) (tCB (rLenQ K) (tCons (tVar 1) tNil)))) (tVar 4) [4]) (gName 3)) (tSeq (tAsg (tLst (tCons (tVar 2) tNil)) (gName 5)) (tSeq (tFor (iList K (tVar 3)) (gName 4) (tSeq (tAsg (tOp rCat (tVar 5) (tLc (iList K (tVar 5)) (gName 6) (tNot (tB (tCB (rAny K) (tCons (tLc (iList K (tVar 6)) (gName 7) tYes (tCall (spD C G_do_clash) [] C8.E0 (tCons (tVar 4) (tCons (tVar 7) tNil))) [7]) tNil)))) (tOp rCat (tVar 6) (tLst (tCons (tVar 4) tNil))) [6])) (gName 5)) (tIfS (tTest (tOp (rI0 fun i j => .bl (decide (j < i))) (tCB (rLenQ K) (tCons (tVar 5) tNil)) (tC (.int 400)))) rho tNext))) tNever)))))
theorem p_anX {cdv : Value} {A : Around} {outer : List Env} {s : Shared} {H : Hp} {E : XK} {f : Addr} {k : Nat} {TC D fI cc cda : Addr} (M : Mg mg) (T : PySem.BkX.BkTxt P K mg "TooMany" TC D fI cc cda) (S : Shf P w K mg base C) (c_check_stemmata : Cal P w K mg base 10 "check_stemmata" (spD C G_check_stemmata) []) (c_do_clash : Cal P w K mg base 2 "do_clash" (spD C G_do_clash) []) (c_lots_in : Cal P w K mg base 7 "lots_in" (spD C G_lots_in) []) (c_many_of : Cal P w K mg base 2 "many_of" (spD C G_many_of) []) (c_more_than : Cal P w K mg base 8 "more_than" (spD C G_more_than) []) (c_stemma_of : Cal P w K mg base 7 "stemma_of" (spD C G_stemma_of) []) (hr : Room 10 (A.deeper (PyProof.Rows.envOfC "all_nearest" (fnScope (top 52)) s.heap.objs.size f cdv))) : PSs (cxOf (L2.CX P w) P w K mg base N_all_nearest "all_nearest" (fnScope (top 52)) f cdv A outer s H E) (fnBody (top 52)) (t_anX (tRaiseBk TC (fun cls d _ H => E cls d H) (tCons (tC (.int 400)) tNil)) C K) :=
  have nd := sc_all_nearest.nd
  (pss_cons (ps_expr (C8.pe_c c_check_stemmata hr (by decide) (by rfl) (pa_cons (pv 0) (pa_cons (pv 1) pa_nil)))) (pss_cons (ps_set (i := 2) nd rfl (by first | exact Or.inl rfl | exact Or.inr rfl) (C8.pe_c c_more_than hr (by decide) (by rfl) (pa_cons (pv 0) (pa_cons (pv 1) (pa_cons (pe_callB call_len_seq (by rfl) M.b_len bb_len (pa_cons (pv 1) pa_nil)) pa_nil))))) (pss_cons (ps_setLc (i := 3) (own := [("lot", 4)]) (g := (gName 4)) (tt := (tTest (tOp (rEqP K false) (tOp (rI CMul fun i j => .int (i * j)) (tC (.int 2)) (tCall (spD C G_many_of) [] C8.E0 (tCons (tVar 1) (tCons (tVar 4) tNil)))) (tCB (rLenQ K) (tCons (tVar 1) tNil))))) (te := (tVar 4)) (by rfl) nd rfl rfl (sw_true rfl rfl rfl (by decide +kernel)) (pi_tup (C8.pe_c c_lots_in hr (by decide) (by rfl) (pa_cons (pv 0) (pa_cons (pv 1) pa_nil)))) (blkOk_by (by kernel_rfl)) (fun _ _ _ _ _ => (pg_name (i := 4) nd rfl (by first | exact Or.inl rfl | exact Or.inr rfl))) (fun _ _ _ _ _ => (pts_one (pt_cmpR (op_eqP hr.units) (pe_op op_mul pe_int (C8.pe_c c_many_of hr (by decide) (by rfl) (pa_cons (pv 1) (pa_cons (pv 4) pa_nil)))) (pe_callB call_len_seq (by rfl) M.b_len bb_len (pa_cons (pv 1) pa_nil)) (nomark _)))) (fun _ _ _ _ _ => (pv 4))) (pss_cons (ps_set (i := 5) nd rfl (by first | exact Or.inl rfl | exact Or.inr rfl) (pe_lst (pa_cons (pv 2) pa_nil))) (pss_cons (ps_for (passes_of rfl) (by rfl) (pi_list (pv 3)) (pg_name (i := 4) nd rfl (by first | exact Or.inl rfl | exact Or.inr rfl)) (pss_cons (ps_set (i := 5) nd rfl (by first | exact Or.inl rfl | exact Or.inr rfl) (pe_op op_cat (pv 5) (pe_lc (own := [("row", 6)]) (g := (gName 6)) (tt := (tNot (tB (tCB (rAny K) (tCons (tLc (iList K (tVar 6)) (gName 7) tYes (tCall (spD C G_do_clash) [] C8.E0 (tCons (tVar 4) (tCons (tVar 7) tNil))) [7]) tNil))))) (te := (tOp rCat (tVar 6) (tLst (tCons (tVar 4) tNil)))) (by rfl) nd (pi_list (pv 5)) (blkOk_by (by kernel_rfl)) (fun _ _ _ _ _ => (pg_name (i := 6) nd rfl (by first | exact Or.inl rfl | exact Or.inr rfl))) (fun _ _ _ _ _ => (pts_one (pt_not (pt_val (pe_callB (cr_any (by rfl)) (by rfl) M.b_any bb_any (pa_cons (pe_lc (own := [("other", 7)]) (g := (gName 7)) (tt := tYes) (te := (tCall (spD C G_do_clash) [] C8.E0 (tCons (tVar 4) (tCons (tVar 7) tNil)))) (by rfl) nd (pi_list (pv 6)) (blkOk_by (by kernel_rfl)) (fun _ _ _ _ _ => (pg_name (i := 7) nd rfl (by first | exact Or.inl rfl | exact Or.inr rfl))) (fun _ _ _ _ _ => pts_nil) (fun _ _ _ _ _ => (C8.pe_c c_do_clash hr (by decide) (by rfl) (pa_cons (pv 4) (pa_cons (pv 7) pa_nil))))) pa_nil)))))) (fun _ _ _ _ _ => (pe_op op_cat (pv 6) (pe_lst (pa_cons (pv 4) pa_nil))))))) (pss_one (ps_if (pt_cmpR op_gt (pe_callB call_len_seq (by rfl) M.b_len bb_len (pa_cons (pv 5) pa_nil)) (pe_gI (by rfl) M.k_MOST_NEAREST) (nomark _)) (pss_one (ps_raiseBk rfl T hr (takes_of rfl rfl rfl rfl) (pa_cons (pe_gI (by rfl) M.k_MOST_NEAREST) pa_nil) (by rfl))) pss_nil)))) (pss_one ps_never))))))
/-- the same with another way out for what is returned -/
def Sw (r1 r2 : VK) (t1 t2 : TS) : Prop := ∀ nx bk ct, t1 { nx := nx, rt := r1, bk := bk, ct := ct } = t2 { nx := nx, rt := r2, bk := bk, ct := ct }
section
variable {r1 r2 : VK} {t1 t2 u1 u2 : TS}
theorem sw_seq (h1 : Sw r1 r2 t1 t2) (h2 : Sw r1 r2 u1 u2) : Sw r1 r2 (tSeq t1 u1) (tSeq t2 u2) := fun nx bk ct => funext fun σ => funext fun H => by
  show t1 { nx := u1 { nx := nx, rt := r1, bk := bk, ct := ct }, rt := r1, bk := bk, ct := ct } σ H = t2 { nx := u2 { nx := nx, rt := r2, bk := bk, ct := ct }, rt := r2, bk := bk, ct := ct } σ H
  rw [h2, h1]
theorem sw_asg {te : TE} {g : TG} : Sw r1 r2 (tAsg te g) (tAsg te g) := fun _ _ _ => rfl
theorem sw_drop {te : TE} : Sw r1 r2 (tDrop te) (tDrop te) := fun _ _ _ => rfl
theorem sw_next : Sw r1 r2 tNext tNext := fun _ _ _ => rfl
theorem sw_never : Sw r1 r2 tNever tNever := fun _ _ _ => rfl
theorem sw_if {tt : TT} (h1 : Sw r1 r2 t1 t2) (h2 : Sw r1 r2 u1 u2) : Sw r1 r2 (tIfS tt t1 u1) (tIfS tt t2 u2) := fun nx bk ct => funext fun σ => funext fun H => by
  unfold tIfS
  rw [h1, h2]
theorem sw_for {wi : TI} {g : TG} (h : Sw r1 r2 t1 t2) : Sw r1 r2 (tFor wi g t1) (tFor wi g t2) := fun nx bk ct => funext fun σ => funext fun H => by
  have h' : ∀ nx bk ct, t1 { nx := nx, rt := r1, bk := bk, ct := ct } = t2 { nx := nx, rt := r2, bk := bk, ct := ct } := h
  unfold tFor
  simp only [h']
end
theorem es_raise {D' : TS} {rho : TS} {e : List Sl} {N : List Sl → Prop} {R : PyData → List Sl → Prop} (hr : R (.int 400) e) : ES C (fun D _ H => ∃ v, [V.int 400] = [v] ∧ D.rt v H) e N R := fun W F σ H s D qn qr => ⟨_, rfl, qr (.int 400) (.int 400) e F σ H hr s (.int 400)⟩
theorem es_anX {s : Sh} {vs : Stemmata} (B : Base s vs) (h2 : 400 < (mLists (halfOf s vs)).length) : ES C (t_anX (fun D _ H => ∃ v, [V.int 400] = [v] ∧ D.rt v H) C K) (startE N_all_nearest [Rep.toD s, Rep.toD vs]) (fun _ => False) fun d _ => d = .int 400 := by
  have hrl : 400 < (rowsOf s vs).length := by
    rw [B.rows_eq, List.length_map]
    exact h2
  refine es_seq1 (es_drop (ed_call (α := Unit) (ea_cons (α := Sh) (ed_var (α := Sh) (i := 0) rfl) (ea_cons (α := (Tup (Tup (Tup Str)))) (ed_var (α := (Tup (Tup (Tup Str)))) (i := 1) rfl) ea_nil)) ⟨_, _, rfl, ?_, rfl⟩)) ?_
  · exact B.wf
  refine es_seq1 (es_set (α := (List (Tup Str))) (i := 2) (by decide) (ed_call (α := (List (Tup Str))) (ea_cons (α := Sh) (ed_var (α := Sh) (i := 0) rfl) (ea_cons (α := (Tup (Tup (Tup Str)))) (ed_var (α := (Tup (Tup (Tup Str)))) (i := 1) rfl) (ea_cons (α := Int) (ed_len_u (ED.eu (K := K) (ed_var (α := (Tup (Tup (Tup Str)))) (i := 1) rfl))) ea_nil))) ⟨_, _, _, rfl, ?_, rfl⟩)) ?_
  · exact B.wf
  refine es_seq1 (es_set (α := (List (Tup Str))) (i := 3) (by decide) (EF.ed (ef_filter (src_tup (α := (Tup Str)) (ED.eu (K := K) (ed_call (α := (Tup (Tup Str))) (ea_cons (α := Sh) (ed_var (α := Sh) (i := 0) rfl) (ea_cons (α := (Tup (Tup (Tup Str)))) (ed_var (α := (Tup (Tup (Tup Str)))) (i := 1) rfl) ea_nil)) ⟨_, _, rfl, ?_, rfl⟩))) (fun x hx => (et_test (ed_eq (ED.er (K := K) (ed_op (α := Int) (β := Int) (γ := Int) (ed_int (i := 2)) (ed_call (α := Int) (ea_cons (α := (Tup (Tup (Tup Str)))) (ed_var (α := (Tup (Tup (Tup Str)))) (i := 1) rfl) (ea_cons (α := (Tup Str)) (ed_var (α := (Tup Str)) (i := 4) rfl) ea_nil)) ⟨_, _, rfl, rfl⟩) (rd_mul (Or.inl ⟨by decide, by decide⟩)))) (ED.er (K := K) (ed_len_u (ED.eu (K := K) (ed_var (α := (Tup (Tup (Tup Str)))) (i := 1) rfl)))))))))) ?_
  · exact B.wf
  refine es_seq1 (es_setF (α := (List (Tup Str))) (i := 5) (by decide) (ef_lst (α := (List (Tup Str))) (as := [_]) (ea_cons (α := (List (Tup Str))) (ed_var (α := (List (Tup Str))) (i := 2) rfl) ea_nil) (show 1 ≤ 4096 by decide))) ?_
  show ES C _ [.dat (Rep.toD s), .dat (Rep.toD vs), .dat (Rep.toD (sureOf s vs)), .dat (Rep.toD (halfOf s vs)), .emp, .own (LstT C ([sureOf s vs].map fun x => Rep.toD x)), .emp, .emp] _ _
  refine es_seq (N1 := fun _ => False) (es_for (xs := halfOf s vs) (enc := fun v => [(4, Rep.toD v)])
    (fun i e' => (PL.rowsFrom mClash [sureOf s vs] ((halfOf s vs).take i)).length ≤ 400 ∧ ∃ x, e' = [.dat (Rep.toD s), .dat (Rep.toD vs), .dat (Rep.toD (sureOf s vs)), .dat (Rep.toD (halfOf s vs)), x, .own (LstT C ((PL.rowsFrom mClash [sureOf s vs] ((halfOf s vs).take i)).map fun x => Rep.toD x)), .emp, .emp] ∧ isVal (some x) = true)
    (src_list (α := (Tup Str)) (ED.el (ed_var (α := (List (Tup Str))) (i := 3) rfl))) ⟨by show 1 ≤ 400; omega, .emp, rfl, rfl⟩ (fun i v e' hi I => ?_) (fun v b hb => ?_) fun e' I => ?_) fun e' n => n.elim
  · obtain ⟨hle, x, rfl, hx⟩ := I
    have hn := rows_next (clash := mClash) (found := [sureOf s vs]) hi
    have hle2 : (PL.rowsFrom mClash [sureOf s vs] ((halfOf s vs).take (i + 1))).length ≤ 800 := by
      rw [hn]
      unfold PL.addTo
      rw [List.length_append, List.length_map]
      have := List.length_filter_le (fun some => !some.any fun other => mClash v other) (PL.rowsFrom mClash [sureOf s vs] ((halfOf s vs).take i))
      omega
    refine ⟨fun b hb => by rw [List.mem_singleton.mp hb]; exact hx, es_seq (N1 := fun e' => e' = [.dat (Rep.toD s), .dat (Rep.toD vs), .dat (Rep.toD (sureOf s vs)), .dat (Rep.toD (halfOf s vs)), .dat (Rep.toD v), .own (LstT C ((PL.rowsFrom mClash [sureOf s vs] ((halfOf s vs).take (i + 1))).map fun x => Rep.toD x)), .emp, .emp]) ((es_setF (α := (List (Tup Str))) (i := 5) (by decide) (ef_cat (α := (List (Tup Str))) (el_own (α := (List (Tup Str))) (i := 5) rfl) (EF.el (pb := true) (ef_both (β := (List (Tup Str))) (src_list (α := (List (Tup Str))) (el_own (α := (List (Tup Str))) (i := 5) rfl)) (fun x hx => (et_not (et_B (ed_any (EF.el (pb := true) (ef_map (β := Bool) (src_list (α := (Tup Str)) (ED.el (ed_var (α := (List (Tup Str))) (i := 6) rfl))) (fun x1 hx1 => (ed_call (α := Bool) (ea_cons (α := (Tup Str)) (ed_var (α := (Tup Str)) (i := 4) rfl) (ea_cons (α := (Tup Str)) (ed_var (α := (Tup Str)) (i := 7) rfl) ea_nil)) ⟨_, _, rfl, rfl⟩)))))))) (fun x hx hb => (EF.ed (ef_cat (α := (Tup Str)) (ED.el (pb := true) (ed_var (α := (List (Tup Str))) (i := 6) rfl)) (EF.el (pb := true) (ef_lst (α := (Tup Str)) (as := [_]) (ea_cons (α := (Tup Str)) (ed_var (α := (Tup Str)) (i := 4) rfl) ea_nil) (show 1 ≤ 4096 by decide))) ?h3))))) ?h4)).mono (fun e' p => p.trans ?_) fun _ _ z => z) fun e' p => ?_⟩
    case h3 =>
      have h5 : List.Sublist x (sureOf s vs ++ (halfOf s vs).take i) := rows_sub (pre := sureOf s vs) (fun r hr => by rw [List.mem_singleton.mp hr]; exact List.Sublist.refl _) x hx
      have h6 := h5.length_le
      rw [List.length_append, List.length_take] at h6
      have h7 : (sureOf s vs).length ≤ 156 := Nat.le_trans (moreLen ..) B.tot
      have h8 := half_len B
      show x.length + 1 ≤ 4096
      omega
    case h4 =>
      rw [← List.length_append, add_any, ← hn]
      exact Nat.le_trans hle2 (by decide)
    · rw [add_any, ← hn]
      rfl
    · subst p
      refine es_if (et_test (ed_op (α := Int) (β := Int) (γ := Bool) (ed_len_l (K := K) (el_own (α := (List (Tup Str))) (i := 5) rfl)) (ed_int (i := 400)) rd_cmp)) (fun _ => es_raise (D' := tNext) (rho := tNext) rfl) fun z => es_nil ⟨?_, .dat (Rep.toD v), rfl, rfl⟩
      have z' := of_decide_eq_false z
      omega
  · rw [List.mem_singleton.mp hb]; exact (by decide : (4 : Nat) ≠ 0)
  · obtain ⟨hle, _⟩ := I
    rw [List.take_length] at hle
    exact absurd hle (by show ¬ (rowsOf s vs).length ≤ 400; omega)
/-- it raises; all else stays as it was -/
def spAnX (C TC : Addr) : Sp := fun us H _ E => ∃ (h : Addr → Prop) (s : Sh) (vs : Stemmata), (∀ a, h a → H a ≠ none) ∧ LamX.Tabs Tabl.T H ∧ AtAll C h H us [Rep.toD s, Rep.toD vs] ∧ (Base s vs ∧ 400 < (mLists (halfOf s vs)).length) ∧
  ∀ H2 d, Same H H2 → H2 d = none → E (.ref TC) (some d) (upd H2 d (.xd [("value", V.int 400)]))
theorem pure_anX {TC : Addr} (us : List V) (H : Hp) (Q : VK) (E : XK) (p : spAnX C TC us H Q E) : t_anX (tRaiseBk TC (fun cls d _ H => E cls d H) (tCons (tC (.int 400)) tNil)) C K { nx := fun _ H' => Q .non H', rt := Q } (L2.start N_all_nearest us) H := by
  obtain ⟨h, s, vs, known, tb, at_, ⟨B, h2⟩, q⟩ := p
  have z := es_anX (K := K) (C := C) B h2 (W0 H h) F0 (L2.start N_all_nearest us) H (sa_start known tb at_) { nx := fun _ H' => Q .non H', rt := fun v H' => ∀ d, H' d = none → E (.ref TC) (some d) (upd H' d (.xd [("value", v)])) } (fun e' F' σ' H' r s => r.elim) fun v d e' F' σ' H' r s a => by
    subst r
    cases a
    exact fun d hd => q H' d (s.xt.same s.tabs) hd
  have sw : Sw (fun v H' => ∀ d, H' d = none → E (.ref TC) (some d) (upd H' d (.xd [("value", v)]))) Q (t_anX (fun D _ H => ∃ v, [V.int 400] = [v] ∧ D.rt v H) C K) (t_anX (tRaiseBk TC (fun cls d _ H => E cls d H) (tCons (tC (.int 400)) tNil)) C K) := by
    unfold t_anX
    exact sw_seq sw_drop (sw_seq sw_asg (sw_seq sw_asg (sw_seq sw_asg (sw_seq (sw_for (sw_seq sw_asg (sw_if (fun nx bk ct => rfl) sw_next))) sw_never))))
  exact (congrFun (congrFun (sw (fun _ H' => Q .non H') (fun _ _ => False) (fun _ _ => False)) (L2.start N_all_nearest us)) H).mp z
end
end PD
end
section
set_option Elab.async false
set_option linter.all false
set_option maxRecDepth 100000
set_option maxHeartbeats 4000000
set_option autoImplicit false
namespace PD
open PySem L2
open PySem.W (Datum Tup)
open C8 (Cal Met Mak fnScope fnBody fnScope_by)
variable [Tabl]

/-! ### _law_right: the text -/
section
variable {P : Program} {w : World} {K : PySem.W.Frag} {mg : Str → Option Value} {base : Heap} {C : Addr}
def tTryX (C : Addr) (K : PySem.W.Frag) (TC : Addr) : TS := fun D σ H => tDrop (tCallS (spAnX C TC) (WE (wAs K (.ref TC) 12 (fun a cls d => tAsg (tXf a cls d TC "value" (tVar 12)) (gName 11)) (fun _ _ _ _ => False) D)) (tCons (tVar 2) (tCons (tVar 3) tNil))) D σ H
abbrev N__law_right : List Str := ["pot", "copies", "shelf", "stemmata", "many", "stemma", "lot", "sure", "half", "least", "said", "found", "refused"]
theorem sc__law_right : FnScope N__law_right ["pot"] (fnScope (top 69)) := fnScope_by (by decide +kernel)
def t__law_right (C : Addr) (P : Program) (w : World) (K : PySem.W.Frag) (TC : Addr) : TS := (tSeq (tAsg (tCall (spO C G__law_names) [] C8.E0 (tCons (tVar 0) (tCons (tOp (rI0 fun i j => .int (i + j)) (tC (.int 3)) (tCall (spO C G__law_take) [] C8.E0 (tCons (tVar 0) (tCons (tC (.int 9)) tNil)))) tNil))) (gName 1)) (tSeq (tAsg (tTupF (tCons (tMake C (spO C (G_sinit C)) [] C8.E0 (tCons (tCall (spD C G__law_text) [] C8.E0 (tCons (tVar 1) (tCons (tLst tNil) tNil))) tNil)) (tCons (tCall (spO C G__law_drawn) [] C8.E0 (tCons (tVar 0) (tCons (tVar 1) tNil))) tNil))) (gTup K 2 (gCons (gName 2) (gCons (gName 3) gNil)))) (tSeq (tAsg (tCB (rDictN K P w) (tCons (tLc (iList K (tCall (spD C G__law_standing) [] C8.E0 (tCons (tVar 3) tNil))) (gName 6) tYes (tTupF (tCons (tVar 6) (tCons (tCB (rLenQ K) (tCons (tLc (iTup K (tVar 3)) (gName 5) (tTest (tOp (rInP K false) (tVar 6) (tVar 5))) (tVar 5) [5]) tNil)) tNil))) [6]) tNil)) (gName 4)) (tSeq (tAsg (tLc (iKeysN P w (tVar 4)) (gName 6) (tTest (tOp (rI0 fun i j => .bl (decide (j < i))) (tOp (rI CMul fun i j => .int (i * j)) (tC (.int 2)) (tOp (rIxN K P w) (tVar 4) (tVar 6))) (tCB (rLenQ K) (tCons (tVar 3) tNil)))) (tVar 6) [6]) (gName 7)) (tSeq (tAsg (tLc (iKeysN P w (tVar 4)) (gName 6) (tTest (tOp (rEqP K false) (tOp (rI CMul fun i j => .int (i * j)) (tC (.int 2)) (tOp (rIxN K P w) (tVar 4) (tVar 6))) (tCB (rLenQ K) (tCons (tVar 3) tNil)))) (tVar 6) [6]) (gName 8)) (tSeq (tAsg (tCB (rSum K) (tCons (tLc (iKeysN P w (tVar 4)) (gName 6) tYes (tCB rMin2 (tCons (tOp (rIxN K P w) (tVar 4) (tVar 6)) (tCons (tOp (rI0 fun i j => .int (i - j)) (tCB (rLenQ K) (tCons (tVar 3) tNil)) (tOp (rIxN K P w) (tVar 4) (tVar 6))) tNil))) [6]) tNil)) (gName 9)) (tSeq (tAsg (tCall (spD C G_nearest) [] C8.E0 (tCons (tVar 2) (tCons (tVar 3) tNil))) (gName 10)) (tSeq (tIfS (tOr (tTest (tOp (rEqP K true) (tOp (rIxT K) (tVar 10) (tC (.int 0))) (tVar 9))) (tTest (tOp rNotB (tCall (spD C G_shows_nearest) [] C8.E0 (tCons (tVar 2) (tCons (tVar 3) (tCons (tVar 10) tNil)))) (tC (.bl true))))) (tRet (tC (.bl false))) tNext) (tSeq (tIfS (tAnd (tTest (tOp (rEqP K false) (tVar 8) (tLst tNil))) (tTest (tOp (rEqP K true) (tOp (rIxT K) (tVar 10) (tC (.int 1))) (tCall (spD C G_majority) [] C8.E0 (tCons (tVar 2) (tCons (tVar 3) tNil)))))) (tRet (tC (.bl false))) tNext) (tSeq (tIfS (tTest (tOp (rI0 fun i j => .bl (decide (i ≤ j))) (tCall (spD C G__law_many) [] C8.E0 (tCons (tVar 8) tNil)) (tC (.int 400)))) (tRet (tCall (spD C G__law_are_told_right) [] C8.E0 (tCons (tVar 1) (tCons (tVar 2) (tCons (tVar 3) (tCons (tVar 7) (tCons (tVar 8) (tCons (tVar 9) tNil)))))))) tNext) (tSeq (tAsg (tC .non) (gName 11)) (tSeq (tTryX C K TC) (tRet (tOp (rEqP K false) (tVar 11) (tC (.int 400))))))))))))))))
theorem p__law_right {cdv : Value} {A : Around} {outer : List Env} {s : Shared} {H : Hp} {E : XK} {f : Addr} {k : Nat} (M : Mg mg) (S : Shf P w K mg base C) (c__law_are_told_right : Cal P w K mg base 13 "_law_are_told_right" (spD C G__law_are_told_right) []) (c__law_drawn : Cal P w K mg base 5 "_law_drawn" (spO C G__law_drawn) []) (c__law_many : Cal P w K mg base 3 "_law_many" (spD C G__law_many) []) (c__law_names : Cal P w K mg base 4 "_law_names" (spO C G__law_names) []) (c__law_standing : Cal P w K mg base 2 "_law_standing" (spD C G__law_standing) []) (c__law_take : Cal P w K mg base 2 "_law_take" (spO C G__law_take) []) (c__law_text : Cal P w K mg base 2 "_law_text" (spD C G__law_text) []) (c_majority : Cal P w K mg base 11 "majority" (spD C G_majority) []) (c_nearest : Cal P w K mg base 11 "nearest" (spD C G_nearest) []) (c_shows_nearest : Cal P w K mg base 11 "shows_nearest" (spD C G_shows_nearest) []) {TC fAX : Addr} {fdX : FuncData} (mk_shelf : Mak P w K mg base 6 "Shelf" C (spO C (G_sinit C)) []) (GX : FnOk P w K mg base (L2.CX P w) 11 fAX fdX ["shelf", "stemmata"] (spAnX C TC)) (gX : mg "all_nearest" = some (.ref fAX)) (kX : PySem.W.keepIn K (.ref fAX) = true) (bX : Binds K fdX ["shelf", "stemmata"] []) (gT : mg "TooMany" = some (.ref TC)) (xf : XfC K TC) (noV : PySem.W.findIn K (.ref TC) "value" = some none) (hr : Room 13 (A.deeper (PyProof.Rows.envOfC "_law_right" (fnScope (top 69)) s.heap.objs.size f cdv))) : PSs (cxOf C8.CX0 P w K mg base N__law_right "_law_right" (fnScope (top 69)) f cdv A outer s H E).nox (fnBody (top 69)) (t__law_right C P w K TC) :=
  have nd := sc__law_right.nd
  (pss_cons (ps_set (i := 1) nd rfl (by first | exact Or.inl rfl | exact Or.inr rfl) (C8.pe_c c__law_names hr (by decide) (by rfl) (pa_cons (pv 0) (pa_cons (pe_op op_add pe_int (C8.pe_c c__law_take hr (by decide) (by rfl) (pa_cons (pv 0) (pa_cons pe_int pa_nil)))) pa_nil)))) (pss_cons (ps_asg (pe_tupF (pa_cons (C8.pe_mk mk_shelf hr (by decide) (by rfl) (pa_cons (C8.pe_c c__law_text hr (by decide) (by rfl) (pa_cons (pv 1) (pa_cons (pe_lst pa_nil) pa_nil))) pa_nil)) (pa_cons (C8.pe_c c__law_drawn hr (by decide) (by rfl) (pa_cons (pv 0) (pa_cons (pv 1) pa_nil))) pa_nil))) (pg_pair2 (i := 2) (j := 3) (by rfl) nd rfl rfl (by first | exact Or.inl rfl | exact Or.inr rfl) (by first | exact Or.inl rfl | exact Or.inr rfl)) (by rfl) (by kernel_rfl)) (pss_cons (ps_set (i := 4) nd rfl (by first | exact Or.inl rfl | exact Or.inr rfl) (pe_callTy (cr_dictN (by rfl) hr.units) (by rfl) M.b_dict bb_dict (pa_cons (pe_lc (own := [("lot", 6)]) (g := (gName 6)) (tt := tYes) (te := (tTupF (tCons (tVar 6) (tCons (tCB (rLenQ K) (tCons (tLc (iTup K (tVar 3)) (gName 5) (tTest (tOp (rInP K false) (tVar 6) (tVar 5))) (tVar 5) [5]) tNil)) tNil)))) (by rfl) nd (pi_list (C8.pe_c c__law_standing hr (by decide) (by rfl) (pa_cons (pv 3) pa_nil))) (blkOk_by (by kernel_rfl)) (fun _ _ _ _ _ => (pg_name (i := 6) nd rfl (by first | exact Or.inl rfl | exact Or.inr rfl))) (fun _ _ _ _ _ => pts_nil) (fun _ _ _ _ _ => (pe_tupF (pa_cons (pv 6) (pa_cons (pe_callB call_len_seq (by rfl) M.b_len bb_len (pa_cons (pe_lc (own := [("stemma", 5)]) (g := (gName 5)) (tt := (tTest (tOp (rInP K false) (tVar 6) (tVar 5)))) (te := (tVar 5)) (by rfl) nd (pi_tup (pv 3)) (blkOk_by (by kernel_rfl)) (fun _ _ _ _ _ => (pg_name (i := 5) nd rfl (by first | exact Or.inl rfl | exact Or.inr rfl))) (fun _ _ _ _ _ => (pts_one (pt_cmpR (op_inP hr.units) (pv 6) (pv 5) (by rfl)))) (fun _ _ _ _ _ => (pv 5))) pa_nil)) pa_nil))))) pa_nil))) (pss_cons (ps_setLc (i := 7) (own := [("lot", 6)]) (g := (gName 6)) (tt := (tTest (tOp (rI0 fun i j => .bl (decide (j < i))) (tOp (rI CMul fun i j => .int (i * j)) (tC (.int 2)) (tOp (rIxN K P w) (tVar 4) (tVar 6))) (tCB (rLenQ K) (tCons (tVar 3) tNil))))) (te := (tVar 6)) (by rfl) nd rfl rfl (sw_true rfl rfl rfl (by decide +kernel)) (pi_keysN (pv 4)) (blkOk_by (by kernel_rfl)) (fun _ _ _ _ _ => (pg_name (i := 6) nd rfl (by first | exact Or.inl rfl | exact Or.inr rfl))) (fun _ _ _ _ _ => (pts_one (pt_cmpR op_gt (pe_op op_mul pe_int (pe_ix (ix_dctN hr.units) (pv 4) (pv 6) (by intro _ _; rfl))) (pe_callB call_len_seq (by rfl) M.b_len bb_len (pa_cons (pv 3) pa_nil)) (nomark _)))) (fun _ _ _ _ _ => (pv 6))) (pss_cons (ps_setLc (i := 8) (own := [("lot", 6)]) (g := (gName 6)) (tt := (tTest (tOp (rEqP K false) (tOp (rI CMul fun i j => .int (i * j)) (tC (.int 2)) (tOp (rIxN K P w) (tVar 4) (tVar 6))) (tCB (rLenQ K) (tCons (tVar 3) tNil))))) (te := (tVar 6)) (by rfl) nd rfl rfl (sw_true rfl rfl rfl (by decide +kernel)) (pi_keysN (pv 4)) (blkOk_by (by kernel_rfl)) (fun _ _ _ _ _ => (pg_name (i := 6) nd rfl (by first | exact Or.inl rfl | exact Or.inr rfl))) (fun _ _ _ _ _ => (pts_one (pt_cmpR (op_eqP hr.units) (pe_op op_mul pe_int (pe_ix (ix_dctN hr.units) (pv 4) (pv 6) (by intro _ _; rfl))) (pe_callB call_len_seq (by rfl) M.b_len bb_len (pa_cons (pv 3) pa_nil)) (nomark _)))) (fun _ _ _ _ _ => (pv 6))) (pss_cons (ps_set (i := 9) nd rfl (by first | exact Or.inl rfl | exact Or.inr rfl) (pe_callB (cr_sum (by rfl)) (by rfl) M.b_sum bb_sum (pa_cons (pe_lc (own := [("lot", 6)]) (g := (gName 6)) (tt := tYes) (te := (tCB rMin2 (tCons (tOp (rIxN K P w) (tVar 4) (tVar 6)) (tCons (tOp (rI0 fun i j => .int (i - j)) (tCB (rLenQ K) (tCons (tVar 3) tNil)) (tOp (rIxN K P w) (tVar 4) (tVar 6))) tNil)))) (by rfl) nd (pi_keysN (pv 4)) (blkOk_by (by kernel_rfl)) (fun _ _ _ _ _ => (pg_name (i := 6) nd rfl (by first | exact Or.inl rfl | exact Or.inr rfl))) (fun _ _ _ _ _ => pts_nil) (fun _ _ _ _ _ => (pe_callB (call_min2 (by rfl)) (by rfl) M.b_min bb_min (pa_cons (pe_ix (ix_dctN hr.units) (pv 4) (pv 6) (by intro _ _; rfl)) (pa_cons (pe_op op_sub (pe_callB call_len_seq (by rfl) M.b_len bb_len (pa_cons (pv 3) pa_nil)) (pe_ix (ix_dctN hr.units) (pv 4) (pv 6) (by intro _ _; rfl))) pa_nil))))) pa_nil))) (pss_cons (ps_set (i := 10) nd rfl (by first | exact Or.inl rfl | exact Or.inr rfl) (C8.pe_c c_nearest hr (by decide) (by rfl) (pa_cons (pv 2) (pa_cons (pv 3) pa_nil)))) (pss_cons (ps_if ((pw_or (pt_cmpR (op_neP hr.units) (pe_ix ix_tup (pv 10) pe_int (by intro _ _; rfl)) (pv 9) (nomark _)) (pw_or1 (pt_cmpR op_notBl (C8.pe_c c_shows_nearest hr (by decide) (by rfl) (pa_cons (pv 2) (pa_cons (pv 3) (pa_cons (pv 10) pa_nil)))) pe_bl (nomark _))))).pt (pss_one (ps_ret pe_bl)) pss_nil) (pss_cons (ps_if ((pw_and (pt_cmpR (op_eqP hr.units) (pv 8) (pe_lst pa_nil) (nomark _)) (pw_and1 (pt_cmpR (op_neP hr.units) (pe_ix ix_tup (pv 10) pe_int (by intro _ _; rfl)) (C8.pe_c c_majority hr (by decide) (by rfl) (pa_cons (pv 2) (pa_cons (pv 3) pa_nil))) (nomark _))))).pt (pss_one (ps_ret pe_bl)) pss_nil) (pss_cons (ps_if (pt_cmpR op_le (C8.pe_c c__law_many hr (by decide) (by rfl) (pa_cons (pv 8) pa_nil)) pe_int (nomark _)) (pss_one (ps_ret (C8.pe_c c__law_are_told_right hr (by decide) (by rfl) (pa_cons (pv 1) (pa_cons (pv 2) (pa_cons (pv 3) (pa_cons (pv 7) (pa_cons (pv 8) (pa_cons (pv 9) pa_nil))))))))) pss_nil) (pss_cons (ps_set (i := 11) nd rfl (by first | exact Or.inl rfl | exact Or.inr rfl) pe_non) (pss_cons (ps_try_as (i := 12) (tb := fun W => tDrop (tCallS (spAnX C TC) (WE W) (tCons (tVar 2) (tCons (tVar 3) tNil)))) (ts := fun a cls d => tAsg (tXf a cls d TC "value" (tVar 12)) (gName 11)) (Wout := fun _ _ _ _ => False) rfl rfl nd rfl rfl ⟨rfl, by decide, .inl gT⟩ takes0 (fun W pn xe tk _ => pss_one (ps_expr (by exact (pe_callS GX (hr.mono (by decide)) rfl gX kX bX (fun σ => passAt tk σ) (by exact (pa_cons (pv 2) (pa_cons (pv 3) pa_nil))))))) (fun a oe cls d pn hz hf => pss_one (ps_set (i := 11) nd rfl (Or.inl rfl) (by exact (pe_xf xf noV hz hf (pv 12) (by rfl)))))) (pss_one (ps_ret (pe_cmpR (op_eqP hr.units) (pv 11) pe_int (nomark _))))))))))))))))
end
end PD
end
section
set_option Elab.async false
set_option linter.all false
set_option maxRecDepth 100000
set_option maxHeartbeats 4000000
set_option autoImplicit false
namespace PD
open PySem L2
open PySem.W (Datum Tup)
variable [Tabl]

/-! ### a dict of what is told of each key -/
theorem put_fun {f : Lot → Int} {acc : List (Lot × Int)} {l : Lot} (h : ∀ p ∈ acc, p.2 = f p.1) : ∀ p ∈ putD acc (l, f l), p.2 = f p.1 := by
  intro p hp
  unfold putD at hp
  split at hp
  · obtain ⟨x, hx, rfl⟩ := List.mem_map.mp hp
    split
    · rename_i z
      show f l = f x.1
      rw [z]
    · exact h x hx
  · rcases List.mem_append.mp hp with z | z
    · exact h p z
    · rw [List.mem_singleton.mp z]
theorem fold_fun {f : Lot → Int} : ∀ {ls : List Lot} {acc : List (Lot × Int)}, (∀ p ∈ acc, p.2 = f p.1) → ∀ p ∈ (ls.map fun l => (l, f l)).foldl putD acc, p.2 = f p.1
  | [], _, h => h
  | l :: ls, acc, h => fold_fun (ls := ls) (put_fun h)
def dictFun (f : Lot → Int) (ls : List Lot) : List (Lot × Int) := dictOf (ls.map fun l => (l, f l))
def keysFun (f : Lot → Int) (ls : List Lot) : List Lot := (dictFun f ls).map (·.1)
theorem keys_nodup {f : Lot → Int} {ls : List Lot} : (keysFun f ls).Nodup := (foldD_keys (ls.map fun l => (l, f l)) [] List.nodup_nil).1
theorem mem_keys {f : Lot → Int} {ls : List Lot} {l : Lot} : l ∈ keysFun f ls ↔ l ∈ ls := by
  unfold keysFun dictFun dictOf
  rw [(foldD_keys (ls.map fun l => (l, f l)) [] List.nodup_nil).2 l, List.map_map]
  have e : ls.map ((fun x : Lot × Int => x.1) ∘ fun l => (l, f l)) = ls := List.map_id ls
  rw [e]
  simp
theorem find_fun {f : Lot → Int} {ls : List Lot} {a : Lot} (h : a ∈ keysFun f ls) : ((dictFun f ls).find? fun p => decide (p.1 = a)) = some (a, f a) := by
  obtain ⟨p, hp, e⟩ := List.mem_map.mp h
  cases q : (dictFun f ls).find? fun p => decide (p.1 = a) with
  | none =>
    have := List.find?_eq_none.mp q p hp
    exact absurd (decide_eq_true e) this
  | some r =>
    have h0 : decide (r.1 = a) = true := List.find?_some (p := fun p : Lot × Int => decide (p.1 = a)) q
    have h1 := of_decide_eq_true h0
    have h2 : r.2 = f r.1 := fold_fun (acc := []) (fun p hp => nomatch hp) r (List.mem_of_find?_eq_some q)
    obtain ⟨r1, r2⟩ := r
    have h1' : r1 = a := h1
    subst h1'
    have h2' : r2 = f r1 := h2
    rw [h2']
theorem mem_standing {vs : Stemmata} {l : Lot} : l ∈ mStanding vs ↔ ∃ v ∈ vs.items, l ∈ v.items := by
  have key : ∀ (xs : List Stemma) (acc : List Lot), l ∈ xs.foldl (fun found v => found ++ v.items.filter fun l => decide (¬ l ∈ found)) acc ↔ l ∈ acc ∨ ∃ v ∈ xs, l ∈ v.items := by
    intro xs
    induction xs with
    | nil => intro acc; simp
    | cons x xs ih =>
      intro acc
      rw [List.foldl_cons, ih, List.mem_append, List.mem_filter]
      constructor
      · rintro ((z | ⟨z, _⟩) | ⟨v, hv, z⟩)
        · exact .inl z
        · exact .inr ⟨x, List.mem_cons_self, z⟩
        · exact .inr ⟨v, List.mem_cons_of_mem _ hv, z⟩
      · rintro (z | ⟨v, hv, z⟩)
        · exact .inl (.inl z)
        · rcases List.mem_cons.mp hv with y | y
          · by_cases q : l ∈ acc
            · exact .inl (.inl q)
            · exact .inl (.inr ⟨by rw [← y]; exact z, decide_eq_true q⟩)
          · exact .inr ⟨v, y, z⟩
  unfold mStanding
  rw [key]
  simp
theorem sum_perm {a b : List Int} (h : a.Perm b) : a.sum = b.sum := by
  induction h with
  | nil => rfl
  | cons x _ ih => rw [List.sum_cons, List.sum_cons, ih]
  | swap x y l => simp only [List.sum_cons]; omega
  | trans _ _ h1 h2 => exact h1.trans h2
section
variable {s : Sh} {vs : Stemmata}
abbrev keysOf (vs : Stemmata) : List Lot := keysFun (fun l => mManyOf vs l) (mStanding vs)
theorem keys_perm : (keysOf vs).Perm (lotsOf s vs) := (List.perm_ext_iff_of_nodup keys_nodup lots_nodup).mpr fun l => by rw [mem_keys, mem_standing, mem_lots]
theorem sure_perm : ((keysOf vs).filter fun l => decide ((vs.items.length : Int) < 2 * mManyOf vs l)).Perm (sureOf s vs) := keys_perm.filter _
theorem half_perm : ((keysOf vs).filter fun l => decide (2 * mManyOf vs l = (vs.items.length : Int))).Perm (halfOf s vs) := keys_perm.filter _
theorem least_perm : ((keysOf vs).map fun l => pmin (mManyOf vs l) ((vs.items.length : Int) - mManyOf vs l)).sum = mLeast s vs := by
  unfold mLeast
  rw [List.map_map]
  exact sum_perm (keys_perm.map _)
theorem Base.maj (B : Base s vs) : Near s vs (mMajority s vs) := by
  have e : mMajority s vs = stem s.copies (sureOf s vs ++ []) := by
    rw [List.append_nil]
    exact stemmaOf_eq B.lng
  rw [e]
  exact B.sure_stem (by rw [List.append_nil]; exact B.sure_lam) fun l hl => nomatch hl
end
end PD
end
section
set_option Elab.async false
set_option linter.all false
set_option maxRecDepth 100000
set_option maxHeartbeats 4000000
set_option autoImplicit false
namespace PD
open PySem L2
open PySem.W (Datum Tup)
open C8 (Cal Met Mak fnScope fnBody fnScope_by)
variable [Tabl]

/-! ### _law_right answers True -/
def G__law_right : GdO := fun T ds R => T = PotT 0 ∧ ds = [] ∧ R = fun d _ => d = Rep.toD true
section
variable {P : Program} {w : World} {K : PySem.W.Frag} {mg : Str → Option Value} {base : Heap} {C TC : Addr} {e : List Sl}
theorem eg_names {te : TE} {n : Nat} (he : e[0]? = some (.own (PotT n))) (h : EG C te e fun (k : Int) e' => 3 ≤ k ∧ k ≤ 11 ∧ e' = e.set 0 (.own (PotT (n + 1)))) (hn : n < 700000) :
    EG C (tCall (spO C G__law_names) [] C8.E0 (tCons (tVar 0) (tCons te tNil))) e fun (c : Lot) e' => c.items.Nodup ∧ 3 ≤ c.items.length ∧ c.items.length ≤ 11 ∧ (∀ x ∈ c.items, NameOk x) ∧ e' = e.set 0 (.own (PotT (n + 1 + 30))) := by
  have hl : 0 < e.length := (List.getElem?_eq_some_iff.mp he).1
  refine eg_callO (i := 0) (P := fun ds e' => ∃ k : Int, 3 ≤ k ∧ k ≤ 11 ∧ ds = [Rep.toD k] ∧ e' = e.set 0 (.own (PotT (n + 1)))) ⟨_, he⟩ (fun W F σ H s Q q => ega_cons (α := Int) h (fun ls e' p => EA.ega ea_nil) W F σ H s Q fun ds e' vs F' H' z => by
      obtain ⟨k, e1, ds1, ⟨k1, k2, rfl⟩, ⟨rfl, rfl⟩, rfl⟩ := z
      exact q _ _ vs F' H' ⟨k, k1, k2, rfl, rfl⟩) fun ds e' p => ?_
  obtain ⟨k, k1, k2, rfl, rfl⟩ := p
  refine ⟨PotT (n + 1), List.getElem?_set_self hl, _, ⟨n + 1, k, rfl, rfl, by omega, by omega, by omega, rfl⟩, fun d T' r => ?_⟩
  obtain ⟨c, rfl, h1, h2, h3, rfl⟩ := r
  exact ⟨c, rfl, h1, by omega, by omega, h3, by rw [List.set_set]⟩
theorem eg_drawn {n : Nat} {c : Lot} (he : e[0]? = some (.own (PotT n))) (hc1 : e[1]? = some (.dat (Rep.toD c))) (hc : c.items.Nodup) (h2 : 2 ≤ c.items.length) (h3 : c.items.length ≤ 14) (hn : n < 10000) :
    EG C (tCall (spO C G__law_drawn) [] C8.E0 (tCons (tVar 0) (tCons (tVar 1) tNil))) e fun (vs : Stemmata) e' => (vs.items ≠ [] ∧ vs.items.length ≤ 6 ∧ ∀ v ∈ vs.items, Drawn c v) ∧ e' = e.set 0 (.own (PotT (n + 10000))) :=
  eg_callI (α := Stemmata) (i := 0) he solo_pot (EA.eai (ea_cons (α := Lot) (ed_var (α := Lot) (i := 1) hc1) ea_nil)) (g := ⟨n, c, rfl, rfl, hc, h2, h3, hn, rfl⟩) fun d T' r => by
    obtain ⟨vs, rfl, r1, r2, r3, rfl⟩ := r
    exact ⟨solo_pot, vs, rfl, noL vs, ⟨r1, r2, r3⟩, rfl⟩
/-- the try statement: the number that the error holds -/
theorem es_tryX {s : Sh} {vs : Stemmata} {R : PyData → List Sl → Prop} (te : PySem.W.exmOne K (.ref TC) (.ref TC) = some true) (B : Base s vs) (h : 400 < (mLists (halfOf s vs)).length) (h2 : e[2]? = some (.dat (Rep.toD s))) (h3 : e[3]? = some (.dat (Rep.toD vs))) (hl : 12 < e.length) :
    ES C (tTryX C K TC) e (fun e' => e' = (e.set 11 (.dat (Rep.toD (400 : Int)))).set 12 .emp) R := fun W F σ H z D qn qr => by
  have hs := z.len
  show tCons (tVar 2) (tCons (tVar 3) tNil) σ H fun us H1 => spAnX C TC us H1 (fun _ H1 => D.nx σ H1) (WE (wAs K (.ref TC) 12 (fun a cls d => tAsg (tXf a cls d TC "value" (tVar 12)) (gName 11)) (fun _ _ _ _ => False) D) σ)
  refine (ea_cons (α := Sh) (ed_var (α := Sh) (i := 2) h2) (ea_cons (α := Stemmata) (ed_var (α := Stemmata) (i := 3) h3) ea_nil)) W F σ H z _ fun us H1 x t => ?_
  have z1 := z.same x
  refine ⟨Hd W F, s, vs, z1.hdk, z1.tabs, t, ⟨B, h⟩, fun H2 d x2 hd => ?_⟩
  refine ⟨true, te, fun _ a ha => ?_, fun q => nomatch q⟩
  have z2 := (z1.same x2).same (same_new (o := .xd [("value", V.int 400)]) hd)
  refine ⟨V.ref a, List.getElem?_set_self (by omega), rfl, rfl, d, [("value", V.int 400)], V.int 400, rfl, upd_same, by rfl, ?_⟩
  have e1 : (((σ.set 12 (some (V.ref a))).set 11 (some (V.int 400))).set 12 none : L2.St) = (σ.set 11 (some (V.int 400))).set 12 none := by
    rw [List.set_comm _ _ (by decide : (12 : Nat) ≠ 11), List.set_set]
  have e2 : D.nx ((σ.set 11 (some (V.int 400))).set 12 none) (upd H2 d (.xd [("value", V.int 400)])) := qn _ _ _ _ rfl ((z2.set (i := 11) (by decide) (d := .int 400) (.int 400)).drop (i := 12) (by decide))
  rw [← e1] at e2
  exact e2
theorem es__law_right (te : PySem.W.exmOne K (.ref TC) (.ref TC) = some true) {T : Thing} {ds : List PyData} {R : PyData → Thing → Prop} (h : G__law_right T ds R) :
    ES C (t__law_right C P w K TC) (startO N__law_right T ds) (fun e' => ∃ T', e'[0]? = some (.own T') ∧ R .none T') fun d e' => ∃ T', e'[0]? = some (.own T') ∧ R d T' := by
  obtain ⟨rfl, rfl, rfl⟩ := h
  show ES C _ [.own (PotT 0), .emp, .emp, .emp, .emp, .emp, .emp, .emp, .emp, .emp, .emp, .emp, .emp] _ _
  refine es_seq (N1 := fun e' => ∃ c : Lot, c.items.Nodup ∧ 3 ≤ c.items.length ∧ c.items.length ≤ 11 ∧ (∀ x ∈ c.items, NameOk x) ∧ e' = [.own (PotT 31), .dat (Rep.toD c), .emp, .emp, .emp, .emp, .emp, .emp, .emp, .emp, .emp, .emp, .emp])
    (es_setG (α := Lot) (i := 1) (by decide) (eg_names (n := 0) rfl ((eg_op (α := Int) (β := Int) (γ := Int) (ED.eg (ed_int (i := 3))) (P2 := fun _ _ k e' => 0 ≤ k ∧ k < 9 ∧ e' = [.own (PotT 1), .emp, .emp, .emp, .emp, .emp, .emp, .emp, .emp, .emp, .emp, .emp, .emp]) (fun a e' p => by
      obtain ⟨rfl, rfl⟩ := p
      exact eg_take (i := 0) rfl (ed_int (i := 9)) (by decide) (by decide) (by decide)) (P := fun k e' => 3 ≤ k ∧ k ≤ 11 ∧ e' = [.own (PotT 1), .emp, .emp, .emp, .emp, .emp, .emp, .emp, .emp, .emp, .emp, .emp, .emp]) fun a e' b e'' p q => by
      obtain ⟨rfl, rfl⟩ := p
      obtain ⟨q1, q2, rfl⟩ := q
      exact ⟨3 + b, rd_add, by omega, by omega, rfl⟩)) (by decide)) fun c e' p => ?_) fun e' p => ?_
  · obtain ⟨p1, p2, p3, p4, rfl⟩ := p
    exact ⟨c, p1, p2, p3, p4, rfl⟩
  obtain ⟨c, hc, hc3, hc11, hn, rfl⟩ := p
  have ok : CopOk c := ⟨fun z => by rw [z] at hc3; simp at hc3, by omega, hc, hn⟩
  refine es_seq (N1 := fun e' => ∃ vs : Stemmata, Base (shOf c) vs ∧ e' = [.own (PotT 10031), .dat (Rep.toD c), .dat (Rep.toD (shOf c)), .dat (Rep.toD vs), .emp, .emp, .emp, .emp, .emp, .emp, .emp, .emp, .emp])
    (es_parT (ins_call (ins_cons (ins_var (by decide)) (ins_cons (ins_var (by decide)) ins_nil))) (es_seq1 (es_set (α := Sh) (i := 2) (by decide) (ed_shelf ok (ed_call (α := Str) (ea_cons (α := (Tup Str)) (ed_var (α := (Tup Str)) (i := 1) rfl) (ea_cons (α := (List (Str × (Tup Int)))) (EF.ed (ef_lst (α := (Str × (Tup Int))) (as := []) ea_nil (show 0 ≤ 4096 by decide))) ea_nil)) ⟨_, _, rfl, ⟨rfl, Nat.le_trans hc11 (by decide), hn⟩, rfl⟩))) (es_setG (α := Stemmata) (i := 3) (by decide) (eg_drawn (n := 31) (c := c) rfl rfl hc (by omega) (by omega) (by decide)) fun vs e' p => ?_))) fun e' p => ?_
  · obtain ⟨⟨p1, p2, p3⟩, rfl⟩ := p
    exact ⟨vs, ⟨hc, decide_eq_true (by show (1 : Int) < (c.items.length : Int); omega), p1, p2, p3⟩, rfl⟩
  obtain ⟨vs, B, rfl⟩ := p
  have hfew := B.few
  have hB : (allLots vs).length < 4096 := Nat.lt_of_le_of_lt B.tot (by decide)
  refine es_seq1 (es_setH (i := 4) (by decide) (eh_dict (P := P) (w := w) (γ := Str) (β := Int) (EF.el (pb := true) (ef_map (β := ((Tup Str) × Int)) (src_list (α := (Tup Str)) (ED.el (ed_call (α := (List (Tup Str))) (ea_cons (α := (Tup (Tup (Tup Str)))) (ed_var (α := (Tup (Tup (Tup Str)))) (i := 3) rfl) ea_nil) ⟨_, rfl, hB, rfl⟩))) (fun x hx => (ed_pair (α := (Tup Str)) (β := Int) (ed_var (α := (Tup Str)) (i := 6) rfl) (ed_len_l (K := K) (EF.el (pb := true) (ef_filter (src_tup (α := (Tup (Tup Str))) (ED.eu (K := K) (ed_var (α := (Tup (Tup (Tup Str)))) (i := 3) rfl))) (fun x1 hx1 => (et_test (ed_inU (ED.er (K := K) (ed_var (α := (Tup Str)) (i := 6) rfl)) (ED.eu (K := K) (ed_var (α := (Tup (Tup Str))) (i := 5) rfl)))))))))))))) ?_
  show ES C _ [.own (PotT 10031), .dat (Rep.toD c), .dat (Rep.toD (shOf c)), .dat (Rep.toD vs), .own (DctT C P w (dictFun (fun l => mManyOf vs l) (mStanding vs))), .emp, .emp, .emp, .emp, .emp, .emp, .emp, .emp] _ _
  refine es_seq1 (es_set (α := (List (Tup Str))) (i := 7) (by decide) (EF.ed (ef_filter (b := fun l => decide ((vs.items.length : Int) < 2 * mManyOf vs l)) (src_dct (P := P) (w := w) (i := 4) rfl) (fun x hx => (et_test (ed_op (α := Int) (β := Int) (γ := Bool) (ed_op (α := Int) (β := Int) (γ := Int) (ed_int (i := 2)) (ed_ixN (b := mManyOf vs x) (P := P) (w := w) (i := 4) rfl (ed_var (α := (Tup Str)) (i := 6) rfl) (find_fun hx)) (rd_mul (Or.inl ⟨by decide, by decide⟩))) (ed_len_u (ED.eu (K := K) (ed_var (α := (Tup (Tup (Tup Str)))) (i := 3) rfl))) rd_cmp)))))) ?_
  refine es_seq1 (es_set (α := (List (Tup Str))) (i := 8) (by decide) (EF.ed (ef_filter (b := fun l => decide (2 * mManyOf vs l = (vs.items.length : Int))) (src_dct (P := P) (w := w) (i := 4) rfl) (fun x hx => (et_test (ed_eq (ED.er (K := K) (ed_op (α := Int) (β := Int) (γ := Int) (ed_int (i := 2)) (ed_ixN (b := mManyOf vs x) (P := P) (w := w) (i := 4) rfl (ed_var (α := (Tup Str)) (i := 6) rfl) (find_fun hx)) (rd_mul (Or.inl ⟨by decide, by decide⟩)))) (ED.er (K := K) (ed_len_u (ED.eu (K := K) (ed_var (α := (Tup (Tup (Tup Str)))) (i := 3) rfl)))))))))) ?_
  refine es_seq1 (e1 := [.own (PotT 10031), .dat (Rep.toD c), .dat (Rep.toD (shOf c)), .dat (Rep.toD vs), .own (DctT C P w (dictFun (fun l => mManyOf vs l) (mStanding vs))), .emp, .emp, .dat (Rep.toD ((keysOf vs).filter fun l => decide ((vs.items.length : Int) < 2 * mManyOf vs l))), .dat (Rep.toD ((keysOf vs).filter fun l => decide (2 * mManyOf vs l = (vs.items.length : Int)))), .dat (Rep.toD (mLeast (shOf c) vs)), .emp, .emp, .emp]) (((es_set (α := Int) (i := 9) (by decide) (ed_sum (EF.el (pb := true) (ef_map (β := Int) (f := fun l => pmin (mManyOf vs l) ((vs.items.length : Int) - mManyOf vs l)) (src_dct (P := P) (w := w) (i := 4) rfl) (fun x hx => (ed_min2 (ed_ixN (b := mManyOf vs x) (P := P) (w := w) (i := 4) rfl (ed_var (α := (Tup Str)) (i := 6) rfl) (find_fun hx)) (ed_op (α := Int) (β := Int) (γ := Int) (ed_len_u (ED.eu (K := K) (ed_var (α := (Tup (Tup (Tup Str)))) (i := 3) rfl))) (ed_ixN (b := mManyOf vs x) (P := P) (w := w) (i := 4) rfl (ed_var (α := (Tup Str)) (i := 6) rfl) (find_fun hx)) rd_sub)))))))).mono (fun e' p => ?_) fun _ _ z => z) ?_
  · rw [p, ← least_perm (s := shOf c)]
    rfl
  have hsu := sure_perm (s := shOf c) (vs := vs)
  have hha := half_perm (s := shOf c) (vs := vs)
  generalize hsu' : (keysOf vs).filter (fun l => decide ((vs.items.length : Int) < 2 * mManyOf vs l)) = sure at hsu ⊢
  generalize hha' : (keysOf vs).filter (fun l => decide (2 * mManyOf vs l = (vs.items.length : Int))) = half at hha ⊢
  have hhl : half.length < 64 := by
    have := hha.length_eq
    omega
  refine es_seq1 (es_set (α := (Int × (Tup (Tup Str)))) (i := 10) (by decide) (ed_call (α := (Int × (Tup (Tup Str)))) (ea_cons (α := Sh) (ed_var (α := Sh) (i := 2) rfl) (ea_cons (α := (Tup (Tup (Tup Str)))) (ed_var (α := (Tup (Tup (Tup Str)))) (i := 3) rfl) ea_nil)) ⟨_, _, rfl, B.wf, rfl⟩)) ?_
  refine es_never1 (et_or (et_test (ed_ne (ED.er (K := K) (ed_fst (α := Int) (β := (Tup (Tup Str))) (ed_var (α := (Int × (Tup (Tup Str)))) (i := 10) rfl))) (ED.er (K := K) (ed_var (α := Int) (i := 9) rfl)))) (fun h_ => (et_test (ed_op (α := Bool) (β := Bool) (γ := Bool) (ed_call (α := Bool) (ea_cons (α := Sh) (ed_var (α := Sh) (i := 2) rfl) (ea_cons (α := (Tup (Tup (Tup Str)))) (ed_var (α := (Tup (Tup (Tup Str)))) (i := 3) rfl) (ea_cons (α := (Int × (Tup (Tup Str)))) (ed_var (α := (Int × (Tup (Tup Str)))) (i := 10) rfl) ea_nil))) ⟨_, _, _, rfl, ⟨B.wf, B.maj.few⟩, rfl⟩) (ed_bl (b := true)) rd_notB)))) ?_ ?_
  · rw [Bool.or_eq_false_iff]
    refine ⟨decide_eq_false fun z => z rfl, ?_⟩
    rw [B.maj.shows B]
    rfl
  refine es_never1 (et_and (et_test (ed_eq (ED.er (K := K) (ed_var (α := (List (Tup Str))) (i := 8) rfl)) (EL.er (K := K) (EF.el (pb := true) (ef_lst (α := (Tup Str)) (as := []) ea_nil (show 0 ≤ 4096 by decide)))))) (fun h_ => (et_test (ed_ne (ED.er (K := K) (ed_snd (α := Int) (β := (Tup (Tup Str))) (ed_var (α := (Int × (Tup (Tup Str)))) (i := 10) rfl))) (ED.er (K := K) (ed_call (α := (Tup (Tup Str))) (ea_cons (α := Sh) (ed_var (α := Sh) (i := 2) rfl) (ea_cons (α := (Tup (Tup (Tup Str)))) (ed_var (α := (Tup (Tup (Tup Str)))) (i := 3) rfl) ea_nil)) ⟨_, _, rfl, B.wf, rfl⟩)))))) ?_ ?_
  · rw [Bool.and_eq_false_iff]
    exact .inr (decide_eq_false fun z => z rfl)
  have hnd : ∀ l ∈ half, l.items.Nodup := fun l hl => by
    have h1 := (B.lot (mem_half.mp (hha.mem_iff.mp hl)).1).1
    exact h1.nodup hc
  refine es_guard (et_test (ed_op (α := Int) (β := Int) (γ := Bool) (ed_call (α := Int) (ea_cons (α := (List (Tup Str))) (ed_var (α := (List (Tup Str))) (i := 8) rfl) ea_nil) ⟨_, rfl, hhl, rfl⟩) (ed_int (i := 400)) rd_cmp)) (fun hb => ?_) fun hb => ?_
  · have h4 : (mLists (halfOf (shOf c) vs)).length ≤ 400 := by
      rw [← B.lists_len hha]
      exact (many_told hnd).mp (of_decide_eq_true hb)
    exact es_ret (α := Bool) (ed_call (α := Bool) (ea_cons (α := (Tup Str)) (ed_var (α := (Tup Str)) (i := 1) rfl) (ea_cons (α := Sh) (ed_var (α := Sh) (i := 2) rfl) (ea_cons (α := (Tup (Tup (Tup Str)))) (ed_var (α := (Tup (Tup (Tup Str)))) (i := 3) rfl) (ea_cons (α := (List (Tup Str))) (ed_var (α := (List (Tup Str))) (i := 7) rfl) (ea_cons (α := (List (Tup Str))) (ed_var (α := (List (Tup Str))) (i := 8) rfl) (ea_cons (α := Int) (ed_var (α := Int) (i := 9) rfl) ea_nil)))))) ⟨_, _, _, _, _, _, rfl, ⟨rfl, B, h4, hsu, hha, rfl⟩, rfl⟩) ⟨_, rfl, rfl⟩
  · have h4 : 400 < (mLists (halfOf (shOf c) vs)).length := by
      rw [← B.lists_len hha]
      have h5 : ¬ mMany half ≤ 400 := of_decide_eq_false hb
      rw [many_told hnd] at h5
      omega
    refine es_seq1 (es_set (α := Unit) (i := 11) (by decide) ed_non) ?_
    refine es_seq1 (es_tryX te B h4 rfl rfl (by show 12 < 13; decide)) ?_
    exact es_ret (α := Bool) (ed_eq (ED.er (K := K) (ed_var (α := Int) (i := 11) rfl)) (ED.er (K := K) (ed_int (i := 400)))) ⟨_, rfl, rfl⟩
end
end PD
end
section
set_option Elab.async false
set_option linter.all false
set_option maxRecDepth 100000
set_option maxHeartbeats 4000000
set_option autoImplicit false
namespace PD
open PySem L2
open PySem.W (Datum Tup)
open C8 (Cal Met Mak fnScope fnBody fnScope_by)
variable [Tabl]

/-! ### the script: a list that is only read -/
def ScrT (K : PySem.W.Frag) (ns : List Int) : Thing where
  P h H v S := ∃ a, v = V.ref a ∧ S = (fun _ => False) ∧ ((¬ h a ∧ H a = some (.lst (ns.map V.int))) ∨ ∀ H' : Hp, (∀ o u, H a = some (.frz o u) → H' a = some (.frz o u)) → SqL K H' a (ns.map V.int))
  known := fun ⟨a, _, e, _⟩ z => by subst e; exact z.elim
  move := fun ⟨a, ev, e, t⟩ x k n => by
    subst e
    refine ⟨a, ev, rfl, t.imp (fun ⟨h1, h2⟩ => ⟨h1, x.keep _ _ (fun z => h1 (k a z)) h2⟩) fun t H' q => t H' fun o u z => q o u (x.frz _ _ _ z)⟩
  sub := fun ⟨a, ev, e, t⟩ k => by
    subst e
    refine ⟨a, ev, rfl, t.imp (fun ⟨h1, h2⟩ => ⟨fun z => (k a z).elim h1 (fun w => by
      rw [w] at h2
      cases h2), h2⟩) id⟩
theorem scr_of {K : PySem.W.Frag} {ns : List Int} {h : Addr → Prop} {H : Hp} {a : Addr} (q : SqL K H a (ns.map V.int)) (n : ¬ h a) : (ScrT K ns).P h H (V.ref a) fun _ => False := by
  refine ⟨a, rfl, rfl, ?_⟩
  rcases q with (q | ⟨o, q⟩) | q
  · exact .inl ⟨n, q⟩
  · exact .inr fun H' z => .inl (.inr ⟨o, z _ _ q⟩)
  · exact .inr fun H' _ => .inr q
theorem scr_seq {K : PySem.W.Frag} {ns : List Int} {h S : Addr → Prop} {H : Hp} {v : V} (q : (ScrT K ns).P h H v S) : ∃ a, v = V.ref a ∧ SqL K H a (ns.map V.int) := by
  obtain ⟨a, rfl, _, t⟩ := q
  refine ⟨a, rfl, ?_⟩
  rcases t with ⟨_, t⟩ | t
  · exact SqL.of t
  · exact t H fun _ _ z => z
def spR (K : PySem.W.Frag) (C : Addr) (G : List Int → List PyData → (PyData → Prop) → Prop) : Sp := fun vs H Q _ => ∃ (v0 : V) (vs' : List V) (h : Addr → Prop) (ns : List Int) (ds : List PyData) (R : PyData → Prop), vs = v0 :: vs' ∧ (∀ a, h a → H a ≠ none) ∧ LamX.Tabs Tabl.T H ∧
  (ScrT K ns).P h H v0 (fun _ => False) ∧ AtAll C h H vs' ds ∧ G ns ds R ∧ ∀ v d H2, R d → Same H H2 → At C h H2 v d → Q v H2
def spP (K : PySem.W.Frag) (C : Addr) (G : List Int → List PyData → (Int → Int → Prop) → Prop) : Sp := fun vs H Q _ => ∃ (v0 : V) (vs' : List V) (h : Addr → Prop) (ns : List Int) (ds : List PyData) (R : Int → Int → Prop), vs = v0 :: vs' ∧ (∀ a, h a → H a ≠ none) ∧ LamX.Tabs Tabl.T H ∧
  (ScrT K ns).P h H v0 (fun _ => False) ∧ AtAll C h H vs' ds ∧ G ns ds R ∧ ∀ p x y H2, R x y → H p = none → Same H H2 → H2 p = some (.lst [.int x, .int y, .int 0]) → Q (.ref p) H2
section
variable {C : Addr} {K : PySem.W.Frag} {N : List Str} {h : Addr → Prop} {H : Hp} {vs : List V} {ds : List PyData} {T : Thing}
theorem sa_startR {v0 : V} (known : ∀ a, h a → H a ≠ none) (tb : LamX.Tabs Tabl.T H) (tp : T.P h H v0 fun _ => False) (t : AtAll C h H vs ds) : SA C (W0 H h) F0 H (L2.start N (v0 :: vs)) (startO N T ds) where
  len := by
    have := t.length
    unfold L2.start startO
    simp [this]
  xt := .refl H
  tabs := tb
  mh := fun _ z => z.elim
  om := fun _ z => z
  ro := fun _ z => z
  known := known
  foot := fun _ _ z => z.elim
  apart := fun _ _ _ z => z.elim
  lent := fun _ _ z => z.elim
  r0 := fun _ z => nomatch z
  dat := fun i d k => by
    cases i with
    | zero => cases k
    | succ i =>
      have hl := t.length
      have e1 : N.length - (ds.length + 1) = (N.tail).length - ds.length := by rw [List.length_tail]; omega
      have e2 : N.length - (v0 :: vs).length = (N.tail).length - vs.length := by rw [List.length_tail, List.length_cons]; omega
      have k' : (ds.map Sl.dat ++ List.replicate (N.tail.length - ds.length) Sl.emp)[i]? = some (.dat d) := by rw [← e1]; exact k
      obtain ⟨v, h1, h2⟩ := start_dat (N := N.tail) t i d k'
      refine ⟨v, ?_, h2.sub fun a z => .inl (hd_W0 a z)⟩
      show ((v0 :: vs).map some ++ List.replicate (N.length - (v0 :: vs).length) none)[i + 1]? = _
      rw [e2]
      exact h1
  own := fun i T' k => by
    cases i with
    | zero =>
      cases k
      exact ⟨v0, rfl, T.sub tp fun a z => .inl (hd_W0 a z)⟩
    | succ i =>
      have e1 : N.length - (ds.length + 1) = (N.tail).length - ds.length := by rw [List.length_tail]; omega
      exact absurd (show (ds.map Sl.dat ++ List.replicate (N.tail.length - ds.length) Sl.emp)[i]? = some (.own T') by rw [← e1]; exact k) (start_noOwn (N := N.tail) i T')
theorem run_R {G : List Int → List PyData → (PyData → Prop) → Prop} {t : TS} {us : List V} {Q : VK} {E : XK} (hb : ∀ ns ds R, G ns ds R → ES C t (startO N (ScrT K ns) ds) (fun _ => R .none) fun d _ => R d) (p : spR K C G us H Q E) : t { nx := fun _ H' => Q .non H', rt := Q } (L2.start N us) H := by
  obtain ⟨v0, vs, hh, ns, ds, R, rfl, known, tb, tp, at_, g, q⟩ := p
  exact hb ns ds R g (W0 H hh) F0 (L2.start N (v0 :: vs)) H (sa_startR known tb tp at_) _ (fun e' F' σ' H' r s => q .non .none H' r (s.xt.same s.tabs) .non) fun v d e' F' σ' H' r s a => q v d H' r (s.xt.same s.tabs) (a.sub fun b z => .inl (.inl ⟨z, fun w => w⟩))
theorem run_P {G : List Int → List PyData → (Int → Int → Prop) → Prop} {t : TS} {us : List V} {Q : VK} {E : XK} (hb : ∀ ns ds R, G ns ds R → ESF C t (startO N (ScrT K ns) ds) fun ds' _ => ∃ x y, ds' = [Rep.toD x, Rep.toD y, Rep.toD (0 : Int)] ∧ R x y) (p : spP K C G us H Q E) : t { nx := fun _ H' => Q .non H', rt := Q } (L2.start N us) H := by
  obtain ⟨v0, vs, hh, ns, ds, R, rfl, known, tb, tp, at_, g, q⟩ := p
  refine hb ns ds R g (W0 H hh) F0 (L2.start N (v0 :: vs)) H (sa_startR known tb tp at_) (fun a z => z) _ fun p xs ds' e' F' σ' H' r s hp hf hl hz a => ?_
  obtain ⟨x, y, rfl, r⟩ := r
  have a' : AtAll C _ H' xs ([x, y, 0].map Rep.toD) := a
  rw [all_ints a'] at hl
  exact q p x y H' r hp (s.xt.same s.tabs) hl
theorem esf_retF {e : List Sl} {te : TE} {α : Type} [Rep α] {as : List α} {R : List PyData → List Sl → Prop} (hf : EF C te e as) (hr : R (as.map Rep.toD) e) : ESF C (tRet te) e R := fun W F σ H s hw D q => hf W F σ H s _ fun p xs H2 hp x hl hz t =>
  q p xs _ e F σ H2 hr (s.same x) (s.xt.free p hp) (fun z => (s.foot 0 p z).1 hp) hl hz (t.sub fun b z => .inl (z.imp (rt_hd s b) id))
end
section
variable {C : Addr} {K : PySem.W.Frag} {e : List Sl} {te : TE} {t : TA} {ns : List Int}
theorem ed_scrLen {i : Nat} (he : e[i]? = some (.own (ScrT K ns))) : ED C (tCB (rLenQ K) (tCons (tVar i) tNil)) e (ns.length : Int) := fun W F σ H s Q q => by
  obtain ⟨v, hv, tp⟩ := s.own i _ he
  obtain ⟨a, rfl, hS⟩ := scr_seq tp
  refine ⟨_, hv, _, _, rfl, .inl hS, ?_⟩
  rw [List.length_map]
  exact q _ H (Same.refl H) (.int _)
theorem at_map {j a : Int} (h : atI ns j = some a) : atI (ns.map V.int) j = some (V.int a) := by
  unfold atI at h ⊢
  rw [List.length_map]
  cases q : ixN ns.length j with
  | none => rw [q] at h; cases h
  | some n =>
    rw [q] at h
    show (ns.map V.int)[n]? = _
    rw [List.getElem?_map, show ns[n]? = some a from h]
    rfl
theorem ed_scrIx {i : Nat} {j a : Int} (he : e[i]? = some (.own (ScrT K ns))) (h : ED C te e j) (ha : atI ns j = some a) : ED C (tOp (rIxL K) (tVar i) te) e a := fun W F σ H s Q q => by
  obtain ⟨v, hv, _⟩ := s.own i _ he
  refine ⟨_, hv, h W F σ H s _ fun y H3 x3 a3 => ?_⟩
  cases at_int a3
  obtain ⟨v', hv', tp⟩ := (s.same x3).own i _ he
  rw [hv] at hv'
  cases hv'
  obtain ⟨p, rfl, hS⟩ := scr_seq tp
  exact ⟨p, _, j, _, rfl, rfl, hS, at_map ha, q _ H3 x3 (.int _)⟩
theorem ed_callR {α : Type} [Rep α] {G : List Int → List PyData → (PyData → Prop) → Prop} {ds : List PyData} {a : α} {i : Nat} (he : e[i]? = some (.own (ScrT K ns))) (h : EA C t e ds) (g : G ns ds fun d => d = Rep.toD a) : ED C (tCall (spR K C G) [] C8.E0 (tCons (tVar i) t)) e a := fun W F σ H s Q q => by
  obtain ⟨v, hv, _⟩ := s.own i _ he
  refine ⟨_, hv, h W F σ H s _ fun vs H2 x t2 => ?_⟩
  have s2 := s.same x
  obtain ⟨v', hv', tp⟩ := s2.own i _ he
  rw [hv] at hv'
  cases hv'
  obtain ⟨a0, ev, eS, t3⟩ := tp
  refine ⟨v, vs, Hd W F, ns, ds, _, by rw [List.append_nil], s2.hdk, s2.tabs, ⟨a0, ev, rfl, t3⟩, t2, g, fun u d H3 r x3 a3 => ?_⟩
  subst r
  exact q u H3 (x.trans x3) a3
end

/-! ### the pot, the cells -/
def tenSixty : Int := (10 ^ (60 : Int).toNat) ^ (5 : Int).toNat
def G__law_pot : List Int → List PyData → (Int → Int → Prop) → Prop := fun ns ds R => ∃ place : Int, ds = [Rep.toD place] ∧ 0 ≤ place ∧ place < 1000 ∧ R = fun x y => 0 ≤ x ∧ x < 10 ^ 300 ∧ 0 ≤ y ∧ y < 2305843009213693951
def cellsOf (ns : List Int) : Int := (if (if (ns.length : Int) < 2 then (ns.length : Int) else 2) > 1 then (if (ns.length : Int) < 2 then (ns.length : Int) else 2) else 1)
def G__law_cells : List Int → List PyData → (PyData → Prop) → Prop := fun ns ds R => ds = [Rep.toD (2 : Int)] ∧ ns.length ≤ 63 ∧ R = fun d => d = Rep.toD (upTo (cellsOf ns))
def G_law : List Int → List PyData → (PyData → Prop) → Prop := fun ns ds R => ds = [] ∧ ns.length ≤ 63 ∧ R = fun d => d = Rep.toD true
section
variable {P : Program} {w : World} {K : PySem.W.Frag} {mg : Str → Option Value} {base : Heap} {C : Addr}
abbrev N__law_pot : List Str := ["script", "place", "cell", "own", "small"]
theorem sc__law_pot : FnScope N__law_pot ["script", "place"] (fnScope (top 54)) := fnScope_by (by decide +kernel)
def t__law_pot (C : Addr) (K : PySem.W.Frag) : TS := (tSeq (tAsg (tIf (tTest (tOp (rI0 fun i j => .bl (decide (i < j))) (tVar 1) (tCB (rLenQ K) (tCons (tVar 0) tNil)))) (tOp (rIxL K) (tVar 0) (tVar 1)) (tOp (rI0 fun i j => .int (i + j)) (tOp (rI CMul fun i j => .int (i * j)) (tC (.int 271)) (tVar 1)) (tC (.int 89)))) (gName 2)) (tSeq (tAsg (tOp rMul1 (tOp rModN (tCB rInt1 (tCons (tCB rAbs1 (tCons (tVar 2) tNil)) tNil)) (tOp rPowW (tOp rPowW (tC (.int 10)) (tC (.int 60))) (tC (.int 5)))) (tCB rInt1 (tCons (tOp (rI0 fun i j => .bl (decide (j ≤ i))) (tCB rAbs1 (tCons (tVar 2) tNil)) (tOp rPowW (tC (.int 10)) (tC (.int 18)))) tNil))) (gName 3)) (tSeq (tAsg (tOp rModN (tCB rInt1 (tCons (tVar 2) tNil)) (tC (.int 2305843009213693951))) (gName 4)) (tRet (tLst (tCons (tVar 3) (tCons (tOp rModN (tCB rInt1 (tCons (tOp (rI0 fun i j => .int (i + j)) (tOp (rI0 fun i j => .int (i + j)) (tOp (rI CMul fun i j => .int (i * j)) (tVar 4) (tC (.int 84067))) (tOp rMul1 (tOp (rI CMul fun i j => .int (i * j)) (tC (.int 6151)) (tVar 1)) (tVar 1))) (tC (.int 373))) tNil)) (tC (.int 2305843009213693921))) (tCons (tC (.int 0)) tNil))))))))
theorem p__law_pot {cdv : Value} {A : Around} {outer : List Env} {s : Shared} {H : Hp} {E : XK} {f : Addr} {k : Nat} (M : Mg mg) (S : Shf P w K mg base C)  (hr : Room 1 (A.deeper (PyProof.Rows.envOfC "_law_pot" (fnScope (top 54)) s.heap.objs.size f cdv))) : PSs (cxOf C8.CX0 P w K mg base N__law_pot "_law_pot" (fnScope (top 54)) f cdv A outer s H E).nox (fnBody (top 54)) (t__law_pot C K) :=
  have nd := sc__law_pot.nd
  (pss_cons (ps_set (i := 2) nd rfl (by first | exact Or.inl rfl | exact Or.inr rfl) (pe_ifExp (pt_cmpR op_lt (pv 1) (pe_callB call_len_seq (by rfl) M.b_len bb_len (pa_cons (pv 0) pa_nil)) (nomark _)) (pe_ix ix_list (pv 0) (pv 1) (by intro _ _; rfl)) (pe_op op_add (pe_op op_mul pe_int (pv 1)) pe_int))) (pss_cons (ps_set (i := 3) nd rfl (by first | exact Or.inl rfl | exact Or.inr rfl) (pe_op op_mul (pe_op op_modN (pe_callTy call_int1 (by rfl) M.b_int bb_int (pa_cons (pe_callB call_abs (by rfl) M.b_abs bb_abs (pa_cons (pv 2) pa_nil)) pa_nil)) (pe_op op_powW (pe_op op_powW pe_int pe_int) pe_int)) (pe_callTy call_int1 (by rfl) M.b_int bb_int (pa_cons (pe_cmpR op_ge (pe_callB call_abs (by rfl) M.b_abs bb_abs (pa_cons (pv 2) pa_nil)) (pe_op op_powW pe_int pe_int) (nomark _)) pa_nil)))) (pss_cons (ps_set (i := 4) nd rfl (by first | exact Or.inl rfl | exact Or.inr rfl) (pe_op op_modN (pe_callTy call_int1 (by rfl) M.b_int bb_int (pa_cons (pv 2) pa_nil)) pe_int)) (pss_one (ps_ret (pe_lst (pa_cons (pv 3) (pa_cons (pe_op op_modN (pe_callTy call_int1 (by rfl) M.b_int bb_int (pa_cons (pe_op op_add (pe_op op_add (pe_op op_mul (pv 4) pe_int) (pe_op op_mul (pe_op op_mul pe_int (pv 1)) (pv 1))) pe_int) pa_nil)) pe_int) (pa_cons pe_int pa_nil)))))))))
abbrev N__law_cells : List Str := ["script", "upto"]
theorem sc__law_cells : FnScope N__law_cells ["script", "upto"] (fnScope (top 57)) := fnScope_by (by decide +kernel)
def t__law_cells (C : Addr) (K : PySem.W.Frag) : TS := (tRet (tLstRg (tRg1 (tCB rMax2 (tCons (tC (.int 1)) (tCons (tCB rMin2 (tCons (tVar 1) (tCons (tCB (rLenQ K) (tCons (tVar 0) tNil)) tNil))) tNil))))))
theorem p__law_cells {cdv : Value} {A : Around} {outer : List Env} {s : Shared} {H : Hp} {E : XK} {f : Addr} {k : Nat} (M : Mg mg) (S : Shf P w K mg base C)  (hr : Room 1 (A.deeper (PyProof.Rows.envOfC "_law_cells" (fnScope (top 57)) s.heap.objs.size f cdv))) : PSs (cxOf C8.CX0 P w K mg base N__law_cells "_law_cells" (fnScope (top 57)) f cdv A outer s H E).nox (fnBody (top 57)) (t__law_cells C K) :=
  have nd := sc__law_cells.nd
  (pss_one (ps_ret (pe_listRg (by rfl) (by rfl) M.b_list (prg_1 (by rfl) M.b_range (pe_callB (call_max2 (by rfl)) (by rfl) M.b_max bb_max (pa_cons pe_int (pa_cons (pe_callB (call_min2 (by rfl)) (by rfl) M.b_min bb_min (pa_cons (pv 1) (pa_cons (pe_callB call_len_seq (by rfl) M.b_len bb_len (pa_cons (pv 0) pa_nil)) pa_nil))) pa_nil)))))))
abbrev N_law : List Str := ["script", "place"]
theorem sc_law : FnScope N_law ["script"] (fnScope (top 70)) := fnScope_by (by decide +kernel)
def t_law (C : Addr) (K : PySem.W.Frag) : TS := (tSeq (tFor (iList K (tCall (spR K C G__law_cells) [] C8.E0 (tCons (tVar 0) (tCons (tC (.int 2)) tNil)))) (gName 1) (tIfS (tNot (tB (tCall (spO C G__law_right) [] C8.E0 (tCons (tCall (spP K C G__law_pot) [] C8.E0 (tCons (tVar 0) (tCons (tVar 1) tNil))) tNil)))) (tRet (tC (.bl false))) tNext)) (tRet (tC (.bl true))))
theorem p_law {cdv : Value} {A : Around} {outer : List Env} {s : Shared} {H : Hp} {E : XK} {f : Addr} {k : Nat} (M : Mg mg) (S : Shf P w K mg base C) (c__law_cells : Cal P w K mg base 2 "_law_cells" (spR K C G__law_cells) []) (c__law_pot : Cal P w K mg base 2 "_law_pot" (spP K C G__law_pot) []) (c__law_right : Cal P w K mg base 14 "_law_right" (spO C G__law_right) []) (hr : Room 14 (A.deeper (PyProof.Rows.envOfC "law" (fnScope (top 70)) s.heap.objs.size f cdv))) : PSs (cxOf C8.CX0 P w K mg base N_law "law" (fnScope (top 70)) f cdv A outer s H E).nox (fnBody (top 70)) (t_law C K) :=
  have nd := sc_law.nd
  (pss_cons (ps_for PassesOwn.never (by rfl) (pi_list (C8.pe_c c__law_cells hr (by decide) (by rfl) (pa_cons (pv 0) (pa_cons pe_int pa_nil)))) (pg_name (i := 1) nd rfl (by first | exact Or.inl rfl | exact Or.inr rfl)) (pss_one (ps_if (pt_not (pt_val (C8.pe_c c__law_right hr (by decide) (by rfl) (pa_cons (C8.pe_c c__law_pot hr (by decide) (by rfl) (pa_cons (pv 0) (pa_cons (pv 1) pa_nil))) pa_nil)))) (pss_one (ps_ret pe_bl)) pss_nil))) (pss_one (ps_ret pe_bl)))
theorem es__law_cells {ns : List Int} {ds : List PyData} {R : PyData → Prop} (h : G__law_cells ns ds R) : ES C (t__law_cells C K) (startO N__law_cells (ScrT K ns) ds) (fun _ => R .none) fun d _ => R d := by
  obtain ⟨rfl, hl, rfl⟩ := h
  show ES C _ [.own (ScrT K ns), .dat (Rep.toD (2 : Int))] _ _
  have hb : 0 ≤ (if (if (ns.length : Int) < 2 then (ns.length : Int) else 2) > 1 then (if (ns.length : Int) < 2 then (ns.length : Int) else 2) else 1) ∧ (if (if (ns.length : Int) < 2 then (ns.length : Int) else 2) > 1 then (if (ns.length : Int) < 2 then (ns.length : Int) else 2) else 1) ≤ 2 := by
    split <;> split <;> omega
  exact es_ret (α := List Int) (EF.ed (ef_listRg (ed_max2 (ed_int (i := 1)) (ed_min2 (ed_var (α := Int) (i := 1) rfl) (ed_scrLen (ns := ns) rfl))) hb.1 (Int.le_trans hb.2 (show (2 : Int) ≤ 4096 by decide)))) rfl
theorem cmul_bit {i : Int} {b : Bool} : CMul i (if b = true then 1 else 0) := .inr (by cases b <;> decide)
theorem mul_bit {v m : Int} {b : Bool} (h0 : 0 ≤ v) (h1 : v < m) : 0 ≤ v * (if b = true then 1 else 0) ∧ v * (if b = true then 1 else 0) < m := by
  cases b
  · show 0 ≤ v * 0 ∧ v * 0 < m
    rw [Int.mul_zero]
    omega
  · show 0 ≤ v * 1 ∧ v * 1 < m
    rw [Int.mul_one]
    exact ⟨h0, h1⟩
theorem big_eq : ((10 : Int) ^ (60 : Int).toNat) ^ (5 : Int).toNat = 10 ^ 300 := by decide +kernel
theorem es__law_pot {ns : List Int} {ds : List PyData} {R : Int → Int → Prop} (h : G__law_pot ns ds R) : ESF C (t__law_pot C K) (startO N__law_pot (ScrT K ns) ds) fun ds' _ => ∃ x y, ds' = [Rep.toD x, Rep.toD y, Rep.toD (0 : Int)] ∧ R x y := by
  obtain ⟨place, rfl, h0, h1, rfl⟩ := h
  show ESF C _ [.own (ScrT K ns), .dat (Rep.toD place), .emp, .emp, .emp] _
  have hix : decide (place < (ns.length : Int)) = true → atI ns place = some ((atI ns place).getD 0) := fun z => by
    have z := of_decide_eq_true z
    unfold atI ixN
    rw [if_pos h0, if_pos z]
    show ns[place.toNat]? = some ((ns[place.toNat]?).getD 0)
    rw [List.getElem?_eq_getElem (by omega)]
    rfl
  refine esf_seq (N := fun e' => ∃ c : Int, e' = [.own (ScrT K ns), .dat (Rep.toD place), .dat (Rep.toD c), .emp, .emp]) ((es_set (α := Int) (i := 2) (by decide) (ed_iteC (α := Int) (et_test (ed_op (α := Int) (β := Int) (γ := Bool) (ed_var (α := Int) (i := 1) rfl) (ed_scrLen (ns := ns) rfl) rd_cmp)) (fun h_ => (ed_scrIx (ns := ns) rfl (ed_var (α := Int) (i := 1) rfl) (hix h_))) (fun h_ => (ed_op (α := Int) (β := Int) (γ := Int) (ed_op (α := Int) (β := Int) (γ := Int) (ed_int (i := 271)) (ed_var (α := Int) (i := 1) rfl) (rd_mul (Or.inl ⟨by decide, by decide⟩))) (ed_int (i := 89)) rd_add)))).mono (fun e' p => ⟨_, p⟩) fun _ _ z => z) fun e' p => ?_
  obtain ⟨c, rfl⟩ := p
  refine esf_seq (N := fun e' => ∃ x : Int, 0 ≤ x ∧ x < 10 ^ 300 ∧ e' = [.own (ScrT K ns), .dat (Rep.toD place), .dat (Rep.toD c), .dat (Rep.toD x), .emp]) ((es_set (α := Int) (i := 3) (by decide) (ed_op (α := Int) (β := Int) (γ := Int) (ed_op (α := Int) (β := Int) (γ := Int) (ed_int1 (ed_abs (ed_var (α := Int) (i := 2) rfl))) (ed_op (α := Int) (β := Int) (γ := Int) (ed_op (α := Int) (β := Int) (γ := Int) (ed_int (i := 10)) (ed_int (i := 60)) (rd_powW (by unfold CPowW; decide +kernel))) (ed_int (i := 5)) (rd_powW (by unfold CPowW; decide +kernel))) (rd_modN (by decide +kernel))) (ed_intB (ed_op (α := Int) (β := Int) (γ := Bool) (ed_abs (ed_var (α := Int) (i := 2) rfl)) (ed_op (α := Int) (β := Int) (γ := Int) (ed_int (i := 10)) (ed_int (i := 18)) (rd_powW (by unfold CPowW; decide +kernel))) rd_cmp)) (rd_mul1 cmul_bit))).mono (fun e' p => ⟨_, ?_, ?_, p⟩) fun _ _ z => z) fun e' p => ?_
  · exact (mul_bit (fmod_in (by decide +kernel)).1 (fmod_in (by decide +kernel)).2).1
  · rw [← big_eq]
    exact (mul_bit (fmod_in (by decide +kernel)).1 (fmod_in (by decide +kernel)).2).2
  obtain ⟨x, hx0, hx1, rfl⟩ := p
  refine esf_seq (N := fun e' => ∃ y : Int, e' = [.own (ScrT K ns), .dat (Rep.toD place), .dat (Rep.toD c), .dat (Rep.toD x), .dat (Rep.toD y)]) ((es_set (α := Int) (i := 4) (by decide) (ed_op (α := Int) (β := Int) (γ := Int) (ed_int1 (ed_var (α := Int) (i := 2) rfl)) (ed_int (i := 2305843009213693951)) (rd_modN (by decide)))).mono (fun e' p => ⟨_, p⟩) fun _ _ z => z) fun e' p => ?_
  obtain ⟨y, rfl⟩ := p
  have hq : ∀ i : Int, 0 ≤ i.fmod 2305843009213693921 ∧ i.fmod 2305843009213693921 < 2305843009213693951 := fun i => by
    have := fmod_in (i := i) (u := 2305843009213693921) (by decide)
    omega
  exact esf_retF (α := Int) (as := [x, (y * 84067 + 6151 * place * place + 373).fmod 2305843009213693921, 0]) (ef_lst (α := Int) (as := [_, _, _]) (ea_cons (α := Int) (ed_var (α := Int) (i := 3) rfl) (ea_cons (α := Int) (ed_op (α := Int) (β := Int) (γ := Int) (ed_int1 (ed_op (α := Int) (β := Int) (γ := Int) (ed_op (α := Int) (β := Int) (γ := Int) (ed_op (α := Int) (β := Int) (γ := Int) (ed_var (α := Int) (i := 4) rfl) (ed_int (i := 84067)) (rd_mul (Or.inr ⟨by decide, by decide⟩))) (ed_op (α := Int) (β := Int) (γ := Int) (ed_op (α := Int) (β := Int) (γ := Int) (ed_int (i := 6151)) (ed_var (α := Int) (i := 1) rfl) (rd_mul (Or.inl ⟨by decide, by decide⟩))) (ed_var (α := Int) (i := 1) rfl) (rd_mul1 (Or.inr ⟨by omega, by omega⟩))) rd_add) (ed_int (i := 373)) rd_add)) (ed_int (i := 2305843009213693921)) (rd_modN (by decide))) (ea_cons (α := Int) (ed_int (i := 0)) ea_nil))) (show 3 ≤ 4096 by decide))
    ⟨x, _, rfl, hx0, hx1, (hq _).1, (hq _).2⟩
end
end PD
end
section
set_option Elab.async false
set_option linter.all false
set_option maxRecDepth 100000
set_option maxHeartbeats 4000000
set_option autoImplicit false
namespace PD
open PySem L2
open PySem.W (Datum Tup)
open C8 (Cal Met Mak fnScope fnBody fnScope_by)
variable [Tabl]

/-! ### law -/
theorem cells_in (ns : List Int) : 0 ≤ cellsOf ns ∧ cellsOf ns ≤ 2 := by
  unfold cellsOf
  split <;> split <;> omega
section
variable {C : Addr} {K : PySem.W.Frag} {e : List Sl} {ns : List Int}
theorem ed_right {place : Int} (he : e[0]? = some (.own (ScrT K ns))) (hp : e[1]? = some (.dat (Rep.toD place))) (h0 : 0 ≤ place) (h1 : place < 1000) :
    ED C (tCall (spO C G__law_right) [] C8.E0 (tCons (tCall (spP K C G__law_pot) [] C8.E0 (tCons (tVar 0) (tCons (tVar 1) tNil))) tNil)) e true := fun W F σ H s Q q => by
  obtain ⟨v, hv, _⟩ := s.own 0 _ he
  refine ⟨_, hv, (ea_cons (α := Int) (ed_var (α := Int) (i := 1) hp) ea_nil) W F σ H s _ fun vs H2 x t2 => ?_⟩
  have s2 := s.same x
  obtain ⟨v', hv', tp⟩ := s2.own 0 _ he
  rw [hv] at hv'
  cases hv'
  obtain ⟨a0, ev, eS, t3⟩ := tp
  refine ⟨v, vs, Hd W F, ns, _, _, by rw [List.append_nil], s2.hdk, s2.tabs, ⟨a0, ev, rfl, t3⟩, t2, ⟨place, rfl, h0, h1, rfl⟩, fun p y z H3 r hpn xx hl => ?_⟩
  obtain ⟨y0, y1, z0, z1⟩ := r
  refine ⟨V.ref p, [], fun b => b = p, fun b => b = p, PotT 0, [], _, rfl, fun b w => ?_, xx.tabs s2.tabs, fun b w => w, ⟨p, rfl, rfl, y, z, 0, hl, y0, y1, z0, z1, Int.le_refl 0, Int.le_refl 0⟩, .nil, ⟨rfl, rfl, rfl⟩, fun u d T' S' H4 r4 x4 tb4 k4 t4 a4 => ?_⟩
  · have w' : b = p := w
    rw [w', hl]
    intro c
    cases c
  · subst r4
    refine q u H4 (x.trans ⟨fun b o qb nb => x4.keep b o (fun w => ?_) (xx.keep b o qb nb) nb, fun {b} qb => xx.free (x4.free b qb), fun _ => tb4⟩) (a4.nol rfl)
    have w' : b = p := w
    rw [w', hpn] at qb
    cases qb
theorem es_law {ds : List PyData} {R : PyData → Prop} (h : G_law ns ds R) : ES C (t_law C K) (startO N_law (ScrT K ns) ds) (fun _ => R .none) fun d _ => R d := by
  obtain ⟨rfl, hl, rfl⟩ := h
  show ES C _ [.own (ScrT K ns), .emp] _ _
  have hc := cells_in ns
  refine es_seq (N1 := fun _ => True) (es_for (xs := upTo (cellsOf ns)) (enc := fun v => [(1, Rep.toD v)]) (fun i e' => ∃ x, e' = [.own (ScrT K ns), x] ∧ isVal (some x) = true)
    (src_list (α := Int) (ED.el (ed_callR (α := List Int) (ns := ns) rfl (ea_cons (α := Int) (ed_int (i := 2)) ea_nil) ⟨rfl, hl, rfl⟩))) ⟨.emp, rfl, rfl⟩ (fun i v e' hi I => ?_) (fun v b hb => ?_) fun e' I => trivial) fun e' n => es_ret (α := Bool) (ed_bl (b := true)) rfl
  · obtain ⟨x, rfl, hx⟩ := I
    refine ⟨fun b hb => by rw [List.mem_singleton.mp hb]; exact hx, ?_⟩
    have hv : 0 ≤ v ∧ v < 1000 := by
      have h1 := List.mem_of_getElem? hi
      unfold upTo at h1
      obtain ⟨k, hk, rfl⟩ := List.mem_map.mp h1
      have := List.mem_range.mp hk
      omega
    show ES C _ [.own (ScrT K ns), .dat (Rep.toD v)] _ _
    exact es_never (et_not (et_B (ed_right (ns := ns) (place := v) rfl rfl hv.1 hv.2))) rfl ⟨.dat (Rep.toD v), rfl, rfl⟩
  · rw [List.mem_singleton.mp hb]; exact (by decide : (1 : Nat) ≠ 0)
end
end PD
end
section
set_option Elab.async false
set_option linter.all false
set_option maxRecDepth 100000
set_option maxHeartbeats 4000000
set_option autoImplicit false
/-! what the head tells, as the walk asks for it -/
namespace HK
open PySem PySem.W PySem.Calls PyProof.Rows L2
open He (Fa DefD)
theorem same_ok {a b : Option (Option Value)} (h : same a b = true) : a = b := He.eqO_ok h
theorem yes_ok {b : Option Bool} (h : yes b = true) : b = some true := by
  unfold yes at h
  split at h
  · rfl
  · cases h
theorem fun_of {K : Frag} {d : DefD} (F : ∃ fd, FunD K d.name d.qual d.params d.body d.scope (d.dvs K) (d.kws K) (He.fAd K d.at_) fd) {st : Stmt} (e1 : d.params = C8.fnArgs st) (e2 : d.body = C8.fnBody st) (e3 : d.scope = C8.fnScope st) (e4 : d.dfl = []) :
    ∃ fd, C8.Fun K d.name d.qual st (He.fAd K d.at_) fd ∧ fd.defaults = .none ∧ keepIn K (.ref (He.fAd K d.at_)) = true ∧ ∃ cc, fd.code = .ref cc ∧ He.codeOf K d.at_ = cc := by
  obtain ⟨fd, ⟨oc, od, dV, kV, doc, pm, an, cdv, ct, osl, e, lk, hcd, hD, hK⟩, kp⟩ := F
  have hdV : dV = .none := by
    rcases hD with ⟨_, z⟩ | ⟨z, _⟩
    · exact z
    · unfold DefD.dvs at z
      rw [e4] at z
      exact absurd rfl z
  subst e
  rw [e1, e2, e3] at lk
  subst hdV
  obtain ⟨cc, hc⟩ := He.codeIn_ref hcd
  exact ⟨_, ⟨oc, od, .none, kV, doc, pm, an, cdv, ct, osl, rfl, lk, hcd⟩, rfl, kp, cc, hc, He.codeOf_eq lk hc⟩
section
variable {h : Heap} {K : Frag} {mg : PySem.Str → Option Value} (X : K.In h) (G : h.Ns mainGlobals mg) (c : Says h K)
include X G c
theorem def_of (i : Nat) (x : PySem.Str) (n m : Nat) (hn : fn[n]? = some (dD i x)) (hm : fa[m]? = some (.glo x)) : ∃ fd, C8.Def K mg x (PD.top i) (He.ga K x) fd ∧ fd.defaults = .none ∧ ∃ cc, fd.code = .ref cc ∧ He.codeOf K (x, none) = cc := by
  obtain ⟨fd, F, h1, kp, h2⟩ := fun_of (st := PD.top i) (c.d.def_ n hn) rfl rfl rfl rfl
  exact ⟨fd, ⟨F, He.glo_ok X G (c.d.fact m hm), kp⟩, h1, h2⟩
theorem met_of (i k : Nat) (cl m q : PySem.Str) (n : Nat) (hn : fn[n]? = some (dM i k cl m q)) : ∃ fd, C8.Fun K m q (PD.inC i k) (He.ma K (He.ga K cl) m) fd ∧ fd.defaults = .none := by
  obtain ⟨fd, F, h1, kp, h2⟩ := fun_of (st := PD.inC i k) (c.d.def_ n hn) rfl rfl rfl rfl
  exact ⟨fd, F, h1⟩
theorem mg_of' : PD.Mg mg where
  b_abs := He.free_ok X G (c.d.fact 46 (f := .free "abs") rfl)
  b_all := He.free_ok X G (c.d.fact 47 (f := .free "all") rfl)
  b_any := He.free_ok X G (c.d.fact 48 (f := .free "any") rfl)
  b_bool := He.free_ok X G (c.d.fact 49 (f := .free "bool") rfl)
  b_dict := He.free_ok X G (c.d.fact 50 (f := .free "dict") rfl)
  b_enumerate := He.free_ok X G (c.d.fact 51 (f := .free "enumerate") rfl)
  b_int := He.free_ok X G (c.d.fact 52 (f := .free "int") rfl)
  b_isinstance := He.free_ok X G (c.d.fact 53 (f := .free "isinstance") rfl)
  b_len := He.free_ok X G (c.d.fact 54 (f := .free "len") rfl)
  b_list := He.free_ok X G (c.d.fact 55 (f := .free "list") rfl)
  b_max := He.free_ok X G (c.d.fact 56 (f := .free "max") rfl)
  b_min := He.free_ok X G (c.d.fact 57 (f := .free "min") rfl)
  b_range := He.free_ok X G (c.d.fact 58 (f := .free "range") rfl)
  b_set := He.free_ok X G (c.d.fact 59 (f := .free "set") rfl)
  b_sorted := He.free_ok X G (c.d.fact 60 (f := .free "sorted") rfl)
  b_str := He.free_ok X G (c.d.fact 61 (f := .free "str") rfl)
  b_sum := He.free_ok X G (c.d.fact 62 (f := .free "sum") rfl)
  b_tuple := He.free_ok X G (c.d.fact 63 (f := .free "tuple") rfl)
  k_MOST_COPIES := He.int_ok X G (c.d.fact 65 (f := .int "MOST_COPIES" 12) rfl)
  k_MOST_NEAREST := He.int_ok X G (c.d.fact 66 (f := .int "MOST_NEAREST" 400) rfl)
  k_MOST_PLACES := He.int_ok X G (c.d.fact 67 (f := .int "MOST_PLACES" 30) rfl)
  k_MOST_READING := He.int_ok X G (c.d.fact 68 (f := .int "MOST_READING" 9) rfl)
  k_MOST_SIGNS := He.int_ok X G (c.d.fact 69 (f := .int "MOST_SIGNS" 8) rfl)
  k_MOST_STEMMATA := He.int_ok X G (c.d.fact 70 (f := .int "MOST_STEMMATA" 9) rfl)
  k_COPY := He.str_ok X G (c.d.fact 71 (f := .str "COPY" "copy") rfl)
  k_FIGURES_shelves := He.str_ok X G (c.d.fact 72 (f := .str "FIGURES_shelves" "0123456789") rfl)
  k_FIGURES_words := He.str_ok X G (c.d.fact 73 (f := .str "FIGURES_words" "0123456789") rfl)
  k_LETTERS := He.str_ok X G (c.d.fact 74 (f := .str "LETTERS" "abcdefghijklmnopqrstuvwxyz") rfl)
  k_PLACE := He.str_ok X G (c.d.fact 75 (f := .str "PLACE" "place") rfl)
theorem rdF : PD.RdF K (He.ga K "Reader") := ⟨He.cls_ok (c.d.fact 76 (f := .cls "Reader") rfl), He.noat_ok (c.d.fact 83 (f := .noat "Reader" "own_copies") rfl), He.noat_ok (c.d.fact 84 (f := .noat "Reader" "own_places") rfl)⟩
theorem shF : PD.ShF K (He.ga K "Shelf") := ⟨He.cls_ok (c.d.fact 77 (f := .cls "Shelf") rfl), He.noat_ok (c.d.fact 85 (f := .noat "Shelf" "own_text") rfl), He.noat_ok (c.d.fact 86 (f := .noat "Shelf" "own_copies") rfl), He.noat_ok (c.d.fact 87 (f := .noat "Shelf" "own_places") rfl)⟩
theorem insC : C8.InsC K (He.ga K "Shelf") := by
  have z := c.ins
  unfold insB at z
  simp only [Bool.and_eq_true] at z
  obtain ⟨h1, h2, h3, h4, h5⟩ := z
  exact ⟨He.cls_ok (c.d.fact 77 (f := .cls "Shelf") rfl), same_ok h1, same_ok h2, yes_ok h3, yes_ok h4, yes_ok h5⟩
theorem shf_of {P : Program} {w : World} {base : Heap} : PD.Shf P w K mg base (He.ga K "Shelf") := by
  have z := c.get
  unfold getB at z
  simp only [Bool.and_eq_true] at z
  obtain ⟨h1, h2, h3, h4, h5, h6⟩ := z
  refine ⟨He.cls_ok (c.d.fact 77 (f := .cls "Shelf") rfl), insC X G c, He.glo_ok X G (c.d.fact 43 (f := .glo "Shelf") rfl), prA K, geA K, ?_⟩
  have hr : ∃ rest, recIn K (prA K) "property" = some (.ref (geA K) :: rest) := by
    unfold geA
    split at h4
    · rename_i g rest q
      rw [q]
      exact ⟨rest, rfl⟩
    · cases h4
  have hs := c.getr
  unfold seeF lookF at hs
  cases q : K.lookup (geA K) with
  | none => rw [q] at hs; cases hs
  | some o =>
    obtain ⟨oc, od, dt, osl⟩ := o
    rw [q] at hs
    cases dt with
    | func fd =>
      obtain ⟨n1, n2, n3, n4, n5, n6, n7, n8, n9, n10, n11, n12, n13, n14, n15⟩ := fd
      have e2 : (some (n1, n2, n3, n4, n5, n6, n7.map (·.1), n8, n9, n15) : FnY) = seeGet := hs
      unfold seeGet at e2
      simp only [Option.some.injEq, Prod.mk.injEq] at e2
      obtain ⟨e1, e2, e3, e4, e5, e6, e7, e8, e9, e10⟩ := e2
      have e7' : n7 = [] := by simpa using e7
      subst e1 e2 e3 e4 e5 e6 e7' e8 e9 e10
      have hcd : codeIn K n13 "Shelf.copies" = true := by
        have ec : n13 = .ref (cdA K (geA K)) := by
          unfold refC lookF at h6
          unfold cdA lookF
          rw [q] at h6 ⊢
          cases n13 with
          | ref a => rfl
          | _ => cases h6
        rw [ec]
        exact h5
      refine ⟨_, ⟨same_ok h1, same_ok h2, yes_ok h3, hr⟩, fn_getter (N := ["self"]) (oc := oc) (od := od) (dV := .none) (kV := .none) (doc := n10) (pm := n11) (an := n12) (cdv := n13) (ct := n14) (osl := osl) q hcd (C8.fnScope_by (by decide +kernel)) rfl rfl (He.cls_ok (c.d.fact 77 (f := .cls "Shelf") rfl)) (He.noat_ok (c.d.fact 86 (f := .noat "Shelf" "own_copies") rfl)), ?_⟩
      exact .all fun us hl => by
        match us, hl with
        | [u], _ => rfl
    | _ => cases hs
end
end HK
end
section
set_option Elab.async false
set_option linter.all false
set_option maxRecDepth 100000
set_option maxHeartbeats 4000000
set_option autoImplicit false
/-! the error's class -/
namespace HK
open PySem PySem.W PySem.Calls PyProof.Rows L2
open He (Fa DefD)
section
variable {h : Heap} {K : Frag} {mg : PySem.Str → Option Value} (X : K.In h) (G : h.Ns mainGlobals mg) (c : Says h K)
include X G c
theorem bk_of : BkX.BkTxt R.prog K mg "TooMany" (He.ga K "TooMany") (He.ga K "BookError") (initA K) (ceA K (initA K)) (cdA K (initA K)) := by
  have z := c.err
  unfold errB at z
  simp only [Bool.and_eq_true] at z
  obtain ⟨z1, z2, z3, z4, z5, z6, z7, z8, z9, z10, z11, z12, z13, z14, z15, z16⟩ := z
  have hs := c.init
  refine ⟨He.glo_ok X G (c.d.fact 44 (f := .glo "TooMany") rfl), ?_, same_ok z2, same_ok z3, same_ok z4, of_decide_eq_true z5, He.keep_ok (c.d.fact 89 (f := .keep "TooMany") rfl), yes_ok z6, of_decide_eq_true z7, He.exm_ok (c.d.fact 88 (f := .exm "TooMany" "TooMany" true) rfl), yes_ok z8, Option.isSome_iff_exists.mp z9, yes_ok z10, same_ok z11, same_ok z12, He.free_ok X G (c.d.fact 64 (f := .free "super") rfl), (by decide +kernel), ?_, ?_, ?_⟩
  · cases q : K.lookup (He.ga K "TooMany") with
    | none => rw [q] at z1; cases z1
    | some o =>
      obtain ⟨oc, od, dt, osl⟩ := o
      rw [q] at z1
      cases oc with
      | type n =>
        cases dt with
        | cls cd =>
          obtain ⟨a1, a2⟩ := He.ba z1
          have en : n = "type" := of_decide_eq_true a1
          subst en
          obtain ⟨nm, bs, mro, ns, qn, hd, sn, sub, ab, col, del⟩ := cd
          dsimp only at a2
          split at a2
          · rename_i C' bm k0 k1 k2 k3 zz k5 hl
            obtain ⟨b1, a2⟩ := He.ba a2
            obtain ⟨b2, a2⟩ := He.ba a2
            obtain ⟨b3, a2⟩ := He.ba a2
            obtain ⟨b4, b5⟩ := He.ba a2
            have e1 : C' = He.ga K "TooMany" := of_decide_eq_true b1
            have e2 : zz = "ValueError.__new__" := of_decide_eq_true b2
            have e3 : del = false := by cases del <;> first | rfl | cases b3
            have e5 : osl = #[k0, k1, k2, k3, some (.builtin zz), k5] := by
              have := congrArg List.toArray hl
              simpa using this
            subst e1 e2 e3 e5
            have e4 : hd = true := b4
            subst e4
            exact ⟨nm, qn, ns, bs, bm, sn, sub, ab, col, od, k0, k1, k2, k3, k5, rfl, b5⟩
          · cases a2
        | _ => cases z1
      | _ => cases z1
  · cases q : K.lookup (ceA K (initA K)) with
    | none => rw [q] at z13; cases z13
    | some o =>
      obtain ⟨oc, od, dt, osl⟩ := o
      rw [q] at z13
      cases dt with
      | cell v =>
        cases v with
        | none => cases z13
        | some u =>
          cases u with
          | ref D =>
            have e : D = He.ga K "BookError" := of_decide_eq_true z13
            subst e
            exact ⟨_, _, _, rfl⟩
          | _ => cases z13
      | _ => cases z13
  · cases q : K.lookup (cdA K (initA K)) with
    | none => rw [q] at z14; cases z14
    | some o =>
      obtain ⟨oc, od, dt, osl⟩ := o
      rw [q] at z14
      cases dt with
      | fields vs =>
        dsimp only at z14
        split at z14
        · rename_i file tf q2
          exact ⟨_, _, vs, _, file, tf, rfl, q2, z14⟩
        · cases z14
      | _ => cases z14
  · unfold seeF lookF at hs
    cases q : K.lookup (initA K) with
    | none => rw [q] at hs; cases hs
    | some o =>
      obtain ⟨oc, od, dt, osl⟩ := o
      rw [q] at hs
      cases dt with
      | func fd =>
        obtain ⟨n1, n2, n3, n4, n5, n6, n7, n8, n9, n10, n11, n12, n13, n14, n15⟩ := fd
        have e2 : (some (n1, n2, n3, n4, n5, n6, n7.map (·.1), n8, n9, n15) : FnY) = seeInit := hs
        unfold seeInit at e2
        simp only [Option.some.injEq, Prod.mk.injEq] at e2
        obtain ⟨e1, e2, e3, e4, e5, e6, e7, e8, e9, e10⟩ := e2
        subst e1 e2 e3 e4 e5 e6 e8 e9 e10
        have ec : n13 = .ref (cdA K (initA K)) := by
          unfold refC lookF at z15
          unfold cdA lookF
          rw [q] at z15 ⊢
          cases n13 with
          | ref a => rfl
          | _ => cases z15
        have ecl : n7 = ([("__class__", ceA K (initA K))] : List (PySem.Str × Addr)) := by
          unfold ceA lookF
          rw [q]
          cases n7 with
          | nil => cases e7
          | cons p r =>
            cases r with
            | nil =>
              obtain ⟨a, b⟩ := p
              simp only [List.map_cons, List.map_nil, List.cons.injEq, and_true] at e7
              subst e7
              rfl
            | cons p2 r => simp at e7
        subst ec
        refine ⟨oc, od, n10, n11, n12, n14, osl, "BookError.__init__", ?_, z16⟩
        rw [ecl]
      | _ => cases hs
end
end HK
end
section
set_option Elab.async false
set_option linter.all false
set_option maxRecDepth 100000
set_option maxHeartbeats 4000000
set_option autoImplicit false
/-! every def keeps its promise -/
namespace HK
open PySem PySem.W PySem.Calls PyProof.Rows L2
open He (Fa DefD)
open C8 (Cal Met Mak)
abbrev cS (K : Frag) : Addr := He.ga K "Shelf"
abbrev cR (K : Frag) : Addr := He.ga K "Reader"
section
variable [PD.Tabl] {h base : Heap} {K : Frag} {mg : PySem.Str → Option Value} {w : World}
/-- where the law is called -/
structure Wld (h base : Heap) (K : Frag) (mg : PySem.Str → Option Value) (w : World) : Prop where
  X : K.In h
  G : h.Ns mainGlobals mg
  c : Says h K
  TB : LamX.TabB base mg (He.cT K bySz).1 (He.cT K bySz).2
  hm : ((He.cT K bySz).2, ("by_size.<locals>.<lambda>" : PySem.Str)) ∈ PD.Tabl.T
  hu : ∀ p ∈ PD.Tabl.T, p.1 = (He.cT K bySz).2 → p.2 = ("by_size.<locals>.<lambda>" : PySem.Str)
theorem d_is_integer (V : Wld h base K mg w) : ∃ fd, C8.Def K mg "is_integer" (PD.top 13) (He.ga K "is_integer") fd ∧ Binds K fd ["value"] [] ∧ ∃ cc, fd.code = .ref cc ∧ He.codeOf K ("is_integer", none) = cc := by
  obtain ⟨fd, D, df, ca⟩ := def_of V.X V.G V.c 13 "is_integer" 0 0 rfl rfl
  exact ⟨fd, D, D.fn.binds df fun _ _ _ _ _ _ us hl => by
      match us, hl with
      | [_], _ => rfl, ca⟩
theorem k_is_integer (V : Wld h base K mg w) : Cal R.prog w K mg base 2 "is_integer" (PD.spD (cS K) PD.G_is_integer) [] := by
  have X := V.X
  have G := V.G
  have c := V.c
  have M : PD.Mg mg := mg_of' X G c
  have S : PD.Shf R.prog w K mg base (cS K) := shf_of X G c
  obtain ⟨fd, D, b, ca, co, ct⟩ := d_is_integer V
  exact PD.cal_D D b PD.sc_is_integer (fun ds R z => by
    obtain ⟨_, rfl, _⟩ := z
    rfl) fun cdv A outer s H E hr => ⟨_, PD.p_is_integer (k := 0) M S  hr, fun ds R z => PD.es_is_integer z⟩
theorem d_is_between (V : Wld h base K mg w) : ∃ fd, C8.Def K mg "is_between" (PD.top 14) (He.ga K "is_between") fd ∧ Binds K fd ["value", "least", "most"] [] ∧ ∃ cc, fd.code = .ref cc ∧ He.codeOf K ("is_between", none) = cc := by
  obtain ⟨fd, D, df, ca⟩ := def_of V.X V.G V.c 14 "is_between" 1 1 rfl rfl
  exact ⟨fd, D, D.fn.binds df fun _ _ _ _ _ _ us hl => by
      match us, hl with
      | [_, _, _], _ => rfl, ca⟩
theorem k_is_between (V : Wld h base K mg w) : Cal R.prog w K mg base 3 "is_between" (PD.spD (cS K) PD.G_is_between) [] := by
  have X := V.X
  have G := V.G
  have c := V.c
  have M : PD.Mg mg := mg_of' X G c
  have S : PD.Shf R.prog w K mg base (cS K) := shf_of X G c
  obtain ⟨fd, D, b, ca, co, ct⟩ := d_is_between V
  exact PD.cal_D D b PD.sc_is_between (fun ds R z => by
    obtain ⟨_, _, _, rfl, _⟩ := z
    rfl) fun cdv A outer s H E hr => ⟨_, PD.p_is_between (k := 0) M S (k_is_integer V) hr, fun ds R z => PD.es_is_between z⟩
theorem d_is_name (V : Wld h base K mg w) : ∃ fd, C8.Def K mg "is_name" (PD.top 15) (He.ga K "is_name") fd ∧ Binds K fd ["value"] [] ∧ ∃ cc, fd.code = .ref cc ∧ He.codeOf K ("is_name", none) = cc := by
  obtain ⟨fd, D, df, ca⟩ := def_of V.X V.G V.c 15 "is_name" 2 2 rfl rfl
  exact ⟨fd, D, D.fn.binds df fun _ _ _ _ _ _ us hl => by
      match us, hl with
      | [_], _ => rfl, ca⟩
theorem k_is_name (V : Wld h base K mg w) : Cal R.prog w K mg base 2 "is_name" (PD.spD (cS K) PD.G_is_name) [] := by
  have X := V.X
  have G := V.G
  have c := V.c
  have M : PD.Mg mg := mg_of' X G c
  have S : PD.Shf R.prog w K mg base (cS K) := shf_of X G c
  obtain ⟨fd, D, b, ca, co, ct⟩ := d_is_name V
  exact PD.cal_D D b PD.sc_is_name (fun ds R z => by
    obtain ⟨_, rfl, _⟩ := z
    rfl) fun cdv A outer s H E hr => ⟨_, PD.p_is_name (k := 0) M S  hr, fun ds R z => PD.es_is_name z⟩
theorem k_reader (V : Wld h base K mg w) : Mak R.prog w K mg base 2 "Reader" (cR K) (PD.spRI (cR K)) [] := by
  have X := V.X
  have G := V.G
  have c := V.c
  have M : PD.Mg mg := mg_of' X G c
  have S : PD.Shf R.prog w K mg base (cS K) := shf_of X G c
  obtain ⟨fd, F, df⟩ := met_of X G c 23 0 "Reader" "__init__" "Reader.__init__" 42 rfl
  have b : Binds K fd ["self"] [] := F.binds df fun _ _ _ _ _ _ us hl => by
      match us, hl with
      | [_], _ => rfl
  exact C8.mak0 (He.mkr_ok (c.d.fact 78 (f := .mkr "Reader") rfl)) (He.glo_ok X G (c.d.fact 42 (f := .glo "Reader") rfl)) F b .nil PD.sc_rinit (fun vs H Q E z => by
    obtain ⟨_, _, rfl, _⟩ := z
    rfl) fun cdv A outer s H vs Q E hr z => ⟨_, PD.p_rinit, PD.pure_rinit (rdF X G c) vs H Q E z⟩
theorem k_copy (V : Wld h base K mg w) : Met R.prog w K mg base 3 (cR K) "takes_copy" (PD.spO (cS K) (PD.G_takes_copy (cR K))) [] := by
  have X := V.X
  have G := V.G
  have c := V.c
  have M : PD.Mg mg := mg_of' X G c
  have S : PD.Shf R.prog w K mg base (cS K) := shf_of X G c
  obtain ⟨fd, F, df⟩ := met_of X G c 23 2 "Reader" "takes_copy" "Reader.takes_copy" 44 rfl
  have b : Binds K fd ["self", "words"] [] := F.binds df fun _ _ _ _ _ _ us hl => by
      match us, hl with
      | [_, _], _ => rfl
  exact PD.met_O (He.cls_ok (c.d.fact 76 (f := .cls "Reader") rfl)) (He.meth_ok (c.d.fact 81 (f := .meth "Reader" "takes_copy") rfl)) F b PD.sc_takes_copy (fun T ds R z => by
    obtain ⟨_, _, rfl, rfl, _⟩ := z
    rfl) fun cdv A outer s H E hr => ⟨_, PD.p_takes_copy M (k_is_name V) hr, fun T ds R z => PD.es_takes_copy (rdF X G c) z⟩
theorem k_takes (V : Wld h base K mg w) : Met R.prog w K mg base 4 (cR K) "takes" (PD.spO (cS K) (PD.G_takes (cR K))) [] := by
  have X := V.X
  have G := V.G
  have c := V.c
  have M : PD.Mg mg := mg_of' X G c
  have S : PD.Shf R.prog w K mg base (cS K) := shf_of X G c
  obtain ⟨fd, F, df⟩ := met_of X G c 23 1 "Reader" "takes" "Reader.takes" 43 rfl
  have b : Binds K fd ["self", "line"] [] := F.binds df fun _ _ _ _ _ _ us hl => by
      match us, hl with
      | [_, _], _ => rfl
  exact PD.met_O (He.cls_ok (c.d.fact 76 (f := .cls "Reader") rfl)) (He.meth_ok (c.d.fact 80 (f := .meth "Reader" "takes") rfl)) F b PD.sc_takes (fun T ds R z => by
    obtain ⟨_, _, rfl, rfl, _⟩ := z
    rfl) fun cdv A outer s H E hr => ⟨_, PD.p_takes M (k_copy V) hr, fun T ds R z => PD.es_takes z⟩
theorem k_found (V : Wld h base K mg w) : Met R.prog w K mg base 2 (cR K) "found" (PD.spO (cS K) (PD.G_found (cR K))) [] := by
  have X := V.X
  have G := V.G
  have c := V.c
  have M : PD.Mg mg := mg_of' X G c
  have S : PD.Shf R.prog w K mg base (cS K) := shf_of X G c
  obtain ⟨fd, F, df⟩ := met_of X G c 23 4 "Reader" "found" "Reader.found" 45 rfl
  have b : Binds K fd ["self"] [] := F.binds df fun _ _ _ _ _ _ us hl => by
      match us, hl with
      | [_], _ => rfl
  exact PD.met_O (He.cls_ok (c.d.fact 76 (f := .cls "Reader") rfl)) (He.meth_ok (c.d.fact 82 (f := .meth "Reader" "found") rfl)) F b PD.sc_found (fun T ds R z => by
    obtain ⟨_, rfl, rfl, _⟩ := z
    rfl) fun cdv A outer s H E hr => ⟨_, PD.p_found M hr, fun T ds R z => PD.es_found (rdF X G c) z⟩
theorem k_shelf (V : Wld h base K mg w) : Mak R.prog w K mg base 6 "Shelf" (cS K) (PD.spO (cS K) (PD.G_sinit (cS K))) [] := by
  have X := V.X
  have G := V.G
  have c := V.c
  have M : PD.Mg mg := mg_of' X G c
  have S : PD.Shf R.prog w K mg base (cS K) := shf_of X G c
  obtain ⟨fd, F, df⟩ := met_of X G c 24 0 "Shelf" "__init__" "Shelf.__init__" 46 rfl
  have b : Binds K fd ["self", "text"] [] := F.binds df fun _ _ _ _ _ _ us hl => by
      match us, hl with
      | [_, _], _ => rfl
  exact C8.mak0 (He.mkr_ok (c.d.fact 79 (f := .mkr "Shelf") rfl)) (He.glo_ok X G (c.d.fact 43 (f := .glo "Shelf") rfl)) F b .nil PD.sc_sinit (PD.spO_len fun T ds R z => by
    obtain ⟨_, rfl, rfl, _⟩ := z
    rfl) fun cdv A outer s H vs Q E hr z => ⟨_, PD.p_sinit M (k_reader V) (k_takes V) (k_found V) hr, PD.run_O (fun T ds R y => PD.es_sinit (shF X G c) y) z⟩
theorem d_check_shelf (V : Wld h base K mg w) : ∃ fd, C8.Def K mg "check_shelf" (PD.top 27) (He.ga K "check_shelf") fd ∧ Binds K fd ["shelf"] [] ∧ ∃ cc, fd.code = .ref cc ∧ He.codeOf K ("check_shelf", none) = cc := by
  obtain ⟨fd, D, df, ca⟩ := def_of V.X V.G V.c 27 "check_shelf" 3 3 rfl rfl
  exact ⟨fd, D, D.fn.binds df fun _ _ _ _ _ _ us hl => by
      match us, hl with
      | [_], _ => rfl, ca⟩
theorem k_check_shelf (V : Wld h base K mg w) : Cal R.prog w K mg base 2 "check_shelf" (PD.spD (cS K) PD.G_check_shelf) [] := by
  have X := V.X
  have G := V.G
  have c := V.c
  have M : PD.Mg mg := mg_of' X G c
  have S : PD.Shf R.prog w K mg base (cS K) := shf_of X G c
  obtain ⟨fd, D, b, ca, co, ct⟩ := d_check_shelf V
  exact PD.cal_D D b PD.sc_check_shelf (fun ds R z => by
    obtain ⟨_, rfl, _⟩ := z
    rfl) fun cdv A outer s H E hr => ⟨_, PD.p_check_shelf (k := 0) M S  hr, fun ds R z => PD.es_check_shelf z⟩
theorem d_in_sequence (V : Wld h base K mg w) : ∃ fd, C8.Def K mg "in_sequence" (PD.top 28) (He.ga K "in_sequence") fd ∧ Binds K fd ["copies", "some"] [] ∧ ∃ cc, fd.code = .ref cc ∧ He.codeOf K ("in_sequence", none) = cc := by
  obtain ⟨fd, D, df, ca⟩ := def_of V.X V.G V.c 28 "in_sequence" 4 4 rfl rfl
  exact ⟨fd, D, D.fn.binds df fun _ _ _ _ _ _ us hl => by
      match us, hl with
      | [_, _], _ => rfl, ca⟩
theorem k_in_sequence (V : Wld h base K mg w) : Cal R.prog w K mg base 2 "in_sequence" (PD.spD (cS K) PD.G_in_sequence) [] := by
  have X := V.X
  have G := V.G
  have c := V.c
  have M : PD.Mg mg := mg_of' X G c
  have S : PD.Shf R.prog w K mg base (cS K) := shf_of X G c
  obtain ⟨fd, D, b, ca, co, ct⟩ := d_in_sequence V
  exact PD.cal_D D b PD.sc_in_sequence (fun ds R z => by
    obtain ⟨_, _, rfl, _⟩ := z
    rfl) fun cdv A outer s H E hr => ⟨_, PD.p_in_sequence (k := 0) M S  hr, fun ds R z => PD.es_in_sequence z⟩
theorem d_is_lot_of (V : Wld h base K mg w) : ∃ fd, C8.Def K mg "is_lot_of" (PD.top 29) (He.ga K "is_lot_of") fd ∧ Binds K fd ["copies", "value"] [] ∧ ∃ cc, fd.code = .ref cc ∧ He.codeOf K ("is_lot_of", none) = cc := by
  obtain ⟨fd, D, df, ca⟩ := def_of V.X V.G V.c 29 "is_lot_of" 5 5 rfl rfl
  exact ⟨fd, D, D.fn.binds df fun _ _ _ _ _ _ us hl => by
      match us, hl with
      | [_, _], _ => rfl, ca⟩
theorem k_is_lot_of (V : Wld h base K mg w) : Cal R.prog w K mg base 3 "is_lot_of" (PD.spD (cS K) PD.G_is_lot_of) [] := by
  have X := V.X
  have G := V.G
  have c := V.c
  have M : PD.Mg mg := mg_of' X G c
  have S : PD.Shf R.prog w K mg base (cS K) := shf_of X G c
  obtain ⟨fd, D, b, ca, co, ct⟩ := d_is_lot_of V
  exact PD.cal_D D b PD.sc_is_lot_of (fun ds R z => by
    obtain ⟨_, _, rfl, _⟩ := z
    rfl) fun cdv A outer s H E hr => ⟨_, PD.p_is_lot_of (k := 0) M S (k_in_sequence V) hr, fun ds R z => PD.es_is_lot_of z⟩
theorem d_do_clash (V : Wld h base K mg w) : ∃ fd, C8.Def K mg "do_clash" (PD.top 31) (He.ga K "do_clash") fd ∧ Binds K fd ["one", "other"] [] ∧ ∃ cc, fd.code = .ref cc ∧ He.codeOf K ("do_clash", none) = cc := by
  obtain ⟨fd, D, df, ca⟩ := def_of V.X V.G V.c 31 "do_clash" 6 6 rfl rfl
  exact ⟨fd, D, D.fn.binds df fun _ _ _ _ _ _ us hl => by
      match us, hl with
      | [_, _], _ => rfl, ca⟩
theorem k_do_clash (V : Wld h base K mg w) : Cal R.prog w K mg base 2 "do_clash" (PD.spD (cS K) PD.G_do_clash) [] := by
  have X := V.X
  have G := V.G
  have c := V.c
  have M : PD.Mg mg := mg_of' X G c
  have S : PD.Shf R.prog w K mg base (cS K) := shf_of X G c
  obtain ⟨fd, D, b, ca, co, ct⟩ := d_do_clash V
  exact PD.cal_D D b PD.sc_do_clash (fun ds R z => by
    obtain ⟨_, _, rfl, _⟩ := z
    rfl) fun cdv A outer s H E hr => ⟨_, PD.p_do_clash (k := 0) M S  hr, fun ds R z => PD.es_do_clash z⟩
theorem d_by_size (V : Wld h base K mg w) : ∃ fd, C8.Def K mg "by_size" (PD.top 32) (He.ga K "by_size") fd ∧ Binds K fd ["copies", "lots"] [] ∧ ∃ cc, fd.code = .ref cc ∧ He.codeOf K ("by_size", none) = cc := by
  obtain ⟨fd, D, df, ca⟩ := def_of V.X V.G V.c 32 "by_size" 7 7 rfl rfl
  exact ⟨fd, D, D.fn.binds df fun _ _ _ _ _ _ us hl => by
      match us, hl with
      | [_, _], _ => rfl, ca⟩
theorem k_by_size (V : Wld h base K mg w) : Cal R.prog w K mg base 6 "by_size" (PD.spD (cS K) PD.G_by_size) [] := by
  have X := V.X
  have G := V.G
  have c := V.c
  have M : PD.Mg mg := mg_of' X G c
  have S : PD.Shf R.prog w K mg base (cS K) := shf_of X G c
  obtain ⟨fd, D, b, ca, co, ct⟩ := d_by_size V
  exact PD.cal_Dc D co b PD.sc_by_size (fun ds R z => by
    obtain ⟨_, _, rfl, _⟩ := z
    rfl) fun A outer s H E hr => ⟨_, PD.p_by_size M.b_len M.b_dict M.b_tuple M.b_sorted (by rw [← ct]; exact V.TB) V.hm V.hu hr, fun ds R z => PD.es_by_size z⟩
theorem d_stemma_of (V : Wld h base K mg w) : ∃ fd, C8.Def K mg "stemma_of" (PD.top 33) (He.ga K "stemma_of") fd ∧ Binds K fd ["copies", "lots"] [] ∧ ∃ cc, fd.code = .ref cc ∧ He.codeOf K ("stemma_of", none) = cc := by
  obtain ⟨fd, D, df, ca⟩ := def_of V.X V.G V.c 33 "stemma_of" 8 8 rfl rfl
  exact ⟨fd, D, D.fn.binds df fun _ _ _ _ _ _ us hl => by
      match us, hl with
      | [_, _], _ => rfl, ca⟩
theorem k_stemma_of (V : Wld h base K mg w) : Cal R.prog w K mg base 7 "stemma_of" (PD.spD (cS K) PD.G_stemma_of) [] := by
  have X := V.X
  have G := V.G
  have c := V.c
  have M : PD.Mg mg := mg_of' X G c
  have S : PD.Shf R.prog w K mg base (cS K) := shf_of X G c
  obtain ⟨fd, D, b, ca, co, ct⟩ := d_stemma_of V
  exact PD.cal_D D b PD.sc_stemma_of (fun ds R z => by
    obtain ⟨_, _, rfl, _⟩ := z
    rfl) fun cdv A outer s H E hr => ⟨_, PD.p_stemma_of (k := 0) M S (k_by_size V) hr, fun ds R z => PD.es_stemma_of z⟩
theorem d_are_lots (V : Wld h base K mg w) : ∃ fd, C8.Def K mg "are_lots" (PD.top 34) (He.ga K "are_lots") fd ∧ Binds K fd ["copies", "value"] [] ∧ ∃ cc, fd.code = .ref cc ∧ He.codeOf K ("are_lots", none) = cc := by
  obtain ⟨fd, D, df, ca⟩ := def_of V.X V.G V.c 34 "are_lots" 9 9 rfl rfl
  exact ⟨fd, D, D.fn.binds df fun _ _ _ _ _ _ us hl => by
      match us, hl with
      | [_, _], _ => rfl, ca⟩
theorem k_are_lots (V : Wld h base K mg w) : Cal R.prog w K mg base 4 "are_lots" (PD.spD (cS K) PD.G_are_lots) [] := by
  have X := V.X
  have G := V.G
  have c := V.c
  have M : PD.Mg mg := mg_of' X G c
  have S : PD.Shf R.prog w K mg base (cS K) := shf_of X G c
  obtain ⟨fd, D, b, ca, co, ct⟩ := d_are_lots V
  exact PD.cal_D D b PD.sc_are_lots (fun ds R z => by
    obtain ⟨_, _, rfl, _⟩ := z
    rfl) fun cdv A outer s H E hr => ⟨_, PD.p_are_lots (k := 0) M S (k_do_clash V) (k_is_lot_of V) hr, fun ds R z => PD.es_are_lots z⟩
theorem d_is_stemma_of (V : Wld h base K mg w) : ∃ fd, C8.Def K mg "is_stemma_of" (PD.top 35) (He.ga K "is_stemma_of") fd ∧ Binds K fd ["copies", "value"] [] ∧ ∃ cc, fd.code = .ref cc ∧ He.codeOf K ("is_stemma_of", none) = cc := by
  obtain ⟨fd, D, df, ca⟩ := def_of V.X V.G V.c 35 "is_stemma_of" 10 10 rfl rfl
  exact ⟨fd, D, D.fn.binds df fun _ _ _ _ _ _ us hl => by
      match us, hl with
      | [_, _], _ => rfl, ca⟩
theorem k_is_stemma_of (V : Wld h base K mg w) : Cal R.prog w K mg base 8 "is_stemma_of" (PD.spD (cS K) PD.G_is_stemma_of) [] := by
  have X := V.X
  have G := V.G
  have c := V.c
  have M : PD.Mg mg := mg_of' X G c
  have S : PD.Shf R.prog w K mg base (cS K) := shf_of X G c
  obtain ⟨fd, D, b, ca, co, ct⟩ := d_is_stemma_of V
  exact PD.cal_D D b PD.sc_is_stemma_of (fun ds R z => by
    obtain ⟨_, _, rfl, _⟩ := z
    rfl) fun cdv A outer s H E hr => ⟨_, PD.p_is_stemma_of (k := 0) M S (k_are_lots V) (k_stemma_of V) hr, fun ds R z => PD.es_is_stemma_of z⟩
theorem d_check_stemma (V : Wld h base K mg w) : ∃ fd, C8.Def K mg "check_stemma" (PD.top 36) (He.ga K "check_stemma") fd ∧ Binds K fd ["shelf", "stemma"] [] ∧ ∃ cc, fd.code = .ref cc ∧ He.codeOf K ("check_stemma", none) = cc := by
  obtain ⟨fd, D, df, ca⟩ := def_of V.X V.G V.c 36 "check_stemma" 11 11 rfl rfl
  exact ⟨fd, D, D.fn.binds df fun _ _ _ _ _ _ us hl => by
      match us, hl with
      | [_, _], _ => rfl, ca⟩
theorem k_check_stemma (V : Wld h base K mg w) : Cal R.prog w K mg base 9 "check_stemma" (PD.spD (cS K) PD.G_check_stemma) [] := by
  have X := V.X
  have G := V.G
  have c := V.c
  have M : PD.Mg mg := mg_of' X G c
  have S : PD.Shf R.prog w K mg base (cS K) := shf_of X G c
  obtain ⟨fd, D, b, ca, co, ct⟩ := d_check_stemma V
  exact PD.cal_D D b PD.sc_check_stemma (fun ds R z => by
    obtain ⟨_, _, rfl, _⟩ := z
    rfl) fun cdv A outer s H E hr => ⟨_, PD.p_check_stemma (k := 0) M S (k_check_shelf V) (k_is_stemma_of V) hr, fun ds R z => PD.es_check_stemma z⟩
theorem d_are_stemmata_of (V : Wld h base K mg w) : ∃ fd, C8.Def K mg "are_stemmata_of" (PD.top 40) (He.ga K "are_stemmata_of") fd ∧ Binds K fd ["shelf", "value"] [] ∧ ∃ cc, fd.code = .ref cc ∧ He.codeOf K ("are_stemmata_of", none) = cc := by
  obtain ⟨fd, D, df, ca⟩ := def_of V.X V.G V.c 40 "are_stemmata_of" 12 12 rfl rfl
  exact ⟨fd, D, D.fn.binds df fun _ _ _ _ _ _ us hl => by
      match us, hl with
      | [_, _], _ => rfl, ca⟩
theorem k_are_stemmata_of (V : Wld h base K mg w) : Cal R.prog w K mg base 9 "are_stemmata_of" (PD.spD (cS K) PD.G_are_stemmata_of) [] := by
  have X := V.X
  have G := V.G
  have c := V.c
  have M : PD.Mg mg := mg_of' X G c
  have S : PD.Shf R.prog w K mg base (cS K) := shf_of X G c
  obtain ⟨fd, D, b, ca, co, ct⟩ := d_are_stemmata_of V
  exact PD.cal_D D b PD.sc_are_stemmata_of (fun ds R z => by
    obtain ⟨_, _, rfl, _⟩ := z
    rfl) fun cdv A outer s H E hr => ⟨_, PD.p_are_stemmata_of (k := 0) M S (k_is_stemma_of V) hr, fun ds R z => PD.es_are_stemmata_of z⟩
theorem d_check_stemmata (V : Wld h base K mg w) : ∃ fd, C8.Def K mg "check_stemmata" (PD.top 41) (He.ga K "check_stemmata") fd ∧ Binds K fd ["shelf", "stemmata"] [] ∧ ∃ cc, fd.code = .ref cc ∧ He.codeOf K ("check_stemmata", none) = cc := by
  obtain ⟨fd, D, df, ca⟩ := def_of V.X V.G V.c 41 "check_stemmata" 13 13 rfl rfl
  exact ⟨fd, D, D.fn.binds df fun _ _ _ _ _ _ us hl => by
      match us, hl with
      | [_, _], _ => rfl, ca⟩
theorem k_check_stemmata (V : Wld h base K mg w) : Cal R.prog w K mg base 10 "check_stemmata" (PD.spD (cS K) PD.G_check_stemmata) [] := by
  have X := V.X
  have G := V.G
  have c := V.c
  have M : PD.Mg mg := mg_of' X G c
  have S : PD.Shf R.prog w K mg base (cS K) := shf_of X G c
  obtain ⟨fd, D, b, ca, co, ct⟩ := d_check_stemmata V
  exact PD.cal_D D b PD.sc_check_stemmata (fun ds R z => by
    obtain ⟨_, _, rfl, _⟩ := z
    rfl) fun cdv A outer s H E hr => ⟨_, PD.p_check_stemmata (k := 0) M S (k_are_stemmata_of V) (k_check_shelf V) hr, fun ds R z => PD.es_check_stemmata z⟩
theorem d_check_two (V : Wld h base K mg w) : ∃ fd, C8.Def K mg "check_two" (PD.top 42) (He.ga K "check_two") fd ∧ Binds K fd ["shelf", "one", "other"] [] ∧ ∃ cc, fd.code = .ref cc ∧ He.codeOf K ("check_two", none) = cc := by
  obtain ⟨fd, D, df, ca⟩ := def_of V.X V.G V.c 42 "check_two" 14 14 rfl rfl
  exact ⟨fd, D, D.fn.binds df fun _ _ _ _ _ _ us hl => by
      match us, hl with
      | [_, _, _], _ => rfl, ca⟩
theorem k_check_two (V : Wld h base K mg w) : Cal R.prog w K mg base 10 "check_two" (PD.spD (cS K) PD.G_check_two) [] := by
  have X := V.X
  have G := V.G
  have c := V.c
  have M : PD.Mg mg := mg_of' X G c
  have S : PD.Shf R.prog w K mg base (cS K) := shf_of X G c
  obtain ⟨fd, D, b, ca, co, ct⟩ := d_check_two V
  exact PD.cal_D D b PD.sc_check_two (fun ds R z => by
    obtain ⟨_, _, _, rfl, _⟩ := z
    rfl) fun cdv A outer s H E hr => ⟨_, PD.p_check_two (k := 0) M S (k_check_stemma V) (k_is_stemma_of V) hr, fun ds R z => PD.es_check_two z⟩
theorem d_lots_in (V : Wld h base K mg w) : ∃ fd, C8.Def K mg "lots_in" (PD.top 43) (He.ga K "lots_in") fd ∧ Binds K fd ["shelf", "stemmata"] [] ∧ ∃ cc, fd.code = .ref cc ∧ He.codeOf K ("lots_in", none) = cc := by
  obtain ⟨fd, D, df, ca⟩ := def_of V.X V.G V.c 43 "lots_in" 15 15 rfl rfl
  exact ⟨fd, D, D.fn.binds df fun _ _ _ _ _ _ us hl => by
      match us, hl with
      | [_, _], _ => rfl, ca⟩
theorem k_lots_in (V : Wld h base K mg w) : Cal R.prog w K mg base 7 "lots_in" (PD.spD (cS K) PD.G_lots_in) [] := by
  have X := V.X
  have G := V.G
  have c := V.c
  have M : PD.Mg mg := mg_of' X G c
  have S : PD.Shf R.prog w K mg base (cS K) := shf_of X G c
  obtain ⟨fd, D, b, ca, co, ct⟩ := d_lots_in V
  exact PD.cal_D D b PD.sc_lots_in (fun ds R z => by
    obtain ⟨_, _, rfl, _⟩ := z
    rfl) fun cdv A outer s H E hr => ⟨_, PD.p_lots_in (k := 0) M S (k_by_size V) hr, fun ds R z => PD.es_lots_in z⟩
theorem d_many_of (V : Wld h base K mg w) : ∃ fd, C8.Def K mg "many_of" (PD.top 44) (He.ga K "many_of") fd ∧ Binds K fd ["stemmata", "lot"] [] ∧ ∃ cc, fd.code = .ref cc ∧ He.codeOf K ("many_of", none) = cc := by
  obtain ⟨fd, D, df, ca⟩ := def_of V.X V.G V.c 44 "many_of" 16 16 rfl rfl
  exact ⟨fd, D, D.fn.binds df fun _ _ _ _ _ _ us hl => by
      match us, hl with
      | [_, _], _ => rfl, ca⟩
theorem k_many_of (V : Wld h base K mg w) : Cal R.prog w K mg base 2 "many_of" (PD.spD (cS K) PD.G_many_of) [] := by
  have X := V.X
  have G := V.G
  have c := V.c
  have M : PD.Mg mg := mg_of' X G c
  have S : PD.Shf R.prog w K mg base (cS K) := shf_of X G c
  obtain ⟨fd, D, b, ca, co, ct⟩ := d_many_of V
  exact PD.cal_D D b PD.sc_many_of (fun ds R z => by
    obtain ⟨_, _, rfl, _⟩ := z
    rfl) fun cdv A outer s H E hr => ⟨_, PD.p_many_of (k := 0) M S  hr, fun ds R z => PD.es_many_of z⟩
theorem d_more_than (V : Wld h base K mg w) : ∃ fd, C8.Def K mg "more_than" (PD.top 45) (He.ga K "more_than") fd ∧ Binds K fd ["shelf", "stemmata", "part"] [] ∧ ∃ cc, fd.code = .ref cc ∧ He.codeOf K ("more_than", none) = cc := by
  obtain ⟨fd, D, df, ca⟩ := def_of V.X V.G V.c 45 "more_than" 17 17 rfl rfl
  exact ⟨fd, D, D.fn.binds df fun _ _ _ _ _ _ us hl => by
      match us, hl with
      | [_, _, _], _ => rfl, ca⟩
theorem k_more_than (V : Wld h base K mg w) : Cal R.prog w K mg base 8 "more_than" (PD.spD (cS K) PD.G_more_than) [] := by
  have X := V.X
  have G := V.G
  have c := V.c
  have M : PD.Mg mg := mg_of' X G c
  have S : PD.Shf R.prog w K mg base (cS K) := shf_of X G c
  obtain ⟨fd, D, b, ca, co, ct⟩ := d_more_than V
  exact PD.cal_D D b PD.sc_more_than (fun ds R z => by
    obtain ⟨_, _, _, rfl, _⟩ := z
    rfl) fun cdv A outer s H E hr => ⟨_, PD.p_more_than (k := 0) M S (k_lots_in V) (k_many_of V) hr, fun ds R z => PD.es_more_than z⟩
theorem d_majority (V : Wld h base K mg w) : ∃ fd, C8.Def K mg "majority" (PD.top 46) (He.ga K "majority") fd ∧ Binds K fd ["shelf", "stemmata"] [] ∧ ∃ cc, fd.code = .ref cc ∧ He.codeOf K ("majority", none) = cc := by
  obtain ⟨fd, D, df, ca⟩ := def_of V.X V.G V.c 46 "majority" 18 18 rfl rfl
  exact ⟨fd, D, D.fn.binds df fun _ _ _ _ _ _ us hl => by
      match us, hl with
      | [_, _], _ => rfl, ca⟩
theorem k_majority (V : Wld h base K mg w) : Cal R.prog w K mg base 11 "majority" (PD.spD (cS K) PD.G_majority) [] := by
  have X := V.X
  have G := V.G
  have c := V.c
  have M : PD.Mg mg := mg_of' X G c
  have S : PD.Shf R.prog w K mg base (cS K) := shf_of X G c
  obtain ⟨fd, D, b, ca, co, ct⟩ := d_majority V
  exact PD.cal_D D b PD.sc_majority (fun ds R z => by
    obtain ⟨_, _, rfl, _⟩ := z
    rfl) fun cdv A outer s H E hr => ⟨_, PD.p_majority (k := 0) M S (k_check_stemmata V) (k_more_than V) (k_stemma_of V) hr, fun ds R z => PD.es_majority z⟩
theorem d_far_of (V : Wld h base K mg w) : ∃ fd, C8.Def K mg "far_of" (PD.top 47) (He.ga K "far_of") fd ∧ Binds K fd ["one", "other"] [] ∧ ∃ cc, fd.code = .ref cc ∧ He.codeOf K ("far_of", none) = cc := by
  obtain ⟨fd, D, df, ca⟩ := def_of V.X V.G V.c 47 "far_of" 19 19 rfl rfl
  exact ⟨fd, D, D.fn.binds df fun _ _ _ _ _ _ us hl => by
      match us, hl with
      | [_, _], _ => rfl, ca⟩
theorem k_far_of (V : Wld h base K mg w) : Cal R.prog w K mg base 2 "far_of" (PD.spD (cS K) PD.G_far_of) [] := by
  have X := V.X
  have G := V.G
  have c := V.c
  have M : PD.Mg mg := mg_of' X G c
  have S : PD.Shf R.prog w K mg base (cS K) := shf_of X G c
  obtain ⟨fd, D, b, ca, co, ct⟩ := d_far_of V
  exact PD.cal_D D b PD.sc_far_of (fun ds R z => by
    obtain ⟨_, _, rfl, _⟩ := z
    rfl) fun cdv A outer s H E hr => ⟨_, PD.p_far_of (k := 0) M S  hr, fun ds R z => PD.es_far_of z⟩
theorem d_far (V : Wld h base K mg w) : ∃ fd, C8.Def K mg "far" (PD.top 48) (He.ga K "far") fd ∧ Binds K fd ["shelf", "one", "other"] [] ∧ ∃ cc, fd.code = .ref cc ∧ He.codeOf K ("far", none) = cc := by
  obtain ⟨fd, D, df, ca⟩ := def_of V.X V.G V.c 48 "far" 20 20 rfl rfl
  exact ⟨fd, D, D.fn.binds df fun _ _ _ _ _ _ us hl => by
      match us, hl with
      | [_, _, _], _ => rfl, ca⟩
theorem k_far (V : Wld h base K mg w) : Cal R.prog w K mg base 11 "far" (PD.spD (cS K) PD.G_far) [] := by
  have X := V.X
  have G := V.G
  have c := V.c
  have M : PD.Mg mg := mg_of' X G c
  have S : PD.Shf R.prog w K mg base (cS K) := shf_of X G c
  obtain ⟨fd, D, b, ca, co, ct⟩ := d_far V
  exact PD.cal_D D b PD.sc_far (fun ds R z => by
    obtain ⟨_, _, _, rfl, _⟩ := z
    rfl) fun cdv A outer s H E hr => ⟨_, PD.p_far (k := 0) M S (k_check_two V) (k_far_of V) hr, fun ds R z => PD.es_far z⟩
theorem d_least_sum (V : Wld h base K mg w) : ∃ fd, C8.Def K mg "least_sum" (PD.top 49) (He.ga K "least_sum") fd ∧ Binds K fd ["shelf", "stemmata"] [] ∧ ∃ cc, fd.code = .ref cc ∧ He.codeOf K ("least_sum", none) = cc := by
  obtain ⟨fd, D, df, ca⟩ := def_of V.X V.G V.c 49 "least_sum" 21 21 rfl rfl
  exact ⟨fd, D, D.fn.binds df fun _ _ _ _ _ _ us hl => by
      match us, hl with
      | [_, _], _ => rfl, ca⟩
theorem k_least_sum (V : Wld h base K mg w) : Cal R.prog w K mg base 8 "least_sum" (PD.spD (cS K) PD.G_least_sum) [] := by
  have X := V.X
  have G := V.G
  have c := V.c
  have M : PD.Mg mg := mg_of' X G c
  have S : PD.Shf R.prog w K mg base (cS K) := shf_of X G c
  obtain ⟨fd, D, b, ca, co, ct⟩ := d_least_sum V
  exact PD.cal_D D b PD.sc_least_sum (fun ds R z => by
    obtain ⟨_, _, rfl, _⟩ := z
    rfl) fun cdv A outer s H E hr => ⟨_, PD.p_least_sum (k := 0) M S (k_lots_in V) (k_many_of V) hr, fun ds R z => PD.es_least_sum z⟩
theorem d_nearest (V : Wld h base K mg w) : ∃ fd, C8.Def K mg "nearest" (PD.top 50) (He.ga K "nearest") fd ∧ Binds K fd ["shelf", "stemmata"] [] ∧ ∃ cc, fd.code = .ref cc ∧ He.codeOf K ("nearest", none) = cc := by
  obtain ⟨fd, D, df, ca⟩ := def_of V.X V.G V.c 50 "nearest" 22 22 rfl rfl
  exact ⟨fd, D, D.fn.binds df fun _ _ _ _ _ _ us hl => by
      match us, hl with
      | [_, _], _ => rfl, ca⟩
theorem k_nearest (V : Wld h base K mg w) : Cal R.prog w K mg base 11 "nearest" (PD.spD (cS K) PD.G_nearest) [] := by
  have X := V.X
  have G := V.G
  have c := V.c
  have M : PD.Mg mg := mg_of' X G c
  have S : PD.Shf R.prog w K mg base (cS K) := shf_of X G c
  obtain ⟨fd, D, b, ca, co, ct⟩ := d_nearest V
  exact PD.cal_D D b PD.sc_nearest (fun ds R z => by
    obtain ⟨_, _, rfl, _⟩ := z
    rfl) fun cdv A outer s H E hr => ⟨_, PD.p_nearest (k := 0) M S (k_check_stemmata V) (k_least_sum V) (k_more_than V) (k_stemma_of V) hr, fun ds R z => PD.es_nearest z⟩
theorem d_shows_nearest (V : Wld h base K mg w) : ∃ fd, C8.Def K mg "shows_nearest" (PD.top 51) (He.ga K "shows_nearest") fd ∧ Binds K fd ["shelf", "stemmata", "value"] [] ∧ ∃ cc, fd.code = .ref cc ∧ He.codeOf K ("shows_nearest", none) = cc := by
  obtain ⟨fd, D, df, ca⟩ := def_of V.X V.G V.c 51 "shows_nearest" 23 23 rfl rfl
  exact ⟨fd, D, D.fn.binds df fun _ _ _ _ _ _ us hl => by
      match us, hl with
      | [_, _, _], _ => rfl, ca⟩
theorem k_shows_nearest (V : Wld h base K mg w) : Cal R.prog w K mg base 11 "shows_nearest" (PD.spD (cS K) PD.G_shows_nearest) [] := by
  have X := V.X
  have G := V.G
  have c := V.c
  have M : PD.Mg mg := mg_of' X G c
  have S : PD.Shf R.prog w K mg base (cS K) := shf_of X G c
  obtain ⟨fd, D, b, ca, co, ct⟩ := d_shows_nearest V
  exact PD.cal_D D b PD.sc_shows_nearest (fun ds R z => by
    obtain ⟨_, _, _, rfl, _⟩ := z
    rfl) fun cdv A outer s H E hr => ⟨_, PD.p_shows_nearest (k := 0) M S (k_check_stemmata V) (k_far_of V) (k_is_between V) (k_is_stemma_of V) (k_least_sum V) hr, fun ds R z => PD.es_shows_nearest z⟩
theorem d_all_nearest (V : Wld h base K mg w) : ∃ fd, C8.Def K mg "all_nearest" (PD.top 52) (He.ga K "all_nearest") fd ∧ Binds K fd ["shelf", "stemmata"] [] ∧ ∃ cc, fd.code = .ref cc ∧ He.codeOf K ("all_nearest", none) = cc := by
  obtain ⟨fd, D, df, ca⟩ := def_of V.X V.G V.c 52 "all_nearest" 24 24 rfl rfl
  exact ⟨fd, D, D.fn.binds df fun _ _ _ _ _ _ us hl => by
      match us, hl with
      | [_, _], _ => rfl, ca⟩
theorem k_all_nearest (V : Wld h base K mg w) : Cal R.prog w K mg base 11 "all_nearest" (PD.spD (cS K) PD.G_all_nearest) [] := by
  have X := V.X
  have G := V.G
  have c := V.c
  have M : PD.Mg mg := mg_of' X G c
  have S : PD.Shf R.prog w K mg base (cS K) := shf_of X G c
  obtain ⟨fd, D, b, ca, co, ct⟩ := d_all_nearest V
  exact PD.cal_D D b PD.sc_all_nearest (fun ds R z => by
    obtain ⟨_, _, rfl, _⟩ := z
    rfl) fun cdv A outer s H E hr => ⟨_, PD.p_all_nearest (k := 0) M S (k_check_stemmata V) (k_do_clash V) (k_lots_in V) (k_many_of V) (k_more_than V) (k_stemma_of V) hr, fun ds R z => PD.es_all_nearest z⟩
theorem k_raise (V : Wld h base K mg w) {fd : FuncData} (D : C8.Def K mg "all_nearest" (PD.top 52) (He.ga K "all_nearest") fd) : FnOk R.prog w K mg base (L2.CX R.prog w) 11 (He.ga K "all_nearest") fd ["shelf", "stemmata"] (PD.spAnX (cS K) (He.ga K "TooMany")) := by
  have X := V.X
  have G := V.G
  have c := V.c
  have M : PD.Mg mg := mg_of' X G c
  have S : PD.Shf R.prog w K mg base (cS K) := shf_of X G c
  have bk := bk_of X G c
  obtain ⟨oc, od, dV, kV, doc, pm, an, cdv, ct, osl, e, lk, hcd⟩ := D.fn.ex
  subst e
  refine fn_of lk hcd PD.sc_all_nearest (fun vs H Q E z => ?_) fun A outer s H vs Q E hr z => ⟨_, PD.p_anX (k := 0) M bk S (k_check_stemmata V) (k_do_clash V) (k_lots_in V) (k_many_of V) (k_more_than V) (k_stemma_of V) hr, PD.pure_anX vs H Q E z⟩
  obtain ⟨_, _, _, _, _, a, _⟩ := z
  exact a.length
theorem d__law_pot (V : Wld h base K mg w) : ∃ fd, C8.Def K mg "_law_pot" (PD.top 54) (He.ga K "_law_pot") fd ∧ Binds K fd ["script", "place"] [] ∧ ∃ cc, fd.code = .ref cc ∧ He.codeOf K ("_law_pot", none) = cc := by
  obtain ⟨fd, D, df, ca⟩ := def_of V.X V.G V.c 54 "_law_pot" 25 25 rfl rfl
  exact ⟨fd, D, D.fn.binds df fun _ _ _ _ _ _ us hl => by
      match us, hl with
      | [_, _], _ => rfl, ca⟩
theorem k__law_pot (V : Wld h base K mg w) : Cal R.prog w K mg base 2 "_law_pot" (PD.spP K (cS K) PD.G__law_pot) [] := by
  have X := V.X
  have G := V.G
  have c := V.c
  have M : PD.Mg mg := mg_of' X G c
  have S : PD.Shf R.prog w K mg base (cS K) := shf_of X G c
  obtain ⟨fd, D, b, ca, co, ct⟩ := d__law_pot V
  exact C8.cal0 D b .nil PD.sc__law_pot (fun vs H Q E z => by
    obtain ⟨v0, vs', _, _, ds, R, rfl, _, _, _, a, g, _⟩ := z
    rw [List.length_cons, a.length]
    first
      | (obtain ⟨_, rfl, _⟩ := g; rfl)
      | (obtain ⟨rfl, _⟩ := g; rfl)) fun cdv A outer s H vs Q E hr z => ⟨_, PD.p__law_pot (k := 0) M S  hr, PD.run_P (fun ns ds R y => PD.es__law_pot y) z⟩
theorem d__law_take (V : Wld h base K mg w) : ∃ fd, C8.Def K mg "_law_take" (PD.top 55) (He.ga K "_law_take") fd ∧ Binds K fd ["pot", "upto"] [] ∧ ∃ cc, fd.code = .ref cc ∧ He.codeOf K ("_law_take", none) = cc := by
  obtain ⟨fd, D, df, ca⟩ := def_of V.X V.G V.c 55 "_law_take" 26 26 rfl rfl
  exact ⟨fd, D, D.fn.binds df fun _ _ _ _ _ _ us hl => by
      match us, hl with
      | [_, _], _ => rfl, ca⟩
theorem k__law_take (V : Wld h base K mg w) : Cal R.prog w K mg base 2 "_law_take" (PD.spO (cS K) PD.G__law_take) [] := by
  have X := V.X
  have G := V.G
  have c := V.c
  have M : PD.Mg mg := mg_of' X G c
  have S : PD.Shf R.prog w K mg base (cS K) := shf_of X G c
  obtain ⟨fd, D, b, ca, co, ct⟩ := d__law_take V
  exact PD.cal_OL D b PD.sc__law_take (fun T ds R z => by
    first
      | (obtain ⟨_, _, rfl, rfl, _⟩ := z; rfl)
      | (obtain ⟨_, _, _, rfl, rfl, _⟩ := z; rfl)
      | (obtain ⟨rfl, rfl, _⟩ := z; rfl)) fun cdv A outer s H E hr => ⟨_, PD.p__law_take (k := 0) M S  hr, fun T ds R z => PD.es__law_take z⟩
theorem d__law_of (V : Wld h base K mg w) : ∃ fd, C8.Def K mg "_law_of" (PD.top 56) (He.ga K "_law_of") fd ∧ Binds K fd ["pot", "some"] [] ∧ ∃ cc, fd.code = .ref cc ∧ He.codeOf K ("_law_of", none) = cc := by
  obtain ⟨fd, D, df, ca⟩ := def_of V.X V.G V.c 56 "_law_of" 27 27 rfl rfl
  exact ⟨fd, D, D.fn.binds df fun _ _ _ _ _ _ us hl => by
      match us, hl with
      | [_, _], _ => rfl, ca⟩
theorem k__law_of (V : Wld h base K mg w) : Cal R.prog w K mg base 3 "_law_of" (PD.spO (cS K) PD.G__law_of) [] := by
  have X := V.X
  have G := V.G
  have c := V.c
  have M : PD.Mg mg := mg_of' X G c
  have S : PD.Shf R.prog w K mg base (cS K) := shf_of X G c
  obtain ⟨fd, D, b, ca, co, ct⟩ := d__law_of V
  exact PD.cal_OL D b PD.sc__law_of (fun T ds R z => by
    first
      | (obtain ⟨_, _, rfl, rfl, _⟩ := z; rfl)
      | (obtain ⟨_, _, _, rfl, rfl, _⟩ := z; rfl)
      | (obtain ⟨rfl, rfl, _⟩ := z; rfl)) fun cdv A outer s H E hr => ⟨_, PD.p__law_of (k := 0) M S (k__law_take V) hr, fun T ds R z => PD.es__law_of z⟩
theorem d__law_cells (V : Wld h base K mg w) : ∃ fd, C8.Def K mg "_law_cells" (PD.top 57) (He.ga K "_law_cells") fd ∧ Binds K fd ["script", "upto"] [] ∧ ∃ cc, fd.code = .ref cc ∧ He.codeOf K ("_law_cells", none) = cc := by
  obtain ⟨fd, D, df, ca⟩ := def_of V.X V.G V.c 57 "_law_cells" 28 28 rfl rfl
  exact ⟨fd, D, D.fn.binds df fun _ _ _ _ _ _ us hl => by
      match us, hl with
      | [_, _], _ => rfl, ca⟩
theorem k__law_cells (V : Wld h base K mg w) : Cal R.prog w K mg base 2 "_law_cells" (PD.spR K (cS K) PD.G__law_cells) [] := by
  have X := V.X
  have G := V.G
  have c := V.c
  have M : PD.Mg mg := mg_of' X G c
  have S : PD.Shf R.prog w K mg base (cS K) := shf_of X G c
  obtain ⟨fd, D, b, ca, co, ct⟩ := d__law_cells V
  exact C8.cal0 D b .nil PD.sc__law_cells (fun vs H Q E z => by
    obtain ⟨v0, vs', _, _, ds, R, rfl, _, _, _, a, g, _⟩ := z
    rw [List.length_cons, a.length]
    first
      | (obtain ⟨_, rfl, _⟩ := g; rfl)
      | (obtain ⟨rfl, _⟩ := g; rfl)) fun cdv A outer s H vs Q E hr z => ⟨_, PD.p__law_cells (k := 0) M S  hr, PD.run_R (fun ns ds R y => PD.es__law_cells y) z⟩
theorem d__law_some (V : Wld h base K mg w) : ∃ fd, C8.Def K mg "_law_some" (PD.top 58) (He.ga K "_law_some") fd ∧ Binds K fd ["pot", "some", "many"] [] ∧ ∃ cc, fd.code = .ref cc ∧ He.codeOf K ("_law_some", none) = cc := by
  obtain ⟨fd, D, df, ca⟩ := def_of V.X V.G V.c 58 "_law_some" 29 29 rfl rfl
  exact ⟨fd, D, D.fn.binds df fun _ _ _ _ _ _ us hl => by
      match us, hl with
      | [_, _, _], _ => rfl, ca⟩
theorem k__law_some (V : Wld h base K mg w) : Cal R.prog w K mg base 3 "_law_some" (PD.spOF (cS K) PD.G__law_some) [] := by
  have X := V.X
  have G := V.G
  have c := V.c
  have M : PD.Mg mg := mg_of' X G c
  have S : PD.Shf R.prog w K mg base (cS K) := shf_of X G c
  obtain ⟨fd, D, b, ca, co, ct⟩ := d__law_some V
  exact PD.cal_OF D b PD.sc__law_some (fun T ds R z => by
    first
      | (obtain ⟨_, _, rfl, rfl, _⟩ := z; rfl)
      | (obtain ⟨_, _, _, rfl, rfl, _⟩ := z; rfl)
      | (obtain ⟨rfl, rfl, _⟩ := z; rfl)) fun cdv A outer s H E hr => ⟨_, PD.p__law_some (k := 0) M S (k__law_take V) hr, fun T ds R z => PD.es__law_some z⟩
theorem d__law_names (V : Wld h base K mg w) : ∃ fd, C8.Def K mg "_law_names" (PD.top 59) (He.ga K "_law_names") fd ∧ Binds K fd ["pot", "many"] [] ∧ ∃ cc, fd.code = .ref cc ∧ He.codeOf K ("_law_names", none) = cc := by
  obtain ⟨fd, D, df, ca⟩ := def_of V.X V.G V.c 59 "_law_names" 30 30 rfl rfl
  exact ⟨fd, D, D.fn.binds df fun _ _ _ _ _ _ us hl => by
      match us, hl with
      | [_, _], _ => rfl, ca⟩
theorem k__law_names (V : Wld h base K mg w) : Cal R.prog w K mg base 4 "_law_names" (PD.spO (cS K) PD.G__law_names) [] := by
  have X := V.X
  have G := V.G
  have c := V.c
  have M : PD.Mg mg := mg_of' X G c
  have S : PD.Shf R.prog w K mg base (cS K) := shf_of X G c
  obtain ⟨fd, D, b, ca, co, ct⟩ := d__law_names V
  exact PD.cal_OL D b PD.sc__law_names (fun T ds R z => by
    first
      | (obtain ⟨_, _, rfl, rfl, _⟩ := z; rfl)
      | (obtain ⟨_, _, _, rfl, rfl, _⟩ := z; rfl)
      | (obtain ⟨rfl, rfl, _⟩ := z; rfl)) fun cdv A outer s H E hr => ⟨_, PD.p__law_names (k := 0) M S (k__law_some V) (k__law_take V) hr, fun T ds R z => PD.es__law_names z⟩
theorem d__law_text (V : Wld h base K mg w) : ∃ fd, C8.Def K mg "_law_text" (PD.top 60) (He.ga K "_law_text") fd ∧ Binds K fd ["copies", "places"] [] ∧ ∃ cc, fd.code = .ref cc ∧ He.codeOf K ("_law_text", none) = cc := by
  obtain ⟨fd, D, df, ca⟩ := def_of V.X V.G V.c 60 "_law_text" 31 31 rfl rfl
  exact ⟨fd, D, D.fn.binds df fun _ _ _ _ _ _ us hl => by
      match us, hl with
      | [_, _], _ => rfl, ca⟩
theorem k__law_text (V : Wld h base K mg w) : Cal R.prog w K mg base 2 "_law_text" (PD.spD (cS K) PD.G__law_text) [] := by
  have X := V.X
  have G := V.G
  have c := V.c
  have M : PD.Mg mg := mg_of' X G c
  have S : PD.Shf R.prog w K mg base (cS K) := shf_of X G c
  obtain ⟨fd, D, b, ca, co, ct⟩ := d__law_text V
  exact PD.cal_D D b PD.sc__law_text (fun ds R z => by
    obtain ⟨_, _, rfl, _⟩ := z
    rfl) fun cdv A outer s H E hr => ⟨_, PD.p__law_text (k := 0) M S  hr, fun ds R z => PD.es__law_text z⟩
theorem d__law_told (V : Wld h base K mg w) : ∃ fd, C8.Def K mg "_law_told" (PD.top 61) (He.ga K "_law_told") fd ∧ Binds K fd ["copies", "lots"] [] ∧ ∃ cc, fd.code = .ref cc ∧ He.codeOf K ("_law_told", none) = cc := by
  obtain ⟨fd, D, df, ca⟩ := def_of V.X V.G V.c 61 "_law_told" 32 32 rfl rfl
  exact ⟨fd, D, D.fn.binds df fun _ _ _ _ _ _ us hl => by
      match us, hl with
      | [_, _], _ => rfl, ca⟩
theorem k__law_told (V : Wld h base K mg w) : Cal R.prog w K mg base 2 "_law_told" (PD.spD (cS K) PD.G__law_told) [] := by
  have X := V.X
  have G := V.G
  have c := V.c
  have M : PD.Mg mg := mg_of' X G c
  have S : PD.Shf R.prog w K mg base (cS K) := shf_of X G c
  obtain ⟨fd, D, b, ca, co, ct⟩ := d__law_told V
  exact PD.cal_D D b PD.sc__law_told (fun ds R z => by
    obtain ⟨_, _, rfl, _⟩ := z
    rfl) fun cdv A outer s H E hr => ⟨_, PD.p__law_told (k := 0) M S  hr, fun ds R z => PD.es__law_told z⟩
theorem d__law_clash (V : Wld h base K mg w) : ∃ fd, C8.Def K mg "_law_clash" (PD.top 62) (He.ga K "_law_clash") fd ∧ Binds K fd ["one", "other"] [] ∧ ∃ cc, fd.code = .ref cc ∧ He.codeOf K ("_law_clash", none) = cc := by
  obtain ⟨fd, D, df, ca⟩ := def_of V.X V.G V.c 62 "_law_clash" 33 33 rfl rfl
  exact ⟨fd, D, D.fn.binds df fun _ _ _ _ _ _ us hl => by
      match us, hl with
      | [_, _], _ => rfl, ca⟩
theorem k__law_clash (V : Wld h base K mg w) : Cal R.prog w K mg base 2 "_law_clash" (PD.spD (cS K) PD.G__law_clash) [] := by
  have X := V.X
  have G := V.G
  have c := V.c
  have M : PD.Mg mg := mg_of' X G c
  have S : PD.Shf R.prog w K mg base (cS K) := shf_of X G c
  obtain ⟨fd, D, b, ca, co, ct⟩ := d__law_clash V
  exact PD.cal_D D b PD.sc__law_clash (fun ds R z => by
    obtain ⟨_, _, rfl, _⟩ := z
    rfl) fun cdv A outer s H E hr => ⟨_, PD.p__law_clash (k := 0) M S  hr, fun ds R z => PD.es__law_clash z⟩
theorem d__law_grown (V : Wld h base K mg w) : ∃ fd, C8.Def K mg "_law_grown" (PD.top 63) (He.ga K "_law_grown") fd ∧ Binds K fd ["pot", "copies", "wide"] [] ∧ ∃ cc, fd.code = .ref cc ∧ He.codeOf K ("_law_grown", none) = cc := by
  obtain ⟨fd, D, df, ca⟩ := def_of V.X V.G V.c 63 "_law_grown" 34 34 rfl rfl
  exact ⟨fd, D, D.fn.binds df fun _ _ _ _ _ _ us hl => by
      match us, hl with
      | [_, _, _], _ => rfl, ca⟩
theorem k__law_grown (V : Wld h base K mg w) : Cal R.prog w K mg base 4 "_law_grown" (PD.spO (cS K) PD.G__law_grown) [] := by
  have X := V.X
  have G := V.G
  have c := V.c
  have M : PD.Mg mg := mg_of' X G c
  have S : PD.Shf R.prog w K mg base (cS K) := shf_of X G c
  obtain ⟨fd, D, b, ca, co, ct⟩ := d__law_grown V
  exact PD.cal_OL D b PD.sc__law_grown (fun T ds R z => by
    first
      | (obtain ⟨_, _, rfl, rfl, _⟩ := z; rfl)
      | (obtain ⟨_, _, _, rfl, rfl, _⟩ := z; rfl)
      | (obtain ⟨rfl, rfl, _⟩ := z; rfl)) fun cdv A outer s H E hr => ⟨_, PD.p__law_grown (k := 0) M S (k__law_some V) (k__law_take V) hr, fun T ds R z => PD.es__law_grown z⟩
theorem d__law_standing (V : Wld h base K mg w) : ∃ fd, C8.Def K mg "_law_standing" (PD.top 64) (He.ga K "_law_standing") fd ∧ Binds K fd ["stemmata"] [] ∧ ∃ cc, fd.code = .ref cc ∧ He.codeOf K ("_law_standing", none) = cc := by
  obtain ⟨fd, D, df, ca⟩ := def_of V.X V.G V.c 64 "_law_standing" 35 35 rfl rfl
  exact ⟨fd, D, D.fn.binds df fun _ _ _ _ _ _ us hl => by
      match us, hl with
      | [_], _ => rfl, ca⟩
theorem k__law_standing (V : Wld h base K mg w) : Cal R.prog w K mg base 2 "_law_standing" (PD.spD (cS K) PD.G__law_standing) [] := by
  have X := V.X
  have G := V.G
  have c := V.c
  have M : PD.Mg mg := mg_of' X G c
  have S : PD.Shf R.prog w K mg base (cS K) := shf_of X G c
  obtain ⟨fd, D, b, ca, co, ct⟩ := d__law_standing V
  exact PD.cal_D D b PD.sc__law_standing (fun ds R z => by
    obtain ⟨_, rfl, _⟩ := z
    rfl) fun cdv A outer s H E hr => ⟨_, PD.p__law_standing (k := 0) M S  hr, fun ds R z => PD.es__law_standing z⟩
theorem d__law_drawn (V : Wld h base K mg w) : ∃ fd, C8.Def K mg "_law_drawn" (PD.top 65) (He.ga K "_law_drawn") fd ∧ Binds K fd ["pot", "copies"] [] ∧ ∃ cc, fd.code = .ref cc ∧ He.codeOf K ("_law_drawn", none) = cc := by
  obtain ⟨fd, D, df, ca⟩ := def_of V.X V.G V.c 65 "_law_drawn" 36 36 rfl rfl
  exact ⟨fd, D, D.fn.binds df fun _ _ _ _ _ _ us hl => by
      match us, hl with
      | [_, _], _ => rfl, ca⟩
theorem k__law_drawn (V : Wld h base K mg w) : Cal R.prog w K mg base 5 "_law_drawn" (PD.spO (cS K) PD.G__law_drawn) [] := by
  have X := V.X
  have G := V.G
  have c := V.c
  have M : PD.Mg mg := mg_of' X G c
  have S : PD.Shf R.prog w K mg base (cS K) := shf_of X G c
  obtain ⟨fd, D, b, ca, co, ct⟩ := d__law_drawn V
  exact PD.cal_OL D b PD.sc__law_drawn (fun T ds R z => by
    first
      | (obtain ⟨_, _, rfl, rfl, _⟩ := z; rfl)
      | (obtain ⟨_, _, _, rfl, rfl, _⟩ := z; rfl)
      | (obtain ⟨rfl, rfl, _⟩ := z; rfl)) fun cdv A outer s H E hr => ⟨_, PD.p__law_drawn (k := 0) M S (k__law_grown V) (k__law_of V) (k__law_take V) (k__law_told V) hr, fun T ds R z => PD.es__law_drawn z⟩
theorem d__law_many (V : Wld h base K mg w) : ∃ fd, C8.Def K mg "_law_many" (PD.top 66) (He.ga K "_law_many") fd ∧ Binds K fd ["lots"] [] ∧ ∃ cc, fd.code = .ref cc ∧ He.codeOf K ("_law_many", none) = cc := by
  obtain ⟨fd, D, df, ca⟩ := def_of V.X V.G V.c 66 "_law_many" 37 37 rfl rfl
  exact ⟨fd, D, D.fn.binds df fun _ _ _ _ _ _ us hl => by
      match us, hl with
      | [_], _ => rfl, ca⟩
theorem k__law_many (V : Wld h base K mg w) : Cal R.prog w K mg base 3 "_law_many" (PD.spD (cS K) PD.G__law_many) [] := by
  have X := V.X
  have G := V.G
  have c := V.c
  have M : PD.Mg mg := mg_of' X G c
  have S : PD.Shf R.prog w K mg base (cS K) := shf_of X G c
  obtain ⟨fd, D, b, ca, co, ct⟩ := d__law_many V
  exact PD.cal_D D b PD.sc__law_many (fun ds R z => by
    obtain ⟨_, rfl, _⟩ := z
    rfl) fun cdv A outer s H E hr => ⟨_, PD.p__law_many (k := 0) M S (k__law_clash V) hr, fun ds R z => PD.es__law_many z⟩
theorem d__law_lists (V : Wld h base K mg w) : ∃ fd, C8.Def K mg "_law_lists" (PD.top 67) (He.ga K "_law_lists") fd ∧ Binds K fd ["lots"] [] ∧ ∃ cc, fd.code = .ref cc ∧ He.codeOf K ("_law_lists", none) = cc := by
  obtain ⟨fd, D, df, ca⟩ := def_of V.X V.G V.c 67 "_law_lists" 38 38 rfl rfl
  exact ⟨fd, D, D.fn.binds df fun _ _ _ _ _ _ us hl => by
      match us, hl with
      | [_], _ => rfl, ca⟩
theorem k__law_lists (V : Wld h base K mg w) : Cal R.prog w K mg base 3 "_law_lists" (PD.spD (cS K) PD.G__law_lists) [] := by
  have X := V.X
  have G := V.G
  have c := V.c
  have M : PD.Mg mg := mg_of' X G c
  have S : PD.Shf R.prog w K mg base (cS K) := shf_of X G c
  obtain ⟨fd, D, b, ca, co, ct⟩ := d__law_lists V
  exact PD.cal_D D b PD.sc__law_lists (fun ds R z => by
    obtain ⟨_, rfl, _⟩ := z
    rfl) fun cdv A outer s H E hr => ⟨_, PD.p__law_lists (k := 0) M S (k__law_clash V) hr, fun ds R z => PD.es__law_lists z⟩
theorem d__law_are_told_right (V : Wld h base K mg w) : ∃ fd, C8.Def K mg "_law_are_told_right" (PD.top 68) (He.ga K "_law_are_told_right") fd ∧ Binds K fd ["copies", "shelf", "stemmata", "sure", "half", "least"] [] ∧ ∃ cc, fd.code = .ref cc ∧ He.codeOf K ("_law_are_told_right", none) = cc := by
  obtain ⟨fd, D, df, ca⟩ := def_of V.X V.G V.c 68 "_law_are_told_right" 39 39 rfl rfl
  exact ⟨fd, D, D.fn.binds df fun _ _ _ _ _ _ us hl => by
      match us, hl with
      | [_, _, _, _, _, _], _ => rfl, ca⟩
theorem k__law_are_told_right (V : Wld h base K mg w) : Cal R.prog w K mg base 13 "_law_are_told_right" (PD.spD (cS K) PD.G__law_are_told_right) [] := by
  have X := V.X
  have G := V.G
  have c := V.c
  have M : PD.Mg mg := mg_of' X G c
  have S : PD.Shf R.prog w K mg base (cS K) := shf_of X G c
  obtain ⟨fd, D, b, ca, co, ct⟩ := d__law_are_told_right V
  exact PD.cal_D D b PD.sc__law_are_told_right (fun ds R z => by
    obtain ⟨_, _, _, _, _, _, rfl, _⟩ := z
    rfl) fun cdv A outer s H E hr => ⟨_, PD.p__law_are_told_right (k := 0) M S (k__law_lists V) (k__law_told V) (k_all_nearest V) (k_far V) (k_shows_nearest V) hr, fun ds R z => PD.es__law_are_told_right z⟩
theorem d__law_right (V : Wld h base K mg w) : ∃ fd, C8.Def K mg "_law_right" (PD.top 69) (He.ga K "_law_right") fd ∧ Binds K fd ["pot"] [] ∧ ∃ cc, fd.code = .ref cc ∧ He.codeOf K ("_law_right", none) = cc := by
  obtain ⟨fd, D, df, ca⟩ := def_of V.X V.G V.c 69 "_law_right" 40 40 rfl rfl
  exact ⟨fd, D, D.fn.binds df fun _ _ _ _ _ _ us hl => by
      match us, hl with
      | [_], _ => rfl, ca⟩
theorem k__law_right (V : Wld h base K mg w) : Cal R.prog w K mg base 14 "_law_right" (PD.spO (cS K) PD.G__law_right) [] := by
  have X := V.X
  have G := V.G
  have c := V.c
  have M : PD.Mg mg := mg_of' X G c
  have S : PD.Shf R.prog w K mg base (cS K) := shf_of X G c
  obtain ⟨fd, D, b, ca, co, ct⟩ := d__law_right V
  have bk := bk_of X G c
  obtain ⟨fdX, DX, bX, _⟩ := d_all_nearest V
  have GX := k_raise V DX
  exact PD.cal_O D b PD.sc__law_right (fun T ds R z => by
    first
      | (obtain ⟨_, _, rfl, rfl, _⟩ := z; rfl)
      | (obtain ⟨_, _, _, rfl, rfl, _⟩ := z; rfl)
      | (obtain ⟨rfl, rfl, _⟩ := z; rfl)) fun cdv A outer s H E hr => ⟨_, PD.p__law_right (k := 0) M S (k__law_are_told_right V) (k__law_drawn V) (k__law_many V) (k__law_names V) (k__law_standing V) (k__law_take V) (k__law_text V) (k_majority V) (k_nearest V) (k_shows_nearest V) (k_shelf V) GX (He.glo_ok X G (c.d.fact 24 (f := .glo "all_nearest") rfl)) DX.kp bX (He.glo_ok X G (c.d.fact 44 (f := .glo "TooMany") rfl)) (L2.xfB_ok c.xf) bk.noN hr, fun T ds R z => PD.es__law_right bk.te z⟩
theorem law_ok (V : Wld h base K mg w) {fd : FuncData} (D : C8.Def K mg "law" (PD.top 70) (He.ga K "law") fd) : FnOk R.prog w K mg base C8.CX0 15 (He.ga K "law") fd ["script"] (PD.spR K (cS K) PD.G_law) := by
  have X := V.X
  have G := V.G
  have c := V.c
  have M : PD.Mg mg := mg_of' X G c
  have S : PD.Shf R.prog w K mg base (cS K) := shf_of X G c
  exact C8.fn0 D.fn PD.sc_law (fun vs H Q E z => by
    obtain ⟨v0, vs', _, _, ds, R, rfl, _, _, _, a, g, _⟩ := z
    rw [List.length_cons, a.length]
    obtain ⟨rfl, _⟩ := g
    rfl) fun cdv A outer s H vs Q E hr z => ⟨_, PD.p_law (k := 0) M S (k__law_cells V) (k__law_pot V) (k__law_right V) hr, PD.run_R (fun ns ds R y => PD.es_law y) z⟩
end
end HK
end
section
set_option Elab.async false
set_option linter.all false
set_option maxRecDepth 100000
set_option maxHeartbeats 0
set_option autoImplicit false
/-! the law -/
namespace HK
open PySem PySem.W PySem.Calls PyProof.Rows L2
abbrev tabl (a : Addr) : PD.Tabl := ⟨[(a, ("by_size.<locals>.<lambda>" : PySem.Str))]⟩
theorem law_at {h : Heap} {K : Frag} {mg : PySem.Str → Option Value} {w : World} {fa : Addr} (X : K.In h) (G : h.Ns mainGlobals mg) (c : Says h K) (hfa : mg ("law" : PySem.Str) = some (.ref fa)) :
    LamX.LawAtS PySem.Challenge.rw_copiedfrom_k19_nearest_stemmata_up_to_fo w K C8.CX0 15 63 "script" mg fa h := by
  obtain ⟨fd, D, df, _⟩ := def_of X G c 70 "law" 41 41 rfl rfl
  have e := hfa.symm.trans D.mgf
  cases e
  refine ⟨fd, [He.cT K bySz], @PD.spR (tabl (He.cT K bySz).2) K (cS K) PD.G_law, fun p hp => ?_, fun p hp => ?_, fun p hp => ?_, fun s u => ?_, fun H a ns hl hbits hT hS => ?_, fun base Xb Gb TB => ?_⟩
  · rw [List.mem_singleton.mp hp]; exact c.empty
  · rw [List.mem_singleton.mp hp]; exact c.out
  · rw [List.mem_singleton.mp hp]; exact codeHd_of_K X c.head
  · obtain ⟨oc, od, dV, kV, doc, pm, an, cdv, ct, osl, e, lk, hcd⟩ := D.fn.ex
    subst e
    have e2 : dV = .none := df
    subst e2
    exact BindsTo.of_eq rfl
  · refine ⟨V.ref a, [], fun _ => False, ns, [], _, rfl, fun _ z => z.elim, fun p hp => ?_, @PD.scr_of (tabl (He.cT K bySz).2) K ns _ H a hS fun z => z, .nil, ⟨rfl, hl, rfl⟩, fun v d H2 r x t => ?_⟩
    · have hp' : p ∈ [((He.cT K bySz).2, ("by_size.<locals>.<lambda>" : PySem.Str))] := hp
      rw [List.mem_singleton.mp hp']
      exact LamX.TabS.nil (hT _ (List.mem_singleton.mpr rfl))
    · subst r
      have t' : PD.At _ _ H2 v (.bool true) := t
      cases t'
      rfl
  · have V : @Wld (tabl (He.cT K bySz).2) h base K mg w := by
      refine @Wld.mk (tabl (He.cT K bySz).2) h base K mg w X G c (TB _ (List.mem_singleton.mpr rfl)) (List.mem_singleton.mpr rfl) fun p hp _ => ?_
      have hp' : p ∈ [((He.cT K bySz).2, ("by_size.<locals>.<lambda>" : PySem.Str))] := hp
      rw [List.mem_singleton.mp hp']
    exact @law_ok (tabl (He.cT K bySz).2) h base K mg w V fd D
end HK
open PySem PySem.W PySem.Calls PyProof.Rows
theorem PySem.Challenge.cw_copiedfrom_k19_nearest_stemmata_up_to_fo_holds : PySem.Challenge.rw_copiedfrom_k19_nearest_stemmata_up_to_fo.Holds := by
  w_on; o_law
  refine HandSHeadRun.head_any (r := OpenLaw.row PySem.Challenge.rw_copiedfrom_k19_nearest_stemmata_up_to_fo) (q := view (OpenLaw.row PySem.Challenge.rw_copiedfrom_k19_nearest_stemmata_up_to_fo).prog [70]) (H := HK.hook) (ob := HK.ob) (M := 20000) (loose := HK.names) (d := HandSHeadRun.topDef (OpenLaw.row PySem.Challenge.rw_copiedfrom_k19_nearest_stemmata_up_to_fo).prog 70) (kwd := []) HK.ob_eq
    (by kernel_rfl) (fun s => by kernel_rfl) HK.run (by kernel_rfl) (by kernel_rfl) (by kernel_rfl) (by rfl) (by first | assumption | decide +kernel) (by decide +kernel) ⟨rfl, rfl, rfl, rfl, rfl, by decide +kernel⟩ ?hw ?hc
  case hw => w_witness2
  case hc =>
    refine LamX.walk_ofTsE (l := PySem.Challenge.rw_copiedfrom_k19_nearest_stemmata_up_to_fo) (n := 63) (k := 15) (x := "script") (CX := fun _ => C8.CX0) rfl (by decide) (by kernel_rfl) ⟨rfl, by decide, by decide⟩ ?F (fun _ _ _ _ _ z => z)
    intro w mg fa h Y G hmg0
    obtain ⟨K, KX, c⟩ := Y
    have hmg : mg ("law" : PySem.Str) = some (.ref fa) := by
      have e : (HandSHeadRun.topDef (OpenLaw.row PySem.Challenge.rw_copiedfrom_k19_nearest_stemmata_up_to_fo).prog 70).name = ("law" : PySem.Str) := by kernel_rfl
      rw [← e]
      exact hmg0
    exact ⟨K, KX, HK.law_at KX G c hmg⟩
end
